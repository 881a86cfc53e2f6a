/- Its calls answer as the model does. -/
import Derived.Test.YtoeleelojgimfaaGreatDoorWEvalC
import Derived.Lib.Bytealg
set_option linter.all false
namespace Go.Ai
section
open Go Go.RowKit
theorem zh{a b:AV}(h:fO a b=true):a=b:=by
 unfold fO at h;split at h<;>(try simp only[Za7,Zg4]at h)<;>try rfl
 .rw[beq_iff_eq.1 h]
 .rename_i k i k' i';have h2:=h.2;rw[jL]at h2;rw[tP h.1,beq_iff_eq.1 h2]
 .rw[jV.1 h]
 .rw[Pos.beq_eq.1 h.1,Za0 h.2]
 .obtain⟨⟨⟨h1,h2⟩,h3⟩,h4⟩:=h;rw[Pos.beq_eq.1 h1,Za0 h2,Za0 h3,Za0 h4]
 .obtain⟨⟨⟨⟨h1,h2⟩,h3⟩,h4⟩,h5⟩:=h;rw[Pos.beq_eq.1 h1,Za0 h2,Za0 h3,Za0 h4,Za0 h5]
 .rw[Pos.beq_eq.1 h]
theorem Cc:∀{a b:List AV},tj a b=true->a=b
 |[],[],_=>rfl
 |[],_::_,h=>by simp[tj]at h
 |_::_,[],h=>by simp[tj]at h
 |a::x,b::y,h=>by
  simp only[tj,Za7]at h;rw[zh h.1,Cc h.2]
theorem QZ{f:AV->AV->Bool}(hf:∀{a b},f a b=true->a=b):∀{a b:List AV},Bn f a b=true->a=b
 |[],[],_=>rfl
 |[],_::_,h=>by simp[Bn]at h
 |_::_,[],h=>by simp[Bn]at h
 |a::x,b::y,h=>by
  simp only[Bn,Za7]at h;rw[hf h.1,QZ hf h.2]
theorem Lw{f:AV->AV->Bool}(hf:∀{a b},f a b=true->a=b):∀{a b:List (List AV)},tO f a b=true->a=b
 |[],[],_=>rfl
 |[],_::_,h=>by simp[tO]at h
 |_::_,[],h=>by simp[tO]at h
 |a::x,b::y,h=>by
  simp only[tO,Za7]at h;rw[QZ hf h.1,Lw hf h.2]
theorem Q0:∀{d:Nat}{a b:AV},Bo d a b=true->a=b
 |0,_,_,h=>by unfold Bo at h;exact zh h
 |d +1,a,b,h=>by
  unfold Bo at h;split at h
  .rename_i heq;cases heq;simp only[Za7]at h;rw[Lw (λh=>Q0 h) h.1,Za0 h.2]
  .exact zh h
theorem Lx{a b:AV}(h:j6 a b=true):a=b:=by
 unfold j6 at h;split at h
 .simp only[Za7]at h;rw[Za0 h.1.1,Cc h.1.2,Cc h.2]
 .exact Q0 h
 .exact zh h
theorem xe:∀{a b:List AV},ql a b=true->a=b
 |[],[],_=>rfl
 |[],_::_,h=>by simp[ql]at h
 |_::_,[],h=>by simp[ql]at h
 |a::x,b::y,h=>by
  simp only[ql,Za7]at h;rw[Lx h.1,xe h.2]
theorem ov{a b:AV}(h:eH a b=true):a=b:=by
 unfold eH at h;split at h
 .rw[xe h]
 .rw[xe h]
 .exact Lx h
theorem ZO {k: ay}{H H':Pos->Option AB}{n n':Pos}{xs:List AV}{v:AV}(h:k.run H n xs=some (.val v))(hm:∀b x,H b=some x->H' b=some x):
  k.run H' n' xs=some (.val v):=by
 cases k<;>simp only[ay.run]at h ⊢ <;>try exact h
 case alloc z=>unfold DH at h;split at h<;>cases h
 case box=>unfold K3 at h;split at h<;>cases h
 case buildSlice es len z p=>unfold oX at h;dsimp only at h;split at h<;>cases h
 case mkMap=>unfold DK at h;cases h
 case mkSlice es b z=>
  unfold uw at h
  repeat' split at h
  all_goals cases h
 case rangeS=>
  unfold Bl at h
  repeat' split at h
  all_goals cases h
 case store m=>
  unfold zO at h
  repeat' split at h
  all_goals cases h
 case mapSet pk=>
  unfold tL at h
  repeat' split at h
  all_goals cases h
 case load m=>
  unfold qP at h ⊢;split at h<;>first|(cases h;done)|skip
  split at h<;>first|(cases h;done)|skip
  . split at h<;>first|(cases h;done)|skip
    .   rename_i cs fz hb;simp only[hm _ _ hb];exact h
    .   rename_i t0 cs hb;simp only[hm _ _ hb];exact h
  .exact h
 case conv c=>
  unfold tJ at h ⊢;split at h<;>first|(cases h;done)|skip
  split at h<;>first|(cases h;done)|exact h|skip
  rename_i b off m _ _;cases hb:Nat.beq m 0 with
  |true=>simp only[hb]at h ⊢; exact h
  | false=>
    simp only[hb]at h ⊢;cases hH:H b with
    |none=>simp[hH]at h
    |some x=>simp only[hH]at h;simp only[hm _ _ hH];exact h
 case lookup pk z ok=>
  unfold tK at h ⊢;split at h<;>first|(cases h;done)|skip
  rename_i m k';cases m<;>try exact h
  rename_i b;cases hb:H b with
  |none=>simp[hb]at h
  | some x=>
    simp only[hb]at h;simp only[hm _ _ hb];exact h
 case lenB lk=>
  unfold CM at h ⊢;split at h<;>first|(cases h;done)|skip
  split at h<;>first|(cases h;done)|exact h|skip
  split at h<;>first|(cases h;done)|skip
  rename_i es c hb;simp only[hm _ _ hb];exact h
 case nextS=>
  unfold DM at h ⊢;split at h<;>first|(cases h;done)|skip
  split at h<;>first|(cases h;done)|skip
  split at h<;>first|(cases h;done)|skip
  rename_i s pos hb;simp only[hm _ _ hb];split at h
  .rename_i aU;split at h<;>cases h
  .rename_i aU;exact h
 case allocT t z=>
  unfold Bm at h;split at h<;>cases h
 case appendT e bytes=>
  unfold qQ at h ⊢;split at h<;>first|(cases h;done)|skip
  split at h<;>first|(cases h;done)|skip
  split at h<;>first|(cases h;done)|skip
  . (split at h<;>first|(cases h;done)|skip);split at h<;>first|(cases h;done)|exact h
  . (split at h<;>first|(cases h;done)|skip);split at h
    .   exact h
    .   repeat' split at h
        all_goals cases h
 case toU=>
  unfold K4 at h ⊢;split at h<;>first|(cases h;done)|skip
  split at h<;>first|(cases h;done)|exact h|skip
  split at h<;>first|(cases h;done)|skip
  rename_i t0 cs hb;simp only[hm _ _ hb];exact h
 case fromU u m=>
  unfold DN at h ⊢;split at h<;>first|(cases h;done)|skip
  split at h<;>first|(cases h;done)|exact h|skip
  split at h<;>first|(cases h;done)|skip
  rename_i t0 cs hb;simp only[hm _ _ hb];exact h
 case unsafeStr e=>
  unfold nr at h ⊢;split at h<;>first|(cases h;done)|skip
  split at h<;>first|(cases h;done)|skip
  split at h
  .exact h
  . repeat' split at h
    all_goals cases h
 case clearS es z=>
  unfold tM at h ⊢;split at h<;>first|(cases h;done)|skip
  split at h<;>first|(cases h;done)|exact h|skip
  rename_i b off m _ _;cases hb:Nat.beq m 0 with
  |true=>simp only[hb]at h ⊢; exact h
  | false=>
    simp only[hb]at h
    repeat' split at h
    all_goals cases h
 case copyB es=>
  unfold wu at h ⊢;split at h<;>first|(cases h;done)|skip
  rename_i d x;cases hd:cS d with
  |none=>simp[hd]at h
  | some m1=>
    cases hx:cS x with
    |none=>simp[hd,hx]at h
    |   some m2=>
        simp only[hd,hx]at h ⊢;cases hb:Nat.beq (min m2 m1) 0 with
        |true=>simp only[hb]at h ⊢; exact h
        |false=>
         simp only[hb]at h;(split at h<;>first|(cases h;done)|skip);(split at h<;>first|(cases h;done)|skip);split at h<;>cases h
 case append es bytes=>
  unfold fu at h ⊢;split at h<;>first|(cases h;done)|skip
  rename_i s x;cases hd:cS s with
  |none=>simp[hd]at h
  | some m1  =>
    cases hx:cS x with
    |none=>simp[hd,hx]at h
    |   some m2=>
        simp only[hd,hx]at h ⊢;cases h1:Nat.ble ((2*(m1+m2)+768)*bytes) 281474976710656 with
        |false=>simp[h1]at h
        |true=>
         cases h2:Nat.ble (m1+m2) 9223372036854775807 with
         |false=>simp[h1,h2]at h
         |  true=>
            simp only[h1,h2]at h ⊢;cases hb:Nat.beq m2 0 with
            |true=>
             simp only[hb]at h ⊢;split at h<;>first|(cases h;done)|exact h|skip
             all_goals (simp_all;done)
            |false=>
             simp only[hb]at h
             repeat' split at h
             all_goals first
               |(rename_i e;cases e;done)
               |(rename_i e _;cases e;done)
               |(cases h;done)
               |simp_all
inductive tC(n:Pos):AV->AB->Prop where
 |ptr (cs:List AV):tC n (.ptr n 0) (.cells cs 0)
 |iJ (s:List Nat):tC n (.ptr n 0) (.iJ s 0)
 |slice (len es:Nat) (cap:Option Nat) (cs:List AV) (h:len=0->cap=none\/cap=some 0->cs=[]):tC n (.slice n 0 len cap es) (.cells cs 0)
 |map:tC n (.map n) (.map [] 0)
 |ptrT (t:TypeId) (cs:List AV):tC n (.ptr n 0) (.typed t cs)
 |Xk (len:Nat) (t:TypeId) (cs:List AV) (h:len≠0):tC n (.slice n 0 len none 1) (.typed t cs)
theorem Og:∀{ps:List (Nat×Nat)}{xs cs:List AV},b6 [] ps xs=some cs->cs=[]
 |[],[],cs,h=>by simp[b6]at h;exact h.symm ▸rfl
 |[],_::_,cs,h=>by simp[b6]at h
 |_::_,[],cs,h=>by simp[b6]at h
 |(off,size)::ps,v::vs,cs,h=>by
  unfold b6 at h;split at h<;>first|(cases h;done)|skip
  rename_i h1 h2;have h1:=Za0 h1;have h2:=Za3 h2;have h3:v.cells=[]:=by apply Zb1;simp at h2;omega
  rw[h3]at h;have h4:aM ([]:List AV) off []=[]:=by simp[aM]
  rw[h4]at h;exact Og h
theorem abQ {k : ay}{n:Pos}{xs:List AV}{v:AV}{aq:AB}(h:k.run (λ_=>none) n xs=some (.aD v none none (some aq))):tC n v aq:=by
 cases k<;>simp only[ay.run]at h
 case alloc z=>unfold DH at h;split at h<;>cases h;exact .ptr _
 case allocT t z=>unfold Bm at h;split at h<;>cases h;exact .ptrT _ _
 case appendT e bytes=>
  unfold qQ at h;split at h<;>first|(cases h;done)|skip
  split at h<;>first|(cases h;done)|skip
  split at h<;>first|(cases h;done)|skip
  . (split at h<;>first|(cases h;done)|skip);split at h<;>cases h;rename_i hb;exact .Xk _ _ _ (by have:=Zb4 hb;omega)
  . split at h<;>first|(cases h;done)|skip
    repeat' split at h
    all_goals cases h
 case toU=>   unfold K4 at h;repeat' split at h
              all_goals cases h
 case fromU=>   unfold DN at h;repeat' split at h
                all_goals cases h
 case sliceData=>   unfold qk at h;repeat' split at h
                    all_goals cases h
 case unsafeStr=>   unfold nr at h;repeat' split at h
                    all_goals cases h
 case box=>unfold K3 at h;split at h<;>cases h;exact .ptr _
 case buildSlice es len z p=>
  unfold oX at h;dsimp only at h;split at h<;>cases h;rename_i cs hc;refine .slice _ _ _ _ λh0 _=> ?_
  subst h0;exact Og hc
 case mkMap=>unfold DK at h;cases h;exact .map
 case mkSlice es b z=>
  unfold uw at h
  repeat' split at h
  all_goals cases h
  refine .slice _ _ _ _ λ_ h1=> ?_
  rcases h1 with h1|h1
  .cases h1
  .simp only[H0]at h1;subst h1;rfl
 case rangeS=>
  unfold Bl at h
  repeat' split at h
  all_goals cases h
  exact .iJ _
 case conv c=>
  unfold tJ at h
  repeat' split at h
  all_goals cases h
  rename_i s;refine .slice _ _ _ _ λh0 _=> ?_
  rw[Zb1 h0];rfl
 case append es bytes=>
  unfold fu at h
  repeat' split at h
  all_goals cases h
  all_goals refine .slice _ _ _ _ λh0 _=> ?_
  all_goals (exfalso;rename_i hb _ _;simp_all)
 case move=>unfold Ip at h;split at h<;>cases h
 case pick=>   unfold ML at h;repeat' split at h
               all_goals cases h
 case build=>unfold DI at h;dsimp only at h;split at h<;>cases h
 case load=>   unfold qP at h;repeat' split at h
               all_goals cases h
 case store=>   unfold zO at h;repeat' split at h
                all_goals cases h
 case nilCheck=>   unfold B4 at h;repeat' split at h
                   all_goals cases h
 case bin=>   unfold gy at h;repeat' split at h
              all_goals cases h
 case un=>   unfold UZ at h;repeat' split at h
             all_goals cases h
 case mkIface=>   unfold DJ at h;repeat' split at h
                  all_goals cases h
 case mkFunc=>unfold Bk at h;dsimp only at h;cases h
 case lookup=>
  unfold tK at h;split at h<;>first|(cases h;done)|skip
  dsimp only at h;split at h<;>cases h
 case mapSet=>   unfold tL at h;repeat' split at h
                 all_goals cases h
 case sliceS=>
  unfold Gi at h;split at h<;>first|(cases h;done)|skip
  split at h<;>first|(cases h;done)|skip
  dsimp only at h;split at h<;>cases h
 case sliceL=>   unfold nU at h;repeat' split at h
                 all_goals cases h
 case fieldA=>   unfold Gj at h;repeat' split at h
                 all_goals cases h
 case idxA=>   unfold nk at h;repeat' split at h
               all_goals cases h
 case field=>   unfold JW at h;repeat' split at h
                all_goals cases h
 case idxS=>   unfold Iq at h;repeat' split at h
               all_goals cases h
 case extract=>   unfold zd at h;repeat' split at h
                  all_goals cases h
 case callF=>unfold JX at h;dsimp only at h;cases h
 case callV=>   unfold JY at h;repeat' split at h
                all_goals cases h
 case lenB=>   unfold CM at h;repeat' split at h
               all_goals cases h
 case copyB=>
  unfold wu at h;split at h<;>first|(cases h;done)|skip
  split at h<;>first|(cases h;done)|skip
  dsimp only at h
  repeat' split at h
  all_goals cases h
 case minB=>   unfold zB at h;repeat' split at h
               all_goals cases h
 case maxB=>   unfold zC at h;repeat' split at h
               all_goals cases h
 case clearS=>   unfold tM at h;repeat' split at h
                 all_goals cases h
 case nextS=>   unfold DM at h;repeat' split at h
                all_goals cases h
 case capB=>cases h
 case bad=>cases h
end
section
def kU(call:ai):Prop:=∀f args st v st',call f args st=some (v,st')->st.next.toNat<=st'.next.toNat
section
variable{call:ai}
theorem D6(hm:kU call){k:ay}{xs:List AV}{st st':St}{v:AV}(h:bS call k xs st=some (v,st')):st.next.toNat<=st'.next.toNat:=by
 unfold bS at h;split at h
 .simp only[H0,Zb3]at h;rw[h.2];exact Za4 _
 .simp only[H0,Zb3]at h;rw[<-h.2];exact St.QU _ _ _ _
 .exact hm _ _ _ _ _ h
 .cases h
theorem Gv(hm:kU call):∀(os:List bk)(fr aY:Fr)(st st':St),iA call os fr st=some (aY,st')->st.next.toNat<=st'.next.toNat
 |[],fr,aY,st,st',h=>by simp only[iA,H0,Zb3]at h;rw[h.2];exact Za4 _
 |o ::os,fr,aY,st,st',h=>by
  unfold iA at h;split at h
  . (split at h<;>first|(cases h;done)|skip);(split at h<;>first|(cases h;done)|skip);rename_i hs;exact Zc4 (D6 hm hs) (Gv hm os _ _ _ _ h)
  .exact Gv hm os _ _ _ _ h
  .cases h
theorem qX(hm:kU call):∀(os:List (Nat×bk))(recs:List Rec)(base:T AB)(fr aY:Fr)(st st':St),cF call os recs base fr st=some (aY,st')->st.next.toNat<=st'.next.toNat
 |[],recs,base,fr,aY,st,st',h=>by simp only[cF,H0,Zb3]at h;rw[h.2];exact Za4 _
 |(j,   o)::os,recs,base,fr,aY,st,st',h=>by
  have hs:st.next.toNat<=st.next.succ.toNat:=by rw[Pos.az];omega
  unfold cF at h;split at h
  .exact qX hm os _ _ _ _ _ _ h
  . (split at h<;>first|(cases h;done)|skip);split at h
    .   (split at h<;>first|(cases h;done)|skip);exact Zc4 hs (qX hm os _ _ _ _ _ _ h)
    .   (split at h<;>first|(cases h;done)|skip);rename_i hs;exact Zc4 (D6 hm hs) (qX hm os _ _ _ _ _ _ h)
    .   split at h
        .exact qX hm os _ _ _ _ _ _ h
        . (split at h<;>first|(cases h;done)|skip);(split at h<;>first|(cases h;done)|skip);exact qX hm os _ _ _ _ _ _ h
  .cases h
theorem Bx(hm:kU call):∀(m:Nat)(c:AC)(fr aY:Fr)(st st':St)(ex:iL),exec call m c fr st=some (ex,aY,st')->st.next.toNat<=st'.next.toNat
 |0,c,fr,aY,st,st',ex,h=>by simp[exec]at h
 |m +   1,c,fr,aY,st,st',ex,h=>by
  have ih:=Bx hm m;simp only[exec]at h;unfold aZ at h;split at h
  .simp only[H0,Zb3]at h;rw[h.2.2];exact Za4 _
  . (split at h<;>first|(cases h;done)|skip);rename_i hs;simp only[H0,Zb3]at h;rw[<-h.2.2];exact Gv hm _ _ _ _ _ hs
  . (split at h<;>first|(cases h;done)|skip);rename_i hs;simp only[H0,Zb3]at h;rw[<-h.2.2];exact qX hm _ _ _ _ _ _ _ hs
  . split at h
    .   rename_i hs;exact Zc4 (ih _ _ _ _ _ _ hs) (ih _ _ _ _ _ _ h)
    .   exact ih _ _ _ _ _ _ h
  .split at h<;>first|(cases h;done)|exact ih _ _ _ _ _ _ h
  . split at h
    .   rename_i hs;split at h<;>(simp only[H0,Zb3]at h;rw[<-h.2.2];exact ih _ _ _ _ _ _ hs)
    .   exact ih _ _ _ _ _ _ h
  . split at h
    .   rename_i hs;exact Zc4 (ih _ _ _ _ _ _ hs) (ih _ _ _ _ _ _ h)
    .   exact ih _ _ _ _ _ _ h
  .simp only[H0,Zb3]at h;rw[h.2.2];exact Za4 _
  .simp only[H0,Zb3]at h;rw[h.2.2];exact Za4 _
def jU(O:dQ):Prop:=∀f s,O f=some s->∀args st v st',s args st=some (v,st')->st.next.toNat<=st'.next.toNat
theorem D7{O:dQ}{G:T cj}(hO:jU O)(m:Nat):∀d,kU (oe O G m d)
 |0=>λf args st v st' h=>by simp[oe]at h
 |d +   1=>λf args st v st' h=>by
  have ih:=D7 (G:=G) hO m d;unfold oe at h;split at h
  .rename_i s hs;exact hO f s hs args st v st' h
  . (split at h<;>first|(cases h;done)|skip);(split at h<;>first|(cases h;done)|skip);split at h<;>first|(cases h;done)|skip
    .   rename_i hs;(split at h<;>first|(cases h;done)|skip);simp only[H0,Zb3]at h;rw[<-h.2];exact Bx ih _ _ _ _ _ _ _ hs
    .   rename_i hs;(split at h<;>first|(cases h;done)|skip);simp only[H0,Zb3]at h;rw[<-h.2];exact Bx ih _ _ _ _ _ _ _ hs
end
def kV(bK:Fr):List Rec->Fr
 |[]=>bK
 |r::R=>cH (kV bK R) r.o.dst r.v
def cL(n0:Pos):List Rec->Pos
 |[]=>n0
 |r::_=>r.nx
def RC.kB:RC->Bool
 |.aD _ _=>true
 |_=>false
def g9(h0:T AB):List Rec->T AB
 |[]=>h0
 |  r::R=>match r.c with
    |.aD _ h=>h
    |_=>g9 h0 R
def ia(h0:T AB):List Rec->T AB
 |[]=>h0
 |  r::R=>match r.c with
    |.aD _ h=>h
    |.new id aq=>(ia h0 R).put (some aq) id
    |.pure=>ia h0 R
def By:List Rec->Prop
 |[]=>True
 |r::_=>r.c.kB=true
def Q1(h0:T AB)(R:List Rec)(o:bk)(xs:List AV)(v:AV):Prop:=
 ∀  A B,R=A++B->By B->(∀r∈A,r.c.kB=true->o.bu.testBit r.idx=false)->
    ∃h:T AB,(∀b x,h.get b=some x->(g9 h0 B).get b=some x\/∃r∈A,r.c= .new b x/\o.bu.testBit r.idx=true)/\o.k.run (λb=>h.get b) .h xs=some (.val v)
inductive nv(call:ai)(bK:Fr)(h0:T AB)(n0:Pos):Rec->List Rec->Prop where
 |skip (i:Nat) (o:bk) (R:List Rec) (hw:bG (kV bK R) o.guard=some false):
  nv call bK h0 n0 { idx:=i,o:=o,v:= .undef,c:= .pure,nx:=cL n0 R } R
 |pure (i:Nat) (o:bk) (v:AV) (xs:List AV) (R:List Rec) (hw:bG (kV bK R) o.guard=some true) (hx:dL (kV bK R) o.xs=some xs) (hr:Q1 h0 R o xs v):
  nv call bK h0 n0 { idx:=i,o:=o,v:=v,c:= .pure,nx:=cL n0 R } R
 |new (i:Nat) (o:bk) (v:AV) (aq:AB) (xs:List AV) (R:List Rec) (hw:bG (kV bK R) o.guard=some true) (hx:dL (kV bK R) o.xs=some xs)
  (hr:o.k.run (λ_=>none) (cL n0 R) xs=some (.aD v none none (some aq))):
  nv call bK h0 n0 { idx:=i,o:=o,v:=v,c:= .new (cL n0 R) aq,nx:=(cL n0 R).succ } R
 |aD (i:Nat) (o:bk) (v:AV) (st':St) (xs:List AV) (R:List Rec) (hc:o.cls= .aD) (hw:bG (kV bK R) o.guard=some true) (hx:dL (kV bK R) o.xs=some xs)
  (hr:bS call o.k xs { heap:=ia h0 R,next:=cL n0 R }=some (v,st')):
  nv call bK h0 n0 { idx:=i,o:=o,v:=v,c:= .aD (g9 h0 R) st'.heap,nx:=st'.next } R
def Good(call:ai)(bK:Fr)(h0:T AB)(n0:Pos):List Rec->Prop
 |[]=>True
 |r::R=>nv call bK h0 n0 r R/\Good call bK h0 n0 R
section
variable{call:ai}{bK:Fr}{h0:T AB}{n0:Pos}
theorem Good.tail:∀{A B:List Rec},Good call bK h0 n0 (A++B)->Good call bK h0 n0 B
 |[],_,h=>h
 |_::_,_,h=>Good.tail h.2
theorem Good.at{A B:List Rec}{r:Rec}(h:Good call bK h0 n0 (A++r::B)):nv call bK h0 n0 r B:=(Good.tail h).1
theorem D8:∀{A B:List Rec},(∀r∈A,r.c.kB=false)->g9 h0 (A++B)=g9 h0 B
 |[],_,_=>rfl
 |r::A,B,h=>by
  have h1:=h r (Zc2 ..);have ih:=D8 (A:=A) (B:=B) λr hr=>h r (Za6 _ hr)
  simp only[Zf3,g9];split
  .rename_i hc;rw[hc]at h1;cases h1
  .exact ih
theorem J8{bu:Nat}:∀{A B:List Rec}{h:T AB}{b:Pos}{x:AB},(∀r∈A,r.c.kB=false)->By B->(snap bu h (A++B)).get b=some x->
  h.get b=some x\/∃r∈A,r.c= .new b x/\bu.testBit r.idx=true
 |[],B,h,b,x,_,hB,hs=>by
  cases B with
  |nil=>exact .inl hs
  | cons r B=>
    simp only[By]at hB;simp only[Zf2,snap]at hs;(cases hc:r.c<;>rw[hc]at hB<;>first|(cases hB;done)|skip);rw[hc]at hs;exact .inl hs
 |r ::A   ,B,h,b,x,hA,hB,hs=>by
  have ih:=@J8 bu A B h b x (λr hr=>hA r (Za6 _ hr)) hB;have up:(h.get b=some x\/∃r∈A,r.c= .new b x/\bu.testBit r.idx=true)->h.get b=some x\/∃r'∈r::A,r'.c= .new b x/\bu.testBit r'.idx=true:=λh1=>
    h1.imp id λ⟨r',h2,h3⟩=>⟨r',Za6 _ h2,h3⟩
  simp only[Zf3,snap]at hs;cases hc:r.c with
  |pure=>rw[hc]at hs;exact up (ih hs)
  |aD b1 h1=>have:=hA r (Zc2 ..);rw[hc]at this;cases this
  | new   id aq=>
    rw[hc]at hs;cases ht:bu.testBit r.idx with
    |false=>simp only[ht]at hs;exact up (ih hs)
    |   true=>
        simp only[ht]at hs;by_cases Ly:id=b
        .subst Ly;rw[T.ee]at hs;simp only[H0]at hs;subst hs;exact .inr ⟨r,Zc2 ..,hc,ht⟩
        .rw[T.br _ Ly]at hs;exact up (ih hs)
theorem Oh:∀{up:List (Pos×AB)}{h:T AB}{b:Pos}{x:AB},(w9 up h).get b=some x->h.get b=some x\/(b,x)∈up
 |[],_,_,_,h=>.inl h
 |(id,aq)::up,h,b,x,hs=>by
  unfold w9 at hs;by_cases Ly:id=b
  .subst Ly;rw[T.ee]at hs;simp only[H0]at hs;subst hs;exact .inr (Zc2 ..)
  .rw[T.br _ Ly]at hs;exact(Oh hs).imp (λh=>h) λh=>Za6 _ h
theorem D9:∀(A:List Rec),(∀r∈A,r.c.kB=false)\/∃r∈A,r.c.kB=true
 |[]=>.inl λr h=>by cases h
 |r::A=>by
  cases hr:r.c.kB with
  |true=>exact .inr ⟨r,Zc2 ..,hr⟩
  |false=>
   rcases D9 A with h|⟨r',h1,h2⟩
   . exact .inl λr' o6=>by
      rcases Za9.1 o6 with rfl|h'
      .exact hr
      .exact h r' h'
   .exact .inr ⟨r',Za6 _ h1,h2⟩
theorem Fw{bu:Nat}{k:ay}{xs:List AV}{v:AV}:∀(A B:List Rec)(up:List (Pos×AB)),jJ bu k xs v up (A++B)=true->Good call bK h0 n0 (A++B)->By B->
  (∀r∈A,r.c.kB=true->bu.testBit r.idx=false)->(∃r∈A,r.c.kB=true)->
  ∃h:T AB,(∀b x,h.get b=some x->(g9 h0 B).get b=some x\/(∃r∈A,r.c= .new b x/\bu.testBit r.idx=true)\/(b,x)∈up)/\k.run (λb=>h.get b) .h xs=some (.val v)
 |[],B,up,_,_,_,_,he=>by obtain⟨r,hr,_⟩:=he;cases hr
 |r::A    , B,up,Bz,hG,hB,hn,he=>by
  have Q3:∀r∈A,r.c.kB=true->bu.testBit r.idx=false:=λr' o6=>hn r' (Za6 _ o6)
  have ih:=λup (h2:jJ bu k xs v up (A++B)=true) h3=>Fw A B up h2 hG.2 hB Q3 h3
  simp only[Zf3,jJ]at Bz;cases hc:r.c with
  |pure=>
   rw[hc]at Bz;have jP:∃r∈A,r.c.kB=true:=by
        obtain⟨r',h1,h2⟩:=he;rcases Za9.1 h1 with rfl|h1
        .rw[hc]at h2;cases h2
        .exact⟨r',h1,h2⟩
   obtain⟨h,h1,h2⟩:=ih up Bz jP;exact⟨h,λb x hb=>(h1 b x hb).imp (λh=>h) (Or.imp (λ⟨r',h3,h4⟩=>⟨r',Za6 _ h3,h4⟩) λh=>h),h2⟩
  |new    id aq=>
   rw[hc]at Bz;have jP:∃r∈A,r.c.kB=true:=by
        obtain⟨r',h1,h2⟩:=he;rcases Za9.1 h1 with rfl|h1
        .rw[hc]at h2;cases h2
        .exact⟨r',h1,h2⟩
   cases ht:bu.testBit r.idx with
   |    false=>
        simp only[ht]at Bz;obtain⟨h,h1,h2⟩:=ih up Bz jP;exact⟨h,λb x hb=>(h1 b x hb).imp (λh=>h) (Or.imp (λ⟨r',h3,h4⟩=>⟨r',Za6 _ h3,h4⟩) λh=>h),h2⟩
   |    true=>
        simp only[ht]at Bz;obtain⟨h,h1,h2⟩:=ih _ Bz jP;refine⟨h,λb x hb=> ?_,h2⟩;rcases h1 b x hb with h3|⟨r',h3,h4⟩|h3
        .exact .inl h3
        .exact .inr (.inl ⟨r',Za6 _ h3,h4⟩)
        . rcases Za9.1 h3 with h3|h3
          .simp only[Zb3]at h3;obtain⟨rfl,rfl⟩:=h3;exact .inr (.inl ⟨r,Zc2 ..,hc,ht⟩)
          .exact .inr (.inr h3)
  |aD base h=>
   rw[hc]at Bz;have ht:=hn r (Zc2 ..) (by rw[hc];rfl);simp only[ht,Za7]at Bz;rcases D9 A with hA|hA
   .    have P0:base=g9 h0 B:=(by have hs:=hG.1;(cases hs<;>simp only at hc<;>first|(cases hc;done)|skip);simp only[RC.aD.injEq]at hc;rw[<-hc.1];exact D8 hA);have hra:=Bz.1;unfold qR at hra;(split at hra<;>first|(cases hra;done)|skip);rename_i u hu;rw[ov hra]at hu;refine⟨_,λb x hb=> ?_,hu⟩;rcases Oh hb with hb|hb
        . rcases J8 hA hB hb with h3|⟨r',h3,h4⟩
          .rw[<-P0];exact .inl h3
          .exact .inr (.inl ⟨r',Za6 _ h3,h4⟩)
        .exact .inr (.inr hb)
   .    obtain⟨h,h1,h2⟩:=ih up Bz.2 hA;exact⟨h,λb x hb=>(h1 b x hb).imp (λh=>h) (Or.imp (λ⟨r',h3,h4⟩=>⟨r',Za6 _ h3,h4⟩) λh=>h),h2⟩
theorem Lz:∀(L:List (Nat×bk))(R:List Rec)(fr aY:Fr)(st st':St),cF call L R (g9 h0 R) fr st=some (aY,st')->Good call bK h0 n0 R->
  fr=kV bK R->st.heap=ia h0 R->st.next=cL n0 R->
  ∃R',Good call bK h0 n0 (R'++R)/\(R'.map λr=>(r.idx,r.o))=L.reverse/\aY=kV bK (R'++R)/\st'.heap=ia h0 (R'++R)/\st'.next=cL n0 (R'++R)
 |[],R,fr,aY,st,st',h,hG,h1,h2,h3=>by
  simp only[cF,H0,Zb3]at h;obtain⟨rfl,rfl⟩:=h;exact⟨[],hG,rfl,h1,h2,h3⟩
 |(j,   o)::  L,R,fr,aY,st,st',h,hG,h1,h2,h3=>by
  have fin:∀(r:Rec)(aJ:St)(bJ:Fr),r.idx=j->r.o=o->nv call bK h0 n0 r R->bJ=kV bK (r::R)->aJ.heap=ia h0 (r::R)->aJ.next=r.nx->
        cF call L (r::R) (g9 h0 (r::R)) bJ aJ=some (aY,st')->
        ∃R',Good call bK h0 n0 (R'++R)/\(R'.map λr=>(r.idx,r.o))=((j,o)::L).reverse/\aY=kV bK (R'++R)/\st'.heap=ia h0 (R'++R)/\st'.next=cL n0 (R'++R):=by
    intro r aJ bJ hj ho hs k1 k2 k3 hd;obtain⟨R',g1,g2,g3,g4,g5⟩:=Lz L (r::R) bJ aY aJ st' hd ⟨hs,hG⟩ k1 k2 k3;have e:R'++r::R=(R'++[r])++R:=(by simp);rw[e]at g1 g3 g4 g5;exact⟨R'++[r],g1,by simp[g2,hj,ho],g3,g4,g5⟩
  unfold cF at h;subst h1;split at h
  .rename_i hw;exact fin _ _ _ rfl rfl (h3 ▸nv.skip j o R hw) rfl h2 rfl h
  . rename_i hw;(split at h<;>first|(cases h;done)|skip);rename_i xs hx;split at h
    .   (split at h<;>first|(cases h;done)|skip);rename_i v aq hr;rw[h3]at hr;have hs:=nv.new (call:=call) (bK:=bK) (h0:=h0) (n0:=n0) j o v aq xs R hw hx hr;rw[<-h3]at hs;refine fin _ _ _ rfl rfl hs rfl ?_ rfl h;simp only[ia,h2]
    .   rename_i ZP;(split at h<;>first|(cases h;done)|skip);rename_i v aJ hr;have jg:st={ heap:=ia h0 R,next:=cL n0 R }:=(by cases st;simp_all);rw[jg]at hr;exact fin _ aJ _ rfl rfl (nv.aD j o v aJ xs R ZP hw hx hr) rfl rfl rfl h
    .   split at h
        . rename_i v hr;have Oi:Q1 h0 R o xs v:=by
           intro A B _ _ _;refine⟨.e,λb x hb=> ?_,?_⟩
           .  rw[T.cY]at hb;cases hb
           .  have e:(λb=>T.get b (T.e:T AB))=λ_=>none:=(by funext b;exact T.cY b);rw[e];exact hr
          exact fin _ _ _ rfl rfl (h3 ▸nv.pure j o v xs R hw hx Oi) rfl h2 rfl h
        . (split at h<;>first|(cases h;done)|skip);rename_i v hr;(split at h<;>first|(cases h;done)|skip);rename_i Bz;have Oi:Q1 h0 R o xs v:=by
           intro A B hAB hB hn;subst hAB;rcases D9 A with hA|hA
           .  refine⟨_,λb x hb=> ?_,hr⟩;have:=J8 hA hB hb;rw[D8 hA]at this;exact this
           .  obtain⟨h,k1,k2⟩:=Fw A B [] Bz hG hB hn hA;exact⟨h,λb x hb=>(k1 b x hb).imp id λh=>h.resolve_right (by simp),k2⟩
          exact fin _ _ _ rfl rfl (h3 ▸nv.pure j o v xs R hw hx Oi) rfl h2 rfl h
  .cases h
end
end
section
open Go
structure Late(m:Nat)(pre:List Nat)(L:List (Nat×bk)):Prop where
 all:∀i,i<m->i∈pre\/i∈L.map (·.1)
 lt:∀x∈L,x.1<m
 one:∀A i o B,L=A++(i,o)::B->i∉pre/\i∉A.map (·.1)
 bu:∀A i o B,L=A++(i,o)::B->∀b,o.bu.testBit b=true->b∈pre\/b∈A.map (·.1)
 aD:∀A i o B,L=A++(i,o)::B->o.cls= .aD->∀b,(b∈pre\/b∈A.map (·.1))->o.bu.testBit b=true
 apart:∀A i o B,L=A++(i,o)::B->∀x∈B,x.2.bu.testBit i=true\/Gk o x.2=true
theorem Jo{m:Nat}:∀(L:List (Nat×bk))(seen:Nat)(pre:List Nat),CP m seen L=true->(∀b,seen.testBit b=true↔b∈pre)->Late m pre L
 |[],seen,pre,h,hs=>by
  simp only[CP]at h;have:=Za0 h;refine⟨λi hi=>.inl ((hs i).1 ?_),λx hx=>(by cases hx),λA i o B h=> ?_,λA i o B h=> ?_,λA i o B h=> ?_,λA i o B h=> ?_⟩
  .rw[this,Nat.testBit_two_pow_sub_one];simpa using hi
  all_goals (cases A<;>cases h)
 |(i,   o)::L,seen,pre,h,hs=>by
  simp only[CP,Za7]at h;obtain⟨⟨⟨⟨⟨h1,h2⟩,h3⟩,h4⟩,h5⟩,h6⟩:=h;have h1:i<m:=Za3 h1;have h2:i∉pre:=λhp=>by rw[(hs i).2 hp]at h2;cases h2
  have h3:=Za0 h3;have hb:∀b,o.bu.testBit b=true->b∈pre:=λb hb=>by rw[<-h3,Nat.testBit_and,Za7]at hb;exact(hs b).1 hb.2
  have he:o.cls= .aD->∀b,b∈pre->o.bu.testBit b=true:=λhc b hp=>by rw[hc]at h4;rw[Za0 h4];exact(hs b).2 hp
  have ih:=Jo L (seen ||| 2 ^ i) (pre++[i]) h6 (λb=>by
    rw[Nat.testBit_or,Nat.testBit_two_pow,Zi1,hs b,Zd8];simp[eq_comm])
  rw[Zd0]at h5;have P2:∀{A:List (Nat×bk)}{j:Nat}{p:bk}{B:List (Nat×bk)},(i,o)::L=A++(j,p)::B->(A=[]/\i=j/\o=p/\L=B)\/∃A',A=(i,o)::A'/\L=A'++(j,p)::B:=by
    intro A j p B hA;cases A with
    |nil=>simp at hA;exact .inl ⟨rfl,hA.1.1,hA.1.2,hA.2⟩
    |cons x A=>simp at hA;exact .inr ⟨A,by rw[hA.1],hA.2⟩
  refine⟨λj hj=> ?_,λx hx=> ?_,λA j p B hA=> ?_,λA j p B hA=> ?_,λA j p B hA=> ?_,λA j p B hA=> ?_⟩
  . rcases ih.all j hj with h|h
    .   rcases Zd8.1 h with h|h
        .exact .inl h
        .simp at h;exact .inr (by simp[h])
    .   exact .inr (by simp only[Zc6,Za9];exact .inr h)
  . rcases Za9.1 hx with rfl|hx
    .   exact h1
    .   exact ih.lt x hx
  . rcases P2 hA with⟨rfl,rfl,rfl,rfl⟩|⟨A',rfl,Fx⟩
    .   exact⟨h2,by simp⟩
    .   obtain⟨k1,k2⟩:=ih.one A' j p B Fx;simp only[Zd8,Zd2,not_or]at k1;exact⟨k1.1,by simp only[Zc6,Za9,not_or];exact⟨k1.2,k2⟩⟩
  . rcases P2 hA with⟨rfl,rfl,rfl,rfl⟩|⟨A',rfl,Fx⟩
    .   exact λb jC=>.inl (hb b jC)
    .   intro b jC;rcases ih.bu A' j p B Fx b jC with h|h
        . rcases Zd8.1 h with h|h
          .exact .inl h
          .simp at h;exact .inr (by simp[h])
        .exact .inr (by simp only[Zc6,Za9];exact .inr h)
  . rcases P2 hA with⟨rfl,rfl,rfl,rfl⟩|⟨A',rfl,Fx⟩
    .   intro hc b jC;rcases jC with h|h
        .exact he hc b h
        .simp at h
    .   intro hc b jC;refine ih.aD A' j p B Fx hc b ?_;rcases jC with h|h
        .exact .inl (Zd8.2 (.inl h))
        . simp only[Zc6,Za9]at h;rcases h with rfl|h
          .exact .inl (by simp)
          .exact .inr h
  . rcases P2 hA with⟨rfl,rfl,rfl,rfl⟩|⟨A',rfl,Fx⟩
    .   intro x hx;have:=h5 x hx
        rwa [Zi1]at this
    .   exact ih.apart A' j p B Fx
inductive Reach(ops:Array Oper):Nat->Nat->Prop where
 |edge (i:Nat) (o:Oper) (e:Edge) (ho:ops[i]? =some o) (he:e∈o.after) (hb:Region.binds .any e=true):Reach ops i e.on
 |trans (i:Nat) (o:Oper) (e:Edge) (b:Nat) (ho:ops[i]? =some o) (he:e∈o.after) (hb:Region.binds .any e=true) (h:Reach ops e.on b):Reach ops i b
def Vk(ops:Array Oper)(i m:Nat):Prop:=
 (∀o,ops[i]? =some o->∀e∈o.after,Region.binds .any e=true->m.testBit e.on=true)/\∀b,m.testBit b=true->Reach ops i b
theorem MW(acc:List Nat):∀(l:List Edge)(s b:Nat),(l.foldl (λs e=>match Region.binds .any e with
   |true=>s ||| 2 ^ e.on ||| (nth acc e.on).getD 0
   |false=>s) s).testBit b=true↔s.testBit b=true\/∃e∈l,Region.binds .any e=true/\(e.on=b\/((nth acc e.on).getD 0).testBit b=true)
 |[],s,b=>by simp
 |e::l,s,b=>by
  rw[Zp4,MW acc l];cases he:Region.binds .any e with
  |false=>simp[he]
  |true=>
   simp only[Nat.testBit_or,Zi1,Nat.testBit_two_pow,Ze1,Za9,exists_eq_or_imp,he,true_and];constructor
   .    rintro(((h|h)|h)|h)
        .exact .inl h
        .exact .inr (.inl (.inl h))
        .exact .inr (.inl (.inr h))
        .exact .inr (.inr h)
   .    rintro(h|(h|h)|h)
        .exact .inl (.inl (.inl h))
        .exact .inl (.inl (.inr h))
        .exact .inl (.inr h)
        .exact .inr h
theorem TZ {ops:Array Oper}:∀(os:List Oper)(acc:List Nat),os=ops.toList.drop acc.length->acc.length<=ops.size->(∀i,i<acc.length->Vk ops i (acc.getD i 0))->
  ∀i,i<ops.size->Vk ops i ((Qu os acc).getD i 0)
 |[],acc,T3,hl,Vl,i,hi=>by
  have h1:(ops.toList.drop acc.length).length=0:=by rw[<-T3];rfl
  have:ops.size<=acc.length:=by simp at h1;omega
  exact Vl i (by omega)
 |o ::os,acc,T3,hl,Vl,i,hi=>by
  simp only[Qu];have ho:ops[acc.length]? =some o:=by have:(ops.toList.drop acc.length)[0]? =some o:=(by rw[<-T3];rfl);simpa using this
  have aU:acc.length<ops.size:=(Zc9.1 ho).1;refine TZ os _ ?_ (by simp;omega) (λj hj=> ?_) i hi
  .rw[Ze0,List.length_singleton, <-Zo1, <-T3];rfl
  . rcases Zh8 j acc.length with h|h
    .   rw[Zc0,Zc1 h, <-Zc0];exact Vl j h
    .   have xD:j=acc.length:=(by simp at hj;omega);subst xD;rw[Zc0,Zc3 (Za4 _)];simp only[Zn5,Zb0,Zj3];refine⟨λo' Bw e he hb=> ?_,λb hb=> ?_⟩
        .rw[ho]at Bw;simp only[H0]at Bw;subst Bw;exact(MW acc _ 0 e.on).2 (.inr ⟨e,by simpa using he,hb,.inl rfl⟩)
        . have hb:=(MW acc _ 0 b).1 hb;rcases hb with hb|⟨e,he,jC,hb⟩
          .simp at hb
          . have jP:e∈o.after:=(by simpa using he);rcases hb with rfl|hb
            .exact .edge _ o e ho jP jC
            . refine .trans _ o e b ho jP jC ?_;rw[ki]at hb;rcases Zh8 e.on acc.length with h|h
              .exact(Vl _ h).2 b (by rw[Zc0];exact hb)
              .rw[Zb5 h]at hb;simp at hb
theorem T4:∀(l:List bk)(k:Nat)(x:Nat×bk),x∈zP k l->∃i,x.1=k+i/\l[i]? =some x.2
 |[],k,x,h=>by cases h
 |o ::l,k,x,h=>by
  simp only[zP,Za9]at h;rcases h with rfl|h
  .exact⟨0,rfl,rfl⟩
  .obtain⟨i,h1,h2⟩:=T4 l (k+1) x h;exact⟨i+1,by omega,by simpa using h2⟩
theorem Gw:∀(l held:List (Nat×bk))(x:Nat×bk),x∈sW l held->x∈l\/x∈held
 |[],held,x,h=>.inr h
 |(i,   o)::l,held,x,h=>by
  unfold sW at h;split at h
  . rcases Zd8.1 h with h|h
    .   exact .inr (Zp5.1 h).1
    .   rcases Za9.1 h with h|h
        .exact .inl (by rw[h];exact Zc2 ..)
        . rcases Gw l _ x h with h|h
          .exact .inl (Za6 _ h)
          .exact .inr (Zp5.1 h).1
  . rcases Gw l _ x h with h|h
    .   exact .inl (Za6 _ h)
    .   rcases Zd8.1 h with h|h
        .exact .inr h
        .simp at h;exact .inl (by rw[h];exact Zc2 ..)
theorem abR{l:List bk}{x:Nat×bk}(h:x∈sW (zP 0 l) []):l[x.1]? =some x.2:=by
 rcases Gw _ _ _ h with h|h
 .obtain⟨i,h1,h2⟩:=T4 l 0 x h;rw[h1,Zc7];exact h2
 .cases h
theorem Ec{p:Pos}:∀{l:List Pos},CO p l=true↔p∈l
 |[]=>by simp[CO]
 |q::l=>by simp[CO,Ec (l:=l),Pos.beq_eq]
theorem Cd{a b:bk}(h:Gk a b=true):
   (∀d,a.dst=some d->d∉b.looks/\b.dst≠some d)/\(∀d,b.dst=some d->d∉a.looks):=by
 unfold Gk at h;rw[Za7]at h;obtain⟨h1,h2⟩:=h;constructor
 . intro d hd;rw[hd]at h1;simp only[Za7,Zh1]at h1;refine⟨λhm=> ?_,λhb=> ?_⟩
   .rw[Ec.2 hm]at h1;exact absurd h1.1 (by simp)
   .rw[hb]at h1;have:Pos.beq d d=true:=Pos.beq_eq.2 rfl;simp[this]at h1
 .intro d hd hm;rw[hd]at h2;simp only[Zh1]at h2;rw[Ec.2 hm]at h2;cases h2
section
variable(P:Program)(tt:TT)(C:Cells)(nt:Nat)(ops:Array Oper)(call:ai)(bK:Fr)(h0:T AB)(n0:Pos)(R:List Rec)
structure uE:Prop where
 J9:Good call bK h0 n0 R
 mono:kU call
 one:∀A r B,R=A++r::B->∀r'∈B,r'.idx≠r.idx
 bu:∀A r B,R=A++r::B->∀b,r.o.bu.testBit b=true->∃r'∈B,r'.idx=b
 aD:∀A r B,R=A++r::B->r.o.cls= .aD->∀r'∈B,r.o.bu.testBit r'.idx=true
 apart:∀A r B,R=A++r::B->∀r'∈A,r'.o.bu.testBit r.idx=true\/Gk r.o r'.o=true
 rel:∀r∈R,∃o,ops[r.idx]? =some o/\qW tt nt ops o r.o/\Vk ops r.idx r.o.bu
 all:∀i,i<ops.size->∃r∈R,r.idx=i
def Kept(D:Nat->Prop)(b:Pos):Prop:=∀A r B,R=A++r::B->¬D r.idx->b.toNat<(cL n0 B).toNat\/r.nx.toNat<=b.toNat
def T1(D:Nat->Prop)(ρ:Pos->Loc)(tmps:Array Value):Prop:=
 ∀M s T p,R=M++s::T->D s.idx->s.o.dst=some p->(∀s'∈M,D s'.idx->s'.o.dst≠some p)->∃x,tmps[p.toNat - 1]? =some x/\aj ρ s.nx.toNat C s.v x
def T0(D:Nat->Prop)(ρ:Pos->Loc)(tmps:Array Value):Prop:=
 ∀p v,bK.get p=some v->(∀s∈R,D s.idx->s.o.dst≠some p)->∃x,tmps[p.toNat - 1]? =some x/\aj ρ n0.toNat C v x
structure Oj(D:Nat->Prop)(A B:List Rec)(a:Act):Prop where
 split:R=A++B
 bound:By B
 inB:∀r∈B,D r.idx
 Q4:∀r∈A,D r.idx->r.c.kB=false
 closed:∀i o e,D i->ops[i]? =some o->e∈o.after->Region.binds .any e=true->D e.on
 size:a.tmps.size=nt
 defers:a.defers=[]
structure Inv0(jD:Pos->Loc)(w0:World)(D:Nat->Prop)(A B:List Rec)(ρ:Pos->Loc)(a:Act)(w:World):Prop where
 W:aV ρ C { heap:=g9 h0 B,next:=cL n0 B } w
 N:∀r∈A,D r.idx->∀id aq,r.c= .new id aq->kN ρ r.nx.toNat C (ρ id) w aq/\(ρ id).aq<w.heap.size/\w0.heap.size<=(ρ id).aq/\
  (∀b x,(g9 h0 B).get b=some x->(ρ b).aq≠(ρ id).aq)/\(∀ad v,C ad=some v->(ρ id).aq≠ad.block)
 N2:∀r∈A,D r.idx->∀id aq,r.c= .new id aq->∀r'∈A,D r'.idx->∀pR ye,r'.c= .new pR ye->id≠pR->(ρ id).aq≠(ρ pR).aq
 t1:T1 C R D ρ a.tmps
 t0:T0 C bK n0 R D ρ a.tmps
 E:je jD { heap:=h0,next:=n0 } w0 ρ { heap:=g9 h0 B,next:=cL n0 B } w
 zi:∀b:Pos,b.toNat<n0.toNat->ρ b=jD b
def Inv(jD:Pos->Loc)(w0:World)(D:Nat->Prop)(A B:List Rec)(ρ:Pos->Loc)(a:Act)(w:World):Prop:=
 Oj nt ops R D A B a/\∀ρ',(∀b,Kept n0 R D b->ρ' b=ρ b)->Inv0 C bK h0 n0 R jD w0 D A B ρ' a w
end
section
variable{P:Program}{tt:TT}{C:Cells}{nt:Nat}{ops:Array Oper}{call:ai}{bK:Fr}{h0:T AB}{n0:Pos}{R:List Rec}
theorem Ad(h:∀A r B,R=A++r::B->∀r'∈B,r'.idx≠r.idx){X X' Y Y':List Rec}{r r':Rec}(h1:R=X++r::Y)(h2:R=X'++r'::Y')(hi:r.idx=r'.idx):
   X=X'/\r=r'/\Y=Y':=by
 have h3:X++r::Y=X'++r'::Y':=h1.symm.trans h2;rcases List.append_eq_append_iff.1 h3 with⟨Z,hX,hZ⟩|⟨Z,hX,hZ⟩
 . cases Z with
   |nil=>simp at hZ hX;exact⟨hX.symm,hZ.1,hZ.2⟩
   |cons z Z=>
    simp at hZ;exact absurd hi.symm (h X r Y h1 r' (by rw[hZ.2];simp))
 . cases Z with
   |nil=>simp at hZ hX;exact⟨hX,hZ.1.symm,hZ.2.symm⟩
   |cons z Z=>
    simp at hZ;exact absurd hi (h X' r' Y' h2 r (by rw[hZ.2];simp))
theorem j7{r:Rec}(h:r∈R):∃A B,R=A++r::B:=List.append_of_mem h
theorem T6(hm:kU call){r:Rec}{B:List Rec}(h:nv call bK h0 n0 r B):(cL n0 B).toNat<=r.nx.toNat:=by
 cases h with
 |skip=>exact Za4 _
 |pure=>exact Za4 _
 |new=>simp only[Pos.az];omega
 |aD i o v st' xs _ hc hw hx hr=>exact D6 hm hr
theorem MX(hm:kU call):∀{A B:List Rec},Good call bK h0 n0 (A++B)->(cL n0 B).toNat<=(cL n0 (A++B)).toNat
 |[],_,_=>Za4 _
 |r::A,B,h=>Zc4 (MX hm (A:=A) h.2) (T6 hm h.1)
namespace uE
variable(G:uE tt nt ops call bK h0 n0 R)
include G
theorem later{X Y:List Rec}{r r':Rec}(h:R=X++r::Y)(hr:r'∈X):r'.idx≠r.idx:=by
 obtain⟨A,B,rfl⟩:=j7 hr;have h':R=A++r'::(B++r::Y):=by rw[h];simp
 exact λe=>G.one _ _ _ h' r (by simp) e.symm
theorem abq{X Y:List Rec}{r:Rec}(h:R=X++r::Y):(cL n0 Y).toNat<=r.nx.toNat:=T6 G.mono (Good.at (h ▸G.J9))
theorem xG{X Y Z:List Rec}(h:R=X++(Y++Z)):(cL n0 Z).toNat<=(cL n0 (Y++Z)).toNat:=MX G.mono (Good.tail (h ▸G.J9))
theorem Vm{X Y:List Rec}(h:R=X++Y):n0.toNat<=(cL n0 Y).toNat:=by have:=MX (n0:=n0) G.mono (A:=Y) (B:=[]) (by rw[Ze8];exact Good.tail (h ▸G.J9));rw[Ze8]at this;exact this
theorem LA{D:Nat->Prop}(hc:∀i o e,D i->ops[i]? =some o->e∈o.after->Region.binds .any e=true->D e.on){i b:Nat}(h:Reach ops i b)
  (hi:∀o e,ops[i]? =some o->e∈o.after->Region.binds .any e=true->D e.on):D b:=by
 induction h with
 |edge i o e ho he hb=>exact hi o e ho he hb
 |trans i o e b ho he hb _ ih=>exact ih λo' e' Bw jP jf=>hc _ o' e' (hi o e ho he hb) Bw jP jf
theorem abr{D:Nat->Prop}{A B:List Rec}{a:Act}(hp:Oj nt ops R D A B a){s:Rec}(hs:s∈R)(hD:D s.idx){b:Nat}(hb:s.o.bu.testBit b=true):D b:=by obtain⟨o,ho,_,hB⟩:=G.rel s hs;exact G.LA hp.closed (hB.2 b hb) λo' e Bw he jC=>hp.closed _ o' e hD Bw he jC
end uE
theorem Gx:∀(Y:List Rec)(p:Pos)(v:AV),(kV bK Y).get p=some v->
  (∃M s T,Y=M++s::T/\s.o.dst=some p/\s.v=v/\∀s'∈M,s'.o.dst≠some p)\/(bK.get p=some v/\∀s∈Y,s.o.dst≠some p)
 |[],p,v,h=>.inr ⟨h,λs hs=>by cases hs⟩
 |r ::Y   ,p,v,h=>by
  simp only[kV]at h;by_cases hr:r.o.dst=some p
  .rw[hr]at h;simp only[cH,T.ee,H0]at h;exact .inl ⟨[],r,Y,rfl,hr,h,λs hs=>by cases hs⟩
  . have h':(kV bK Y).get p=some v:=by
        cases hd:r.o.dst with
        |none=>rw[hd]at h;exact h
        | some d=>
          rw[hd]at h;simp only[cH]at h
          rwa [T.br _ λe=>hr (by rw[hd,e])]at h
    rcases Gx Y p v h' with⟨M,s,T,rfl,h2,h3,h4⟩|⟨h2,h3⟩
    .   refine .inl ⟨r::M,s,T,rfl,h2,h3,λs' kR=> ?_⟩;rcases Za9.1 kR with rfl|kR
        .exact hr
        .exact h4 s' kR
    .   refine .inr ⟨h2,λs hs=> ?_⟩;rcases Za9.1 hs with rfl|hs
        .exact hr
        .exact h3 s hs
theorem look(G:uE tt nt ops call bK h0 n0 R){D:Nat->Prop}{A B:List Rec}{a:Act}(hp:Oj nt ops R D A B a){ρ:Pos->Loc}(h1:T1 C R D ρ a.tmps)(h2:T0 C bK n0 R D ρ a.tmps)
   {X Y:List Rec} {r:Rec} (hR:R=X++r::Y) (hD:¬D r.idx) (MY:∀b,r.o.bu.testBit b=true->D b) {p:Pos} {v:AV} (hl:p∈r.o.looks) (hv:(kV bK Y).get p=some v):
   ∃x,a.tmps[p.toNat - 1]? =some x/\aj ρ (cL n0 Y).toNat C v x:=by
 have hX:∀s∈X,D s.idx->s.o.dst≠some p:=by
   intro s hs e9 hd;rcases G.apart X r Y hR s hs with h|h
   .exact hD (G.abr hp (by rw[hR];simp[hs]) e9 h)
   .exact(Cd h).2 p hd hl
 rcases Gx Y p v hv with⟨M,s,T,rfl,h3,rfl,h4⟩|⟨h3,h4⟩
 . have hR':R=(X++r::M)++s::T:=(by rw[hR];simp);have e9:D s.idx:=by
     rcases G.apart _ s T hR' r (by simp)with h|h
     .  exact MY _ h
     .  exact absurd hl ((Cd h).1 p h3).1
   obtain⟨x,hx,Gy⟩:=h1 (X++r::M) s T p hR' e9 h3 (λs' kR Ae=>by
     rcases Zd8.1 kR with h|h
     .  exact hX s' h Ae
     .  rcases Za9.1 h with rfl|h
        .exact absurd Ae hD
        .exact h4 s' h)
   refine⟨x,hx,Gy.mono (λ_ _=>rfl) ?_⟩;have:=G.xG (X:=X++[r]) (Y:=M) (Z:=s::T) (by rw[hR];simp);exact this
 . obtain⟨x,hx,Gy⟩:=h2 p v h3 (λs hs e9=>by
     rw[hR]at hs;rcases Zd8.1 hs with h|h
     .  exact hX s h e9
     .  rcases Za9.1 h with rfl|h
        .exact absurd e9 hD
        .exact h4 s h)
   exact⟨x,hx,Gy.mono (λ_ _=>rfl) (G.Vm (X:=X++[r]) (by rw[hR];simp))⟩
theorem BA{a:Act}{d:Option Tmp}{x:Value}{p:Pos}(h:d.map key≠some p):(a.put d x).tmps[p.toNat - 1]? =a.tmps[p.toNat - 1]? :=by
 cases d with
 |none=>rfl
 |some e=>
  simp only[Act.put];rw[Zd6];intro he;apply h;simp only[Ze5,H0];apply Pos.toNat_inj;rw[eo];have:=p.toNat_pos;omega
theorem ZQ{a:Act}{d:Option Tmp}{x:Value}{p:Pos}(h:d.map key=some p)(hs:a.tmps.size=nt)(hd:∀e,d=some e->e<nt):(a.put d x).tmps[p.toNat - 1]? =some x:=by
 cases d with
 |none=>cases h
 |some e=>
  simp only[Ze5,H0]at h;subst h;simp only[Act.put];rw[eo,Ze9,Zj9];simp[hs,hd e rfl]
theorem Vn(G:uE tt nt ops call bK h0 n0 R){D:Nat->Prop}{A B:List Rec}{a:Act}(hp:Oj nt ops R D A B a){ρ:Pos->Loc}(h1:T1 C R D ρ a.tmps)(h2:T0 C bK n0 R D ρ a.tmps)
   {X Y:List Rec} {r:Rec} (hR:R=X++r::Y) (hD:¬D r.idx) {o:Oper} (hrel:qW tt nt ops o r.o) {x:Value} (hv:aj ρ r.nx.toNat C r.v x):
   T1 C R (λi=>D i\/i=r.idx) ρ (a.put o.dst x).tmps/\T0 C bK n0 R (λi=>D i\/i=r.idx) ρ (a.put o.dst x).tmps:=by
 constructor
 . intro  M s T p hM e9 hd kq;by_cases hi:s.idx=r.idx
   .obtain⟨_,rfl,_⟩:=Ad G.one hM hR hi;rw[hrel.dst]at hd;exact⟨x,ZQ hd hp.size hrel.lt,hv⟩
   . have e9:=e9.resolve_right hi;by_cases Gz:r.o.dst=some p
     .  exfalso;have hs:s∈R:=(by rw[hM];simp);rw[hR]at hs;rcases Zd8.1 hs with h|h
        . rcases G.apart X r Y hR s h with k|k
          .exact hD (G.abr hp (by rw[hR];simp[h]) e9 k)
          .exact((Cd k).1 p Gz).2 hd
        . rcases Za9.1 h with rfl|h
          .exact hi rfl
          .obtain⟨Y1,Y2,rfl⟩:=j7 h;have hR':R=(X++r::Y1)++s::Y2:=(by rw[hR];simp);obtain⟨Xl,_,_⟩:=Ad G.one hM hR' rfl;exact kq r (by rw[Xl];simp) (.inr rfl) Gz
     .  (rw[hrel.dst]at Gz;obtain⟨y,hy,zV⟩:=h1 M s T p hM e9 hd λs' kR Ae=>kq s' kR (.inl Ae));exact⟨y,by rw[BA Gz];exact hy,zV⟩
 . (intro p v hf kq;have hr:r.o.dst≠some p:=kq r (by rw[hR];simp) (.inr rfl);rw[hrel.dst]at hr;obtain⟨y,hy,zV⟩:=h2 p v hf λs hs e9=>kq s hs (.inl e9));exact⟨y,by rw[BA hr];exact hy,zV⟩
end
section
variable{P:Program}{tt:TT}{C:Cells}{nt:Nat}{ops:Array Oper}{call:ai}{bK:Fr}{h0:T AB}{n0:Pos}{R:List Rec}
theorem aV.congr{ρ ρ':Pos->Loc}{st:St}{w:World}(h:aV ρ C st w)(aR:∀b:Pos,b.toNat<st.next.toNat->ρ' b=ρ b):aV ρ' C st w where
 live b x hb:=by
  obtain⟨h1,h2,h3⟩:=h.live b x hb;rw[aR b h1];exact⟨h1,h2,h3.mono aR (Za4 _)⟩
 inj b b' x x' hb jf he:=by rw[aR b (h.live b x hb).1,aR b' (h.live b' x' jf).1]at he;exact h.inj b b' x x' hb jf he
 cZ a v ha:=⟨(h.cZ a v ha).1,λb x hb=>by rw[aR b (h.live b x hb).1];exact(h.cZ a v ha).2 b x hb⟩
 whole:=h.whole
theorem je.congr{ρ dB ρ':Pos->Loc}{st st':St}{w w':World}(h:je ρ st w dB st' w')(aR:∀b x,st'.heap.get b=some x->ρ' b=dB b):je ρ st w ρ' st' w' where
 os:=h.os
 tape:=h.tape
 output:=h.output
 size:=h.size
 block:=h.block
 mN b x hb:=by rw[aR b x hb];exact h.mN b x hb
namespace uE
variable(G:uE tt nt ops call bK h0 n0 R)
include G
theorem same{r r':Rec}(h:r∈R)(h':r'∈R)(hi:r.idx=r'.idx):r=r':=by obtain⟨A,B,hA⟩:=j7 h;obtain⟨A',B',Fx⟩:=j7 h';exact(Ad G.one hA Fx hi).2.1
theorem cmp{X Y X' Y':List Rec}{r r':Rec}(h1:R=X++r::Y)(h2:R=X'++r'::Y')(hi:r'.idx≠r.idx):
   (∃Z,Y'=Z++r::Y)\/(∃Z,Y=Z++r'::Y'):=by
 have h3:X++r::Y=X'++r'::Y':=h1.symm.trans h2;rcases List.append_eq_append_iff.1 h3 with⟨Z,hX,hZ⟩|⟨Z,hX,hZ⟩
 . cases Z with
   |nil=>simp at hZ;exact absurd (by rw[hZ.1]) hi
   |cons z Z=>simp at hZ;exact .inr ⟨Z,hZ.2⟩
 . cases Z with
   |nil=>simp at hZ;exact absurd (by rw[hZ.1]) hi
   |cons z Z=>simp at hZ;exact .inl ⟨Z,hZ.2⟩
theorem Ed{X Y X' Z:List Rec}{r r':Rec}(h1:R=X++r::Y)(h2:R=X'++r'::(Z++r::Y)):r.nx.toNat<=(cL n0 (Z++r::Y)).toNat:=by have:=G.xG (X:=X'++[r']) (Y:=Z) (Z:=r::Y) (by rw[h2];simp);exact this
theorem zj{X Y' Z:List Rec}{r r':Rec}(h1:R=X++r::(Z++r'::Y')):r'.nx.toNat<=(cL n0 (Z++r'::Y')).toNat:=by have:=G.xG (X:=X++[r]) (Y:=Z) (Z:=r'::Y') (by rw[h1];simp);exact this
theorem GF{X Y:List Rec}{r:Rec}(h:R=X++r::Y){id:Pos}{aq:AB}(hc:r.c= .new id aq):id=cL n0 Y/\r.nx=id.succ:=by
 have hs:=Good.at (h ▸G.J9);cases hs<;>simp only at hc<;>first|(cases hc;done)|skip
 simp only[RC.new.injEq]at hc;obtain⟨rfl,_⟩:=hc;exact⟨rfl,rfl⟩
end uE
theorem Kept.up{D D':Nat->Prop}(h:∀i,D i->D' i){b:Pos}(hk:Kept n0 R D b):Kept n0 R D' b:=λA r B hR hD=>hk A r B hR λhd=>hD (h _ hd)
theorem Oj.next(G:uE tt nt ops call bK h0 n0 R){D:Nat->Prop}{A B:List Rec}{a:Act}(hp:Oj nt ops R D A B a){X Y:List Rec}{r:Rec}(hR:R=X++r::Y)
  (ny:∀o e,ops[r.idx]? =some o->e∈o.after->Region.binds .any e=true->D e.on) (hc:r.c.kB=false) (d:Option Tmp) (x:Value):
  Oj nt ops R (λi=>D i\/i=r.idx) A B (a.put d x) where
 split:=hp.split
 bound:=hp.bound
 inB s hs:= .inl (hp.inB s hs)
 Q4 s hs hD:=by
  rcases hD with hD|hD
  .exact hp.Q4 s hs hD
  .rw[G.same (by rw[hp.split];simp[hs]) (by rw[hR];simp) hD];exact hc
 closed i o e hD ho he hb:=by
  rcases hD with hD|rfl
  .exact .inl (hp.closed i o e hD ho he hb)
  .exact .inl (ny o e ho he hb)
 size:=by rw[Act.gI];exact hp.size
 defers:=by rw[Act.iF];exact hp.defers
theorem Ol(G:uE tt nt ops call bK h0 n0 R){jD:Pos->Loc}{w0:World}{D:Nat->Prop}{A B:List Rec}{ρ:Pos->Loc}{a:Act}{w:World}
  (hI:Inv C nt ops bK h0 n0 R jD w0 D A B ρ a w) {X Y:List Rec} {r:Rec} (hR:R=X++r::Y) (hD:¬D r.idx)
  (ny:∀o e,ops[r.idx]? =some o->e∈o.after->Region.binds .any e=true->D e.on) {o:Oper} (hrel:qW tt nt ops o r.o) (hc:r.c= .pure) {x:Value}
  (hv:∀ρ',(∀b,Kept n0 R D b->ρ' b=ρ b)->aj ρ' r.nx.toNat C r.v x):
  Inv C nt ops bK h0 n0 R jD w0 (λi=>D i\/i=r.idx) A B ρ (a.put o.dst x) w:=by
 obtain⟨hp,hI⟩:=hI;refine⟨hp.next G hR ny (by rw[hc];rfl) _ _,λρ' wE=> ?_⟩;have hf:∀b,Kept n0 R D b->ρ' b=ρ b:=λb hb=>wE b (hb.up λ_ h=>.inl h)
 have h:=hI ρ' hf;have hnr:∀s∈A,(D s.idx\/s.idx=r.idx)->∀id aq,s.c= .new id aq->D s.idx:=λs hs e9 id aq fH=>by
  rcases e9 with e9|e9
  .exact e9
  .rw[G.same (by rw[hp.split];simp[hs]) (by rw[hR];simp) e9,hc]at fH;cases fH
 obtain⟨k1,k2⟩:=Vn G hp h.t1 h.t0 hR hD hrel (hv ρ' hf);exact⟨h.W,λs hs e9 id aq fH=>h.N s hs (hnr s hs e9 id aq fH) id aq fH,
  λs hs e9 id aq fH s' kR Ae pR ye ow=>h.N2 s hs (hnr s hs e9 id aq fH) id aq fH s' kR (hnr s' kR Ae pR ye ow) pR ye ow,k1,k2,h.E,h.zi⟩
theorem aV.grow{ρ:Pos->Loc}{st:St}{w w':World}(h:aV ρ C st w)(hs:w.heap.size<=w'.heap.size)(hb:∀k,k<w.heap.size->w'.heap[k]? =w.heap[k]?):aV ρ C st w' where
 live b x hx:=let⟨h1,h2,h3⟩:=h.live b x hx;⟨h1,Zc5 h2 hs,h3.of_heap (hb _ h2)⟩
 inj:=h.inj
 cZ a v ha:=by
  obtain⟨h1,h2⟩:=h.cZ a v ha;exact⟨by rw[World.cell?_of_block (w:=w) (hb _ (World.block_lt_of_cell? _ _ h1))];exact h1,h2⟩
 whole a v ha o ho:=by have nY:a.block<w.heap.size:=World.block_lt_of_cell? _ _ (h.cZ a v ha).1;rw[World.cell?_of_block (w:=w) (a:=⟨a.block,o,none⟩) (hb _ nY)];exact h.whole a v ha o ho
theorem ZR(G:uE tt nt ops call bK h0 n0 R){jD:Pos->Loc}{w0:World}{D:Nat->Prop}{A B:List Rec}{ρ:Pos->Loc}{a:Act}{w w':World}
   (hI:Inv C nt ops bK h0 n0 R jD w0 D A B ρ a w) {X Y:List Rec} {r:Rec} (hR:R=X++r::Y) (hD:¬D r.idx)
   (ny:∀o e,ops[r.idx]? =some o->e∈o.after->Region.binds .any e=true->D e.on) {o:Oper} (hrel:qW tt nt ops o r.o) {id:Pos} {aq:AB} (hc:r.c= .new id aq) {x:Value} {L:Loc}
   (hL:w.heap.size<=L.aq) (hL':L.aq<w'.heap.size) (T3:w'.os=w.os) (adt:w'.tape=w.tape) (MZ:w'.output=w.output) (ZS:∀k,k<w.heap.size->w'.heap[k]? =w.heap[k]?)
   (hv:∀ρ',(∀b,Kept n0 R D b->ρ' b=ρ b)->ρ' id=L->aj ρ' r.nx.toNat C r.v x/\kN ρ' r.nx.toNat C L w' aq):
   Inv C nt ops bK h0 n0 R jD w0 (λi=>D i\/i=r.idx) A B (λb=>if b=id then L else ρ b) (a.put o.dst x) w':=by
 obtain⟨hp,hI⟩:=hI;have hrA:r∈A:=by
   have:r∈R:=(by rw[hR];simp);rw[hp.split]at this;exact(Zd8.1 this).resolve_right λh=>hD (hp.inB r h)
 obtain⟨Ly,GG⟩:=G.GF hR hc;have eD:w.heap.size<=w'.heap.size:=by omega
 refine⟨hp.next G hR ny (by rw[hc];rfl) _ _,λρ' wE=> ?_⟩;have hkid:Kept n0 R (λi=>D i\/i=r.idx) id:=by
   (intro A' r' B' Fx Xm;have cG:r'.idx≠r.idx:=λe=>Xm (.inr e));rcases G.cmp hR Fx cG with⟨Z,rfl⟩|⟨Z,rfl⟩
   .left;have:=G.Ed hR Fx;rw[GG,Pos.az]at this;omega
   .right;have:=G.zj hR;rw[Ly];exact this
 have Vo:ρ' id=L:=by rw[wE id hkid];simp
 have hf:∀b,Kept n0 R D b->ρ' b=ρ b:=λb hb=>by
   have cG:b≠id:=by
     rintro rfl;rcases hb X r Y hR hD with h|h
     .  rw[Ly]at h;omega
     .  rw[GG,Pos.az]at h;omega
   rw[wE b (hb.up λ_ h=>.inl h)];exact Za5 cG
 have h:=hI ρ' hf;obtain⟨Jb,Gn⟩:=hv ρ' hf Vo;obtain⟨k1,k2⟩:=Vn G hp h.t1 h.t0 hR hD hrel Jb;have P7:∀s∈A,(D s.idx\/s.idx=r.idx)->D s.idx\/s=r:=λs hs e9=>e9.imp (λh=>h) λe9=>G.same (by rw[hp.split];simp[hs]) (by rw[hR];simp) e9
 refine⟨h.W.grow eD ZS,λs hs e9 pR ye fH=> ?_,λs hs e9 pR ye fH s' kR Ae id'' abt ow cG=> ?_,k1,k2,?_,h.zi⟩
 . rcases P7 s hs e9 with e9|rfl
   .obtain⟨g1,g2,g3,g4,g5⟩:=h.N s hs e9 pR ye fH;exact⟨g1.of_heap (ZS _ g2),by omega,g3,g4,g5⟩
   . rw[hc]at fH;simp only[RC.new.injEq]at fH;obtain⟨rfl,rfl⟩:=fH;rw[Vo];refine⟨Gn,hL',Zc4 h.E.size hL,λb x hb e=> ?_,λad v ha e=> ?_⟩
     .  have:=(h.W.live b x hb).2.1;omega
     .  have:=World.block_lt_of_cell? _ _ (h.W.cZ ad v ha).1;omega
 . rcases P7 s hs e9 with hDk|rfl
   . rcases P7 s' kR Ae with ZT|rfl
     .  exact h.N2 s hs hDk pR ye fH s' kR ZT id'' abt ow cG
     .  rw[hc]at ow;simp only[RC.new.injEq]at ow;obtain⟨rfl,rfl⟩:=ow;have:=(h.N s hs hDk pR ye fH).2.1;rw[Vo];omega
   . rw[hc]at fH;simp only[RC.new.injEq]at fH;obtain⟨rfl,rfl⟩:=fH;rcases P7 s' kR Ae with ZT|rfl
     .  have:=(h.N s' kR ZT id'' abt ow).2.1;rw[Vo];omega
     .  rw[hc]at ow;simp only[RC.new.injEq]at ow;exact absurd ow.1 cG
 .exact⟨T3.trans h.E.os,adt.trans h.E.tape,MZ.trans h.E.output,Zc4 h.E.size eD,λk hk hn=>by rw[ZS k (Zc5 hk h.E.size)];exact h.E.block k hk hn,h.E.mN⟩
theorem Vp(G:uE tt nt ops call bK h0 n0 R){jD:Pos->Loc}{w0:World}{D:Nat->Prop}{A B:List Rec}{ρ:Pos->Loc}{a:Act}{w:World}
  (h:Inv0 C bK h0 n0 R jD w0 D A B ρ a w) (acM:R=A++B) {hp:T AB} {N:Pos} (hN:(cL n0 B).toNat<=N.toNat)
  (Ce:∀b x,hp.get b=some x->(g9 h0 B).get b=some x\/∃s∈A,D s.idx/\s.c= .new b x/\s.nx.toNat<=N.toNat):aV ρ C { heap:=hp,next:=N } w where
 live b x hb:=by
  rcases Ce b x hb with h1|⟨s,hs,hD,hc,hn⟩
  .  obtain⟨g1,g2,g3⟩:=h.W.live b x h1;exact⟨Zc5 g1 hN,g2,g3.mono (λ_ _=>rfl) hN⟩
  .  obtain⟨g1,g2,_⟩:=h.N s hs hD b x hc;obtain⟨M,T,hM⟩:=j7 (r:=s) (R:=R) (by rw[acM];simp[hs]);obtain⟨_,e⟩:=G.GF hM hc;rw[e]at hn;refine⟨?_,g2,g1.mono (λ_ _=>rfl) (by rw[e];exact hn)⟩;rw[Pos.az]at hn;exact hn
 inj b  b' x x' hb jf he:=by
  rcases Ce b x hb with h1|⟨s,hs,hD,hc,hn⟩
  .  rcases Ce b' x' jf with TN|⟨s',kR,Xm,rY,Q3⟩
     .  exact h.W.inj b b' x x' h1 TN he
     .  exact absurd he ((h.N s' kR Xm b' x' rY).2.2.2.1 b x h1)
  .  rcases Ce b' x' jf with TN|⟨s',kR,Xm,rY,Q3⟩
     .  exact absurd he.symm ((h.N s hs hD b x hc).2.2.2.1 b' x' TN)
     .  by_cases e:b=b'
        .exact e
        .exact absurd he (h.N2 s hs hD b x hc s' kR Xm b' x' rY e)
 cZ ad v ha:=⟨(h.W.cZ ad v ha).1,λb x hb=>by
  rcases Ce b x hb with h1|⟨s,hs,hD,hc,hn⟩
  .  exact(h.W.cZ ad v ha).2 b x h1
  .  exact(h.N s hs hD b x hc).2.2.2.2 ad v ha⟩
 whole:=h.W.whole
theorem uF:∀{Z B:List Rec}{b:Pos}{x:AB},(∀r∈Z,r.c.kB=false)->By B->(ia h0 (Z++B)).get b=some x->
  (g9 h0 B).get b=some x\/∃s∈Z,s.c= .new b x
 |[],B,b,x,_,hB,h=>by
  cases B with
  |nil=>exact .inl h
  | cons r B=>
    simp only[By]at hB;(cases hc:r.c<;>rw[hc]at hB<;>first|(cases hB;done)|skip);simp only[Zf2,ia,hc]at h;simp only[g9,hc];exact .inl h
 |r ::Z,B,b,x,hZ,hB,h=>by
  have ih:=@uF Z B b x (λs hs=>hZ s (Za6 _ hs)) hB;have hr:=hZ r (Zc2 ..);simp only[Zf3,ia]at h;cases hc:r.c with
  |pure=>rw[hc]at h;exact(ih h).imp (λh=>h) λ⟨s,h1,h2⟩=>⟨s,Za6 _ h1,h2⟩
  |aD _ _=>rw[hc]at hr;cases hr
  | new id aq=>
    rw[hc]at h;by_cases e:id=b
    .   subst e;rw[T.ee]at h;simp only[H0]at h;subst h;exact .inr ⟨r,Zc2 ..,hc⟩
    .   rw[T.br _ e]at h;exact(ih h).imp (λh=>h) λ⟨s,h1,h2⟩=>⟨s,Za6 _ h1,h2⟩
end
section
variable{P:Program}{tt:TT}{C:Cells}{nt:Nat}{ops:Array Oper}{call:ai}{bK:Fr}{h0:T AB}{n0:Pos}{R:List Rec}
theorem around(G:uE tt nt ops call bK h0 n0 R){D:Nat->Prop}{A B:List Rec}{a:Act}(hp:Oj nt ops R D A B a){X Y:List Rec}{r:Rec}(hR:R=X++r::Y)(hD:¬D r.idx):
  ∃Z,A=X++r::Z/\Y=Z++B:=by
 have hrA:r∈A:=by
  have:r∈R:=by rw[hR];simp
  rw[hp.split]at this;exact(Zd8.1 this).resolve_right λh=>hD (hp.inB r h)
 obtain⟨X',Z,hA⟩:=j7 hrA;have h2:R=X'++r::(Z++B):=by rw[hp.split,hA];simp
 obtain⟨rfl,_,rfl⟩:=Ad G.one hR h2 rfl;exact⟨Z,hA,rfl⟩
theorem ZU(G:uE tt nt ops call bK h0 n0 R){jD:Pos->Loc}{w0:World}{D:Nat->Prop}{A B:List Rec}{ρ:Pos->Loc}{a:Act}{w w':World}
   (hI:Inv C nt ops bK h0 n0 R jD w0 D A B ρ a w) {X Y:List Rec} {r:Rec} (hR:R=X++r::Y) (hD:¬D r.idx)
   (ny:∀o e,ops[r.idx]? =some o->e∈o.after->Region.binds .any e=true->D e.on) {o:Oper} (hrel:qW tt nt ops o r.o)
   (hY:∀s∈Y,D s.idx) {st':St} {b0:T AB} (hc:r.c= .aD b0 st'.heap) (GG:r.nx=st'.next) {x:Value}
   (Vq:kT ρ C { heap:=ia h0 Y,next:=cL n0 Y } w r.v st' x w'):
   ∃kO,Inv C nt ops bK h0 n0 R jD w0 (λi=>D i\/i=r.idx) X (r::Y) kO (a.put o.dst x) w':=by
 obtain⟨hp,hI⟩:=hI;obtain⟨dB,hv,hρ1,hle,QW,hE1⟩:=Vq;simp only at hρ1 hle;obtain⟨Z,hA,rfl⟩:=around G hp hR hD;have hZ:∀s∈Z,s.c.kB=false:=λs hs=>hp.Q4 s (by rw[hA];simp[hs]) (hY s (by simp[hs]))
 have T7:∀s∈X,s∈A:=λs hs=>by rw[hA];simp[hs]
 have hXD:∀s∈X,(D s.idx\/s.idx=r.idx)->D s.idx:=λs hs h=>h.resolve_right (G.later hR hs)
 have Q5:(cL n0 B).toNat<=(cL n0 (Z++B)).toNat:=G.xG (X:=X++[r]) (by rw[hR];simp)
 let kO:Pos->Loc:=λb=>if(cL n0 (Z++B)).toNat<=b.toNat/\b.toNat<r.nx.toNat then dB b else ρ b
 have Q6:∀b:Pos,b.toNat<(cL n0 (Z++B)).toNat->Kept n0 R D b:=by
   intro b hb M s T hM e9;left;by_cases hi:s.idx=r.idx
   .obtain⟨_,_,rfl⟩:=Ad G.one hM hR hi;exact hb
   . rcases G.cmp hR hM hi with⟨W,rfl⟩|⟨W,hW⟩
     .  have:=G.Ed hR hM;have:=G.abq hR;omega
     .  exact absurd (hY s (by rw[hW];simp)) e9
 refine⟨kO,⟨by rw[hR],by simp[By,hc,RC.kB],?_,?_,?_,by rw[Act.gI];exact hp.size,by rw[Act.iF];exact hp.defers⟩,λρ' wE=> ?_⟩
 . intro s hs;rcases Za9.1 hs with rfl|hs
   .exact .inr rfl
   .exact .inl (hY s hs)
 .intro s hs e9;exact hp.Q4 s (T7 s hs) (hXD s hs e9)
 . intro i o' e hDi ho he hb;rcases hDi with hDi|rfl
   .exact .inl (hp.closed i o' e hDi ho he hb)
   .exact .inl (ny o' e ho he hb)
 have adu:∀b:Pos,b.toNat<r.nx.toNat->Kept n0 R (λi=>D i\/i=r.idx) b:=by
   (intro b hb M s T hM e9;left;have hi:s.idx≠r.idx:=λe=>e9 (.inr e));rcases G.cmp hR hM hi with⟨W,rfl⟩|⟨W,hW⟩
   .exact Zc5 hb (G.Ed hR hM)
   .exact absurd (.inl (hY s (by rw[hW];simp))) e9
 have hf:∀b,Kept n0 R D b->ρ' b=ρ b:=λb hb=>by rw[wE b (hb.up λ_ h=>.inl h)];refine Za5 ?_;rintro⟨g1,g2⟩;rcases hb X r _ hR hD with h|h<;>omega
 have h:=hI ρ' hf;have Q7:∀b:Pos,b.toNat<r.nx.toNat->ρ' b=dB b:=by
   intro b hb;rcases Zh8 b.toNat (cL n0 (Z++B)).toNat with g|g
   .rw[hf b (Q6 b g),hρ1 b g]
   .rw[wE b (adu b hb)];exact Za8 ⟨g,hb⟩
 have vN:aj ρ' r.nx.toNat C r.v x:=by
   rw[GG]at Q7 ⊢;exact hv.mono Q7 (Za4 _)
 have dY:aV ρ' C { heap:=st'.heap,next:=r.nx } w':=by rw[GG]at Q7 ⊢;exact QW.congr Q7
 have hold:∀s∈X,D s.idx->∀id aq,s.c= .new id aq->∀b y,(ia h0 (Z++B)).get b=some y->(ρ b).aq≠(ρ' id).aq:=by
   intro s hs e9 id aq fH b y hb;obtain⟨g1,g2,g3,g4,g5⟩:=h.N s (T7 s hs) e9 id aq fH;obtain⟨M,T,hM⟩:=j7 (r:=s) (R:=R) (by rw[hR];simp[hs]);rcases uF hZ hp.bound hb with hb|⟨s',kR,ow⟩
   .rw[<-hf b (Q6 b (Zc5 (h.W.live b y hb).1 Q5))];exact g4 b y hb
   . obtain⟨Z1,Z2,rfl⟩:=j7 kR;have Xl:R=(X++r::Z1)++s'::(Z2++B):=(by rw[hR];simp);obtain⟨e1,e2⟩:=G.GF Xl ow;obtain⟨e3,e4⟩:=G.GF hM fH;have hbn:b.toNat<(cL n0 ((Z1++s'::Z2)++B)).toNat:=(by have:=G.zj (X:=X) (r:=r) (Z:=Z1) (r':=s') (Y':=Z2++B) (by rw[hR];simp);rw[e2,Pos.az]at this;simp only[Zi5,Zf3];omega);have hsr:s.idx≠r.idx:=G.later hR hs;have Ly:r.nx.toNat<=id.toNat:=by
        rcases G.cmp hR hM hsr with⟨W,rfl⟩|⟨W,hW⟩
        .rw[e3];exact G.Ed hR hM
        .obtain⟨A1,A2,hX⟩:=j7 hs;have hM2:R=A1++s::(A2++r::((Z1++s'::Z2)++B)):=(by rw[hR,hX];simp);have pT:s∈(Z1++s'::Z2)++B:=(by rw[hW];simp);exact absurd rfl (G.one A1 s _ hM2 s (Zd8.2 (.inr (Za6 _ pT))))
     have cG:b≠id:=(by rintro rfl;have:=G.abq hR;omega);rw[<-hf b (Q6 b hbn)];exact h.N2 s' (by rw[hA];simp) (hY s' (by simp)) b y ow s (T7 s hs) e9 id aq fH cG
 have hEa:je jD { heap:=h0,next:=n0 } w0 ρ { heap:=ia h0 (Z++B),next:=cL n0 (Z++B) } w:=by
   refine⟨h.E.os,h.E.tape,h.E.output,h.E.size,h.E.block,λb y hb=> ?_⟩;rcases uF hZ hp.bound hb with hb|⟨s',kR,ow⟩
   .rw[<-hf b (Q6 b (Zc5 (h.W.live b y hb).1 Q5))];exact h.E.mN b y hb
   .obtain⟨Z1,Z2,rfl⟩:=j7 kR;have Xl:R=(X++r::Z1)++s'::(Z2++B):=(by rw[hR];simp);obtain⟨e1,e2⟩:=G.GF Xl ow;have hbn:b.toNat<(cL n0 ((Z1++s'::Z2)++B)).toNat:=(by have:=G.zj (X:=X) (r:=r) (Z:=Z1) (r':=s') (Y':=Z2++B) (by rw[hR];simp);rw[e2,Pos.az]at this;simp only[Zi5,Zf3];omega);rw[<-hf b (Q6 b hbn)];exact .inr (h.N s' (by rw[hA];simp) (hY s' (by simp)) b y ow).2.2.1
 obtain⟨k1,k2⟩:=Vn G hp h.t1 h.t0 hR hD hrel vN;refine⟨?_,λs hs e9 id aq fH=> ?_,λs hs e9 id aq fH s' kR Ae pR ye ow cG=> ?_,k1,k2,?_,h.zi⟩
 .simp only[g9,hc,cL];exact dY
 . have e9:=hXD s hs e9;obtain⟨g1,g2,g3,g4,g5⟩:=h.N s (T7 s hs) e9 id aq fH;refine⟨g1.of_heap (hE1.block _ g2 (hold s hs e9 id aq fH)),Zc5 g2 hE1.size,g3,λb y hb=> ?_,g5⟩;simp only[g9,hc]at hb;rw[Q7 b (by rw[GG];exact(QW.live b y hb).1)];rcases hE1.mN b y hb with⟨b',y',jf,e⟩|e
   .rw[<-e];exact hold s hs e9 id aq fH b' y' jf
   .omega
 .exact h.N2 s (T7 s hs) (hXD s hs e9) id aq fH s' (T7 s' kR) (hXD s' kR Ae) pR ye ow cG
 . have:=(hEa.trans hE1).congr (ρ':=ρ') λb y hb=>Q7 b (by rw[GG];exact(QW.live b y hb).1)
   simp only[g9,hc,cL];exact⟨this.os,this.tape,this.output,this.size,this.block,this.mN⟩
end
section
variable{P:Program}{tt:TT}{C:Cells}{nt:Nat}{ops:Array Oper}{call:ai}{bK:Fr}{h0:T AB}{n0:Pos}{R:List Rec}
theorem xH{ρ:Pos->Loc}{n:Pos}{w:World}(hC:∀ad v,C ad=some v->w.cell? ad=some v)(Xn:∀a v,C a=some v->∀o,C ⟨a.block,o,none⟩=none->w.cell? ⟨a.block,o,none⟩=none):aV ρ C { heap:= .e,next:=n } w where
 live b x hb:=by rw[T.cY]at hb;cases hb
 inj b b' x x' hb:=by rw[T.cY]at hb;cases hb
 cZ a v ha:=⟨hC a v ha,λb x hb=>by rw[T.cY]at hb;cases hb⟩
 whole:=Xn
theorem Yields.eq{N:Next}{x y:Value}(h:Yields N x)(k:Yields N y):x=y:=by
 rcases h with rfl|⟨rfl,rfl⟩<;>rcases k with k|⟨k,rfl⟩
 .simp only[Next.value.injEq]at k;exact k
 .cases k
 .cases k
 .rfl
theorem kN.ZV{ρ ρ':Pos->Loc}{n n':Nat}{L:Loc}{w:World}{s:List Nat}{p:Nat}(h:kN ρ n C L w (.iJ s p)):kN ρ' n' C L w (.iJ s p):=h
theorem Xo(hT:bH P tt){o:Oper}{k:ay}{xs:List dK}{cls:TM}(hc:fy tt o.op=some (k,xs,cls)){n:Pos}{vs:List AV}{v:AV}{aq:AB}
  (hr:k.run (λ_=>none) n vs=some (.aD v none none (some aq))) {fr:Fr} (hx:dL fr xs=some vs) {a:Act} {w:World} {T8:(Pos->Loc)->Prop} {ρ:Pos->Loc} (aR:T8 ρ)
  (hF:∀ρ',T8 ρ'->eJ ρ' n.toNat C fr a.tmps) (hC:∀ad v,C ad=some v->w.cell? ad=some v) (Xn:∀a v,C a=some v->∀o,C ⟨a.block,o,none⟩=none->w.cell? ⟨a.block,o,none⟩=none):
  ∃ N x w' L,(execOp a.eval o).run P w= .ok N w'/\Yields N x/\w.heap.size<=L.aq/\L.aq<w'.heap.size/\w'.os=w.os/\w'.tape=w.tape/\w'.output=w.output/\
    (∀k,k<w.heap.size->w'.heap[k]? =w.heap[k]?)/\∀ρ',T8 ρ'->ρ' n=L->aj ρ' n.succ.toNat C v x/\kN ρ' n.succ.toNat C L w' aq:=by
 have bQ:k.run (λb=>T.get b (T.e:T AB)) n vs=some (.aD v none none (some aq)):=by
  have e:(λb=>T.get b (T.e:T AB))=λ_=>none:=by funext b;exact T.cY b
  rw[e];exact hr
 have H:=λρ' (hf:T8 ρ')=>It hT o.op ρ' C { heap:= .e,next:=n } w k xs cls fr a o vs _ rfl hc (xH hC Xn) (hF ρ' hf) hx bQ
 have key:∀ρ',T8 ρ'->∃N x w' dB,(execOp a.eval o).run P w= .ok N w'/\Yields N x/\(∀b:Pos,b.toNat<n.toNat->dB b=ρ' b)/\aj dB n.succ.toNat C v x/\
    kN dB n.succ.toNat C (dB n) w' aq/\w.heap.size<=(dB n).aq/\(dB n).aq<w'.heap.size/\w'.os=w.os/\w'.tape=w.tape/\w'.output=w.output/\
    (∀k,k<w.heap.size->w'.heap[k]? =w.heap[k]?):=by
  intro ρ' hf;obtain⟨N,x,w',dB,he,hy,h1,h2,h3,h4⟩:=H ρ' hf;have hg:(St.aD { heap:= .e,next:=n } none none (some aq)).heap.get n=some aq:=T.ee _ _ _;obtain⟨g1,g2,g3⟩:=h2.live n aq hg;refine⟨N,x,w',dB,he,hy,h1,h3,g3,?_,g2,h4.os,h4.tape,h4.output,λk hk=>h4.block k hk λb x hb=> ?_⟩
  . rcases h4.mN n aq hg with⟨b',x',jf,_⟩|h
    .   rw[T.cY]at jf;cases jf
    .   exact h
  .rw[T.cY]at hb;cases hb
 obtain⟨N,x,w',dB,he,hy,h1,h2,h3,h4,h5,h6,h7,h8,h9⟩:=key ρ aR;refine⟨N,x,w',dB n,he,hy,h4,h5,h6,h7,h8,h9,λρ' hf hL=> ?_⟩;obtain⟨N',x',w'',kO,jP,Om,k1,k2,k3,_⟩:=key ρ' hf;rw[he]at jP;simp only[Result.ok.injEq]at jP;obtain⟨rfl,rfl⟩:=jP;have Q8:=hy.eq Om;subst Q8;have Vr:n.toNat<n.succ.toNat:=by rw[Pos.az];omega
 have zi:(kO n).aq=(dB n).aq->(kO n).base=(dB n).base->((∃cs fz,aq= .cells cs fz)\/∃t cs,aq= .typed t cs)->aj ρ' n.succ.toNat C v x/\kN ρ' n.succ.toNat C (dB n) w' aq:=by
  intro e1 e2 rM;have e3:(kO n).size=(dB n).size:=by
    rcases rM with⟨cs,fz,rfl⟩|⟨t,cs,rfl⟩
    .   obtain⟨c,e,fr,g1,g2,_⟩:=h3;obtain⟨c',e',aY,Af,Xp,_⟩:=k3;rw[e1,g1]at Af;simp only[H0,Obj.cells.injEq]at Af;rw[<-g2, <-Xp,Af.1]
    .   obtain⟨c,fr,g1,g2,_⟩:=h3;obtain⟨c',aY,Af,Xp,_⟩:=k3;rw[e1,g1]at Af;simp only[H0,Obj.cells.injEq]at Af;rw[<-g2, <-Xp,Af.1]
  have e4:kO n=dB n:=by
    cases hh:kO n;cases hh':dB n;rw[hh,hh']at e1 e2 e3;simp only at e1 e2 e3;rw[e1,e2,e3]
  have fT:∀b:Pos,b.toNat<n.succ.toNat->ρ' b=kO b:=by
    intro b hb;rcases Zh8 b.toNat n.toNat with g|g
    .   exact(k1 b g).symm
    .   have:b=n:=Pos.toNat_inj (by rw[Pos.az]at hb;omega);subst this;rw[hL,e4]
  refine⟨k2.mono fT (Za4 _),?_⟩;rw[<-e4];exact k3.mono fT (Za4 _)
 cases abQ hr with
 |ptr cs=>
  obtain⟨_,g1⟩:=h2.ei;obtain⟨_,g2⟩:=k2.ei;rw[g1]at g2;simp only[Value.pointer.injEq,H0,Addr.mk.injEq,Zf0,Zl6]at g2;exact zi g2.1.symm g2.2.symm (.inl ⟨cs,0,rfl⟩)
 |ptrT t cs=>
  obtain⟨_,g1⟩:=h2.ei;obtain⟨_,g2⟩:=k2.ei;rw[g1]at g2;simp only[Value.pointer.injEq,H0,Addr.mk.injEq,Zf0,Zl6]at g2;exact zi g2.1.symm g2.2.symm (.inr ⟨t,cs,rfl⟩)
 |Xk len t cs hl=>
  obtain⟨ad,aG,g1,g2,g3,g4⟩:=h2.cO;obtain⟨ad',Vt,Af,Xp,g3',g4'⟩:=k2.cO;rw[g1]at Af;simp only[Value.slice.injEq,H0,true_and]at Af;obtain⟨rfl,rfl⟩:=Af;obtain⟨_,a1,_⟩:=g4 (by omega);obtain⟨_,a2,_⟩:=g4' (by omega);rw[a1]at a2;simp only[Addr.mk.injEq,Zf0,Zl6]at a2;exact zi a2.1.symm a2.2.symm (.inr ⟨t,cs,rfl⟩)
 |iJ s=>
  obtain⟨_,g1⟩:=h2.ei;refine⟨?_,h3.ZV⟩;rw[g1, <-hL];exact .ptr n 0 Vr
 |slice len es cap cs fH=>
  obtain⟨ad,aG,g1,g2,g3,g4⟩:=h2.cO;obtain⟨ad',Vt,Af,Xp,g3',g4'⟩:=k2.cO;rw[g1]at Af;simp only[Value.slice.injEq,H0,true_and]at Af;obtain⟨rfl,rfl⟩:=Af;by_cases h0:aG=0
  . subst h0;have Xb:len=0:=(by omega);have hcs0:cs=[]:=fH Xb (by
        cases cap with
        |none=>exact .inl rfl
        |some c=>exact .inr (by rw[g3 c rfl]))
    subst hcs0;refine⟨?_,?_⟩
    .   rw[g1];exact .slice n 0 len cap es 0 ad g2 g3 (λh=>absurd rfl h) (λ_=>Vr)
    .   obtain⟨c,e,fr,q1,q2,q3,q4,q5⟩:=h3;exact⟨c,e,fr,q1,q2,q3,av.nil,q5⟩
  .obtain⟨_,a1,_⟩:=g4 h0;obtain⟨_,a2,_⟩:=g4' h0;rw[a1]at a2;simp only[Addr.mk.injEq,Zf0,Zl6]at a2;exact zi a2.1.symm a2.2.symm (.inl ⟨cs,0,rfl⟩)
 |map=>
  obtain⟨_,g1⟩:=h2.tQ;refine⟨?_,?_⟩
  .rw[g1, <-hL];exact .map n Vr
  .obtain⟨es',q1,q2,q3⟩:=h3;exact⟨es',q1,q2,λi e e' he=>by simp at he⟩
end
section
variable{P:Program}{tt:TT}{C:Cells}{nt:Nat}{ops:Array Oper}{call:ai}{bK:Fr}{h0:T AB}{n0:Pos}{R:List Rec}
def r9(fr:Fr):List Pos->Fr
 |[]=>.e
 |p::l=>(r9 fr l).put (fr.get p) p
theorem On{fr:Fr}{p:Pos}:∀{l:List Pos},p∈l->(r9 fr l).get p=fr.get p
 |[],h=>by cases h
 |q ::l,h=>by
  simp only[r9];by_cases e:q=p
  .subst e;exact T.ee _ _ _
  .rw[T.br _ e];exact On ((Za9.1 h).resolve_left λh=>e h.symm)
theorem Jp{fr:Fr}{p:Pos}{v:AV}:∀{l:List Pos},(r9 fr l).get p=some v->p∈l/\fr.get p=some v
 |[],h=>by simp only[r9]at h;rw[T.cY]at h;cases h
 |q ::l,h=>by
  simp only[r9]at h;by_cases e:q=p
  .subst e;rw[T.ee]at h;exact⟨by simp,h⟩
  .rw[T.br _ e]at h;obtain⟨h1,h2⟩:=Jp h;exact⟨by simp[h1],h2⟩
theorem Oo{fr:Fr}{l:List Pos}:∀{xs:List dK},(∀p,dK.t p∈xs->p∈l)->dL (r9 fr l) xs=dL fr xs
 |[],_=>rfl
 |x::xs,h=>by
  have h1:xC (r9 fr l) x=xC fr x:=by
   cases x with
   |t p=>exact On (h p (by simp))
   |c v=>rfl
  simp only[dL,h1,Oo λp hp=>h p (Za6 _ hp)]
theorem Xq{o:bk}{p:Pos}(h:dK.t p∈o.xs):p∈o.looks:=by
 unfold bk.looks;exact Zi3 _ (Zl2.2 ⟨_,h,rfl⟩)
theorem Te{o:bk}{p:Pos}{q:Bool}(h:o.guard=some (p,q)):p∈o.looks:=by unfold bk.looks;rw[h];simp
theorem Yields.upon{K:Value->World->Prop}{N:Next}{x:Value}{w:World}(h:Yields N x)(hk:K x w):Reaches P K (.ok N w):=by rcases h with rfl|⟨rfl,rfl⟩<;>exact hk
theorem ZW(hT:bH P tt)(bE:ey P C call)(G:uE tt nt ops call bK h0 n0 R){jD:Pos->Loc}{w0:World}{D:Nat->Prop}{A B:List Rec}{ρ:Pos->Loc}{a:Act}{w:World}
  (hI:Inv C nt ops bK h0 n0 R jD w0 D A B ρ a w) {i:Nat} (hi:i<ops.size) (hD:¬D i)
  (ny:∀o e,ops[i]? =some o->e∈o.after->Region.binds .any e=true->D e.on):
  zZ P ops i (λa' w'=>∃A' B' ρ',Inv C nt ops bK h0 n0 R jD w0 (λj=>D j\/j=i) A' B' ρ' a' w') a w:=by
 obtain⟨r,hr,rfl⟩:=G.all i hi;obtain⟨X,Y,hR⟩:=j7 hr;obtain⟨o,ho,hrel,hB⟩:=G.rel r hr;have hp:=hI.1;have MY:∀b,r.o.bu.testBit b=true->D b:=λb hb=>G.LA hp.closed (hB.2 b hb) ny
 obtain⟨Z,hA,Oq⟩:=around G hp hR hD;have Ee:∀ρ',(∀b,Kept n0 R D b->ρ' b=ρ b)->∀p v,p∈r.o.looks->(kV bK Y).get p=some v->∃x,a.tmps[p.toNat - 1]? =some x/\aj ρ' (cL n0 Y).toNat C v x:=
  λρ' hf p v hl hv=>look G hp (hI.2 ρ' hf).t1 (hI.2 ρ' hf).t0 hR hD MY hl hv
 have hFR:∀ρ',(∀b,Kept n0 R D b->ρ' b=ρ b)->eJ ρ' (cL n0 Y).toNat C (r9 (kV bK Y) r.o.looks) a.tmps:=λρ' hf p v hv=>
  let⟨h1,h2⟩:=Jp hv;Ee ρ' hf p v h1 h2
 have Ef:∀b,Kept n0 R D b->ρ b=ρ b:=λ_ _=>rfl
 have hw:∀b,bG (kV bK Y) r.o.guard=some b->Region.wanted o (yielded ops a.tmps)=b:=λb hb=>
  z8 hrel.guard (λp v hv ⟨q,hq⟩=>Ee ρ Ef p v (Te hq) hv) hb
 have hnZ:∀s∈Z,s.nx.toNat<=(cL n0 Y).toNat:=λs hs=>by obtain⟨Z1,Z2,rfl⟩:=j7 hs;have:=G.zj (X:=X) (r:=r) (Z:=Z1) (r':=s) (Y':=Z2++B) (by rw[hR,Oq];simp);rw[Oq];simp only[Zi5,Zf3];exact this
 have Q5:(cL n0 B).toNat<=(cL n0 Y).toNat:=by rw[Oq];exact G.xG (X:=X++[r]) (by rw[hR,Oq];simp)
 have hs:=Good.at (hR ▸G.J9);have hex:∀xs,dL (kV bK Y) r.o.xs=some xs->dL (r9 (kV bK Y) r.o.looks) r.o.xs=some xs:=λxs hx=>by rw[Oo λp hp=>Xq hp];exact hx
 unfold zZ;simp only[ho];generalize hrr:r=r0 at*
 cases hs with
 |skip i' o' _ hw'=>
  rw[Za5 (by rw[hw _ hw'];simp)];exact⟨A,B,ρ,Ol G hI hR hD ny hrel rfl λρ' _=> .Oe⟩
 |pure i' o' v xs _ hw' hx Oi=>
  rw[Za8 (hw _ hw')];rw[Oq]at Oi;obtain⟨h,Ce,bQ⟩:=Oi Z B rfl hp.bound λs hs he=>by
    cases hb:o'.bu.testBit s.idx with
    |false=>rfl
    |   true=>
        have h1:=hp.Q4 s (by rw[hA];simp[hs]) (MY _ hb);rw[h1]at he;cases he
  rcases hrel.op with hc|⟨hk,_⟩
  . have H:∀ρ',(∀b,Kept n0 R D b->ρ' b=ρ b)->∃N x,(execOp a.eval o).run P w= .ok N w/\Yields N x/\aj ρ' (cL n0 Y).toNat C v x:=by
        intro ρ' hf;have hW:=Vp G (hI.2 ρ' hf) hp.split (hp:=h) Q5 λb y hb=>(Ce b y hb).imp (λh=>h) λ⟨s,h1,h2,h3⟩=>
          ⟨s,by rw[hA];simp[h1],MY _ h3,h2,hnZ s h1⟩
        exact It hT o.op ρ' C _ w _ _ _ _ a o _ _ rfl hc hW (hFR ρ' hf) (hex xs hx) (ZO bQ λ_ _ h=>h)
    obtain⟨N,x,he,hy,hv⟩:=H ρ Ef;unfold MU;rw[he];refine hy.upon ⟨A,B,ρ,Ol G hI hR hD ny hrel rfl λρ' hf=> ?_⟩;obtain⟨N',x',jP,Om,vN⟩:=H ρ' hf;rw[he]at jP;simp only[Result.ok.injEq,Zl6]at jP;subst jP;rw[hy.eq Om];exact vN
  .rw[hk]at bQ;cases bQ
 |new   i' o' v aq xs _ hw' hx bQ=>
  rw[Za8 (hw _ hw')];rcases hrel.op with hc|⟨hk,_⟩
  . obtain⟨N,x,w',L,he,hy,h1,h2,h3,h4,h5,h6,h7⟩:=Xo hT hc bQ (hex xs hx) (T8:=λρ'=>∀b,Kept n0 R D b->ρ' b=ρ b) Ef hFR
        (λad v ha=>((hI.2 ρ Ef).W.cZ ad v ha).1) (hI.2 ρ Ef).W.whole
    unfold MU;rw[he];exact hy.upon ⟨A,B,_,ZR G hI hR hD ny hrel rfl h1 h2 h3 h4 h5 h6 h7⟩
  .rw[hk]at bQ;cases bQ
 |aD i' o' v st' xs _ ZP hw' hx jg=>
  rw[Za8 (hw _ hw')];rcases hrel.op with hc|⟨hk,_⟩
  . have hY:∀s∈Y,D s.idx:=λs hs=>MY _ (G.aD X _ Y hR ZP s hs)
    have hZ:∀s∈Z,s.c.kB=false:=λs hs=>hp.Q4 s (by rw[hA];simp[hs]) (hY s (by rw[Oq];simp[hs]))
    have hW:aV ρ C { heap:=ia h0 Y,next:=cL n0 Y } w:=Vp G (hI.2 ρ Ef) hp.split Q5 λb y hb=>by
        rw[Oq]at hb;rcases uF hZ hp.bound hb with hb|⟨s,h1,h2⟩
        .exact .inl hb
        .exact .inr ⟨s,by rw[hA];simp[h1],hY s (by rw[Oq];simp[h1]),h2,hnZ s h1⟩
    have hre:=Jm hT bE hc hW (hFR ρ Ef) (hex xs hx) jg;(refine hre.mono λx w' Vq=> ?_);obtain⟨kO,h⟩:=ZU G hI hR hD ny hrel hY rfl rfl Vq;exact⟨_,_,kO,h⟩
  .exact(Reaches.bad hk jg).elim
end
section
variable{P:Program}{tt:TT}{C:Cells}{nt:Nat}{ops:Array Oper}{call:ai}{bK:Fr}{h0:T AB}{n0:Pos}{R:List Rec}
theorem Ot(G:uE tt nt ops call bK h0 n0 R){jD:Pos->Loc}{w0:World}{D:Nat->Prop}{A B:List Rec}{ρ:Pos->Loc}{a:Act}{w:World}
   (hI:Inv C nt ops bK h0 n0 R jD w0 D A B ρ a w) (fT:∀r∈R,D r.idx):eP nt jD C { heap:=h0,next:=n0 } w0 (kV bK R) { heap:=ia h0 R,next:=cL n0 R } a w:=by
 obtain⟨hp,hI⟩:=hI;have h:=hI ρ λ_ _=>rfl
 have hZ:∀s∈A,s.c.kB=false:=λs hs=>hp.Q4 s hs (fT s (by rw[hp.split];simp[hs]))
 have hnA:∀s∈A,s.nx.toNat<=(cL n0 R).toNat:=λs hs=>by obtain⟨Z1,Z2,hA⟩:=j7 hs;have:=G.xG (X:=[]) (Y:=Z1) (Z:=s::(Z2++B)) (by rw[hp.split,hA];simp);have e:R=Z1++s::(Z2++B):=(by rw[hp.split,hA];simp);rw[<-e]at this;exact this
 have Q5:(cL n0 B).toNat<=(cL n0 R).toNat:=by
   have:=G.xG (X:=[]) (Y:=A) (Z:=B) (by rw[hp.split];simp)
   rwa [<-hp.split]at this
 have Jl:n0.toNat<=(cL n0 R).toNat:=G.Vm (X:=[]) rfl;have Ce:∀b x,(ia h0 R).get b=some x->(g9 h0 B).get b=some x\/∃s∈A,D s.idx/\s.c= .new b x/\s.nx.toNat<=(cL n0 R).toNat:=λb x hb=>by
   rw[hp.split]at hb;rcases uF hZ hp.bound hb with hb|⟨s,h1,h2⟩
   .exact .inl hb
   .exact .inr ⟨s,h1,fT s (by rw[hp.split];simp[h1]),h2,hnA s h1⟩
 refine⟨ρ,⟨Vp G h hp.split Q5 Ce,?_,hp.size,hp.defers⟩,h.zi,Jl,?_⟩
 . intro p v hv;rcases Gx R p v hv with⟨M,s,T,hM,h2,rfl,h3⟩|⟨h1,h2⟩
   . obtain⟨x,hx,Gy⟩:=h.t1 M s T p hM (fT s (by rw[hM];simp)) h2 λs' kR _=>h3 s' kR
     refine⟨x,hx,Gy.mono (λ_ _=>rfl) ?_⟩;have:=G.xG (X:=[]) (Y:=M) (Z:=s::T) (by rw[hM];simp);rw[<-hM]at this;exact this
   . obtain⟨x,hx,Gy⟩:=h.t0 p v h1 λs hs _=>h2 s hs
     exact⟨x,hx,Gy.mono (λ_ _=>rfl) Jl⟩
 . refine⟨h.E.os,h.E.tape,h.E.output,h.E.size,h.E.block,λb x hb=> ?_⟩;rcases Ce b x hb with hb|⟨s,h1,h2,h3,_⟩
   .exact h.E.mN b x hb
   .exact .inr (h.N s h1 h2 b x h3).2.2.1
def DL(listed:Array Bool)(j:Nat):Prop:=listed.getD j false=true
theorem Xr{listed:Array Bool}{i:Nat}(hi:i<listed.size):(λj=>DL listed j\/j=i)=DL (listed.setIfInBounds i true):=by
 funext j;apply propext;unfold DL;by_cases h:j=i
 .subst h;simp[hi]
 .rw[getD_set_ne false (Ne.symm h)];simp[h]
theorem Q9{listed:Array Bool}{j:Nat}(h:listed.getD j true=false):¬DL listed j:=by
 unfold DL;intro h';rcases Zh8 j listed.size with hj|hj
 .simp[hj]at h h';rw[h]at h';cases h'
 .simp[Array.getElem?_eq_none hj]at h'
theorem abS{listed:Array Bool}{j:Nat}(hj:j<listed.size)(h:¬DL listed j):listed.getD j true=false:=by unfold DL at h;simp[hj]at h ⊢; exact h
theorem GH(G:uE tt nt ops call bK h0 n0 R){listed:Array Bool}(hs:listed.size=ops.size)(hr:Region.ready .any ops listed=[]):∀(Y X:List Rec),R=X++Y->∀r∈Y,DL listed r.idx
 |[],_,_,r,o6=>by cases o6
 |r ::Y  ,X,hR,r',o6=>by
  have ih:=GH G hs hr Y (X++[r]) (by rw[hR];simp);rcases Za9.1 o6 with rfl|o6
  . obtain⟨o,ho,_,hB⟩:=G.rel r' (by rw[hR];simp);have aU:r'.idx<ops.size:=(Zc9.1 ho).1;by_cases h:DL listed r'.idx
    .   exact h
    .   exfalso;have:r'.idx∈Region.ready .any ops listed:=mem_ready.2 ⟨abS (by omega) h,o,ho,λe he hb=>by obtain⟨s,h1,h2⟩:=G.bu X r' Y hR _ (hB.1 o ho e he hb);have:=ih s h1;rw[h2]at this;exact this⟩;rw[hr]at this;cases this
  .exact ih r' o6
theorem Ou(hT:bH P tt)(bE:ey P C call)(G:uE tt nt ops call bK h0 n0 R){Q:Exit->Act->World->Prop}{jD:Pos->Loc}{w0:World}
  (hQ:∀a' w',eP nt jD C { heap:=h0,next:=n0 } w0 (kV bK R) { heap:=ia h0 R,next:=cL n0 R } a' w'->Q .normal a' w'):
  ∀ (fuel:Nat)(listed:Array Bool)(U:List Nat)(A B:List Rec)(ρ:Pos->Loc)(a:Act)(w:World),listed.size=ops.size->U.length<=fuel->U.Nodup->(∀j,j<ops.size->¬DL listed j->j∈U)->
    Inv C nt ops bK h0 n0 R jD w0 (DL listed) A B ρ a w->P1 P ops (Q .normal) fuel listed a w
 |0,listed,U,A,B,ρ,a,w,hs,hU,_,hm,hI=>by
  have hU0:U=[]:=Zb1 (by omega);subst hU0;have hr:Region.ready .any ops listed=[]:=by
    cases h:Region.ready .any ops listed with
    |nil=>rfl
    |   cons i l=>
        have hi:i∈Region.ready .any ops listed:=(by rw[h];simp);obtain⟨h1,o,ho,_⟩:=mem_ready.1 hi;have:=hm i (Zc9.1 ho).1 (Q9 h1);cases this
  exact⟨hr,hQ a w (Ot G hI (GH G hs hr R [] rfl))⟩
 |fuel+1,listed,U,A,B,ρ,a,w,hs,hU,Fl,hm,hI=>by
  refine⟨λhr=>hQ a w (Ot G hI (GH G hs hr R [] rfl)),λi hi=> ?_⟩;obtain⟨h1,o,ho,h2⟩:=mem_ready.1 hi;have aU:i<ops.size:=(Zc9.1 ho).1;have jg:=ZW hT bE G hI aU (Q9 h1) λo' e Bw he hb=>by rw[ho]at Bw;simp only[H0]at Bw;subst Bw;exact h2 e he hb
  refine Ob (λa' w' hh=> ?_) jg;obtain⟨A',B',ρ',hI'⟩:=hh;rw[Xr (by omega)]at hI';have hiU:i∈U:=hm i aU (Q9 h1);refine Ou hT bE G hQ fuel _ (U.erase i) A' B' ρ' a' w' (by simp[hs]) ?_ (Fl.erase i) (λj hj hD=> ?_) hI'
  .rw[List.length_erase_of_mem hiU];omega
  . (rw[<-Xr (by omega)]at hD;have cG:j≠i:=λe=>hD (.inr e));exact(List.mem_erase_of_ne cG).2 (hm j hj λh=>hD (.inl h))
theorem Eg(hm:P.follows .mixedOrders=true)(hT:bH P tt)(bE:ey P C call)(adv:kU call):o7 P tt C call:=by
 intro nt id ops l Q fr aY st st' ρ a w hl dH h hS hQ;obtain⟨R,hG,hmap,Jc,adw,GG⟩:=Lz (call:=call) (bK:=fr) (h0:=st.heap) (n0:=st.next) _ [] fr aY st st' h trivial rfl rfl rfl;simp only[Ze8]at hG Jc adw GG;have hst':st'={ heap:=ia st.heap R,next:=cL st.next R }:=by cases st';simp_all
 have hlen:l.length=ops.size:=by rw[(mQ hl).1,Zf1]
 have LB:=Jo _ 0 [] dH λb=>by simp
 have hL:sW (zP 0 l) []=(R.map λr=>(r.idx,r.o)).reverse:=by rw[hmap,List.reverse_reverse]
 have dec:∀{A B:List Rec}{r:Rec},R=A++r::B->sW (zP 0 l) []=(B.map λr=>(r.idx,r.o)).reverse++(r.idx,r.o)::(A.map λr=>(r.idx,r.o)).reverse:=λe=>by rw[hL,e];simp
 have Cf:∀{B:List Rec}{i:Nat},i∈((B.map λr=>(r.idx,r.o)).reverse).map (·.1)↔ ∃r∈B,r.idx=i:=λ{B i}=>by simp
 have G:uE tt nt ops call fr st.heap st.next R:=by
   refine⟨hG,adv,λA r B e r' o6 hi=> ?_,λA r B e b hb=> ?_,λA r B e hc r' o6=> ?_,λA r B e r' o6=> ?_,λr hr=> ?_,λi hi=> ?_⟩
   .exact(LB.one _ _ _ _ (dec e)).2 (Cf.2 ⟨r',o6,hi⟩)
   . rcases LB.bu _ _ _ _ (dec e) b hb with h|h
     .cases h
     .exact Cf.1 h
   .exact LB.aD _ _ _ _ (dec e) hc _ (.inr (Cf.2 ⟨r',o6,rfl⟩))
   .exact LB.apart _ _ _ _ (dec e) (r'.idx,r'.o) (by simp;exact⟨r',o6,rfl,rfl⟩)
   .obtain⟨A,B,e⟩:=j7 hr;have hx:(r.idx,r.o)∈sW (zP 0 l) []:=(by rw[dec e];simp);have h1:=abR hx;obtain⟨o,h2,h3,h4⟩:=wD hl _ _ h1;refine⟨o,h2,h3,?_⟩;rw[h4];exact TZ ops.toList [] rfl (Zj5 _) (λi hi=>by simp at hi) _ (Zc9.1 h2).1
   . rcases LB.all i (by rw[hlen];exact hi)with h|h
     .cases h
     .rw[hL]at h;exact Cf.1 h
 refine⟨hm,?_⟩;rw[hst',Jc]at hQ;have Ra:∀b:Pos,b.toNat<st.next.toNat->∀D,Kept st.next R D b:=λb hb D A r B e _=>.inl (Zc5 hb (G.Vm (X:=A++[r]) (by rw[e];simp)))
 refine Ou (Q:=Q) (jD:=ρ) (w0:=w) hT bE G hQ ops.size _ (List.range ops.size) R [] ρ a _ (by simp) (by simp) List.nodup_range (λj hj _=>Zk4.2 hj) ?_;have kq:∀j,¬DL (Array.replicate ops.size false) j:=λj h=>by
   unfold DL at h;rcases Zh8 j ops.size with hj|hj
   .simp[hj]at h
   .simp[Nat.not_lt.2 hj]at h
 refine⟨⟨by simp,trivial,(λr hr=>by cases hr),λr _ hD=>absurd hD (kq _),λi _ _ hD=>absurd hD (kq _),hS.size,hS.defers⟩,λρ' wE=> ?_⟩;have nh:∀b:Pos,b.toNat<st.next.toNat->ρ' b=ρ b:=λb hb=>wE b (Ra b hb _)
 have hW:aV ρ' C st { w with drawn:=w.drawn+1 }:=(hS.W.congr nh).grow (Za4 _) λ_ _=>rfl
 refine⟨hW,λr _ hD=>absurd hD (kq _),λr _ hD=>absurd hD (kq _),λM s T p _ hD=>absurd hD (kq _),λp v hv _=> ?_,⟨rfl,rfl,rfl,Za4 _,λ_ _ _=>rfl,λb x hb=>.inl ⟨b,x,hb,?_⟩⟩,nh⟩
 .obtain⟨x,hx,Gy⟩:=hS.F p v hv;exact⟨x,hx,Gy.mono nh (Za4 _)⟩
 .rw[nh b (hS.W.live b x hb).1]
theorem DF(hm:P.follows .mixedOrders=true)(hT:bH P tt){O:dQ}{G:T cj}(hO:oc P C O)(GJ:jU O)(hG:KV P tt G)(m d:Nat):ey P C (oe O G m d):=
 Jn hT hO hG m (λd bE=>Eg hm hT bE (D7 GJ m d)) d
end
end
section
section
variable{R:Type}
theorem qY{α:Type}:∀(p:Pos)(t:T α),kP p t=t.get p
 |.h,.e=>rfl
 |.h,.n _ _ _=>rfl
 |.o _,.e=>rfl
 |.o p,.n l _ _=>qY p l
 |.i _,.e=>rfl
 |.i p,.n _ _ r=>qY p r
theorem gM{α:Type}(x:Option α):∀(p:Pos)(t:T α)(k:T α->R),mO x p t k=k (t.put x p)
 |.h,.e,_=>rfl
 |.h,.n _ _ _,_=>rfl
 |.o p,.e,k=>gM x p .e _
 |.o p,.n l _ _,k=>gM x p l _
 |.i p,.e,k=>gM x p .e _
 |.i p,.n _ _ r,k=>gM x p r _
theorem xj(n:Nat)(k:Nat->R):mP n k=k n:=by cases n<;>rfl
theorem Tf(n:Int)(k:Int->R):JZ n k=k n:=by cases n<;>simp only[JZ,xj]
theorem Rb(b:Bool)(k:Bool->R):NV b k=k b:=by cases b<;>rfl
theorem BB{α:Type}:∀(l:List α)(k:List α->R),uA l k=k l
 |[],_=>rfl
 |a::l,k=>BB l λt=>k (a::t)
theorem Cg:∀(p:Pos)(k:Pos->R),DR p k=k p
 |.h,_=>rfl
 |.o p,k=>Cg p λq=>k (.o q)
 |.i p,k=>Cg p λq=>k (.i q)
theorem Xs(o:Option Nat)(k:Option Nat->R):Qv o k=k o:=by
 cases o with
 |none=>rfl
 |some n=>simp only[Qv,xj]
theorem Ov(v:AV)(k:AV->R):Gl v k=k v:=by
 cases v<;>simp only[Gl,Rb,Tf,BB,Cg,xj,Xs]
theorem Eh:∀(l:List AV)(k:List AV->R),Ir l k=k l
 |[],_=>rfl
 |a::l,k=>by
  show Gl a (λa=>Ir l λt=>k (a::t))=_;rw[Ov,Eh l]
theorem BC(v:AV)(k:AV->R):oY v k=k v:=by
 unfold oY;split
 .exact Eh _ _
 .exact Ov _ _
theorem Ei(x:AB)(k:AB->R):zE x k=k x:=by
 cases x<;>simp only[zE,BB,xj]
theorem Ej:∀(p:Pos)(k:Pos->R),K7 p k=k p.succ
 |.h,_=>rfl
 |.o _,_=>rfl
 |.i p,k=>Ej p λq=>k (.o q)
variable(z:R)
def mR{α:Type}(r:Option α)(k:α->R):R:=match r with
 |some x=>k x
 |none=>z
theorem GK(fr:Fr)(x:dK)(k:AV->R):NW z fr x k=mR z (xC fr x) k:=by
 cases x with
 |t p=>simp only[NW,qY,xC,mR];cases T.get p fr<;>rfl
 |c v=>rfl
theorem Iv(fr:Fr):∀(xs:List dK)(k:List AV->R),J0 z fr xs k=mR z (dL fr xs) k
 |[],k=>rfl
 |x::xs,k=>by
  show NW z fr x (λv=>J0 z fr xs λvs=>k (v::vs))=_;rw[GK];simp only[Iv fr xs];simp only[dL];cases xC fr x with
  |none=>rfl
  |some v=>simp only[mR];cases dL fr xs<;>rfl
theorem LC(fr:Fr)(g:Option (Pos×Bool))(yes no:R):zF z fr g yes no=match bG fr g with
  |some true=>yes
  |some false=>no
  |none=>z:=by
 unfold zF bG;cases g with
 |none=>rfl
 |some g=>
  obtain⟨p,want⟩:=g;simp only[qY];cases T.get p fr with
  |none=>rfl
  |some v=>
   (cases v<;>try rfl);rename_i b;cases b<;>cases want<;>rfl
theorem LD(fr:Fr)(d:Option Pos)(v:AV)(k:Fr->R):jK fr d v k=k (cH fr d v):=by
 cases d with
 |none=>rfl
 |some p=>exact gM _ _ _ _
theorem abT(st:St)(del:Option Pos)(set:Option (Pos×AB))(new:Option AB)(k:St->R):Zt st del set new k=k (st.aD del set new):=by
 have hdel:∀(h:T AB)(k:T AB->R),delK del h k=k (B5 del h):=λh k=>by
  cases del with
  |none=>rfl
  |some b=>exact gM _ _ _ _
 have DY:∀(h:T AB)(k:T AB->R),Zs set h k=k (DO set h):=λh k=>by
  cases set with
  |none=>rfl
  |some b=>simp only[Zs,Ei,gM];rfl
 unfold Zt;rw[hdel,DY];cases new with
 |none=>rfl
 |some x=>simp only[Ei,gM,Ej];rfl
def CK(bf:gR R)(call:ai):Prop:=∀f args st k,bf f args st k=mR z (call f args st) λx=>k x.1 x.2
variable{bf:gR R}{call:ai}
theorem Ek(h:T AB):(λb=>kP b h)=λb=>h.get b:=funext λb=>qY b h
theorem Rc(hc:CK z bf call)(op:ay)(xs:List AV)(st:St)(k:AV->St->R):Is z bf op xs st k=mR z (bS call op xs st) λx=>k x.1 x.2:=by
 unfold Is bS;rw[Ek];cases op.run (λb=>st.heap.get b) st.next xs with
 |none=>rfl
 |some r=>
  cases r with
  |val v=>simp only[BC];rfl
  |aD v d s n=>simp only[BC,abT];rfl
  |call f args=>simp only[BB];exact hc f args st k
theorem Iw(hc:CK z bf call):∀(ops:List bk)(fr:Fr)(st:St)(k:Fr->St->R),MN z bf ops fr st k=mR z (iA call ops fr st) λx=>k x.1 x.2
 |[],fr,st,k=>rfl
 |o::os,fr,st,k=>by
  show zF z fr o.guard (J0 z fr o.xs λxs=>Is z bf o.k xs st λv st=>jK fr o.dst v λfr=>MN z bf os fr st k) (jK fr o.dst .undef λfr=>MN z bf os fr st k)=_;rw[LC,Iv];simp only[Rc z hc,LD,Iw hc os];simp only[iA];cases bG fr o.guard with
  |none=>rfl
  |some b=>
   cases b with
   |false=>rfl
   |    true=>
        simp only[];cases dL fr o.xs with
        |none=>rfl
        |some xs=>
         simp only[mR];cases bS call o.k xs st with
         |none=>rfl
         |some x=>rfl
theorem Ag(bu:Nat)(h:T AB):∀(recs:List Rec)(k:T AB->R),DS bu h recs k=k (snap bu h recs)
 |[],k=>rfl
 |r::rs,k=>by
  show (match r.c with
   |    .new id aq=>match bu.testBit r.idx with
        |true=>DS bu h rs λh'=>mO (some aq) id h' k
        |false=>DS bu h rs k
   |.aD _ _=>k h
   |.pure=>DS bu h rs k)=_
  unfold snap;cases r.c with
  |pure=>exact Ag bu h rs k
  |aD _ _=>rfl
  |new id aq=>
   simp only[];cases bu.testBit r.idx with
   |true=>simp only[Ag bu h rs,gM]
   |false=>exact Ag bu h rs k
theorem Ow(h:T AB):∀(l:List (Pos×AB))(k:T AB->R),Qw h l k=k (w9 l h)
 |[],k=>rfl
 |(id,aq)::l,k=>by show Qw h l (λh'=>mO (some aq) id h' k)=_;rw[Ow h l,gM];rfl
theorem uG(bu:Nat)(op:ay)(xs:List AV)(v:AV):∀(recs:List Rec)(up:List (Pos×AB)),nW bu op xs v up recs=jJ bu op xs v up recs
 |[],up=>rfl
 |r::rs,up=>by
  unfold nW jJ;cases r.c with
  |pure=>exact uG bu op xs v rs up
  |new id aq=>simp only[uG bu op xs v rs]<;>(cases bu.testBit r.idx<;>rfl)
  |aD base _=>
   simp only[uG bu op xs v rs,Ag,Ow];unfold Qx qR;simp only[Ek]<;>(cases bu.testBit r.idx<;>rfl)
theorem Re (hc:CK z bf call):∀(ops:List (Nat×bk))(recs:List Rec)(base:T AB)(fr:Fr)(st:St)(k:Fr->St->R),
  DT z bf ops recs base fr st k=mR z (cF call ops recs base fr st) λx=>k x.1 x.2
 |[],recs,base,fr,st,k=>rfl
 |(j,   o)::  os,recs,base,fr,st,k=>by
  show zF   z fr o.guard
    (J0   z fr o.xs λxs=>match o.cls with
        | .new=>match o.k.run (λ_=>none) st.next xs with
          |some (.aD v none none (some aq))=>oY v λv=>zE aq λaq=>jK fr o.dst v λfr=>K7 st.next λn=>mO (some aq) st.next st.heap λh=>
              DT z bf os ({ idx:=j,o:=o,v:=v,c:= .new st.next aq,nx:=n }::recs) base fr { heap:=h,next:=n } k
          |_=>z
        |.aD=>Is z bf o.k xs st λv st'=>jK fr o.dst v λfr=>DT z bf os ({ idx:=j,o:=o,v:=v,c:= .aD base st'.heap,nx:=st'.next }::recs) st'.heap fr st' k
        | _ =>match o.k.run (λ_=>none) .h xs with
          |some (.val v)=>oY v λv=>jK fr o.dst v λfr=>DT z bf os ({ idx:=j,o:=o,v:=v,c:= .pure,nx:=st.next }::recs) base fr st k
          | _ =>DS o.bu base recs λh=>match o.k.run (λb=>kP b h) .h xs with
            | some (.val v)=>oY v λv=>match nW o.bu o.k xs v [] recs with
              |true=>jK fr o.dst v λfr=>DT z bf os ({ idx:=j,o:=o,v:=v,c:= .pure,nx:=st.next }::recs) base fr st k
              |false=>z
            |_=>z)
    (jK fr o.dst .undef λfr=>DT z bf os ({ idx:=j,o:=o,v:= .undef,c:= .pure,nx:=st.next }::recs) base fr st k)=_
  rw[LC,Iv];simp only[Rc z hc,LD,BC,Ei,Ej,gM,Ag,uG,Ek,Re hc os];simp only[cF];cases bG fr o.guard with
  |none=>rfl
  | some b=>
    cases b with
    |false=>rfl
    |   true=>
        simp only[];cases dL fr o.xs with
        |none=>rfl
        | some xs=>
          simp only[mR];cases o.cls with
          | new=>
            simp only[];split<;>simp_all
          | aD=>
            simp only[];cases bS call o.k xs st with
            |none=>rfl
            |some x=>rfl
          | pure=>
            simp only[];split
            .simp_all
            .split<;>simp_all;split<;>simp_all
          | read=>
            simp only[];split
            .simp_all
            .split<;>simp_all;split<;>simp_all
def Rf(r:Option (iL×Fr×St))(kn:Fr->St->R)(kx:Nat->Fr->St->R)(kr:Fr->St->R):R:=match r with
 |some (.normal,fr,st)=>kn fr st
 |some (.exit id,fr,st)=>kx id fr st
 |some (.ret,fr,st)=>kr fr st
 |none=>z
theorem Ka(hc:CK z bf call):∀(m:Nat)(c:AC)(fr:Fr)(st:St)(kn:Fr->St->R)(kx:Nat->Fr->St->R)(kr:Fr->St->R),
  K8 z bf m c fr st kn kx kr=Rf z (exec call m c fr st) kn kx kr
 |0,c,fr,st,kn,kx,kr=>rfl
 |m+    1,c,fr,st,kn,kx,kr=>by
  have ih:=Ka hc m;show nX z bf (K8 z bf m) c fr st kn kx kr=Rf z (aZ call (exec call m) c fr st) kn kx kr;cases c with
  |skip=>rfl
  |region ops=>
   simp only[nX,aZ,Iw z hc];cases iA call ops fr st with
   |none=>rfl
   |some x=>rfl
  |draw ops=>
   simp only[nX,aZ,Re z hc];cases cF call ops [] st.heap fr st with
   |none=>rfl
   |some x=>rfl
  |seq a b=>
   simp only[nX,aZ,ih];cases exec call m a fr st with
   |none=>rfl
   |    some x=>
        obtain⟨e,bJ,aJ⟩:=x;cases e<;>rfl
  |cond x a b=>
   simp only[nX,aZ,GK];cases xC fr x with
   |none=>rfl
   |    some v=>
        simp only[mR];(cases v<;>try rfl);rename_i t;cases t<;>simp only[ih]
  |block id a=>
   simp only[nX,aZ,ih];cases exec call m a fr st with
   |none=>rfl
   |    some x=>
        obtain⟨e,bJ,aJ⟩:=x;(cases e<;>try rfl);rename_i pR;simp only[Rf];cases Nat.beq pR id<;>rfl
  |loop a=>
   simp only[nX,aZ,ih];cases exec call m a fr st with
   |none=>rfl
   |    some x=>
        obtain⟨e,bJ,aJ⟩:=x;cases e<;>rfl
  |exit id=>rfl
  |ret=>rfl
theorem zk:∀(vs:List AV)(i:Nat)(fr:Fr)(k:Fr->R),wA vs i fr k=k (params i vs fr)
 |[],i,fr,k=>rfl
 |v::vs,i,fr,k=>by show mO (some v) (key i) fr (λfr=>wA vs (i+1) fr k)=_;rw[gM,zk vs];rfl
theorem Tg(st:St)(fr:Fr)(rs:List xB)(k:AV->R):wB z st fr rs k=mR z (b9 (λb=>st.heap.get b) fr rs) λvs=>k (fR vs):=by
 unfold wB;rw[Ek];cases b9 (λb=>st.heap.get b) fr rs with
 |none=>rfl
 |some vs=>
  simp only[Eh,mR];cases vs with
  |nil=>rfl
  |cons v vs=>cases vs<;>rfl
theorem El (O:dQ)(G:T cj)(m:Nat):∀d,CK z (Bj z O G m d) (oe O G m d)
 |0=>λf args st k=>rfl
 |d+    1=>fun f args st k=>by
  have ih:=El O G m d;show( match O f with
   |    some s=>match s args st with
        |some (v,st')=>oY v λv=>k v st'
        |none=>z
   |    none=>match kP (key f) G with
        |some F=>match Nat.beq args.length F.nparams with
         |true=>wA args 0 .e λfr=>K8 z (Bj z O G m d) m F.code fr st
             (λfr st=>wB z st fr F.results λv=>k v st)
             (λ_ _ _=>z)
             (λfr st=>wB z st fr F.results λv=>k v st)
         |false=>z
        |none=>z)=_
  simp only[oe,BC,qY,zk,Ka z ih,Tg];cases O f with
  |some s=>
   simp only[];cases s args st with
   |none=>rfl
   |some x=>rfl
  |none=>
   simp only[];cases G.get (key f)with
   |none=>rfl
   |    some F=>
        simp only[];cases Nat.beq args.length F.nparams with
        |false=>rfl
        |true=>
         simp only[];cases exec (oe O G m d) m F.code (params 0 args .e) st with
         |none=>rfl
         |  some x=>
            obtain⟨e,bJ,aJ⟩:=x;cases e with
            |normal=>
             simp only[Rf];cases b9 (λb=>aJ.heap.get b) bJ F.results<;>rfl
            |exit id=>rfl
            |ret=>
             simp only[Rf];cases b9 (λb=>aJ.heap.get b) bJ F.results<;>rfl
end
end
section
open Go
def Vu (P:Program)(t:Nat)(ti:TI):Bool:=
 match P.underlying t,P.info? t with
 |  some d,some i=>bw ti.k d&&Nat.beq i.size ti.size&&Nat.beq i.bytes ti.bytes&&
    (match ti.zero with
     |none=>true
     | some z=>match i.zero with
       |some v=>(match mq v.cells.toList with
           |some z'=>ql z' z
           |none=>false)&&Nat.beq z.length ti.size&&(match ti.k.isAgg,v with
           |true,.agg _=>true
           |true,_=>false
           |false,.agg _=>false
           |false,_=>true)
       |none=>false)&&(match ti.k with
     |.ptr e=>(P.info? e).isSome
     |_=>true)&&(!ti.sV||(!P.stoodInHeld t&& !P.eqGuardType P.depth t))
 |_,_=>false
theorem ZX{P:Program}{t:Nat}{ti:TI}(h:Vu P t ti=true):U1 P t ti:=by
 unfold Vu at h;split at h<;>first|(cases h;done)|skip
 rename_i d i hd hi;simp only[Za7,Zi1,Zh1]at h;obtain⟨⟨⟨⟨⟨h1,h2⟩,h3⟩,h4⟩,h6⟩,h5⟩:=h;refine⟨⟨d,hd,h1⟩,⟨i,hi,Za0 h2,Za0 h3,λz hz=> ?_⟩,λe he=> ?_,λhe=> ?_⟩
 . rw[hz]at h4;simp only at h4;(split at h4<;>first|(cases h4;done)|skip);rename_i v hv;simp only[Za7]at h4;obtain⟨⟨g1,g2⟩,g3⟩:=h4;(split at g1<;>first|(cases g1;done)|skip);rename_i z' vQ;rw[xe g1]at vQ;refine⟨v,hv,vQ,Za0 g2,λha=> ?_,λha=> ?_⟩
   .rw[ha]at g3;cases v<;>first|exact⟨_,rfl⟩|cases g3
   .rw[ha]at g3;cases v<;>first|rfl|cases g3
 .rw[he]at h6;exact Option.isSome_iff_exists.1 h6
 . rcases h5 with h5|h5
   .rw[he]at h5;cases h5
   .exact h5
def zA(P:Program):(Pos->Pos)->T TI->Bool
 |_,.e=>true
 |  f,.n l v r=>(match v with
    |some ti=>Vu P ((f .h).toNat - 1) ti
    |none=>true)&&zA P (λp=>f (.o p)) l&&zA P (λp=>f (.i p)) r
theorem Em{P:Program}:∀{t:T TI}{f:Pos->Pos},zA P f t=true->∀p ti,t.get p=some ti->U1 P ((f p).toNat - 1) ti
 |.e,f,_,p,ti,h=>by rw[T.cY]at h;cases h
 | .n l v r,f,hc,p,ti,h=>by
   simp only[zA,Za7]at hc;cases p with
   |h=>simp only[T.get]at h;rw[h]at hc;exact ZX hc.1.1
   |o p=>exact Em hc.1.2 p ti h
   |i p=>exact Em hc.2 p ti h
theorem abG{P:Program}{tt:TT}(h:zA P (λp=>p) tt=true):bH P tt:=λp ti hp=>Em h p ti hp
end
noncomputable section
open Go
def C4{α:Type}(g:Nat->Option α):Nat->Nat->Nat->T α
 |0,_,_=>.e
 |d+1,a,m=>.n (C4 g d a (2*m)) (g (a+m - 1)) (C4 g d (a+m) (2*m))
theorem Eo{α:Type}{g:Nat->Option α}:∀{d a m:Nat}{p:Pos}{x:α},(C4 g d a m).get p=some x->g (a+m*p.toNat - 1)=some x
 |0,_,_,p,x,h=>by rw[C4,T.cY]at h;cases h
 |d+1,a,m,.h,x,h=>by rw[Pos.toNat,Zj6];exact h
 |d+1,a,m,.o p,x,h=>by
  have:=Eo (d:=d) (a:=a) (m:=2*m) (p:=p) (x:=x) h;rw[Pos.toNat];have e:a+m*(2*p.toNat) - 1=a+2*m*p.toNat - 1:=by rw[<-Nat.mul_assoc,Nat.mul_comm m 2]
  rw[e];exact this
 |d+1,a,m,.i p,x,h=>by
  have:=Eo (d:=d) (a:=a+m) (m:=2*m) (p:=p) (x:=x) h;rw[Pos.toNat];have e:a+m*(2*p.toNat+1) - 1=a+m+2*m*p.toNat - 1:=by rw[Nat.mul_add,Zj6, <-Nat.mul_assoc,Nat.mul_comm m 2];omega
  rw[e];exact this
def abu(P:Program)(tt:TT)(i:Nat):Option cj:=match P.funcs[i]? with
 |some fn=>PY tt fn
 |none=>none
def ggOf(P:Program)(tt:TT):T cj:=C4 (abu P tt) 10 0 1
theorem abH{P:Program}{tt:TT}(h:(P.funcs.toList.all λfn=> !(fn.name== "runtime.NumGoroutine"))=true):KV P tt (ggOf P tt):=λp F hp=>by
 have:=Eo hp;rw[Zc7,Zn1,abu]at this;split at this<;>first|(cases this;done)|skip
 rename_i fn yE;refine⟨fn,yE,?_,this⟩;have:=Zd0.1 h fn (by obtain⟨hi,e⟩:=Zc9.1 yE;exact Zk2.2 (e ▸Array.getElem_mem hi));simpa using this
def tkOf(P:Program)(t:Nat):TK:=match P.underlying t with
 |some .bool=>.bool
 |some (.int k)=>.int k
 |some .string=>.string
 |some (.pointer e)=>.ptr e
 |some (.slice e)=>.slice e
 |some (.array n e)=>.array n e
 |some (.map k e)=>.map k e
 |some (.struct fs)=>.struct (fs.toList.map λf=>(f.offset,f.type,f.name != "_"))
 |some (.func _ _ _)=>.func
 |some (.interface _)=>.iface
 |some .unsafePointer=> .Wy
 |_=>.other
def zeroOf:Option Value->Option (List AV)
 |  some v=>match Nat.ble v.cells.size 64 with
    |true=>mq v.cells.toList
    |false=>none
 |none=>none
def memN(n:Nat):List Nat->Bool
 |[]=>false
 |  m::l=>match Nat.beq m n with
    |true=>true
    |false=>memN n l
def tiOf(P:Program)(eqs:List Nat)(t:Nat):Option TI:=match P.info? t with
 |none=>none
 |some i=>some { k:=tkOf P t,size:=i.size,bytes:=i.bytes,zero:=zeroOf i.zero,sV:=memN t eqs }
def ttOf(P:Program)(eqs:List Nat):T TI:=C4 (tiOf P eqs) 10 0 1
def kS(p n c e:Nat):AV:= .slice (key p) 0 n (some c) e
end
section
open Go
structure lQ(P:Program)(C:Cells)(f:FuncId)(s:List AV->St->Option (AV×St)):Prop where
 mono:∀args st v st',s args st=some (v,st')->st.next.toNat<=st'.next.toNat
 runs:∀(ρ:Pos->Loc)(st:St)(w:World)(args:List AV)(v:AV)(st':St)(bC:List Value),s args st=some (v,st')->
  aV ρ C st w->av ρ st.next.toNat C args bC->Reaches P (kT ρ C st w v st') ((callFunc f bC.toArray).run P w)
def uu:List (Nat×(List AV->St->Option (AV×St)))->dQ
 |[]=>λ_=>none
 |  (g,s)::l=>λf=>match Nat.beq f g with
    |true=>some s
    |false=>uu l f
theorem td{P:Program}{C:Cells}:∀{l:List (Nat×(List AV->St->Option (AV×St)))},(∀x∈l,lQ P C x.1 x.2)->oc P C (uu l)/\jU (uu l)
 |[],_=>⟨λf s h=>by simp[uu]at h,λf s h=>by simp[uu]at h⟩
 |(g,   s0)::l,hl=>by
  obtain⟨h1,h2⟩:=td λx hx=>hl x (Za6 _ hx)
  have h0:=hl _ (Zc2 ..);refine⟨λf s h=> ?_,λf s h=> ?_⟩
  . simp only[uu]at h;split at h
    .   rename_i he;simp only[H0]at h;subst h;have:=Za0 he;subst this;exact h0.runs
    .   exact h1 f s h
  . simp only[uu]at h;split at h
    .   simp only[H0]at h;subst h;exact h0.mono
    .   exact h2 f s h
def Gf:List AV->St->Option (AV×St)
 |  [.str a,.str b],st=>some (.int .i64 (match aB a b with
    |true=>.negSucc 0
    |false=>match aB b a with
     |true=>.ofNat 1
     |false=>.ofNat 0),st)
 |_,_=>none
theorem GM:∀(x y:List UInt8),Lib.compareBytes x y=match aB (x.map UInt8.toNat) (y.map UInt8.toNat)with
  |true=>.negSucc 0
  | false=>match aB (y.map UInt8.toNat) (x.map UInt8.toNat)with
    |true=>.ofNat 1
    |false=>.ofNat 0
 |[],[]=>rfl
 |[],_::_=>rfl
 |_::_,[]=>rfl
 |a ::x  ,b::y=>by
  rw[pE,pE];have ih:=GM x y;rw[pE,pE]at ih;simp only[Lib.compareBytes,Op.bytesLess];by_cases h:a<b
  .simp[h]
  . by_cases h':b<a
    .   have cG:(a==b)=false:=(by rw[Zn4];exact λe=>by subst e;exact h h');simp[h,h',cG]
    .   have he:a=b:=(by apply Zp3.1;rw[Zm0]at h h';omega);subst he;simp only[h,Zh3,ih];simp
theorem Zp{P:Program}{C:Cells}{f:FuncId}{fn:Func}(hf:P.funcs[f]? =some fn)(iH:(fn.name== "runtime.NumGoroutine")=false)(hb:fn.body.isNone=true)
  (hx:Extern.findNext fn=none) (he:Extern.find fn=some Extern.BytealgCompare.compare):lQ P C f Gf where
 mono args st v st' h:=by unfold Gf at h;split at h<;>cases h;exact Za4 _
 runs ρ st w args v st' bC h hW hv:=by
  unfold Gf at h;split at h<;>cases h;rename_i a b;obtain⟨x,xs,rfl,h1,h2⟩:=hv.cons_inv;obtain⟨y,ys,rfl,h3,h4⟩:=h2.cons_inv;have:=h4.l7;subst this;obtain⟨s,rfl,hs⟩:=h1.dN;obtain⟨t,rfl,ht⟩:=h3.dN;have bQ:(callFunc f [Value.string s,Value.string t].toArray).run P w= .ok (.value (.int .i64 (Lib.compareBytes s.data.toList t.data.toList))) w:=by rw[run_callFunc_extern hf iH hb hx he];show((Extern.BytealgCompare.compare #[.string s,.string t]).run P w).andThen _=_;rw[Lib.run_compareString];rfl
  rw[bQ];refine⟨ρ,?_,λ_ _=>rfl,Za4 _,hW,je.refl _ _ _⟩;rw[GM,hs,ht];exact .int _ _
def xI:List AV->List AV->Bool
 |[],[]=>true
 |a::x,b::y=>eH a b&&xI x y
 |_,_=>false
theorem BD:∀{a b:List AV},xI a b=true->a=b
 |[],[],_=>rfl
 |[],_::_,h=>by simp[xI]at h
 |_::_,[],h=>by simp[xI]at h
 |a::x,b::y,h=>by
  simp only[xI,Za7]at h;rw[ov h.1,BD h.2]
def Ix:List (AV×AV×Nat)->List (AV×AV×Nat)->Bool
 |[],[]=>true
 |(a,b,n)::x,(a',b',n')::y=>eH a a'&&eH b b'&&Nat.beq n n'&&Ix x y
 |_,_=>false
theorem Rg:∀{a b:List (AV×AV×Nat)},Ix a b=true->a=b
 |[],[],_=>rfl
 |[],_::_,h=>by simp[Ix]at h
 |_::_,[],h=>by simp[Ix]at h
 |(a,b,n)::x,(a',b',n')::y,h=>by
  simp only[Ix,Za7]at h;obtain⟨⟨⟨h1,h2⟩,h3⟩,h4⟩:=h;rw[ov h1,ov h2,Za0 h3,Rg h4]
def BE:AB->AB->Bool
 |.cells cs fz,.cells kH fz'=>xI cs kH&&Nat.beq fz fz'
 |.map es c,.map es' c'=>Ix es es'&&Nat.beq c c'
 |.iJ s p,.iJ s' p'=>gX s s'&&Nat.beq p p'
 |.typed t cs,.typed t' kH=>xI cs kH&&Nat.beq t t'
 |_,_=>false
theorem Kb{a b:AB}(h:BE a b=true):a=b:=by
 unfold BE at h;split at h<;>(try simp only[Za7]at h)
 .rw[BD h.1,Za0 h.2]
 .rw[Rg h.1,Za0 h.2]
 .rw[jV.1 h.1,Za0 h.2]
 .rw[BD h.1,Za0 h.2]
 .cases h
structure Lit where
 args:List AV
 n0:Pos
 L0:List (Pos×AB)
 v:AV
 n1:Pos
 L1:List (Pos×AB)
end
end Go.Ai
