/- Its calls answer as the model does. -/
import Derived.Test.YtgjikjcfjddloaaGreatDoorXEvalC
import Derived.Lib.Bytealg
set_option linter.all false
namespace Go.Ai
section
open Go Go.RowKit
theorem ES{a b:AV}(h:fc a b=true):a=b:=by
 unfold fc at h;split at h<;>(try simp only[Za9,Zd4]at h)<;>try rfl
 .rw[beq_iff_eq.1 h]
 .rename_i k i k' i';have h2:=h.2;rw[mU]at h2;rw[zA h.1,beq_iff_eq.1 h2]
 .rw[jX.1 h]
 .rw[Pos.beq_eq.1 h.1,H4 h.2]
 .obtain⟨⟨⟨h1,h2⟩,h3⟩,h4⟩:=h;rw[Pos.beq_eq.1 h1,H4 h2,H4 h3,H4 h4]
 .obtain⟨⟨⟨⟨h1,h2⟩,h3⟩,h4⟩,h5⟩:=h;rw[Pos.beq_eq.1 h1,H4 h2,H4 h3,H4 h4,H4 h5]
 .rw[Pos.beq_eq.1 h]
theorem IN:∀{a b:List AV},yX a b=true->a=b
 |[],[],_=>rfl
 |[],_::_,h=>by simp[yX]at h
 |_::_,[],h=>by simp[yX]at h
 |a::x,b::y,h=>by
  simp only[yX,Za9]at h;rw[ES h.1,IN h.2]
theorem Zj{f:AV->AV->Bool}(hf:∀{a b},f a b=true->a=b):∀{a b:List AV},HB f a b=true->a=b
 |[],[],_=>rfl
 |[],_::_,h=>by simp[HB]at h
 |_::_,[],h=>by simp[HB]at h
 |a::x,b::y,h=>by
  simp only[HB,Za9]at h;rw[hf h.1,Zj hf h.2]
theorem TM{f:AV->AV->Bool}(hf:∀{a b},f a b=true->a=b):∀{a b:List (List AV)},zy f a b=true->a=b
 |[],[],_=>rfl
 |[],_::_,h=>by simp[zy]at h
 |_::_,[],h=>by simp[zy]at h
 |a::x,b::y,h=>by
  simp only[zy,Za9]at h;rw[Zj hf h.1,TM hf h.2]
theorem Zk:∀{d:Nat}{a b:AV},HC d a b=true->a=b
 |0,_,_,h=>by unfold HC at h;exact ES h
 |d +1,a,b,h=>by
  unfold HC at h;split at h
  .rename_i heq;cases heq;simp only[Za9]at h;rw[TM (λh=>Zk h) h.1,H4 h.2]
  .exact ES h
theorem TN{a b:AV}(h:iE a b=true):a=b:=by
 unfold iE at h;split at h
 .simp only[Za9]at h;rw[H4 h.1.1,IN h.1.2,IN h.2]
 .exact Zk h
 .exact ES h
theorem CU:∀{a b:List AV},oT a b=true->a=b
 |[],[],_=>rfl
 |[],_::_,h=>by simp[oT]at h
 |_::_,[],h=>by simp[oT]at h
 |a::x,b::y,h=>by
  simp only[oT,Za9]at h;rw[TN h.1,CU h.2]
theorem rM{a b:AV}(h:dN a b=true):a=b:=by
 unfold dN at h;split at h
 .rw[CU h]
 .rw[CU h]
 .exact TN h
theorem agc {k:ax}{H H':Pos->Option AB}{n n':Pos}{xs:List AV}{v:AV}(h:k.run H n xs=some (.val v))(hm:∀b x,H b=some x->H' b=some x):
  k.run H' n' xs=some (.val v):=by
 cases k<;>simp only[ax.run]at h ⊢ <;>try exact h
 case alloc z=>unfold KS at h;split at h<;>cases h
 case box=>unfold Tk at h;split at h<;>cases h
 case buildSlice es len z p=>unfold sZ at h;dsimp only at h;split at h<;>cases h
 case mkMap=>unfold KV at h;cases h
 case mkSlice es b z=>
  unfold Au at h
  repeat' split at h
  all_goals cases h
 case rangeS=>
  unfold Hz at h
  repeat' split at h
  all_goals cases h
 case store m=>
  unfold Cs at h
  repeat' split at h
  all_goals cases h
 case mapSet pk=>
  unfold zw at h
  repeat' split at h
  all_goals cases h
 case load m=>
  unfold wC at h ⊢;split at h<;>first|(cases h;done)|skip
  split at h<;>first|(cases h;done)|skip
  . split at h<;>first|(cases h;done)|skip
    .   rename_i cs fz hb;simp only[hm _ _ hb];exact h
    .   rename_i t0 cs hb;simp only[hm _ _ hb];exact h
  .exact h
 case conv c=>
  unfold wD at h ⊢;split at h<;>first|(cases h;done)|skip
  split at h<;>first|(cases h;done)|exact h|skip
  rename_i b off m _ _;cases hb:Nat.beq m 0 with
  |true=>simp only[hb]at h ⊢; exact h
  | false=>
    simp only[hb]at h ⊢;cases hH:H b with
    |none=>simp[hH]at h
    |some x=>simp only[hH]at h;simp only[hm _ _ hH];exact h
 case lookup pk z ok=>
  unfold zu at h ⊢;split at h<;>first|(cases h;done)|skip
  rename_i m k';cases m<;>try exact h
  rename_i b;cases hb:H b with
  |none=>simp[hb]at h
  | some x=>
    simp only[hb]at h;simp only[hm _ _ hb];exact h
 case lenB lk=>
  unfold JC at h ⊢;split at h<;>first|(cases h;done)|skip
  split at h<;>first|(cases h;done)|exact h|skip
  split at h<;>first|(cases h;done)|skip
  rename_i es c hb;simp only[hm _ _ hb];exact h
 case nextS=>
  unfold KW at h ⊢;split at h<;>first|(cases h;done)|skip
  split at h<;>first|(cases h;done)|skip
  split at h<;>first|(cases h;done)|skip
  rename_i s pos hb;simp only[hm _ _ hb];split at h
  .rename_i bw;split at h<;>cases h
  .rename_i bw;exact h
 case allocT t z=>
  unfold HA at h;split at h<;>cases h
 case appendT e bytes=>
  unfold oG at h ⊢;split at h<;>first|(cases h;done)|skip
  split at h<;>first|(cases h;done)|skip
  split at h<;>first|(cases h;done)|skip
  . (split at h<;>first|(cases h;done)|skip);split at h<;>first|(cases h;done)|exact h
  . (split at h<;>first|(cases h;done)|skip);split at h
    .   exact h
    .   repeat' split at h
        all_goals cases h
 case toU=>
  unfold Oa at h ⊢;split at h<;>first|(cases h;done)|skip
  split at h<;>first|(cases h;done)|exact h|skip
  split at h<;>first|(cases h;done)|skip
  rename_i t0 cs hb;simp only[hm _ _ hb];exact h
 case fromU u m=>
  unfold Fs at h ⊢;split at h<;>first|(cases h;done)|skip
  split at h<;>first|(cases h;done)|exact h|skip
  split at h<;>first|(cases h;done)|skip
  rename_i t0 cs hb;simp only[hm _ _ hb];exact h
 case unsafeStr e=>
  unfold lz at h ⊢;split at h<;>first|(cases h;done)|skip
  split at h<;>first|(cases h;done)|skip
  split at h
  .exact h
  . repeat' split at h
    all_goals cases h
 case clearS es z=>
  unfold zx at h ⊢;split at h<;>first|(cases h;done)|skip
  split at h<;>first|(cases h;done)|exact h|skip
  rename_i b off m _ _;cases hb:Nat.beq m 0 with
  |true=>simp only[hb]at h ⊢; exact h
  | false=>
    simp only[hb]at h
    repeat' split at h
    all_goals cases h
 case copyB es=>
  unfold lQ at h ⊢;split at h<;>first|(cases h;done)|skip
  rename_i d x;cases hd:dH d with
  |none=>simp[hd]at h
  | some m1=>
    cases hx:dH x with
    |none=>simp[hd,hx]at h
    |   some m2=>
        simp only[hd,hx]at h ⊢;cases hb:Nat.beq (min m2 m1) 0 with
        |true=>simp only[hb]at h ⊢; exact h
        |false=>
         simp only[hb]at h;(split at h<;>first|(cases h;done)|skip);(split at h<;>first|(cases h;done)|skip);split at h<;>cases h
 case append es bytes=>
  unfold gH at h ⊢;split at h<;>first|(cases h;done)|skip
  rename_i s x;cases hd:dH s with
  |none=>simp[hd]at h
  | some m1  =>
    cases hx:dH x with
    |none=>simp[hd,hx]at h
    |   some m2=>
        simp only[hd,hx]at h ⊢;cases h1:Nat.ble ((2*(m1+m2)+768)*bytes) 281474976710656 with
        |false=>simp[h1]at h
        |true=>
         cases h2:Nat.ble (m1+m2) 9223372036854775807 with
         |false=>simp[h1,h2]at h
         |  true=>
            simp only[h1,h2]at h ⊢;cases hb:Nat.beq m2 0 with
            |true=>
             simp only[hb]at h ⊢;split at h<;>first|(cases h;done)|exact h|skip
             all_goals (simp_all;done)
            |false=>
             simp only[hb]at h
             repeat' split at h
             all_goals first
               |(rename_i e;cases e;done)
               |(rename_i e _;cases e;done)
               |(cases h;done)
               |simp_all
inductive y7(n:Pos):AV->AB->Prop where
 |ptr (cs:List AV):y7 n (.ptr n 0) (.cells cs 0)
 |jS (s:List Nat):y7 n (.ptr n 0) (.jS s 0)
 |slice (len es:Nat) (cap:Option Nat) (cs:List AV) (h:len=0->cap=none\/cap=some 0->cs=[]):y7 n (.slice n 0 len cap es) (.cells cs 0)
 |map:y7 n (.map n) (.map [] 0)
 |ptrT (t:TypeId) (cs:List AV):y7 n (.ptr n 0) (.typed t cs)
 |aem (len:Nat) (t:TypeId) (cs:List AV) (h:len≠0):y7 n (.slice n 0 len none 1) (.typed t cs)
theorem WQ:∀{ps:List (Nat×Nat)}{xs cs:List AV},cI [] ps xs=some cs->cs=[]
 |[],[],cs,h=>by simp[cI]at h;exact h.symm ▸rfl
 |[],_::_,cs,h=>by simp[cI]at h
 |_::_,[],cs,h=>by simp[cI]at h
 |(off,size)::ps,v::vs,cs,h=>by
  unfold cI at h;split at h<;>first|(cases h;done)|skip
  rename_i h1 h2;have h1:=H4 h1;have h2:=Za1 h2;have h3:v.cells=[]:=by apply Zb0;simp at h2;omega
  rw[h3]at h;have h4:aL ([]:List AV) off []=[]:=by simp[aL]
  rw[h4]at h;exact WQ h
theorem aiw {k : ax}{n:Pos}{xs:List AV}{v:AV}{aA:AB}(h:k.run (λ_=>none) n xs=some (.aI v none none (some aA))):y7 n v aA:=by
 cases k<;>simp only[ax.run]at h
 case alloc z=>unfold KS at h;split at h<;>cases h;exact .ptr _
 case allocT t z=>unfold HA at h;split at h<;>cases h;exact .ptrT _ _
 case appendT e bytes=>
  unfold oG at h;split at h<;>first|(cases h;done)|skip
  split at h<;>first|(cases h;done)|skip
  split at h<;>first|(cases h;done)|skip
  . (split at h<;>first|(cases h;done)|skip);split at h<;>cases h;rename_i hb;exact .aem _ _ _ (by have:=Zc0 hb;omega)
  . split at h<;>first|(cases h;done)|skip
    repeat' split at h
    all_goals cases h
 case toU=>   unfold Oa at h;repeat' split at h
              all_goals cases h
 case fromU=>   unfold Fs at h;repeat' split at h
                all_goals cases h
 case sliceData=>   unfold qf at h;repeat' split at h
                    all_goals cases h
 case unsafeStr=>   unfold lz at h;repeat' split at h
                    all_goals cases h
 case box=>unfold Tk at h;split at h<;>cases h;exact .ptr _
 case buildSlice es len z p=>
  unfold sZ at h;dsimp only at h;split at h<;>cases h;rename_i cs hc;refine .slice _ _ _ _ λh0 _=> ?_
  subst h0;exact WQ hc
 case mkMap=>unfold KV at h;cases h;exact .map
 case mkSlice es b z=>
  unfold Au at h
  repeat' split at h
  all_goals cases h
  refine .slice _ _ _ _ λ_ h1=> ?_
  rcases h1 with h1|h1
  .cases h1
  .simp only[H0]at h1;subst h1;rfl
 case rangeS=>
  unfold Hz at h
  repeat' split at h
  all_goals cases h
  exact .jS _
 case conv c=>
  unfold wD at h
  repeat' split at h
  all_goals cases h
  rename_i s;refine .slice _ _ _ _ λh0 _=> ?_
  rw[Zb0 h0];rfl
 case append es bytes=>
  unfold gH at h
  repeat' split at h
  all_goals cases h
  all_goals refine .slice _ _ _ _ λh0 _=> ?_
  all_goals (exfalso;rename_i hb _ _;simp_all)
 case move=>unfold Qq at h;split at h<;>cases h
 case pick=>   unfold U8 at h;repeat' split at h
               all_goals cases h
 case build=>unfold KT at h;dsimp only at h;split at h<;>cases h
 case load=>   unfold wC at h;repeat' split at h
               all_goals cases h
 case store=>   unfold Cs at h;repeat' split at h
                all_goals cases h
 case nilCheck=>   unfold IF at h;repeat' split at h
                   all_goals cases h
 case bin=>   unfold fI at h;repeat' split at h
              all_goals cases h
 case un=>   unfold acw at h;repeat' split at h
             all_goals cases h
 case mkIface=>   unfold KU at h;repeat' split at h
                  all_goals cases h
 case mkFunc=>unfold Hy at h;dsimp only at h;cases h
 case lookup=>
  unfold zu at h;split at h<;>first|(cases h;done)|skip
  dsimp only at h;split at h<;>cases h
 case mapSet=>   unfold zw at h;repeat' split at h
                 all_goals cases h
 case sliceS=>
  unfold qY at h;split at h<;>first|(cases h;done)|skip
  split at h<;>first|(cases h;done)|skip
  dsimp only at h;split at h<;>cases h
 case sliceL=>   unfold lu at h;repeat' split at h
                 all_goals cases h
 case fieldA=>   unfold N9 at h;repeat' split at h
                 all_goals cases h
 case idxA=>   unfold mK at h;repeat' split at h
               all_goals cases h
 case field=>   unfold Sb at h;repeat' split at h
                all_goals cases h
 case idxS=>   unfold Qr at h;repeat' split at h
               all_goals cases h
 case extract=>   unfold EP at h;repeat' split at h
                  all_goals cases h
 case callF=>unfold Sc at h;dsimp only at h;cases h
 case callV=>   unfold Sd at h;repeat' split at h
                all_goals cases h
 case lenB=>   unfold JC at h;repeat' split at h
               all_goals cases h
 case copyB=>
  unfold lQ at h;split at h<;>first|(cases h;done)|skip
  split at h<;>first|(cases h;done)|skip
  dsimp only at h
  repeat' split at h
  all_goals cases h
 case minB=>   unfold Fh at h;repeat' split at h
               all_goals cases h
 case maxB=>   unfold Fi at h;repeat' split at h
               all_goals cases h
 case clearS=>   unfold zx at h;repeat' split at h
                 all_goals cases h
 case nextS=>   unfold KW at h;repeat' split at h
                all_goals cases h
 case capB=>cases h
 case bad=>cases h
end
section
def mX(call:ah):Prop:=∀f args st v st',call f args st=some (v,st')->st.next.toNat<=st'.next.toNat
section
variable{call:ah}
theorem Lh(hm:mX call){k:ax}{xs:List AV}{st st':St}{v:AV}(h:bY call k xs st=some (v,st')):st.next.toNat<=st'.next.toNat:=by
 unfold bY at h;split at h
 .simp only[H0,Zb6]at h;rw[h.2];exact Za3 _
 .simp only[H0,Zb6]at h;rw[<-h.2];exact St.Ze _ _ _ _
 .exact hm _ _ _ _ _ h
 .cases h
theorem Om(hm:mX call):∀(os:List bD)(fr br:Fr)(st st':St),jM call os fr st=some (br,st')->st.next.toNat<=st'.next.toNat
 |[],fr,br,st,st',h=>by simp only[jM,H0,Zb6]at h;rw[h.2];exact Za3 _
 |o ::os,fr,br,st,st',h=>by
  unfold jM at h;split at h
  . (split at h<;>first|(cases h;done)|skip);(split at h<;>first|(cases h;done)|skip);rename_i hs;exact Zd6 (Lh hm hs) (Om hm os _ _ _ _ h)
  .exact Om hm os _ _ _ _ h
  .cases h
theorem wH(hm:mX call):∀(os:List (Nat×bD))(recs:List Rec)(base:T AB)(fr br:Fr)(st st':St),dO call os recs base fr st=some (br,st')->st.next.toNat<=st'.next.toNat
 |[],recs,base,fr,br,st,st',h=>by simp only[dO,H0,Zb6]at h;rw[h.2];exact Za3 _
 |(j,   o)::os,recs,base,fr,br,st,st',h=>by
  have hs:st.next.toNat<=st.next.succ.toNat:=by rw[Pos.aB];omega
  unfold dO at h;split at h
  .exact wH hm os _ _ _ _ _ _ h
  . (split at h<;>first|(cases h;done)|skip);split at h
    .   (split at h<;>first|(cases h;done)|skip);exact Zd6 hs (wH hm os _ _ _ _ _ _ h)
    .   (split at h<;>first|(cases h;done)|skip);rename_i hs;exact Zd6 (Lh hm hs) (wH hm os _ _ _ _ _ _ h)
    .   split at h
        .exact wH hm os _ _ _ _ _ _ h
        . (split at h<;>first|(cases h;done)|skip);(split at h<;>first|(cases h;done)|skip);exact wH hm os _ _ _ _ _ _ h
  .cases h
theorem HL(hm:mX call):∀(m:Nat)(c:AC)(fr br:Fr)(st st':St)(ex:jV),exec call m c fr st=some (ex,br,st')->st.next.toNat<=st'.next.toNat
 |0,c,fr,br,st,st',ex,h=>by simp[exec]at h
 |m +   1,c,fr,br,st,st',ex,h=>by
  have ih:=HL hm m;simp only[exec]at h;unfold bt at h;split at h
  .simp only[H0,Zb6]at h;rw[h.2.2];exact Za3 _
  . (split at h<;>first|(cases h;done)|skip);rename_i hs;simp only[H0,Zb6]at h;rw[<-h.2.2];exact Om hm _ _ _ _ _ hs
  . (split at h<;>first|(cases h;done)|skip);rename_i hs;simp only[H0,Zb6]at h;rw[<-h.2.2];exact wH hm _ _ _ _ _ _ _ hs
  . split at h
    .   rename_i hs;exact Zd6 (ih _ _ _ _ _ _ hs) (ih _ _ _ _ _ _ h)
    .   exact ih _ _ _ _ _ _ h
  .split at h<;>first|(cases h;done)|exact ih _ _ _ _ _ _ h
  . split at h
    .   rename_i hs;split at h<;>(simp only[H0,Zb6]at h;rw[<-h.2.2];exact ih _ _ _ _ _ _ hs)
    .   exact ih _ _ _ _ _ _ h
  . split at h
    .   rename_i hs;exact Zd6 (ih _ _ _ _ _ _ hs) (ih _ _ _ _ _ _ h)
    .   exact ih _ _ _ _ _ _ h
  .simp only[H0,Zb6]at h;rw[h.2.2];exact Za3 _
  .simp only[H0,Zb6]at h;rw[h.2.2];exact Za3 _
def k8(O:ff):Prop:=∀f s,O f=some s->∀args st v st',s args st=some (v,st')->st.next.toNat<=st'.next.toNat
theorem Li{O:ff}{G:T dB}(hO:k8 O)(m:Nat):∀d,mX (rE O G m d)
 |0=>λf args st v st' h=>by simp[rE]at h
 |d +   1=>λf args st v st' h=>by
  have ih:=Li (G:=G) hO m d;unfold rE at h;split at h
  .rename_i s hs;exact hO f s hs args st v st' h
  . (split at h<;>first|(cases h;done)|skip);(split at h<;>first|(cases h;done)|skip);split at h<;>first|(cases h;done)|skip
    .   rename_i hs;(split at h<;>first|(cases h;done)|skip);simp only[H0,Zb6]at h;rw[<-h.2];exact HL ih _ _ _ _ _ _ _ hs
    .   rename_i hs;(split at h<;>first|(cases h;done)|skip);simp only[H0,Zb6]at h;rw[<-h.2];exact HL ih _ _ _ _ _ _ _ hs
end
def mY(cE:Fr):List Rec->Fr
 |[]=>cE
 |r::R=>dP (mY cE R) r.o.dst r.v
def dW(n0:Pos):List Rec->Pos
 |[]=>n0
 |r::_=>r.nx
def RC.l9:RC->Bool
 |.aI _ _=>true
 |_=>false
def jy(h0:T AB):List Rec->T AB
 |[]=>h0
 |  r::R=>match r.c with
    |.aI _ h=>h
    |_=>jy h0 R
def jz(h0:T AB):List Rec->T AB
 |[]=>h0
 |  r::R=>match r.c with
    |.aI _ h=>h
    |.new id aA=>(jz h0 R).put (some aA) id
    |.pure=>jz h0 R
def HM:List Rec->Prop
 |[]=>True
 |r::_=>r.c.l9=true
def Zl(h0:T AB)(R:List Rec)(o:bD)(xs:List AV)(v:AV):Prop:=
 ∀  A B,R=A++B->HM B->(∀r∈A,r.c.l9=true->o.bT.testBit r.idx=false)->
    ∃h:T AB,(∀b x,h.get b=some x->(jy h0 B).get b=some x\/∃r∈A,r.c= .new b x/\o.bT.testBit r.idx=true)/\o.k.run (λb=>h.get b) .h xs=some (.val v)
inductive qi(call:ah)(cE:Fr)(h0:T AB)(n0:Pos):Rec->List Rec->Prop where
 |skip (i:Nat) (o:bD) (R:List Rec) (hw:cj (mY cE R) o.guard=some false):
  qi call cE h0 n0 { idx:=i,o:=o,v:= .undef,c:= .pure,nx:=dW n0 R } R
 |pure (i:Nat) (o:bD) (v:AV) (xs:List AV) (R:List Rec) (hw:cj (mY cE R) o.guard=some true) (hx:e8 (mY cE R) o.xs=some xs) (hr:Zl h0 R o xs v):
  qi call cE h0 n0 { idx:=i,o:=o,v:=v,c:= .pure,nx:=dW n0 R } R
 |new (i:Nat) (o:bD) (v:AV) (aA:AB) (xs:List AV) (R:List Rec) (hw:cj (mY cE R) o.guard=some true) (hx:e8 (mY cE R) o.xs=some xs)
  (hr:o.k.run (λ_=>none) (dW n0 R) xs=some (.aI v none none (some aA))):
  qi call cE h0 n0 { idx:=i,o:=o,v:=v,c:= .new (dW n0 R) aA,nx:=(dW n0 R).succ } R
 |aI (i:Nat) (o:bD) (v:AV) (st':St) (xs:List AV) (R:List Rec) (hc:o.cls= .aI) (hw:cj (mY cE R) o.guard=some true) (hx:e8 (mY cE R) o.xs=some xs)
  (hr:bY call o.k xs { heap:=jz h0 R,next:=dW n0 R }=some (v,st')):
  qi call cE h0 n0 { idx:=i,o:=o,v:=v,c:= .aI (jy h0 R) st'.heap,nx:=st'.next } R
def Good(call:ah)(cE:Fr)(h0:T AB)(n0:Pos):List Rec->Prop
 |[]=>True
 |r::R=>qi call cE h0 n0 r R/\Good call cE h0 n0 R
section
variable{call:ah}{cE:Fr}{h0:T AB}{n0:Pos}
theorem Good.tail:∀{A B:List Rec},Good call cE h0 n0 (A++B)->Good call cE h0 n0 B
 |[],_,h=>h
 |_::_,_,h=>Good.tail h.2
theorem Good.at{A B:List Rec}{r:Rec}(h:Good call cE h0 n0 (A++r::B)):qi call cE h0 n0 r B:=(Good.tail h).1
theorem Lj:∀{A B:List Rec},(∀r∈A,r.c.l9=false)->jy h0 (A++B)=jy h0 B
 |[],_,_=>rfl
 |r::A,B,h=>by
  have h1:=h r (Zd8 ..);have ih:=Lj (A:=A) (B:=B) λr hr=>h r (Za0 _ hr)
  simp only[Ze8,jy];split
  .rename_i hc;rw[hc]at h1;cases h1
  .exact ih
theorem Sp{bT:Nat}:∀{A B:List Rec}{h:T AB}{b:Pos}{x:AB},(∀r∈A,r.c.l9=false)->HM B->(snap bT h (A++B)).get b=some x->
  h.get b=some x\/∃r∈A,r.c= .new b x/\bT.testBit r.idx=true
 |[],B,h,b,x,_,hB,hs=>by
  cases B with
  |nil=>exact .inl hs
  | cons r B=>
    simp only[HM]at hB;simp only[Ze6,snap]at hs;(cases hc:r.c<;>rw[hc]at hB<;>first|(cases hB;done)|skip);rw[hc]at hs;exact .inl hs
 |r ::A   ,B,h,b,x,hA,hB,hs=>by
  have ih:=@Sp bT A B h b x (λr hr=>hA r (Za0 _ hr)) hB;have up:(h.get b=some x\/∃r∈A,r.c= .new b x/\bT.testBit r.idx=true)->h.get b=some x\/∃r'∈r::A,r'.c= .new b x/\bT.testBit r'.idx=true:=λh1=>
    h1.imp id λ⟨r',h2,h3⟩=>⟨r',Za0 _ h2,h3⟩
  simp only[Ze8,snap]at hs;cases hc:r.c with
  |pure=>rw[hc]at hs;exact up (ih hs)
  |aI b1 h1=>have:=hA r (Zd8 ..);rw[hc]at this;cases this
  | new   id aA=>
    rw[hc]at hs;cases ht:bT.testBit r.idx with
    |false=>simp only[ht]at hs;exact up (ih hs)
    |   true=>
        simp only[ht]at hs;by_cases TO:id=b
        .subst TO;rw[T.eB]at hs;simp only[H0]at hs;subst hs;exact .inr ⟨r,Zd8 ..,hc,ht⟩
        .rw[T.bH _ TO]at hs;exact up (ih hs)
theorem WR:∀{up:List (Pos×AB)}{h:T AB}{b:Pos}{x:AB},(iV up h).get b=some x->h.get b=some x\/(b,x)∈up
 |[],_,_,_,h=>.inl h
 |(id,aA)::up,h,b,x,hs=>by
  unfold iV at hs;by_cases TO:id=b
  .subst TO;rw[T.eB]at hs;simp only[H0]at hs;subst hs;exact .inr (Zd8 ..)
  .rw[T.bH _ TO]at hs;exact(WR hs).imp (λh=>h) λh=>Za0 _ h
theorem Ll:∀(A:List Rec),(∀r∈A,r.c.l9=false)\/∃r∈A,r.c.l9=true
 |[]=>.inl λr h=>by cases h
 |r::A=>by
  cases hr:r.c.l9 with
  |true=>exact .inr ⟨r,Zd8 ..,hr⟩
  |false=>
   rcases Ll A with h|⟨r',h1,h2⟩
   . exact .inl λr' th=>by
      rcases Za7.1 th with rfl|h'
      .exact hr
      .exact h r' h'
   .exact .inr ⟨r',Za0 _ h1,h2⟩
theorem Nd{bT:Nat}{k:ax}{xs:List AV}{v:AV}:∀(A B:List Rec)(up:List (Pos×AB)),kU bT k xs v up (A++B)=true->Good call cE h0 n0 (A++B)->HM B->
  (∀r∈A,r.c.l9=true->bT.testBit r.idx=false)->(∃r∈A,r.c.l9=true)->
  ∃h:T AB,(∀b x,h.get b=some x->(jy h0 B).get b=some x\/(∃r∈A,r.c= .new b x/\bT.testBit r.idx=true)\/(b,x)∈up)/\k.run (λb=>h.get b) .h xs=some (.val v)
 |[],B,up,_,_,_,_,he=>by obtain⟨r,hr,_⟩:=he;cases hr
 |r::A    , B,up,HN,hG,hB,hn,he=>by
  have Zm:∀r∈A,r.c.l9=true->bT.testBit r.idx=false:=λr' th=>hn r' (Za0 _ th)
  have ih:=λup (h2:kU bT k xs v up (A++B)=true) h3=>Nd A B up h2 hG.2 hB Zm h3
  simp only[Ze8,kU]at HN;cases hc:r.c with
  |pure=>
   rw[hc]at HN;have kX:∃r∈A,r.c.l9=true:=by
        obtain⟨r',h1,h2⟩:=he;rcases Za7.1 h1 with rfl|h1
        .rw[hc]at h2;cases h2
        .exact⟨r',h1,h2⟩
   obtain⟨h,h1,h2⟩:=ih up HN kX;exact⟨h,λb x hb=>(h1 b x hb).imp (λh=>h) (Or.imp (λ⟨r',h3,h4⟩=>⟨r',Za0 _ h3,h4⟩) λh=>h),h2⟩
  |new    id aA=>
   rw[hc]at HN;have kX:∃r∈A,r.c.l9=true:=by
        obtain⟨r',h1,h2⟩:=he;rcases Za7.1 h1 with rfl|h1
        .rw[hc]at h2;cases h2
        .exact⟨r',h1,h2⟩
   cases ht:bT.testBit r.idx with
   |    false=>
        simp only[ht]at HN;obtain⟨h,h1,h2⟩:=ih up HN kX;exact⟨h,λb x hb=>(h1 b x hb).imp (λh=>h) (Or.imp (λ⟨r',h3,h4⟩=>⟨r',Za0 _ h3,h4⟩) λh=>h),h2⟩
   |    true=>
        simp only[ht]at HN;obtain⟨h,h1,h2⟩:=ih _ HN kX;refine⟨h,λb x hb=> ?_,h2⟩;rcases h1 b x hb with h3|⟨r',h3,h4⟩|h3
        .exact .inl h3
        .exact .inr (.inl ⟨r',Za0 _ h3,h4⟩)
        . rcases Za7.1 h3 with h3|h3
          .simp only[Zb6]at h3;obtain⟨rfl,rfl⟩:=h3;exact .inr (.inl ⟨r,Zd8 ..,hc,ht⟩)
          .exact .inr (.inr h3)
  |aI base h=>
   rw[hc]at HN;have ht:=hn r (Zd8 ..) (by rw[hc];rfl);simp only[ht,Za9]at HN;rcases Ll A with hA|hA
   .    have Ys:base=jy h0 B:=(by have hs:=hG.1;(cases hs<;>simp only at hc<;>first|(cases hc;done)|skip);simp only[RC.aI.injEq]at hc;rw[<-hc.1];exact Lj hA);have hra:=HN.1;unfold eA at hra;(split at hra<;>first|(cases hra;done)|skip);rename_i u hu;rw[rM hra]at hu;refine⟨_,λb x hb=> ?_,hu⟩;rcases WR hb with hb|hb
        . rcases Sp hA hB hb with h3|⟨r',h3,h4⟩
          .rw[<-Ys];exact .inl h3
          .exact .inr (.inl ⟨r',Za0 _ h3,h4⟩)
        .exact .inr (.inr hb)
   .    obtain⟨h,h1,h2⟩:=ih up HN.2 hA;exact⟨h,λb x hb=>(h1 b x hb).imp (λh=>h) (Or.imp (λ⟨r',h3,h4⟩=>⟨r',Za0 _ h3,h4⟩) λh=>h),h2⟩
theorem TP:∀(L:List (Nat×bD))(R:List Rec)(fr br:Fr)(st st':St),dO call L R (jy h0 R) fr st=some (br,st')->Good call cE h0 n0 R->
  fr=mY cE R->st.heap=jz h0 R->st.next=dW n0 R->
  ∃R',Good call cE h0 n0 (R'++R)/\(R'.map λr=>(r.idx,r.o))=L.reverse/\br=mY cE (R'++R)/\st'.heap=jz h0 (R'++R)/\st'.next=dW n0 (R'++R)
 |[],R,fr,br,st,st',h,hG,h1,h2,h3=>by
  simp only[dO,H0,Zb6]at h;obtain⟨rfl,rfl⟩:=h;exact⟨[],hG,rfl,h1,h2,h3⟩
 |(j,   o)::  L,R,fr,br,st,st',h,hG,h1,h2,h3=>by
  have fin:∀(r:Rec)(aW:St)(cD:Fr),r.idx=j->r.o=o->qi call cE h0 n0 r R->cD=mY cE (r::R)->aW.heap=jz h0 (r::R)->aW.next=r.nx->
        dO call L (r::R) (jy h0 (r::R)) cD aW=some (br,st')->
        ∃R',Good call cE h0 n0 (R'++R)/\(R'.map λr=>(r.idx,r.o))=((j,o)::L).reverse/\br=mY cE (R'++R)/\st'.heap=jz h0 (R'++R)/\st'.next=dW n0 (R'++R):=by
    intro r aW cD hj ho hs k1 k2 k3 hd;obtain⟨R',g1,g2,g3,g4,g5⟩:=TP L (r::R) cD br aW st' hd ⟨hs,hG⟩ k1 k2 k3;have e:R'++r::R=(R'++[r])++R:=(by simp);rw[e]at g1 g3 g4 g5;exact⟨R'++[r],g1,by simp[g2,hj,ho],g3,g4,g5⟩
  unfold dO at h;subst h1;split at h
  .rename_i hw;exact fin _ _ _ rfl rfl (h3 ▸qi.skip j o R hw) rfl h2 rfl h
  . rename_i hw;(split at h<;>first|(cases h;done)|skip);rename_i xs hx;split at h
    .   (split at h<;>first|(cases h;done)|skip);rename_i v aA hr;rw[h3]at hr;have hs:=qi.new (call:=call) (cE:=cE) (h0:=h0) (n0:=n0) j o v aA xs R hw hx hr;rw[<-h3]at hs;refine fin _ _ _ rfl rfl hs rfl ?_ rfl h;simp only[jz,h2]
    .   rename_i agd;(split at h<;>first|(cases h;done)|skip);rename_i v aW hr;have q8:st={ heap:=jz h0 R,next:=dW n0 R }:=(by cases st;simp_all);rw[q8]at hr;exact fin _ aW _ rfl rfl (qi.aI j o v aW xs R agd hw hx hr) rfl rfl rfl h
    .   split at h
        . rename_i v hr;have WS:Zl h0 R o xs v:=by
           intro A B _ _ _;refine⟨.e,λb x hb=> ?_,?_⟩
           .  rw[T.ej]at hb;cases hb
           .  have e:(λb=>T.get b (T.e:T AB))=λ_=>none:=(by funext b;exact T.ej b);rw[e];exact hr
          exact fin _ _ _ rfl rfl (h3 ▸qi.pure j o v xs R hw hx WS) rfl h2 rfl h
        . (split at h<;>first|(cases h;done)|skip);rename_i v hr;(split at h<;>first|(cases h;done)|skip);rename_i HN;have WS:Zl h0 R o xs v:=by
           intro A B hAB hB hn;subst hAB;rcases Ll A with hA|hA
           .  refine⟨_,λb x hb=> ?_,hr⟩;have:=Sp hA hB hb;rw[Lj hA]at this;exact this
           .  obtain⟨h,k1,k2⟩:=Nd A B [] HN hG hB hn hA;exact⟨h,λb x hb=>(k1 b x hb).imp id λh=>h.resolve_right (by simp),k2⟩
          exact fin _ _ _ rfl rfl (h3 ▸qi.pure j o v xs R hw hx WS) rfl h2 rfl h
  .cases h
end
end
section
open Go
structure Late(m:Nat)(pre:List Nat)(L:List (Nat×bD)):Prop where
 all:∀i,i<m->i∈pre\/i∈L.map (·.1)
 lt:∀x∈L,x.1<m
 one:∀A i o B,L=A++(i,o)::B->i∉pre/\i∉A.map (·.1)
 bT:∀A i o B,L=A++(i,o)::B->∀b,o.bT.testBit b=true->b∈pre\/b∈A.map (·.1)
 aI:∀A i o B,L=A++(i,o)::B->o.cls= .aI->∀b,(b∈pre\/b∈A.map (·.1))->o.bT.testBit b=true
 apart:∀A i o B,L=A++(i,o)::B->∀x∈B,x.2.bT.testBit i=true\/Ob o x.2=true
theorem Rr{m:Nat}:∀(L:List (Nat×bD))(seen:Nat)(pre:List Nat),JF m seen L=true->(∀b,seen.testBit b=true↔b∈pre)->Late m pre L
 |[],seen,pre,h,hs=>by
  simp only[JF]at h;have:=H4 h;refine⟨λi hi=>.inl ((hs i).1 ?_),λx hx=>(by cases hx),λA i o B h=> ?_,λA i o B h=> ?_,λA i o B h=> ?_,λA i o B h=> ?_⟩
  .rw[this,Nat.testBit_two_pow_sub_one];simpa using hi
  all_goals (cases A<;>cases h)
 |(i,   o)::L,seen,pre,h,hs=>by
  simp only[JF,Za9]at h;obtain⟨⟨⟨⟨⟨h1,h2⟩,h3⟩,h4⟩,h5⟩,h6⟩:=h;have h1:i<m:=Za1 h1;have h2:i∉pre:=λhp=>by rw[(hs i).2 hp]at h2;cases h2
  have h3:=H4 h3;have hb:∀b,o.bT.testBit b=true->b∈pre:=λb hb=>by rw[<-h3,Nat.testBit_and,Za9]at hb;exact(hs b).1 hb.2
  have he:o.cls= .aI->∀b,b∈pre->o.bT.testBit b=true:=λhc b hp=>by rw[hc]at h4;rw[H4 h4];exact(hs b).2 hp
  have ih:=Rr L (seen ||| 2 ^ i) (pre++[i]) h6 (λb=>by
    rw[Nat.testBit_or,Nat.testBit_two_pow,Zi0,hs b,Zd5];simp[eq_comm])
  rw[Ze5]at h5;have Yu:∀{A:List (Nat×bD)}{j:Nat}{p:bD}{B:List (Nat×bD)},(i,o)::L=A++(j,p)::B->(A=[]/\i=j/\o=p/\L=B)\/∃A',A=(i,o)::A'/\L=A'++(j,p)::B:=by
    intro A j p B hA;cases A with
    |nil=>simp at hA;exact .inl ⟨rfl,hA.1.1,hA.1.2,hA.2⟩
    |cons x A=>simp at hA;exact .inr ⟨A,by rw[hA.1],hA.2⟩
  refine⟨λj hj=> ?_,λx hx=> ?_,λA j p B hA=> ?_,λA j p B hA=> ?_,λA j p B hA=> ?_,λA j p B hA=> ?_⟩
  . rcases ih.all j hj with h|h
    .   rcases Zd5.1 h with h|h
        .exact .inl h
        .simp at h;exact .inr (by simp[h])
    .   exact .inr (by simp only[Zb4,Za7];exact .inr h)
  . rcases Za7.1 hx with rfl|hx
    .   exact h1
    .   exact ih.lt x hx
  . rcases Yu hA with⟨rfl,rfl,rfl,rfl⟩|⟨A',rfl,Nf⟩
    .   exact⟨h2,by simp⟩
    .   obtain⟨k1,k2⟩:=ih.one A' j p B Nf;simp only[Zd5,Zc9,not_or]at k1;exact⟨k1.1,by simp only[Zb4,Za7,not_or];exact⟨k1.2,k2⟩⟩
  . rcases Yu hA with⟨rfl,rfl,rfl,rfl⟩|⟨A',rfl,Nf⟩
    .   exact λb kI=>.inl (hb b kI)
    .   intro b kI;rcases ih.bT A' j p B Nf b kI with h|h
        . rcases Zd5.1 h with h|h
          .exact .inl h
          .simp at h;exact .inr (by simp[h])
        .exact .inr (by simp only[Zb4,Za7];exact .inr h)
  . rcases Yu hA with⟨rfl,rfl,rfl,rfl⟩|⟨A',rfl,Nf⟩
    .   intro hc b kI;rcases kI with h|h
        .exact he hc b h
        .simp at h
    .   intro hc b kI;refine ih.aI A' j p B Nf hc b ?_;rcases kI with h|h
        .exact .inl (Zd5.2 (.inl h))
        . simp only[Zb4,Za7]at h;rcases h with rfl|h
          .exact .inl (by simp)
          .exact .inr h
  . rcases Yu hA with⟨rfl,rfl,rfl,rfl⟩|⟨A',rfl,Nf⟩
    .   intro x hx;have:=h5 x hx
        rwa [Zi0]at this
    .   exact ih.apart A' j p B Nf
inductive Reach(ops:Array Oper):Nat->Nat->Prop where
 |edge (i:Nat) (o:Oper) (e:Edge) (ho:ops[i]? =some o) (he:e∈o.after) (hb:Region.binds .any e=true):Reach ops i e.on
 |trans (i:Nat) (o:Oper) (e:Edge) (b:Nat) (ho:ops[i]? =some o) (he:e∈o.after) (hb:Region.binds .any e=true) (h:Reach ops e.on b):Reach ops i b
def acR(ops:Array Oper)(i m:Nat):Prop:=
 (∀o,ops[i]? =some o->∀e∈o.after,Region.binds .any e=true->m.testBit e.on=true)/\∀b,m.testBit b=true->Reach ops i b
theorem Vj(acc:List Nat):∀(l:List Edge)(s b:Nat),(l.foldl (λs e=>match Region.binds .any e with
   |true=>s ||| 2 ^ e.on ||| (nth acc e.on).getD 0
   |false=>s) s).testBit b=true↔s.testBit b=true\/∃e∈l,Region.binds .any e=true/\(e.on=b\/((nth acc e.on).getD 0).testBit b=true)
 |[],s,b=>by simp
 |e::l,s,b=>by
  rw[Zo7,Vj acc l];cases he:Region.binds .any e with
  |false=>simp[he]
  |true=>
   simp only[Nat.testBit_or,Zi0,Nat.testBit_two_pow,Zd3,Za7,exists_eq_or_imp,he,true_and];constructor
   .    rintro(((h|h)|h)|h)
        .exact .inl h
        .exact .inr (.inl (.inl h))
        .exact .inr (.inl (.inr h))
        .exact .inr (.inr h)
   .    rintro(h|(h|h)|h)
        .exact .inl (.inl (.inl h))
        .exact .inl (.inl (.inr h))
        .exact .inl (.inr h)
        .exact .inr h
theorem abJ {ops:Array Oper}:∀(os:List Oper)(acc:List Nat),os=ops.toList.drop acc.length->acc.length<=ops.size->(∀i,i<acc.length->acR ops i (acc.getD i 0))->
  ∀i,i<ops.size->acR ops i ((YP os acc).getD i 0)
 |[],acc,hos,hl,acS,i,hi=>by
  have h1:(ops.toList.drop acc.length).length=0:=by rw[<-hos];rfl
  have:ops.size<=acc.length:=by simp at h1;omega
  exact acS i (by omega)
 |o ::os,acc,hos,hl,acS,i,hi=>by
  simp only[YP];have ho:ops[acc.length]? =some o:=by have:(ops.toList.drop acc.length)[0]? =some o:=(by rw[<-hos];rfl);simpa using this
  have bw:acc.length<ops.size:=(Zd2.1 ho).1;refine abJ os _ ?_ (by simp;omega) (λj hj=> ?_) i hi
  .rw[Zb1,Zk3, <-Zl3, <-hos];rfl
  . rcases Zj6 j acc.length with h|h
    .   rw[Zc1,Zd9 h, <-Zc1];exact acS j h
    .   have Ei:j=acc.length:=(by simp at hj;omega);subst Ei;rw[Zc1,Zd1 (Za3 _)];simp only[Zp0,Za5,Zf1];refine⟨λo' HK e he hb=> ?_,λb hb=> ?_⟩
        .rw[ho]at HK;simp only[H0]at HK;subst HK;exact(Vj acc _ 0 e.on).2 (.inr ⟨e,by simpa using he,hb,.inl rfl⟩)
        . have hb:=(Vj acc _ 0 b).1 hb;rcases hb with hb|⟨e,he,kI,hb⟩
          .simp at hb
          . have kX:e∈o.after:=(by simpa using he);rcases hb with rfl|hb
            .exact .edge _ o e ho kX kI
            . refine .trans _ o e b ho kX kI ?_;rw[lY]at hb;rcases Zj6 e.on acc.length with h|h
              .exact(acS _ h).2 b (by rw[Zc1];exact hb)
              .rw[Zc4 h]at hb;simp at hb
theorem abK:∀(l:List bD)(k:Nat)(x:Nat×bD),x∈Ft k l->∃i,x.1=k+i/\l[i]? =some x.2
 |[],k,x,h=>by cases h
 |o ::l,k,x,h=>by
  simp only[Ft,Za7]at h;rcases h with rfl|h
  .exact⟨0,rfl,rfl⟩
  .obtain⟨i,h1,h2⟩:=abK l (k+1) x h;exact⟨i+1,by omega,by simpa using h2⟩
theorem On:∀(l held:List (Nat×bD))(x:Nat×bD),x∈yM l held->x∈l\/x∈held
 |[],held,x,h=>.inr h
 |(i,   o)::l,held,x,h=>by
  unfold yM at h;split at h
  . rcases Zd5.1 h with h|h
    .   exact .inr (Zq4.1 h).1
    .   rcases Za7.1 h with h|h
        .exact .inl (by rw[h];exact Zd8 ..)
        . rcases On l _ x h with h|h
          .exact .inl (Za0 _ h)
          .exact .inr (Zq4.1 h).1
  . rcases On l _ x h with h|h
    .   exact .inl (Za0 _ h)
    .   rcases Zd5.1 h with h|h
        .exact .inr h
        .simp at h;exact .inl (by rw[h];exact Zd8 ..)
theorem aix{l:List bD}{x:Nat×bD}(h:x∈yM (Ft 0 l) []):l[x.1]? =some x.2:=by
 rcases On _ _ _ h with h|h
 .obtain⟨i,h1,h2⟩:=abK l 0 x h;rw[h1,Zc7];exact h2
 .cases h
theorem Lm{p:Pos}:∀{l:List Pos},JE p l=true↔p∈l
 |[]=>by simp[JE]
 |q::l=>by simp[JE,Lm (l:=l),Pos.beq_eq]
theorem IP{a b:bD}(h:Ob a b=true):
   (∀d,a.dst=some d->d∉b.looks/\b.dst≠some d)/\(∀d,b.dst=some d->d∉a.looks):=by
 unfold Ob at h;rw[Za9]at h;obtain⟨h1,h2⟩:=h;constructor
 . intro d hd;rw[hd]at h1;simp only[Za9,Zi6]at h1;refine⟨λhm=> ?_,λhb=> ?_⟩
   .rw[Lm.2 hm]at h1;exact absurd h1.1 (by simp)
   .rw[hb]at h1;have:Pos.beq d d=true:=Pos.beq_eq.2 rfl;simp[this]at h1
 .intro d hd hm;rw[hd]at h2;simp only[Zi6]at h2;rw[Lm.2 hm]at h2;cases h2
section
variable(P:Program)(tt:TT)(C:Cells)(nt:Nat)(ops:Array Oper)(call:ah)(cE:Fr)(h0:T AB)(n0:Pos)(R:List Rec)
structure AI:Prop where
 Sq:Good call cE h0 n0 R
 mono:mX call
 one:∀A r B,R=A++r::B->∀r'∈B,r'.idx≠r.idx
 bT:∀A r B,R=A++r::B->∀b,r.o.bT.testBit b=true->∃r'∈B,r'.idx=b
 aI:∀A r B,R=A++r::B->r.o.cls= .aI->∀r'∈B,r.o.bT.testBit r'.idx=true
 apart:∀A r B,R=A++r::B->∀r'∈A,r'.o.bT.testBit r.idx=true\/Ob r.o r'.o=true
 rel:∀r∈R,∃o,ops[r.idx]? =some o/\wG tt nt ops o r.o/\acR ops r.idx r.o.bT
 all:∀i,i<ops.size->∃r∈R,r.idx=i
def Kept(D:Nat->Prop)(b:Pos):Prop:=∀A r B,R=A++r::B->¬D r.idx->b.toNat<(dW n0 B).toNat\/r.nx.toNat<=b.toNat
def T1(D:Nat->Prop)(ρ:Pos->Loc)(tmps:Array Value):Prop:=
 ∀M s T p,R=M++s::T->D s.idx->s.o.dst=some p->(∀s'∈M,D s'.idx->s'.o.dst≠some p)->∃x,tmps[p.toNat - 1]? =some x/\aq ρ s.nx.toNat C s.v x
def T0(D:Nat->Prop)(ρ:Pos->Loc)(tmps:Array Value):Prop:=
 ∀p v,cE.get p=some v->(∀s∈R,D s.idx->s.o.dst≠some p)->∃x,tmps[p.toNat - 1]? =some x/\aq ρ n0.toNat C v x
structure WT(D:Nat->Prop)(A B:List Rec)(a:Act):Prop where
 split:R=A++B
 bound:HM B
 inB:∀r∈B,D r.idx
 Zn:∀r∈A,D r.idx->r.c.l9=false
 closed:∀i o e,D i->ops[i]? =some o->e∈o.after->Region.binds .any e=true->D e.on
 size:a.tmps.size=nt
 defers:a.defers=[]
structure Inv0(kJ:Pos->Loc)(w0:World)(D:Nat->Prop)(A B:List Rec)(ρ:Pos->Loc)(a:Act)(w:World):Prop where
 W:bn ρ C { heap:=jy h0 B,next:=dW n0 B } w
 N:∀r∈A,D r.idx->∀id aA,r.c= .new id aA->mQ ρ r.nx.toNat C (ρ id) w aA/\(ρ id).aA<w.heap.size/\w0.heap.size<=(ρ id).aA/\
  (∀b x,(jy h0 B).get b=some x->(ρ b).aA≠(ρ id).aA)/\(∀ad v,C ad=some v->(ρ id).aA≠ad.block)
 N2:∀r∈A,D r.idx->∀id aA,r.c= .new id aA->∀r'∈A,D r'.idx->∀uy DN,r'.c= .new uy DN->id≠uy->(ρ id).aA≠(ρ uy).aA
 t1:T1 C R D ρ a.tmps
 t0:T0 C cE n0 R D ρ a.tmps
 E:jW kJ { heap:=h0,next:=n0 } w0 ρ { heap:=jy h0 B,next:=dW n0 B } w
 ET:∀b:Pos,b.toNat<n0.toNat->ρ b=kJ b
def Inv(kJ:Pos->Loc)(w0:World)(D:Nat->Prop)(A B:List Rec)(ρ:Pos->Loc)(a:Act)(w:World):Prop:=
 WT nt ops R D A B a/\∀ρ',(∀b,Kept n0 R D b->ρ' b=ρ b)->Inv0 C cE h0 n0 R kJ w0 D A B ρ' a w
end
section
variable{P:Program}{tt:TT}{C:Cells}{nt:Nat}{ops:Array Oper}{call:ah}{cE:Fr}{h0:T AB}{n0:Pos}{R:List Rec}
theorem FO(h:∀A r B,R=A++r::B->∀r'∈B,r'.idx≠r.idx){X X' Y Y':List Rec}{r r':Rec}(h1:R=X++r::Y)(h2:R=X'++r'::Y')(hi:r.idx=r'.idx):
   X=X'/\r=r'/\Y=Y':=by
 have h3:X++r::Y=X'++r'::Y':=h1.symm.trans h2;rcases List.append_eq_append_iff.1 h3 with⟨Z,hX,hZ⟩|⟨Z,hX,hZ⟩
 . cases Z with
   |nil=>simp at hZ hX;exact⟨hX.symm,hZ.1,hZ.2⟩
   |cons z Z=>
    simp at hZ;exact absurd hi.symm (h X r Y h1 r' (by rw[hZ.2];simp))
 . cases Z with
   |nil=>simp at hZ hX;exact⟨hX,hZ.1.symm,hZ.2.symm⟩
   |cons z Z=>
    simp at hZ;exact absurd hi (h X' r' Y' h2 r (by rw[hZ.2];simp))
theorem lN{r:Rec}(h:r∈R):∃A B,R=A++r::B:=List.append_of_mem h
theorem abL(hm:mX call){r:Rec}{B:List Rec}(h:qi call cE h0 n0 r B):(dW n0 B).toNat<=r.nx.toNat:=by
 cases h with
 |skip=>exact Za3 _
 |pure=>exact Za3 _
 |new=>simp only[Pos.aB];omega
 |aI i o v st' xs _ hc hw hx hr=>exact Lh hm hr
theorem Vk(hm:mX call):∀{A B:List Rec},Good call cE h0 n0 (A++B)->(dW n0 B).toNat<=(dW n0 (A++B)).toNat
 |[],_,_=>Za3 _
 |r::A,B,h=>Zd6 (Vk hm (A:=A) h.2) (abL hm h.1)
namespace AI
variable(G:AI tt nt ops call cE h0 n0 R)
include G
theorem later{X Y:List Rec}{r r':Rec}(h:R=X++r::Y)(hr:r'∈X):r'.idx≠r.idx:=by
 obtain⟨A,B,rfl⟩:=lN hr;have h':R=A++r'::(B++r::Y):=by rw[h];simp
 exact λe=>G.one _ _ _ h' r (by simp) e.symm
theorem ah6{X Y:List Rec}{r:Rec}(h:R=X++r::Y):(dW n0 Y).toNat<=r.nx.toNat:=abL G.mono (Good.at (h ▸G.Sq))
theorem Da{X Y Z:List Rec}(h:R=X++(Y++Z)):(dW n0 Z).toNat<=(dW n0 (Y++Z)).toNat:=Vk G.mono (Good.tail (h ▸G.Sq))
theorem acT{X Y:List Rec}(h:R=X++Y):n0.toNat<=(dW n0 Y).toNat:=by have:=Vk (n0:=n0) G.mono (A:=Y) (B:=[]) (by rw[Ze9];exact Good.tail (h ▸G.Sq));rw[Ze9]at this;exact this
theorem TQ{D:Nat->Prop}(hc:∀i o e,D i->ops[i]? =some o->e∈o.after->Region.binds .any e=true->D e.on){i b:Nat}(h:Reach ops i b)
  (hi:∀o e,ops[i]? =some o->e∈o.after->Region.binds .any e=true->D e.on):D b:=by
 induction h with
 |edge i o e ho he hb=>exact hi o e ho he hb
 |trans i o e b ho he hb _ ih=>exact ih λo' e' HK kX jw=>hc _ o' e' (hi o e ho he hb) HK kX jw
theorem ah7{D:Nat->Prop}{A B:List Rec}{a:Act}(hp:WT nt ops R D A B a){s:Rec}(hs:s∈R)(hD:D s.idx){b:Nat}(hb:s.o.bT.testBit b=true):D b:=by obtain⟨o,ho,_,hB⟩:=G.rel s hs;exact G.TQ hp.closed (hB.2 b hb) λo' e HK he kI=>hp.closed _ o' e hD HK he kI
end AI
theorem Oo:∀(Y:List Rec)(p:Pos)(v:AV),(mY cE Y).get p=some v->
  (∃M s T,Y=M++s::T/\s.o.dst=some p/\s.v=v/\∀s'∈M,s'.o.dst≠some p)\/(cE.get p=some v/\∀s∈Y,s.o.dst≠some p)
 |[],p,v,h=>.inr ⟨h,λs hs=>by cases hs⟩
 |r ::Y   ,p,v,h=>by
  simp only[mY]at h;by_cases hr:r.o.dst=some p
  .rw[hr]at h;simp only[dP,T.eB,H0]at h;exact .inl ⟨[],r,Y,rfl,hr,h,λs hs=>by cases hs⟩
  . have h':(mY cE Y).get p=some v:=by
        cases hd:r.o.dst with
        |none=>rw[hd]at h;exact h
        | some d=>
          rw[hd]at h;simp only[dP]at h
          rwa [T.bH _ λe=>hr (by rw[hd,e])]at h
    rcases Oo Y p v h' with⟨M,s,T,rfl,h2,h3,h4⟩|⟨h2,h3⟩
    .   refine .inl ⟨r::M,s,T,rfl,h2,h3,λs' mV=> ?_⟩;rcases Za7.1 mV with rfl|mV
        .exact hr
        .exact h4 s' mV
    .   refine .inr ⟨h2,λs hs=> ?_⟩;rcases Za7.1 hs with rfl|hs
        .exact hr
        .exact h3 s hs
theorem look(G:AI tt nt ops call cE h0 n0 R){D:Nat->Prop}{A B:List Rec}{a:Act}(hp:WT nt ops R D A B a){ρ:Pos->Loc}(h1:T1 C R D ρ a.tmps)(h2:T0 C cE n0 R D ρ a.tmps)
   {X Y:List Rec} {r:Rec} (hR:R=X++r::Y) (hD:¬D r.idx) (Vl:∀b,r.o.bT.testBit b=true->D b) {p:Pos} {v:AV} (hl:p∈r.o.looks) (hv:(mY cE Y).get p=some v):
   ∃x,a.tmps[p.toNat - 1]? =some x/\aq ρ (dW n0 Y).toNat C v x:=by
 have hX:∀s∈X,D s.idx->s.o.dst≠some p:=by
   intro s hs gq hd;rcases G.apart X r Y hR s hs with h|h
   .exact hD (G.ah7 hp (by rw[hR];simp[hs]) gq h)
   .exact(IP h).2 p hd hl
 rcases Oo Y p v hv with⟨M,s,T,rfl,h3,rfl,h4⟩|⟨h3,h4⟩
 . have hR':R=(X++r::M)++s::T:=(by rw[hR];simp);have gq:D s.idx:=by
     rcases G.apart _ s T hR' r (by simp)with h|h
     .  exact Vl _ h
     .  exact absurd hl ((IP h).1 p h3).1
   obtain⟨x,hx,Oq⟩:=h1 (X++r::M) s T p hR' gq h3 (λs' mV FP=>by
     rcases Zd5.1 mV with h|h
     .  exact hX s' h FP
     .  rcases Za7.1 h with rfl|h
        .exact absurd FP hD
        .exact h4 s' h)
   refine⟨x,hx,Oq.mono (λ_ _=>rfl) ?_⟩;have:=G.Da (X:=X++[r]) (Y:=M) (Z:=s::T) (by rw[hR];simp);exact this
 . obtain⟨x,hx,Oq⟩:=h2 p v h3 (λs hs gq=>by
     rw[hR]at hs;rcases Zd5.1 hs with h|h
     .  exact hX s h gq
     .  rcases Za7.1 h with rfl|h
        .exact absurd gq hD
        .exact h4 s h)
   exact⟨x,hx,Oq.mono (λ_ _=>rfl) (G.acT (X:=X++[r]) (by rw[hR];simp))⟩
theorem HO{a:Act}{d:Option Tmp}{x:Value}{p:Pos}(h:d.map key≠some p):(a.put d x).tmps[p.toNat - 1]? =a.tmps[p.toNat - 1]? :=by
 cases d with
 |none=>rfl
 |some e=>
  simp only[Act.put];rw[Ze2];intro he;apply h;simp only[Ze3,H0];apply Pos.toNat_inj;rw[fD];have:=p.toNat_pos;omega
theorem age{a:Act}{d:Option Tmp}{x:Value}{p:Pos}(h:d.map key=some p)(hs:a.tmps.size=nt)(hd:∀e,d=some e->e<nt):(a.put d x).tmps[p.toNat - 1]? =some x:=by
 cases d with
 |none=>cases h
 |some e=>
  simp only[Ze3,H0]at h;subst h;simp only[Act.put];rw[fD,Zf0,Zl7];simp[hs,hd e rfl]
theorem acU(G:AI tt nt ops call cE h0 n0 R){D:Nat->Prop}{A B:List Rec}{a:Act}(hp:WT nt ops R D A B a){ρ:Pos->Loc}(h1:T1 C R D ρ a.tmps)(h2:T0 C cE n0 R D ρ a.tmps)
   {X Y:List Rec} {r:Rec} (hR:R=X++r::Y) (hD:¬D r.idx) {o:Oper} (hrel:wG tt nt ops o r.o) {x:Value} (hv:aq ρ r.nx.toNat C r.v x):
   T1 C R (λi=>D i\/i=r.idx) ρ (a.put o.dst x).tmps/\T0 C cE n0 R (λi=>D i\/i=r.idx) ρ (a.put o.dst x).tmps:=by
 constructor
 . intro  M s T p hM gq hd kH;by_cases hi:s.idx=r.idx
   .obtain⟨_,rfl,_⟩:=FO G.one hM hR hi;rw[hrel.dst]at hd;exact⟨x,age hd hp.size hrel.lt,hv⟩
   . have gq:=gq.resolve_right hi;by_cases Ot:r.o.dst=some p
     .  exfalso;have hs:s∈R:=(by rw[hM];simp);rw[hR]at hs;rcases Zd5.1 hs with h|h
        . rcases G.apart X r Y hR s h with k|k
          .exact hD (G.ah7 hp (by rw[hR];simp[h]) gq k)
          .exact((IP k).1 p Ot).2 hd
        . rcases Za7.1 h with rfl|h
          .exact hi rfl
          .obtain⟨Y1,Y2,rfl⟩:=lN h;have hR':R=(X++r::Y1)++s::Y2:=(by rw[hR];simp);obtain⟨hM',_,_⟩:=FO G.one hM hR' rfl;exact kH r (by rw[hM'];simp) (.inr rfl) Ot
     .  (rw[hrel.dst]at Ot;obtain⟨y,hy,FC⟩:=h1 M s T p hM gq hd λs' mV FP=>kH s' mV (.inl FP));exact⟨y,by rw[HO Ot];exact hy,FC⟩
 . (intro p v hf kH;have hr:r.o.dst≠some p:=kH r (by rw[hR];simp) (.inr rfl);rw[hrel.dst]at hr;obtain⟨y,hy,FC⟩:=h2 p v hf λs hs gq=>kH s hs (.inl gq));exact⟨y,by rw[HO hr];exact hy,FC⟩
end
section
variable{P:Program}{tt:TT}{C:Cells}{nt:Nat}{ops:Array Oper}{call:ah}{cE:Fr}{h0:T AB}{n0:Pos}{R:List Rec}
theorem bn.congr{ρ ρ':Pos->Loc}{st:St}{w:World}(h:bn ρ C st w)(aY:∀b:Pos,b.toNat<st.next.toNat->ρ' b=ρ b):bn ρ' C st w where
 live b x hb:=by
  obtain⟨h1,h2,h3⟩:=h.live b x hb;rw[aY b h1];exact⟨h1,h2,h3.mono aY (Za3 _)⟩
 inj b b' x x' hb jw he:=by rw[aY b (h.live b x hb).1,aY b' (h.live b' x' jw).1]at he;exact h.inj b b' x x' hb jw he
 ek a v ha:=⟨(h.ek a v ha).1,λb x hb=>by rw[aY b (h.live b x hb).1];exact(h.ek a v ha).2 b x hb⟩
 whole:=h.whole
theorem jW.congr{ρ eI ρ':Pos->Loc}{st st':St}{w w':World}(h:jW ρ st w eI st' w')(aY:∀b x,st'.heap.get b=some x->ρ' b=eI b):jW ρ st w ρ' st' w' where
 os:=h.os
 tape:=h.tape
 output:=h.output
 size:=h.size
 block:=h.block
 oU b x hb:=by rw[aY b x hb];exact h.oU b x hb
namespace AI
variable(G:AI tt nt ops call cE h0 n0 R)
include G
theorem same{r r':Rec}(h:r∈R)(h':r'∈R)(hi:r.idx=r'.idx):r=r':=by obtain⟨A,B,hA⟩:=lN h;obtain⟨A',B',Nf⟩:=lN h';exact(FO G.one hA Nf hi).2.1
theorem cmp{X Y X' Y':List Rec}{r r':Rec}(h1:R=X++r::Y)(h2:R=X'++r'::Y')(hi:r'.idx≠r.idx):
   (∃Z,Y'=Z++r::Y)\/(∃Z,Y=Z++r'::Y'):=by
 have h3:X++r::Y=X'++r'::Y':=h1.symm.trans h2;rcases List.append_eq_append_iff.1 h3 with⟨Z,hX,hZ⟩|⟨Z,hX,hZ⟩
 . cases Z with
   |nil=>simp at hZ;exact absurd (by rw[hZ.1]) hi
   |cons z Z=>simp at hZ;exact .inr ⟨Z,hZ.2⟩
 . cases Z with
   |nil=>simp at hZ;exact absurd (by rw[hZ.1]) hi
   |cons z Z=>simp at hZ;exact .inl ⟨Z,hZ.2⟩
theorem Ln{X Y X' Z:List Rec}{r r':Rec}(h1:R=X++r::Y)(h2:R=X'++r'::(Z++r::Y)):r.nx.toNat<=(dW n0 (Z++r::Y)).toNat:=by have:=G.Da (X:=X'++[r']) (Y:=Z) (Z:=r::Y) (by rw[h2];simp);exact this
theorem EU{X Y' Z:List Rec}{r r':Rec}(h1:R=X++r::(Z++r'::Y')):r'.nx.toNat<=(dW n0 (Z++r'::Y')).toNat:=by have:=G.Da (X:=X++[r]) (Y:=Z) (Z:=r'::Y') (by rw[h1];simp);exact this
theorem Ou{X Y:List Rec}{r:Rec}(h:R=X++r::Y){id:Pos}{aA:AB}(hc:r.c= .new id aA):id=dW n0 Y/\r.nx=id.succ:=by
 have hs:=Good.at (h ▸G.Sq);cases hs<;>simp only at hc<;>first|(cases hc;done)|skip
 simp only[RC.new.injEq]at hc;obtain⟨rfl,_⟩:=hc;exact⟨rfl,rfl⟩
end AI
theorem Kept.up{D D':Nat->Prop}(h:∀i,D i->D' i){b:Pos}(hk:Kept n0 R D b):Kept n0 R D' b:=λA r B hR hD=>hk A r B hR λhd=>hD (h _ hd)
theorem WT.next(G:AI tt nt ops call cE h0 n0 R){D:Nat->Prop}{A B:List Rec}{a:Act}(hp:WT nt ops R D A B a){X Y:List Rec}{r:Rec}(hR:R=X++r::Y)
  (qj:∀o e,ops[r.idx]? =some o->e∈o.after->Region.binds .any e=true->D e.on) (hc:r.c.l9=false) (d:Option Tmp) (x:Value):
  WT nt ops R (λi=>D i\/i=r.idx) A B (a.put d x) where
 split:=hp.split
 bound:=hp.bound
 inB s hs:= .inl (hp.inB s hs)
 Zn s hs hD:=by
  rcases hD with hD|hD
  .exact hp.Zn s hs hD
  .rw[G.same (by rw[hp.split];simp[hs]) (by rw[hR];simp) hD];exact hc
 closed i o e hD ho he hb:=by
  rcases hD with hD|rfl
  .exact .inl (hp.closed i o e hD ho he hb)
  .exact .inl (qj o e ho he hb)
 size:=by rw[Act.iQ];exact hp.size
 defers:=by rw[Act.jQ];exact hp.defers
theorem WU(G:AI tt nt ops call cE h0 n0 R){kJ:Pos->Loc}{w0:World}{D:Nat->Prop}{A B:List Rec}{ρ:Pos->Loc}{a:Act}{w:World}
  (hI:Inv C nt ops cE h0 n0 R kJ w0 D A B ρ a w) {X Y:List Rec} {r:Rec} (hR:R=X++r::Y) (hD:¬D r.idx)
  (qj:∀o e,ops[r.idx]? =some o->e∈o.after->Region.binds .any e=true->D e.on) {o:Oper} (hrel:wG tt nt ops o r.o) (hc:r.c= .pure) {x:Value}
  (hv:∀ρ',(∀b,Kept n0 R D b->ρ' b=ρ b)->aq ρ' r.nx.toNat C r.v x):
  Inv C nt ops cE h0 n0 R kJ w0 (λi=>D i\/i=r.idx) A B ρ (a.put o.dst x) w:=by
 obtain⟨hp,hI⟩:=hI;refine⟨hp.next G hR qj (by rw[hc];rfl) _ _,λρ' Cy=> ?_⟩;have hf:∀b,Kept n0 R D b->ρ' b=ρ b:=λb hb=>Cy b (hb.up λ_ h=>.inl h)
 have h:=hI ρ' hf;have hnr:∀s∈A,(D s.idx\/s.idx=r.idx)->∀id aA,s.c= .new id aA->D s.idx:=λs hs gq id aA fT=>by
  rcases gq with gq|gq
  .exact gq
  .rw[G.same (by rw[hp.split];simp[hs]) (by rw[hR];simp) gq,hc]at fT;cases fT
 obtain⟨k1,k2⟩:=acU G hp h.t1 h.t0 hR hD hrel (hv ρ' hf);exact⟨h.W,λs hs gq id aA fT=>h.N s hs (hnr s hs gq id aA fT) id aA fT,
  λs hs gq id aA fT s' mV FP uy DN rN=>h.N2 s hs (hnr s hs gq id aA fT) id aA fT s' mV (hnr s' mV FP uy DN rN) uy DN rN,k1,k2,h.E,h.ET⟩
theorem bn.grow{ρ:Pos->Loc}{st:St}{w w':World}(h:bn ρ C st w)(hs:w.heap.size<=w'.heap.size)(hb:∀k,k<w.heap.size->w'.heap[k]? =w.heap[k]?):bn ρ C st w' where
 live b x hx:=let⟨h1,h2,h3⟩:=h.live b x hx;⟨h1,Zc8 h2 hs,h3.of_heap (hb _ h2)⟩
 inj:=h.inj
 ek a v ha:=by
  obtain⟨h1,h2⟩:=h.ek a v ha;exact⟨by rw[World.cell?_of_block (w:=w) (hb _ (World.block_lt_of_cell? _ _ h1))];exact h1,h2⟩
 whole a v ha o ho:=by have kF:a.block<w.heap.size:=World.block_lt_of_cell? _ _ (h.ek a v ha).1;rw[World.cell?_of_block (w:=w) (a:=⟨a.block,o,none⟩) (hb _ kF)];exact h.whole a v ha o ho
theorem agf(G:AI tt nt ops call cE h0 n0 R){kJ:Pos->Loc}{w0:World}{D:Nat->Prop}{A B:List Rec}{ρ:Pos->Loc}{a:Act}{w w':World}
   (hI:Inv C nt ops cE h0 n0 R kJ w0 D A B ρ a w) {X Y:List Rec} {r:Rec} (hR:R=X++r::Y) (hD:¬D r.idx)
   (qj:∀o e,ops[r.idx]? =some o->e∈o.after->Region.binds .any e=true->D e.on) {o:Oper} (hrel:wG tt nt ops o r.o) {id:Pos} {aA:AB} (hc:r.c= .new id aA) {x:Value} {L:Loc}
   (hL:w.heap.size<=L.aA) (hL':L.aA<w'.heap.size) (hos:w'.os=w.os) (akl:w'.tape=w.tape) (Vm:w'.output=w.output) (agh:∀k,k<w.heap.size->w'.heap[k]? =w.heap[k]?)
   (hv:∀ρ',(∀b,Kept n0 R D b->ρ' b=ρ b)->ρ' id=L->aq ρ' r.nx.toNat C r.v x/\mQ ρ' r.nx.toNat C L w' aA):
   Inv C nt ops cE h0 n0 R kJ w0 (λi=>D i\/i=r.idx) A B (λb=>if b=id then L else ρ b) (a.put o.dst x) w':=by
 obtain⟨hp,hI⟩:=hI;have hrA:r∈A:=by
   have:r∈R:=(by rw[hR];simp);rw[hp.split]at this;exact(Zd5.1 this).resolve_right λh=>hD (hp.inB r h)
 obtain⟨TO,Ov⟩:=G.Ou hR hc;have ew:w.heap.size<=w'.heap.size:=by omega
 refine⟨hp.next G hR qj (by rw[hc];rfl) _ _,λρ' Cy=> ?_⟩;have hkid:Kept n0 R (λi=>D i\/i=r.idx) id:=by
   (intro A' r' B' Nf hD';have cU:r'.idx≠r.idx:=λe=>hD' (.inr e));rcases G.cmp hR Nf cU with⟨Z,rfl⟩|⟨Z,rfl⟩
   .left;have:=G.Ln hR Nf;rw[Ov,Pos.aB]at this;omega
   .right;have:=G.EU hR;rw[TO];exact this
 have acV:ρ' id=L:=by rw[Cy id hkid];simp
 have hf:∀b,Kept n0 R D b->ρ' b=ρ b:=λb hb=>by
   have cU:b≠id:=by
     rintro rfl;rcases hb X r Y hR hD with h|h
     .  rw[TO]at h;omega
     .  rw[Ov,Pos.aB]at h;omega
   rw[Cy b (hb.up λ_ h=>.inl h)];exact Za2 cU
 have h:=hI ρ' hf;obtain⟨Rc,Fy⟩:=hv ρ' hf acV;obtain⟨k1,k2⟩:=acU G hp h.t1 h.t0 hR hD hrel Rc;have Yv:∀s∈A,(D s.idx\/s.idx=r.idx)->D s.idx\/s=r:=λs hs gq=>gq.imp (λh=>h) λgq=>G.same (by rw[hp.split];simp[hs]) (by rw[hR];simp) gq
 refine⟨h.W.grow ew agh,λs hs gq uy DN fT=> ?_,λs hs gq uy DN fT s' mV FP id'' ah8 rN cU=> ?_,k1,k2,?_,h.ET⟩
 . rcases Yv s hs gq with gq|rfl
   .obtain⟨g1,g2,g3,g4,g5⟩:=h.N s hs gq uy DN fT;exact⟨g1.of_heap (agh _ g2),by omega,g3,g4,g5⟩
   . rw[hc]at fT;simp only[RC.new.injEq]at fT;obtain⟨rfl,rfl⟩:=fT;rw[acV];refine⟨Fy,hL',Zd6 h.E.size hL,λb x hb e=> ?_,λad v ha e=> ?_⟩
     .  have:=(h.W.live b x hb).2.1;omega
     .  have:=World.block_lt_of_cell? _ _ (h.W.ek ad v ha).1;omega
 . rcases Yv s hs gq with hDk|rfl
   . rcases Yv s' mV FP with agi|rfl
     .  exact h.N2 s hs hDk uy DN fT s' mV agi id'' ah8 rN cU
     .  rw[hc]at rN;simp only[RC.new.injEq]at rN;obtain⟨rfl,rfl⟩:=rN;have:=(h.N s hs hDk uy DN fT).2.1;rw[acV];omega
   . rw[hc]at fT;simp only[RC.new.injEq]at fT;obtain⟨rfl,rfl⟩:=fT;rcases Yv s' mV FP with agi|rfl
     .  have:=(h.N s' mV agi id'' ah8 rN).2.1;rw[acV];omega
     .  rw[hc]at rN;simp only[RC.new.injEq]at rN;exact absurd rN.1 cU
 .exact⟨hos.trans h.E.os,akl.trans h.E.tape,Vm.trans h.E.output,Zd6 h.E.size ew,λk hk hn=>by rw[agh k (Zc8 hk h.E.size)];exact h.E.block k hk hn,h.E.oU⟩
theorem acW(G:AI tt nt ops call cE h0 n0 R){kJ:Pos->Loc}{w0:World}{D:Nat->Prop}{A B:List Rec}{ρ:Pos->Loc}{a:Act}{w:World}
  (h:Inv0 C cE h0 n0 R kJ w0 D A B ρ a w) (ajA:R=A++B) {hp:T AB} {N:Pos} (hN:(dW n0 B).toNat<=N.toNat)
  (AK:∀b x,hp.get b=some x->(jy h0 B).get b=some x\/∃s∈A,D s.idx/\s.c= .new b x/\s.nx.toNat<=N.toNat):bn ρ C { heap:=hp,next:=N } w where
 live b x hb:=by
  rcases AK b x hb with h1|⟨s,hs,hD,hc,hn⟩
  .  obtain⟨g1,g2,g3⟩:=h.W.live b x h1;exact⟨Zc8 g1 hN,g2,g3.mono (λ_ _=>rfl) hN⟩
  .  obtain⟨g1,g2,_⟩:=h.N s hs hD b x hc;obtain⟨M,T,hM⟩:=lN (r:=s) (R:=R) (by rw[ajA];simp[hs]);obtain⟨_,e⟩:=G.Ou hM hc;rw[e]at hn;refine⟨?_,g2,g1.mono (λ_ _=>rfl) (by rw[e];exact hn)⟩;rw[Pos.aB]at hn;exact hn
 inj b  b' x x' hb jw he:=by
  rcases AK b x hb with h1|⟨s,hs,hD,hc,hn⟩
  .  rcases AK b' x' jw with h1'|⟨s',mV,hD',xS,Zm⟩
     .  exact h.W.inj b b' x x' h1 h1' he
     .  exact absurd he ((h.N s' mV hD' b' x' xS).2.2.2.1 b x h1)
  .  rcases AK b' x' jw with h1'|⟨s',mV,hD',xS,Zm⟩
     .  exact absurd he.symm ((h.N s hs hD b x hc).2.2.2.1 b' x' h1')
     .  by_cases e:b=b'
        .exact e
        .exact absurd he (h.N2 s hs hD b x hc s' mV hD' b' x' xS e)
 ek ad v ha:=⟨(h.W.ek ad v ha).1,λb x hb=>by
  rcases AK b x hb with h1|⟨s,hs,hD,hc,hn⟩
  .  exact(h.W.ek ad v ha).2 b x h1
  .  exact(h.N s hs hD b x hc).2.2.2.2 ad v ha⟩
 whole:=h.W.whole
theorem AL:∀{Z B:List Rec}{b:Pos}{x:AB},(∀r∈Z,r.c.l9=false)->HM B->(jz h0 (Z++B)).get b=some x->
  (jy h0 B).get b=some x\/∃s∈Z,s.c= .new b x
 |[],B,b,x,_,hB,h=>by
  cases B with
  |nil=>exact .inl h
  | cons r B=>
    simp only[HM]at hB;(cases hc:r.c<;>rw[hc]at hB<;>first|(cases hB;done)|skip);simp only[Ze6,jz,hc]at h;simp only[jy,hc];exact .inl h
 |r ::Z,B,b,x,hZ,hB,h=>by
  have ih:=@AL Z B b x (λs hs=>hZ s (Za0 _ hs)) hB;have hr:=hZ r (Zd8 ..);simp only[Ze8,jz]at h;cases hc:r.c with
  |pure=>rw[hc]at h;exact(ih h).imp (λh=>h) λ⟨s,h1,h2⟩=>⟨s,Za0 _ h1,h2⟩
  |aI _ _=>rw[hc]at hr;cases hr
  | new id aA=>
    rw[hc]at h;by_cases e:id=b
    .   subst e;rw[T.eB]at h;simp only[H0]at h;subst h;exact .inr ⟨r,Zd8 ..,hc⟩
    .   rw[T.bH _ e]at h;exact(ih h).imp (λh=>h) λ⟨s,h1,h2⟩=>⟨s,Za0 _ h1,h2⟩
end
section
variable{P:Program}{tt:TT}{C:Cells}{nt:Nat}{ops:Array Oper}{call:ah}{cE:Fr}{h0:T AB}{n0:Pos}{R:List Rec}
theorem around(G:AI tt nt ops call cE h0 n0 R){D:Nat->Prop}{A B:List Rec}{a:Act}(hp:WT nt ops R D A B a){X Y:List Rec}{r:Rec}(hR:R=X++r::Y)(hD:¬D r.idx):
  ∃Z,A=X++r::Z/\Y=Z++B:=by
 have hrA:r∈A:=by
  have:r∈R:=by rw[hR];simp
  rw[hp.split]at this;exact(Zd5.1 this).resolve_right λh=>hD (hp.inB r h)
 obtain⟨X',Z,hA⟩:=lN hrA;have h2:R=X'++r::(Z++B):=by rw[hp.split,hA];simp
 obtain⟨rfl,_,rfl⟩:=FO G.one hR h2 rfl;exact⟨Z,hA,rfl⟩
theorem agj(G:AI tt nt ops call cE h0 n0 R){kJ:Pos->Loc}{w0:World}{D:Nat->Prop}{A B:List Rec}{ρ:Pos->Loc}{a:Act}{w w':World}
   (hI:Inv C nt ops cE h0 n0 R kJ w0 D A B ρ a w) {X Y:List Rec} {r:Rec} (hR:R=X++r::Y) (hD:¬D r.idx)
   (qj:∀o e,ops[r.idx]? =some o->e∈o.after->Region.binds .any e=true->D e.on) {o:Oper} (hrel:wG tt nt ops o r.o)
   (hY:∀s∈Y,D s.idx) {st':St} {b0:T AB} (hc:r.c= .aI b0 st'.heap) (Ov:r.nx=st'.next) {x:Value}
   (acX:mW ρ C { heap:=jz h0 Y,next:=dW n0 Y } w r.v st' x w'):
   ∃mR,Inv C nt ops cE h0 n0 R kJ w0 (λi=>D i\/i=r.idx) X (r::Y) mR (a.put o.dst x) w':=by
 obtain⟨hp,hI⟩:=hI;obtain⟨eI,hv,hρ1,hle,Zg,hE1⟩:=acX;simp only at hρ1 hle;obtain⟨Z,hA,rfl⟩:=around G hp hR hD;have hZ:∀s∈Z,s.c.l9=false:=λs hs=>hp.Zn s (by rw[hA];simp[hs]) (hY s (by simp[hs]))
 have hXA:∀s∈X,s∈A:=λs hs=>by rw[hA];simp[hs]
 have hXD:∀s∈X,(D s.idx\/s.idx=r.idx)->D s.idx:=λs hs h=>h.resolve_right (G.later hR hs)
 have Zo:(dW n0 B).toNat<=(dW n0 (Z++B)).toNat:=G.Da (X:=X++[r]) (by rw[hR];simp)
 let mR:Pos->Loc:=λb=>if(dW n0 (Z++B)).toNat<=b.toNat/\b.toNat<r.nx.toNat then eI b else ρ b
 have Zp:∀b:Pos,b.toNat<(dW n0 (Z++B)).toNat->Kept n0 R D b:=by
   intro b hb M s T hM gq;left;by_cases hi:s.idx=r.idx
   .obtain⟨_,_,rfl⟩:=FO G.one hM hR hi;exact hb
   . rcases G.cmp hR hM hi with⟨W,rfl⟩|⟨W,hW⟩
     .  have:=G.Ln hR hM;have:=G.ah6 hR;omega
     .  exact absurd (hY s (by rw[hW];simp)) gq
 refine⟨mR,⟨by rw[hR],by simp[HM,hc,RC.l9],?_,?_,?_,by rw[Act.iQ];exact hp.size,by rw[Act.jQ];exact hp.defers⟩,λρ' Cy=> ?_⟩
 . intro s hs;rcases Za7.1 hs with rfl|hs
   .exact .inr rfl
   .exact .inl (hY s hs)
 .intro s hs gq;exact hp.Zn s (hXA s hs) (hXD s hs gq)
 . intro i o' e hDi ho he hb;rcases hDi with hDi|rfl
   .exact .inl (hp.closed i o' e hDi ho he hb)
   .exact .inl (qj o' e ho he hb)
 have akm:∀b:Pos,b.toNat<r.nx.toNat->Kept n0 R (λi=>D i\/i=r.idx) b:=by
   (intro b hb M s T hM gq;left;have hi:s.idx≠r.idx:=λe=>gq (.inr e));rcases G.cmp hR hM hi with⟨W,rfl⟩|⟨W,hW⟩
   .exact Zc8 hb (G.Ln hR hM)
   .exact absurd (.inl (hY s (by rw[hW];simp))) gq
 have hf:∀b,Kept n0 R D b->ρ' b=ρ b:=λb hb=>by rw[Cy b (hb.up λ_ h=>.inl h)];refine Za2 ?_;rintro⟨g1,g2⟩;rcases hb X r _ hR hD with h|h<;>omega
 have h:=hI ρ' hf;have WV:∀b:Pos,b.toNat<r.nx.toNat->ρ' b=eI b:=by
   intro b hb;rcases Zj6 b.toNat (dW n0 (Z++B)).toNat with g|g
   .rw[hf b (Zp b g),hρ1 b g]
   .rw[Cy b (akm b hb)];exact Za4 ⟨g,hb⟩
 have FD:aq ρ' r.nx.toNat C r.v x:=by
   rw[Ov]at WV ⊢;exact hv.mono WV (Za3 _)
 have fA:bn ρ' C { heap:=st'.heap,next:=r.nx } w':=by rw[Ov]at WV ⊢;exact Zg.congr WV
 have hold:∀s∈X,D s.idx->∀id aA,s.c= .new id aA->∀b y,(jz h0 (Z++B)).get b=some y->(ρ b).aA≠(ρ' id).aA:=by
   intro s hs gq id aA fT b y hb;obtain⟨g1,g2,g3,g4,g5⟩:=h.N s (hXA s hs) gq id aA fT;obtain⟨M,T,hM⟩:=lN (r:=s) (R:=R) (by rw[hR];simp[hs]);rcases AL hZ hp.bound hb with hb|⟨s',mV,rN⟩
   .rw[<-hf b (Zp b (Zc8 (h.W.live b y hb).1 Zo))];exact g4 b y hb
   . obtain⟨Z1,Z2,rfl⟩:=lN mV;have hM':R=(X++r::Z1)++s'::(Z2++B):=(by rw[hR];simp);obtain⟨e1,e2⟩:=G.Ou hM' rN;obtain⟨e3,e4⟩:=G.Ou hM fT;have hbn:b.toNat<(dW n0 ((Z1++s'::Z2)++B)).toNat:=(by have:=G.EU (X:=X) (r:=r) (Z:=Z1) (r':=s') (Y':=Z2++B) (by rw[hR];simp);rw[e2,Pos.aB]at this;simp only[Zg8,Ze8];omega);have hsr:s.idx≠r.idx:=G.later hR hs;have TO:r.nx.toNat<=id.toNat:=by
        rcases G.cmp hR hM hsr with⟨W,rfl⟩|⟨W,hW⟩
        .rw[e3];exact G.Ln hR hM
        .obtain⟨A1,A2,hX⟩:=lN hs;have hM2:R=A1++s::(A2++r::((Z1++s'::Z2)++B)):=(by rw[hR,hX];simp);have uA:s∈(Z1++s'::Z2)++B:=(by rw[hW];simp);exact absurd rfl (G.one A1 s _ hM2 s (Zd5.2 (.inr (Za0 _ uA))))
     have cU:b≠id:=(by rintro rfl;have:=G.ah6 hR;omega);rw[<-hf b (Zp b hbn)];exact h.N2 s' (by rw[hA];simp) (hY s' (by simp)) b y rN s (hXA s hs) gq id aA fT cU
 have hEa:jW kJ { heap:=h0,next:=n0 } w0 ρ { heap:=jz h0 (Z++B),next:=dW n0 (Z++B) } w:=by
   refine⟨h.E.os,h.E.tape,h.E.output,h.E.size,h.E.block,λb y hb=> ?_⟩;rcases AL hZ hp.bound hb with hb|⟨s',mV,rN⟩
   .rw[<-hf b (Zp b (Zc8 (h.W.live b y hb).1 Zo))];exact h.E.oU b y hb
   .obtain⟨Z1,Z2,rfl⟩:=lN mV;have hM':R=(X++r::Z1)++s'::(Z2++B):=(by rw[hR];simp);obtain⟨e1,e2⟩:=G.Ou hM' rN;have hbn:b.toNat<(dW n0 ((Z1++s'::Z2)++B)).toNat:=(by have:=G.EU (X:=X) (r:=r) (Z:=Z1) (r':=s') (Y':=Z2++B) (by rw[hR];simp);rw[e2,Pos.aB]at this;simp only[Zg8,Ze8];omega);rw[<-hf b (Zp b hbn)];exact .inr (h.N s' (by rw[hA];simp) (hY s' (by simp)) b y rN).2.2.1
 obtain⟨k1,k2⟩:=acU G hp h.t1 h.t0 hR hD hrel FD;refine⟨?_,λs hs gq id aA fT=> ?_,λs hs gq id aA fT s' mV FP uy DN rN cU=> ?_,k1,k2,?_,h.ET⟩
 .simp only[jy,hc,dW];exact fA
 . have gq:=hXD s hs gq;obtain⟨g1,g2,g3,g4,g5⟩:=h.N s (hXA s hs) gq id aA fT;refine⟨g1.of_heap (hE1.block _ g2 (hold s hs gq id aA fT)),Zc8 g2 hE1.size,g3,λb y hb=> ?_,g5⟩;simp only[jy,hc]at hb;rw[WV b (by rw[Ov];exact(Zg.live b y hb).1)];rcases hE1.oU b y hb with⟨b',y',jw,e⟩|e
   .rw[<-e];exact hold s hs gq id aA fT b' y' jw
   .omega
 .exact h.N2 s (hXA s hs) (hXD s hs gq) id aA fT s' (hXA s' mV) (hXD s' mV FP) uy DN rN cU
 . have:=(hEa.trans hE1).congr (ρ':=ρ') λb y hb=>WV b (by rw[Ov];exact(Zg.live b y hb).1)
   simp only[jy,hc,dW];exact⟨this.os,this.tape,this.output,this.size,this.block,this.oU⟩
end
section
variable{P:Program}{tt:TT}{C:Cells}{nt:Nat}{ops:Array Oper}{call:ah}{cE:Fr}{h0:T AB}{n0:Pos}{R:List Rec}
theorem Db{ρ:Pos->Loc}{n:Pos}{w:World}(hC:∀ad v,C ad=some v->w.cell? ad=some v)(hC2:∀a v,C a=some v->∀o,C ⟨a.block,o,none⟩=none->w.cell? ⟨a.block,o,none⟩=none):bn ρ C { heap:= .e,next:=n } w where
 live b x hb:=by rw[T.ej]at hb;cases hb
 inj b b' x x' hb:=by rw[T.ej]at hb;cases hb
 ek a v ha:=⟨hC a v ha,λb x hb=>by rw[T.ej]at hb;cases hb⟩
 whole:=hC2
theorem Yields.eq{N:Next}{x y:Value}(h:Yields N x)(k:Yields N y):x=y:=by
 rcases h with rfl|⟨rfl,rfl⟩<;>rcases k with k|⟨k,rfl⟩
 .simp only[Next.value.injEq]at k;exact k
 .cases k
 .cases k
 .rfl
theorem mQ.agk{ρ ρ':Pos->Loc}{n n':Nat}{L:Loc}{w:World}{s:List Nat}{p:Nat}(h:mQ ρ n C L w (.jS s p)):mQ ρ' n' C L w (.jS s p):=h
theorem aen(hT:cB P tt){o:Oper}{k:ax}{xs:List eZ}{cls:Cls}(hc:gI tt o.op=some (k,xs,cls)){n:Pos}{vs:List AV}{v:AV}{aA:AB}
  (hr:k.run (λ_=>none) n vs=some (.aI v none none (some aA))) {fr:Fr} (hx:e8 fr xs=some vs) {a:Act} {w:World} {Fam:(Pos->Loc)->Prop} {ρ:Pos->Loc} (aY:Fam ρ)
  (hF:∀ρ',Fam ρ'->fS ρ' n.toNat C fr a.tmps) (hC:∀ad v,C ad=some v->w.cell? ad=some v) (hC2:∀a v,C a=some v->∀o,C ⟨a.block,o,none⟩=none->w.cell? ⟨a.block,o,none⟩=none):
  ∃ N x w' L,(execOp a.eval o).run P w= .ok N w'/\Yields N x/\w.heap.size<=L.aA/\L.aA<w'.heap.size/\w'.os=w.os/\w'.tape=w.tape/\w'.output=w.output/\
    (∀k,k<w.heap.size->w'.heap[k]? =w.heap[k]?)/\∀ρ',Fam ρ'->ρ' n=L->aq ρ' n.succ.toNat C v x/\mQ ρ' n.succ.toNat C L w' aA:=by
 have cC:k.run (λb=>T.get b (T.e:T AB)) n vs=some (.aI v none none (some aA)):=by
  have e:(λb=>T.get b (T.e:T AB))=λ_=>none:=by funext b;exact T.ej b
  rw[e];exact hr
 have H:=λρ' (hf:Fam ρ')=>Qv hT o.op ρ' C { heap:= .e,next:=n } w k xs cls fr a o vs _ rfl hc (Db hC hC2) (hF ρ' hf) hx cC
 have key:∀ρ',Fam ρ'->∃N x w' eI,(execOp a.eval o).run P w= .ok N w'/\Yields N x/\(∀b:Pos,b.toNat<n.toNat->eI b=ρ' b)/\aq eI n.succ.toNat C v x/\
    mQ eI n.succ.toNat C (eI n) w' aA/\w.heap.size<=(eI n).aA/\(eI n).aA<w'.heap.size/\w'.os=w.os/\w'.tape=w.tape/\w'.output=w.output/\
    (∀k,k<w.heap.size->w'.heap[k]? =w.heap[k]?):=by
  intro ρ' hf;obtain⟨N,x,w',eI,he,hy,h1,h2,h3,h4⟩:=H ρ' hf;have hg:(St.aI { heap:= .e,next:=n } none none (some aA)).heap.get n=some aA:=T.eB _ _ _;obtain⟨g1,g2,g3⟩:=h2.live n aA hg;refine⟨N,x,w',eI,he,hy,h1,h3,g3,?_,g2,h4.os,h4.tape,h4.output,λk hk=>h4.block k hk λb x hb=> ?_⟩
  . rcases h4.oU n aA hg with⟨b',x',jw,_⟩|h
    .   rw[T.ej]at jw;cases jw
    .   exact h
  .rw[T.ej]at hb;cases hb
 obtain⟨N,x,w',eI,he,hy,h1,h2,h3,h4,h5,h6,h7,h8,h9⟩:=key ρ aY;refine⟨N,x,w',eI n,he,hy,h4,h5,h6,h7,h8,h9,λρ' hf hL=> ?_⟩;obtain⟨N',x',w'',mR,kX,WW,k1,k2,k3,_⟩:=key ρ' hf;rw[he]at kX;simp only[Result.ok.injEq]at kX;obtain⟨rfl,rfl⟩:=kX;have TR:=hy.eq WW;subst TR;have acY:n.toNat<n.succ.toNat:=by rw[Pos.aB];omega
 have ET:(mR n).aA=(eI n).aA->(mR n).base=(eI n).base->((∃cs fz,aA= .cells cs fz)\/∃t cs,aA= .typed t cs)->aq ρ' n.succ.toNat C v x/\mQ ρ' n.succ.toNat C (eI n) w' aA:=by
  intro e1 e2 xC;have e3:(mR n).size=(eI n).size:=by
    rcases xC with⟨cs,fz,rfl⟩|⟨t,cs,rfl⟩
    .   obtain⟨c,e,fr,g1,g2,_⟩:=h3;obtain⟨c',e',br,FQ,g2',_⟩:=k3;rw[e1,g1]at FQ;simp only[H0,Obj.cells.injEq]at FQ;rw[<-g2, <-g2',FQ.1]
    .   obtain⟨c,fr,g1,g2,_⟩:=h3;obtain⟨c',br,FQ,g2',_⟩:=k3;rw[e1,g1]at FQ;simp only[H0,Obj.cells.injEq]at FQ;rw[<-g2, <-g2',FQ.1]
  have e4:mR n=eI n:=by
    cases hh:mR n;cases hh':eI n;rw[hh,hh']at e1 e2 e3;simp only at e1 e2 e3;rw[e1,e2,e3]
  have iu:∀b:Pos,b.toNat<n.succ.toNat->ρ' b=mR b:=by
    intro b hb;rcases Zj6 b.toNat n.toNat with g|g
    .   exact(k1 b g).symm
    .   have:b=n:=Pos.toNat_inj (by rw[Pos.aB]at hb;omega);subst this;rw[hL,e4]
  refine⟨k2.mono iu (Za3 _),?_⟩;rw[<-e4];exact k3.mono iu (Za3 _)
 cases aiw hr with
 |ptr cs=>
  obtain⟨_,g1⟩:=h2.fJ;obtain⟨_,g2⟩:=k2.fJ;rw[g1]at g2;simp only[Value.pointer.injEq,H0,Addr.mk.injEq,Zf8,Zn5]at g2;exact ET g2.1.symm g2.2.symm (.inl ⟨cs,0,rfl⟩)
 |ptrT t cs=>
  obtain⟨_,g1⟩:=h2.fJ;obtain⟨_,g2⟩:=k2.fJ;rw[g1]at g2;simp only[Value.pointer.injEq,H0,Addr.mk.injEq,Zf8,Zn5]at g2;exact ET g2.1.symm g2.2.symm (.inr ⟨t,cs,rfl⟩)
 |aem len t cs hl=>
  obtain⟨ad,aS,g1,g2,g3,g4⟩:=h2.ee;obtain⟨ad',acZ,FQ,g2',g3',g4'⟩:=k2.ee;rw[g1]at FQ;simp only[Value.slice.injEq,H0,true_and]at FQ;obtain⟨rfl,rfl⟩:=FQ;obtain⟨_,a1,_⟩:=g4 (by omega);obtain⟨_,a2,_⟩:=g4' (by omega);rw[a1]at a2;simp only[Addr.mk.injEq,Zf8,Zn5]at a2;exact ET a2.1.symm a2.2.symm (.inr ⟨t,cs,rfl⟩)
 |jS s=>
  obtain⟨_,g1⟩:=h2.fJ;refine⟨?_,h3.agk⟩;rw[g1, <-hL];exact .ptr n 0 acY
 |slice len es cap cs fT=>
  obtain⟨ad,aS,g1,g2,g3,g4⟩:=h2.ee;obtain⟨ad',acZ,FQ,g2',g3',g4'⟩:=k2.ee;rw[g1]at FQ;simp only[Value.slice.injEq,H0,true_and]at FQ;obtain⟨rfl,rfl⟩:=FQ;by_cases h0:aS=0
  . subst h0;have WI:len=0:=(by omega);have hcs0:cs=[]:=fT WI (by
        cases cap with
        |none=>exact .inl rfl
        |some c=>exact .inr (by rw[g3 c rfl]))
    subst hcs0;refine⟨?_,?_⟩
    .   rw[g1];exact .slice n 0 len cap es 0 ad g2 g3 (λh=>absurd rfl h) (λ_=>acY)
    .   obtain⟨c,e,fr,q1,q2,q3,q4,q5⟩:=h3;exact⟨c,e,fr,q1,q2,q3,az.nil,q5⟩
  .obtain⟨_,a1,_⟩:=g4 h0;obtain⟨_,a2,_⟩:=g4' h0;rw[a1]at a2;simp only[Addr.mk.injEq,Zf8,Zn5]at a2;exact ET a2.1.symm a2.2.symm (.inl ⟨cs,0,rfl⟩)
 |map=>
  obtain⟨_,g1⟩:=h2.zB;refine⟨?_,?_⟩
  .rw[g1, <-hL];exact .map n acY
  .obtain⟨es',q1,q2,q3⟩:=h3;exact⟨es',q1,q2,λi e e' he=>by simp at he⟩
end
section
variable{P:Program}{tt:TT}{C:Cells}{nt:Nat}{ops:Array Oper}{call:ah}{cE:Fr}{h0:T AB}{n0:Pos}{R:List Rec}
def xW(fr:Fr):List Pos->Fr
 |[]=>.e
 |p::l=>(xW fr l).put (fr.get p) p
theorem WX{fr:Fr}{p:Pos}:∀{l:List Pos},p∈l->(xW fr l).get p=fr.get p
 |[],h=>by cases h
 |q ::l,h=>by
  simp only[xW];by_cases e:q=p
  .subst e;exact T.eB _ _ _
  .rw[T.bH _ e];exact WX ((Za7.1 h).resolve_left λh=>e h.symm)
theorem Rs{fr:Fr}{p:Pos}{v:AV}:∀{l:List Pos},(xW fr l).get p=some v->p∈l/\fr.get p=some v
 |[],h=>by simp only[xW]at h;rw[T.ej]at h;cases h
 |q ::l,h=>by
  simp only[xW]at h;by_cases e:q=p
  .subst e;rw[T.eB]at h;exact⟨by simp,h⟩
  .rw[T.bH _ e]at h;obtain⟨h1,h2⟩:=Rs h;exact⟨by simp[h1],h2⟩
theorem WY{fr:Fr}{l:List Pos}:∀{xs:List eZ},(∀p,eZ.t p∈xs->p∈l)->e8 (xW fr l) xs=e8 fr xs
 |[],_=>rfl
 |x::xs,h=>by
  have h1:C6 (xW fr l) x=C6 fr x:=by
   cases x with
   |t p=>exact WX (h p (by simp))
   |c v=>rfl
  simp only[e8,h1,WY λp hp=>h p (Za0 _ hp)]
theorem aeo{o:bD}{p:Pos}(h:eZ.t p∈o.xs):p∈o.looks:=by
 unfold bD.looks;exact Zh5 _ (Zn0.2 ⟨_,h,rfl⟩)
theorem abf{o:bD}{p:Pos}{q:Bool}(h:o.guard=some (p,q)):p∈o.looks:=by unfold bD.looks;rw[h];simp
theorem Yields.upon{K:Value->World->Prop}{N:Next}{x:Value}{w:World}(h:Yields N x)(hk:K x w):Reaches P K (.ok N w):=by rcases h with rfl|⟨rfl,rfl⟩<;>exact hk
theorem agl(hT:cB P tt)(cg:fG P C call)(G:AI tt nt ops call cE h0 n0 R){kJ:Pos->Loc}{w0:World}{D:Nat->Prop}{A B:List Rec}{ρ:Pos->Loc}{a:Act}{w:World}
  (hI:Inv C nt ops cE h0 n0 R kJ w0 D A B ρ a w) {i:Nat} (hi:i<ops.size) (hD:¬D i)
  (qj:∀o e,ops[i]? =some o->e∈o.after->Region.binds .any e=true->D e.on):
  FH P ops i (λa' w'=>∃A' B' ρ',Inv C nt ops cE h0 n0 R kJ w0 (λj=>D j\/j=i) A' B' ρ' a' w') a w:=by
 obtain⟨r,hr,rfl⟩:=G.all i hi;obtain⟨X,Y,hR⟩:=lN hr;obtain⟨o,ho,hrel,hB⟩:=G.rel r hr;have hp:=hI.1;have Vl:∀b,r.o.bT.testBit b=true->D b:=λb hb=>G.TQ hp.closed (hB.2 b hb) qj
 obtain⟨Z,hA,WZ⟩:=around G hp hR hD;have Lo:∀ρ',(∀b,Kept n0 R D b->ρ' b=ρ b)->∀p v,p∈r.o.looks->(mY cE Y).get p=some v->∃x,a.tmps[p.toNat - 1]? =some x/\aq ρ' (dW n0 Y).toNat C v x:=
  λρ' hf p v hl hv=>look G hp (hI.2 ρ' hf).t1 (hI.2 ρ' hf).t0 hR hD Vl hl hv
 have hFR:∀ρ',(∀b,Kept n0 R D b->ρ' b=ρ b)->fS ρ' (dW n0 Y).toNat C (xW (mY cE Y) r.o.looks) a.tmps:=λρ' hf p v hv=>
  let⟨h1,h2⟩:=Rs hv;Lo ρ' hf p v h1 h2
 have Lp:∀b,Kept n0 R D b->ρ b=ρ b:=λ_ _=>rfl
 have hw:∀b,cj (mY cE Y) r.o.guard=some b->Region.wanted o (yielded ops a.tmps)=b:=λb hb=>
  FJ hrel.guard (λp v hv ⟨q,hq⟩=>Lo ρ Lp p v (abf hq) hv) hb
 have hnZ:∀s∈Z,s.nx.toNat<=(dW n0 Y).toNat:=λs hs=>by obtain⟨Z1,Z2,rfl⟩:=lN hs;have:=G.EU (X:=X) (r:=r) (Z:=Z1) (r':=s) (Y':=Z2++B) (by rw[hR,WZ];simp);rw[WZ];simp only[Zg8,Ze8];exact this
 have Zo:(dW n0 B).toNat<=(dW n0 Y).toNat:=by rw[WZ];exact G.Da (X:=X++[r]) (by rw[hR,WZ];simp)
 have hs:=Good.at (hR ▸G.Sq);have hex:∀xs,e8 (mY cE Y) r.o.xs=some xs->e8 (xW (mY cE Y) r.o.looks) r.o.xs=some xs:=λxs hx=>by rw[WY λp hp=>aeo hp];exact hx
 unfold FH;simp only[ho];generalize hrr:r=r0 at*
 cases hs with
 |skip i' o' _ hw'=>
  rw[Za2 (by rw[hw _ hw'];simp)];exact⟨A,B,ρ,WU G hI hR hD qj hrel rfl λρ' _=> .WN⟩
 |pure i' o' v xs _ hw' hx WS=>
  rw[Za4 (hw _ hw')];rw[WZ]at WS;obtain⟨h,AK,cC⟩:=WS Z B rfl hp.bound λs hs he=>by
    cases hb:o'.bT.testBit s.idx with
    |false=>rfl
    |   true=>
        have h1:=hp.Zn s (by rw[hA];simp[hs]) (Vl _ hb);rw[h1]at he;cases he
  rcases hrel.op with hc|⟨hk,_⟩
  . have H:∀ρ',(∀b,Kept n0 R D b->ρ' b=ρ b)->∃N x,(execOp a.eval o).run P w= .ok N w/\Yields N x/\aq ρ' (dW n0 Y).toNat C v x:=by
        intro ρ' hf;have hW:=acW G (hI.2 ρ' hf) hp.split (hp:=h) Zo λb y hb=>(AK b y hb).imp (λh=>h) λ⟨s,h1,h2,h3⟩=>
          ⟨s,by rw[hA];simp[h1],Vl _ h3,h2,hnZ s h1⟩
        exact Qv hT o.op ρ' C _ w _ _ _ _ a o _ _ rfl hc hW (hFR ρ' hf) (hex xs hx) (agc cC λ_ _ h=>h)
    obtain⟨N,x,he,hy,hv⟩:=H ρ Lp;unfold Vh;rw[he];refine hy.upon ⟨A,B,ρ,WU G hI hR hD qj hrel rfl λρ' hf=> ?_⟩;obtain⟨N',x',kX,WW,FD⟩:=H ρ' hf;rw[he]at kX;simp only[Result.ok.injEq,Zn5]at kX;subst kX;rw[hy.eq WW];exact FD
  .rw[hk]at cC;cases cC
 |new   i' o' v aA xs _ hw' hx cC=>
  rw[Za4 (hw _ hw')];rcases hrel.op with hc|⟨hk,_⟩
  . obtain⟨N,x,w',L,he,hy,h1,h2,h3,h4,h5,h6,h7⟩:=aen hT hc cC (hex xs hx) (Fam:=λρ'=>∀b,Kept n0 R D b->ρ' b=ρ b) Lp hFR
        (λad v ha=>((hI.2 ρ Lp).W.ek ad v ha).1) (hI.2 ρ Lp).W.whole
    unfold Vh;rw[he];exact hy.upon ⟨A,B,_,agf G hI hR hD qj hrel rfl h1 h2 h3 h4 h5 h6 h7⟩
  .rw[hk]at cC;cases cC
 |aI i' o' v st' xs _ agd hw' hx q8=>
  rw[Za4 (hw _ hw')];rcases hrel.op with hc|⟨hk,_⟩
  . have hY:∀s∈Y,D s.idx:=λs hs=>Vl _ (G.aI X _ Y hR agd s hs)
    have hZ:∀s∈Z,s.c.l9=false:=λs hs=>hp.Zn s (by rw[hA];simp[hs]) (hY s (by rw[WZ];simp[hs]))
    have hW:bn ρ C { heap:=jz h0 Y,next:=dW n0 Y } w:=acW G (hI.2 ρ Lp) hp.split Zo λb y hb=>by
        rw[WZ]at hb;rcases AL hZ hp.bound hb with hb|⟨s,h1,h2⟩
        .exact .inl hb
        .exact .inr ⟨s,by rw[hA];simp[h1],hY s (by rw[WZ];simp[h1]),h2,hnZ s h1⟩
    have hre:=Rp hT cg hc hW (hFR ρ Lp) (hex xs hx) q8;(refine hre.mono λx w' acX=> ?_);obtain⟨mR,h⟩:=agj G hI hR hD qj hrel hY rfl rfl acX;exact⟨_,_,mR,h⟩
  .exact(Reaches.bad hk q8).elim
end
section
variable{P:Program}{tt:TT}{C:Cells}{nt:Nat}{ops:Array Oper}{call:ah}{cE:Fr}{h0:T AB}{n0:Pos}{R:List Rec}
theorem W0(G:AI tt nt ops call cE h0 n0 R){kJ:Pos->Loc}{w0:World}{D:Nat->Prop}{A B:List Rec}{ρ:Pos->Loc}{a:Act}{w:World}
   (hI:Inv C nt ops cE h0 n0 R kJ w0 D A B ρ a w) (iu:∀r∈R,D r.idx):gh nt kJ C { heap:=h0,next:=n0 } w0 (mY cE R) { heap:=jz h0 R,next:=dW n0 R } a w:=by
 obtain⟨hp,hI⟩:=hI;have h:=hI ρ λ_ _=>rfl
 have hZ:∀s∈A,s.c.l9=false:=λs hs=>hp.Zn s hs (iu s (by rw[hp.split];simp[hs]))
 have hnA:∀s∈A,s.nx.toNat<=(dW n0 R).toNat:=λs hs=>by obtain⟨Z1,Z2,hA⟩:=lN hs;have:=G.Da (X:=[]) (Y:=Z1) (Z:=s::(Z2++B)) (by rw[hp.split,hA];simp);have e:R=Z1++s::(Z2++B):=(by rw[hp.split,hA];simp);rw[<-e]at this;exact this
 have Zo:(dW n0 B).toNat<=(dW n0 R).toNat:=by
   have:=G.Da (X:=[]) (Y:=A) (Z:=B) (by rw[hp.split];simp)
   rwa [<-hp.split]at this
 have Ro:n0.toNat<=(dW n0 R).toNat:=G.acT (X:=[]) rfl;have AK:∀b x,(jz h0 R).get b=some x->(jy h0 B).get b=some x\/∃s∈A,D s.idx/\s.c= .new b x/\s.nx.toNat<=(dW n0 R).toNat:=λb x hb=>by
   rw[hp.split]at hb;rcases AL hZ hp.bound hb with hb|⟨s,h1,h2⟩
   .exact .inl hb
   .exact .inr ⟨s,h1,iu s (by rw[hp.split];simp[h1]),h2,hnA s h1⟩
 refine⟨ρ,⟨acW G h hp.split Zo AK,?_,hp.size,hp.defers⟩,h.ET,Ro,?_⟩
 . intro p v hv;rcases Oo R p v hv with⟨M,s,T,hM,h2,rfl,h3⟩|⟨h1,h2⟩
   . obtain⟨x,hx,Oq⟩:=h.t1 M s T p hM (iu s (by rw[hM];simp)) h2 λs' mV _=>h3 s' mV
     refine⟨x,hx,Oq.mono (λ_ _=>rfl) ?_⟩;have:=G.Da (X:=[]) (Y:=M) (Z:=s::T) (by rw[hM];simp);rw[<-hM]at this;exact this
   . obtain⟨x,hx,Oq⟩:=h.t0 p v h1 λs hs _=>h2 s hs
     exact⟨x,hx,Oq.mono (λ_ _=>rfl) Ro⟩
 . refine⟨h.E.os,h.E.tape,h.E.output,h.E.size,h.E.block,λb x hb=> ?_⟩;rcases AK b x hb with hb|⟨s,h1,h2,h3,_⟩
   .exact h.E.oU b x hb
   .exact .inr (h.N s h1 h2 b x h3).2.2.1
def DL(listed:Array Bool)(j:Nat):Prop:=listed.getD j false=true
theorem aep{listed:Array Bool}{i:Nat}(hi:i<listed.size):(λj=>DL listed j\/j=i)=DL (listed.setIfInBounds i true):=by
 funext j;apply propext;unfold DL;by_cases h:j=i
 .subst h;simp[hi]
 .rw[getD_set_ne false (Ne.symm h)];simp[h]
theorem Zq{listed:Array Bool}{j:Nat}(h:listed.getD j true=false):¬DL listed j:=by
 unfold DL;intro h';rcases Zj6 j listed.size with hj|hj
 .simp[hj]at h h';rw[h]at h';cases h'
 .simp[Array.getElem?_eq_none hj]at h'
theorem aiy{listed:Array Bool}{j:Nat}(hj:j<listed.size)(h:¬DL listed j):listed.getD j true=false:=by unfold DL at h;simp[hj]at h ⊢; exact h
theorem Ow(G:AI tt nt ops call cE h0 n0 R){listed:Array Bool}(hs:listed.size=ops.size)(hr:Region.ready .any ops listed=[]):∀(Y X:List Rec),R=X++Y->∀r∈Y,DL listed r.idx
 |[],_,_,r,th=>by cases th
 |r ::Y  ,X,hR,r',th=>by
  have ih:=Ow G hs hr Y (X++[r]) (by rw[hR];simp);rcases Za7.1 th with rfl|th
  . obtain⟨o,ho,_,hB⟩:=G.rel r' (by rw[hR];simp);have bw:r'.idx<ops.size:=(Zd2.1 ho).1;by_cases h:DL listed r'.idx
    .   exact h
    .   exfalso;have:r'.idx∈Region.ready .any ops listed:=mem_ready.2 ⟨aiy (by omega) h,o,ho,λe he hb=>by obtain⟨s,h1,h2⟩:=G.bT X r' Y hR _ (hB.1 o ho e he hb);have:=ih s h1;rw[h2]at this;exact this⟩;rw[hr]at this;cases this
  .exact ih r' th
theorem W2(hT:cB P tt)(cg:fG P C call)(G:AI tt nt ops call cE h0 n0 R){Q:Exit->Act->World->Prop}{kJ:Pos->Loc}{w0:World}
  (hQ:∀a' w',gh nt kJ C { heap:=h0,next:=n0 } w0 (mY cE R) { heap:=jz h0 R,next:=dW n0 R } a' w'->Q .normal a' w'):
  ∀ (fuel:Nat)(listed:Array Bool)(U:List Nat)(A B:List Rec)(ρ:Pos->Loc)(a:Act)(w:World),listed.size=ops.size->U.length<=fuel->U.Nodup->(∀j,j<ops.size->¬DL listed j->j∈U)->
    Inv C nt ops cE h0 n0 R kJ w0 (DL listed) A B ρ a w->Yt P ops (Q .normal) fuel listed a w
 |0,listed,U,A,B,ρ,a,w,hs,hU,_,hm,hI=>by
  have hU0:U=[]:=Zb0 (by omega);subst hU0;have hr:Region.ready .any ops listed=[]:=by
    cases h:Region.ready .any ops listed with
    |nil=>rfl
    |   cons i l=>
        have hi:i∈Region.ready .any ops listed:=(by rw[h];simp);obtain⟨h1,o,ho,_⟩:=mem_ready.1 hi;have:=hm i (Zd2.1 ho).1 (Zq h1);cases this
  exact⟨hr,hQ a w (W0 G hI (Ow G hs hr R [] rfl))⟩
 |fuel+1,listed,U,A,B,ρ,a,w,hs,hU,M7,hm,hI=>by
  refine⟨λhr=>hQ a w (W0 G hI (Ow G hs hr R [] rfl)),λi hi=> ?_⟩;obtain⟨h1,o,ho,h2⟩:=mem_ready.1 hi;have bw:i<ops.size:=(Zd2.1 ho).1;have q8:=agl hT cg G hI bw (Zq h1) λo' e HK he hb=>by rw[ho]at HK;simp only[H0]at HK;subst HK;exact h2 e he hb
  refine WJ (λa' w' hh=> ?_) q8;obtain⟨A',B',ρ',hI'⟩:=hh;rw[aep (by omega)]at hI';have hiU:i∈U:=hm i bw (Zq h1);refine W2 hT cg G hQ fuel _ (U.erase i) A' B' ρ' a' w' (by simp[hs]) ?_ (M7.erase i) (λj hj hD=> ?_) hI'
  .rw[List.length_erase_of_mem hiU];omega
  . (rw[<-aep (by omega)]at hD;have cU:j≠i:=λe=>hD (.inr e));exact(List.mem_erase_of_ne cU).2 (hm j hj λh=>hD (.inl h))
theorem Lq(hm:P.follows .mixedOrders=true)(hT:cB P tt)(cg:fG P C call)(akn:mX call):tj P tt C call:=by
 intro nt id ops l Q fr br st st' ρ a w hl cQ h hS hQ;obtain⟨R,hG,hmap,hfr,ako,Ov⟩:=TP (call:=call) (cE:=fr) (h0:=st.heap) (n0:=st.next) _ [] fr br st st' h trivial rfl rfl rfl;simp only[Ze9]at hG hfr ako Ov;have hst':st'={ heap:=jz st.heap R,next:=dW st.next R }:=by cases st';simp_all
 have hlen:l.length=ops.size:=by rw[(oX hl).1,Zg4]
 have TU:=Rr _ 0 [] cQ λb=>by simp
 have hL:yM (Ft 0 l) []=(R.map λr=>(r.idx,r.o)).reverse:=by rw[hmap,List.reverse_reverse]
 have dec:∀{A B:List Rec}{r:Rec},R=A++r::B->yM (Ft 0 l) []=(B.map λr=>(r.idx,r.o)).reverse++(r.idx,r.o)::(A.map λr=>(r.idx,r.o)).reverse:=λe=>by rw[hL,e];simp
 have IQ:∀{B:List Rec}{i:Nat},i∈((B.map λr=>(r.idx,r.o)).reverse).map (·.1)↔ ∃r∈B,r.idx=i:=λ{B i}=>by simp
 have G:AI tt nt ops call fr st.heap st.next R:=by
   refine⟨hG,akn,λA r B e r' th hi=> ?_,λA r B e b hb=> ?_,λA r B e hc r' th=> ?_,λA r B e r' th=> ?_,λr hr=> ?_,λi hi=> ?_⟩
   .exact(TU.one _ _ _ _ (dec e)).2 (IQ.2 ⟨r',th,hi⟩)
   . rcases TU.bT _ _ _ _ (dec e) b hb with h|h
     .cases h
     .exact IQ.1 h
   .exact TU.aI _ _ _ _ (dec e) hc _ (.inr (IQ.2 ⟨r',th,rfl⟩))
   .exact TU.apart _ _ _ _ (dec e) (r'.idx,r'.o) (by simp;exact⟨r',th,rfl,rfl⟩)
   .obtain⟨A,B,e⟩:=lN hr;have hx:(r.idx,r.o)∈yM (Ft 0 l) []:=(by rw[dec e];simp);have h1:=aix hx;obtain⟨o,h2,h3,h4⟩:=Cx hl _ _ h1;refine⟨o,h2,h3,?_⟩;rw[h4];exact abJ ops.toList [] rfl (Zi5 _) (λi hi=>by simp at hi) _ (Zd2.1 h2).1
   . rcases TU.all i (by rw[hlen];exact hi)with h|h
     .cases h
     .rw[hL]at h;exact IQ.1 h
 refine⟨hm,?_⟩;rw[hst',hfr]at hQ;have TV:∀b:Pos,b.toNat<st.next.toNat->∀D,Kept st.next R D b:=λb hb D A r B e _=>.inl (Zc8 hb (G.acT (X:=A++[r]) (by rw[e];simp)))
 refine W2 (Q:=Q) (kJ:=ρ) (w0:=w) hT cg G hQ ops.size _ (List.range ops.size) R [] ρ a _ (by simp) (by simp) List.nodup_range (λj hj _=>List.mem_range.2 hj) ?_;have kH:∀j,¬DL (Array.replicate ops.size false) j:=λj h=>by
   unfold DL at h;rcases Zj6 j ops.size with hj|hj
   .simp[hj]at h
   .simp[Nat.not_lt.2 hj]at h
 refine⟨⟨by simp,trivial,(λr hr=>by cases hr),λr _ hD=>absurd hD (kH _),λi _ _ hD=>absurd hD (kH _),hS.size,hS.defers⟩,λρ' Cy=> ?_⟩;have pW:∀b:Pos,b.toNat<st.next.toNat->ρ' b=ρ b:=λb hb=>Cy b (TV b hb _)
 have hW:bn ρ' C st { w with drawn:=w.drawn+1 }:=(hS.W.congr pW).grow (Za3 _) λ_ _=>rfl
 refine⟨hW,λr _ hD=>absurd hD (kH _),λr _ hD=>absurd hD (kH _),λM s T p _ hD=>absurd hD (kH _),λp v hv _=> ?_,⟨rfl,rfl,rfl,Za3 _,λ_ _ _=>rfl,λb x hb=>.inl ⟨b,x,hb,?_⟩⟩,pW⟩
 .obtain⟨x,hx,Oq⟩:=hS.F p v hv;exact⟨x,hx,Oq.mono pW (Za3 _)⟩
 .rw[pW b (hS.W.live b x hb).1]
theorem KR(hm:P.follows .mixedOrders=true)(hT:cB P tt){O:ff}{G:T dB}(hO:rC P C O)(Ox:k8 O)(hG:Te P tt G)(m d:Nat):fG P C (rE O G m d):=
 Rq hT hO hG m (λd cg=>Lq hm hT cg (Li Ox m d)) d
end
end
section
section
variable{R:Type}
theorem wI{α:Type}:∀(p:Pos)(t:T α),mS p t=t.get p
 |.h,.e=>rfl
 |.h,.n _ _ _=>rfl
 |.o _,.e=>rfl
 |.o p,.n l _ _=>wI p l
 |.i _,.e=>rfl
 |.i p,.n _ _ r=>wI p r
theorem jd{α:Type}(x:Option α):∀(p:Pos)(t:T α)(k:T α->R),oV x p t k=k (t.put x p)
 |.h,.e,_=>rfl
 |.h,.n _ _ _,_=>rfl
 |.o p,.e,k=>jd x p .e _
 |.o p,.n l _ _,k=>jd x p l _
 |.i p,.e,k=>jd x p .e _
 |.i p,.n _ _ r,k=>jd x p r _
theorem CV(n:Nat)(k:Nat->R):oW n k=k n:=by cases n<;>rfl
theorem abg(n:Int)(k:Int->R):Se n k=k n:=by cases n<;>simp only[Se,CV]
theorem Zr(b:Bool)(k:Bool->R):Wv b k=k b:=by cases b<;>rfl
theorem HP{α:Type}:∀(l:List α)(k:List α->R),Ay l k=k l
 |[],_=>rfl
 |a::l,k=>HP l λt=>k (a::t)
theorem IU:∀(p:Pos)(k:Pos->R),K3 p k=k p
 |.h,_=>rfl
 |.o p,k=>IU p λq=>k (.o q)
 |.i p,k=>IU p λq=>k (.i q)
theorem aeq(o:Option Nat)(k:Option Nat->R):YQ o k=k o:=by
 cases o with
 |none=>rfl
 |some n=>simp only[YQ,CV]
theorem W3(v:AV)(k:AV->R):Oc v k=k v:=by
 cases v<;>simp only[Oc,Zr,abg,HP,IU,CV,aeq]
theorem Lr:∀(l:List AV)(k:List AV->R),Qt l k=k l
 |[],_=>rfl
 |a::l,k=>by
  show Oc a (λa=>Qt l λt=>k (a::t))=_;rw[W3,Lr l]
theorem HQ(v:AV)(k:AV->R):s9 v k=k v:=by
 unfold s9;split
 .exact Lr _ _
 .exact W3 _ _
theorem Lt(x:AB)(k:AB->R):Fk x k=k x:=by
 cases x<;>simp only[Fk,HP,CV]
theorem Lu:∀(p:Pos)(k:Pos->R),Tm p k=k p.succ
 |.h,_=>rfl
 |.o _,_=>rfl
 |.i p,k=>Lu p λq=>k (.o q)
variable(z:R)
def oY{α:Type}(r:Option α)(k:α->R):R:=match r with
 |some x=>k x
 |none=>z
theorem Oy(fr:Fr)(x:eZ)(k:AV->R):Ww z fr x k=oY z (C6 fr x) k:=by
 cases x with
 |t p=>simp only[Ww,wI,C6,oY];cases T.get p fr<;>rfl
 |c v=>rfl
theorem Qx(fr:Fr):∀(xs:List eZ)(k:List AV->R),Sf z fr xs k=oY z (e8 fr xs) k
 |[],k=>rfl
 |x::xs,k=>by
  show Ww z fr x (λv=>Sf z fr xs λvs=>k (v::vs))=_;rw[Oy];simp only[Qx fr xs];simp only[e8];cases C6 fr x with
  |none=>rfl
  |some v=>simp only[oY];cases e8 fr xs<;>rfl
theorem TW(fr:Fr)(g:Option (Pos×Bool))(yes no:R):Fl z fr g yes no=match cj fr g with
  |some true=>yes
  |some false=>no
  |none=>z:=by
 unfold Fl cj;cases g with
 |none=>rfl
 |some g=>
  obtain⟨p,want⟩:=g;simp only[wI];cases T.get p fr with
  |none=>rfl
  |some v=>
   (cases v<;>try rfl);rename_i b;cases b<;>cases want<;>rfl
theorem TX(fr:Fr)(d:Option Pos)(v:AV)(k:Fr->R):kV fr d v k=k (dP fr d v):=by
 cases d with
 |none=>rfl
 |some p=>exact jd _ _ _ _
theorem aiz(st:St)(del:Option Pos)(set:Option (Pos×AB))(new:Option AB)(k:St->R):afS st del set new k=k (st.aI del set new):=by
 have hdel:∀(h:T AB)(k:T AB->R),delK del h k=k (IG del h):=λh k=>by
  cases del with
  |none=>rfl
  |some b=>exact jd _ _ _ _
 have Lb:∀(h:T AB)(k:T AB->R),Sg set h k=k (KX set h):=λh k=>by
  cases set with
  |none=>rfl
  |some b=>simp only[Sg,Lt,jd];rfl
 unfold afS;rw[hdel,Lb];cases new with
 |none=>rfl
 |some x=>simp only[Lt,jd,Lu];rfl
def CK(bu:jt R)(call:ah):Prop:=∀f args st k,bu f args st k=oY z (call f args st) λx=>k x.1 x.2
variable{bu:jt R}{call:ah}
theorem Lv(h:T AB):(λb=>mS b h)=λb=>h.get b:=funext λb=>wI b h
theorem Zs(hc:CK z bu call)(op:ax)(xs:List AV)(st:St)(k:AV->St->R):Qu z bu op xs st k=oY z (bY call op xs st) λx=>k x.1 x.2:=by
 unfold Qu bY;rw[Lv];cases op.run (λb=>st.heap.get b) st.next xs with
 |none=>rfl
 |some r=>
  cases r with
  |val v=>simp only[HQ];rfl
  |aI v d s n=>simp only[HQ,aiz];rfl
  |call f args=>simp only[HP];exact hc f args st k
theorem Qy(hc:CK z bu call):∀(ops:List bD)(fr:Fr)(st:St)(k:Fr->St->R),Va z bu ops fr st k=oY z (jM call ops fr st) λx=>k x.1 x.2
 |[],fr,st,k=>rfl
 |o::os,fr,st,k=>by
  show Fl z fr o.guard (Sf z fr o.xs λxs=>Qu z bu o.k xs st λv st=>kV fr o.dst v λfr=>Va z bu os fr st k) (kV fr o.dst .undef λfr=>Va z bu os fr st k)=_;rw[TW,Qx];simp only[Zs z hc,TX,Qy hc os];simp only[jM];cases cj fr o.guard with
  |none=>rfl
  |some b=>
   cases b with
   |false=>rfl
   |    true=>
        simp only[];cases e8 fr o.xs with
        |none=>rfl
        |some xs=>
         simp only[oY];cases bY call o.k xs st with
         |none=>rfl
         |some x=>rfl
theorem FR(bT:Nat)(h:T AB):∀(recs:List Rec)(k:T AB->R),K4 bT h recs k=k (snap bT h recs)
 |[],k=>rfl
 |r::rs,k=>by
  show (match r.c with
   |    .new id aA=>match bT.testBit r.idx with
        |true=>K4 bT h rs λh'=>oV (some aA) id h' k
        |false=>K4 bT h rs k
   |.aI _ _=>k h
   |.pure=>K4 bT h rs k)=_
  unfold snap;cases r.c with
  |pure=>exact FR bT h rs k
  |aI _ _=>rfl
  |new id aA=>
   simp only[];cases bT.testBit r.idx with
   |true=>simp only[FR bT h rs,jd]
   |false=>exact FR bT h rs k
theorem W4(h:T AB):∀(l:List (Pos×AB))(k:T AB->R),YS h l k=k (iV l h)
 |[],k=>rfl
 |(id,aA)::l,k=>by show YS h l (λh'=>oV (some aA) id h' k)=_;rw[W4 h l,jd];rfl
theorem AM(bT:Nat)(op:ax)(xs:List AV)(v:AV):∀(recs:List Rec)(up:List (Pos×AB)),qZ bT op xs v up recs=kU bT op xs v up recs
 |[],up=>rfl
 |r::rs,up=>by
  unfold qZ kU;cases r.c with
  |pure=>exact AM bT op xs v rs up
  |new id aA=>simp only[AM bT op xs v rs]<;>(cases bT.testBit r.idx<;>rfl)
  |aI base _=>
   simp only[AM bT op xs v rs,FR,W4];unfold YT eA;simp only[Lv]<;>(cases bT.testBit r.idx<;>rfl)
theorem Zt (hc:CK z bu call):∀(ops:List (Nat×bD))(recs:List Rec)(base:T AB)(fr:Fr)(st:St)(k:Fr->St->R),
  K5 z bu ops recs base fr st k=oY z (dO call ops recs base fr st) λx=>k x.1 x.2
 |[],recs,base,fr,st,k=>rfl
 |(j,   o)::  os,recs,base,fr,st,k=>by
  show Fl   z fr o.guard
    (Sf   z fr o.xs λxs=>match o.cls with
        | .new=>match o.k.run (λ_=>none) st.next xs with
          |some (.aI v none none (some aA))=>s9 v λv=>Fk aA λaA=>kV fr o.dst v λfr=>Tm st.next λn=>oV (some aA) st.next st.heap λh=>
              K5 z bu os ({ idx:=j,o:=o,v:=v,c:= .new st.next aA,nx:=n }::recs) base fr { heap:=h,next:=n } k
          |_=>z
        |.aI=>Qu z bu o.k xs st λv st'=>kV fr o.dst v λfr=>K5 z bu os ({ idx:=j,o:=o,v:=v,c:= .aI base st'.heap,nx:=st'.next }::recs) st'.heap fr st' k
        | _ =>match o.k.run (λ_=>none) .h xs with
          |some (.val v)=>s9 v λv=>kV fr o.dst v λfr=>K5 z bu os ({ idx:=j,o:=o,v:=v,c:= .pure,nx:=st.next }::recs) base fr st k
          | _ =>K4 o.bT base recs λh=>match o.k.run (λb=>mS b h) .h xs with
            | some (.val v)=>s9 v λv=>match qZ o.bT o.k xs v [] recs with
              |true=>kV fr o.dst v λfr=>K5 z bu os ({ idx:=j,o:=o,v:=v,c:= .pure,nx:=st.next }::recs) base fr st k
              |false=>z
            |_=>z)
    (kV fr o.dst .undef λfr=>K5 z bu os ({ idx:=j,o:=o,v:= .undef,c:= .pure,nx:=st.next }::recs) base fr st k)=_
  rw[TW,Qx];simp only[Zs z hc,TX,HQ,Lt,Lu,jd,FR,AM,Lv,Zt hc os];simp only[dO];cases cj fr o.guard with
  |none=>rfl
  | some b=>
    cases b with
    |false=>rfl
    |   true=>
        simp only[];cases e8 fr o.xs with
        |none=>rfl
        | some xs=>
          simp only[oY];cases o.cls with
          | new=>
            simp only[];split<;>simp_all
          | aI=>
            simp only[];cases bY call o.k xs st with
            |none=>rfl
            |some x=>rfl
          | pure=>
            simp only[];split
            .simp_all
            .split<;>simp_all;split<;>simp_all
          | read=>
            simp only[];split
            .simp_all
            .split<;>simp_all;split<;>simp_all
def Zu(r:Option (jV×Fr×St))(kn:Fr->St->R)(kx:Nat->Fr->St->R)(kr:Fr->St->R):R:=match r with
 |some (.normal,fr,st)=>kn fr st
 |some (.exit id,fr,st)=>kx id fr st
 |some (.ret,fr,st)=>kr fr st
 |none=>z
theorem Sr(hc:CK z bu call):∀(m:Nat)(c:AC)(fr:Fr)(st:St)(kn:Fr->St->R)(kx:Nat->Fr->St->R)(kr:Fr->St->R),
  Tn z bu m c fr st kn kx kr=Zu z (exec call m c fr st) kn kx kr
 |0,c,fr,st,kn,kx,kr=>rfl
 |m+    1,c,fr,st,kn,kx,kr=>by
  have ih:=Sr hc m;show q7 z bu (Tn z bu m) c fr st kn kx kr=Zu z (bt call (exec call m) c fr st) kn kx kr;cases c with
  |skip=>rfl
  |region ops=>
   simp only[q7,bt,Qy z hc];cases jM call ops fr st with
   |none=>rfl
   |some x=>rfl
  |draw ops=>
   simp only[q7,bt,Zt z hc];cases dO call ops [] st.heap fr st with
   |none=>rfl
   |some x=>rfl
  |seq a b=>
   simp only[q7,bt,ih];cases exec call m a fr st with
   |none=>rfl
   |    some x=>
        obtain⟨e,cD,aW⟩:=x;cases e<;>rfl
  |cond x a b=>
   simp only[q7,bt,Oy];cases C6 fr x with
   |none=>rfl
   |    some v=>
        simp only[oY];(cases v<;>try rfl);rename_i t;cases t<;>simp only[ih]
  |block id a=>
   simp only[q7,bt,ih];cases exec call m a fr st with
   |none=>rfl
   |    some x=>
        obtain⟨e,cD,aW⟩:=x;(cases e<;>try rfl);rename_i uy;simp only[Zu];cases Nat.beq uy id<;>rfl
  |loop a=>
   simp only[q7,bt,ih];cases exec call m a fr st with
   |none=>rfl
   |    some x=>
        obtain⟨e,cD,aW⟩:=x;cases e<;>rfl
  |exit id=>rfl
  |ret=>rfl
theorem EV:∀(vs:List AV)(i:Nat)(fr:Fr)(k:Fr->R),Ct vs i fr k=k (params i vs fr)
 |[],i,fr,k=>rfl
 |v::vs,i,fr,k=>by show oV (some v) (key i) fr (λfr=>Ct vs (i+1) fr k)=_;rw[jd,EV vs];rfl
theorem abh(st:St)(fr:Fr)(rs:List C0)(k:AV->R):Cu z st fr rs k=oY z (dA (λb=>st.heap.get b) fr rs) λvs=>k (iq vs):=by
 unfold Cu;rw[Lv];cases dA (λb=>st.heap.get b) fr rs with
 |none=>rfl
 |some vs=>
  simp only[Lr,oY];cases vs with
  |nil=>rfl
  |cons v vs=>cases vs<;>rfl
theorem Lw (O:ff)(G:T dB)(m:Nat):∀d,CK z (Hw z O G m d) (rE O G m d)
 |0=>λf args st k=>rfl
 |d+    1=>fun f args st k=>by
  have ih:=Lw O G m d;show( match O f with
   |    some s=>match s args st with
        |some (v,st')=>s9 v λv=>k v st'
        |none=>z
   |    none=>match mS (key f) G with
        |some F=>match Nat.beq args.length F.nparams with
         |true=>Ct args 0 .e λfr=>Tn z (Hw z O G m d) m F.code fr st
             (λfr st=>Cu z st fr F.results λv=>k v st)
             (λ_ _ _=>z)
             (λfr st=>Cu z st fr F.results λv=>k v st)
         |false=>z
        |none=>z)=_
  simp only[rE,HQ,wI,EV,Sr z ih,abh];cases O f with
  |some s=>
   simp only[];cases s args st with
   |none=>rfl
   |some x=>rfl
  |none=>
   simp only[];cases G.get (key f)with
   |none=>rfl
   |    some F=>
        simp only[];cases Nat.beq args.length F.nparams with
        |false=>rfl
        |true=>
         simp only[];cases exec (rE O G m d) m F.code (params 0 args .e) st with
         |none=>rfl
         |  some x=>
            obtain⟨e,cD,aW⟩:=x;cases e with
            |normal=>
             simp only[Zu];cases dA (λb=>aW.heap.get b) cD F.results<;>rfl
            |exit id=>rfl
            |ret=>
             simp only[Zu];cases dA (λb=>aW.heap.get b) cD F.results<;>rfl
end
end
section
open Go
def ac0 (P :Program)(t:Nat)(ti:TI):Bool:=
 match P.underlying t,P.info? t with
 |  some d,some i=>bU ti.k d&&Nat.beq i.size ti.size&&Nat.beq i.bytes ti.bytes&&
    (match ti.zero with
     |none=>true
     |some z=>match i.zero with
      |some v=>(match oH v.cells.toList with
           |some z'=>oT z' z
           |none=>false)&&Nat.beq z.length ti.size&&(match ti.k.isAgg,v with
           |true,.agg _=>true
           |true,_=>false
           |false,.agg _=>false
           |false,_=>true)
      |none=>false)&&(match ti.k with
     |.ptr e=>(P.info? e).isSome
     |_=>true)&&(!ti.yL||(!P.stoodInHeld t&& !P.eqGuardType P.depth t))
 |_,_=>false
theorem agm{P:Program}{t:Nat}{ti:TI}(h:ac0 P t ti=true):acz P t ti:=by
 unfold ac0 at h;split at h<;>first|(cases h;done)|skip
 rename_i d i hd hi;simp only[Za9,Zi0,Zi6]at h;obtain⟨⟨⟨⟨⟨h1,h2⟩,h3⟩,h4⟩,h6⟩,h5⟩:=h;refine⟨⟨d,hd,h1⟩,⟨i,hi,H4 h2,H4 h3,λz hz=> ?_⟩,λe he=> ?_,λhe=> ?_⟩
 . rw[hz]at h4;simp only at h4;(split at h4<;>first|(cases h4;done)|skip);rename_i v hv;simp only[Za9]at h4;obtain⟨⟨g1,g2⟩,g3⟩:=h4;(split at g1<;>first|(cases g1;done)|skip);rename_i z' B9;rw[CU g1]at B9;refine⟨v,hv,B9,H4 g2,λha=> ?_,λha=> ?_⟩
   .rw[ha]at g3;cases v<;>first|exact⟨_,rfl⟩|cases g3
   .rw[ha]at g3;cases v<;>first|rfl|cases g3
 .rw[he]at h6;exact Option.isSome_iff_exists.1 h6
 . rcases h5 with h5|h5
   .rw[he]at h5;cases h5
   .exact h5
def Fg(P:Program):(Pos->Pos)->T TI->Bool
 |_,.e=>true
 |  f,.n l v r=>(match v with
    |some ti=>ac0 P ((f .h).toNat - 1) ti
    |none=>true)&&Fg P (λp=>f (.o p)) l&&Fg P (λp=>f (.i p)) r
theorem Lx{P:Program}:∀{t:T TI}{f:Pos->Pos},Fg P f t=true->∀p ti,t.get p=some ti->acz P ((f p).toNat - 1) ti
 |.e,f,_,p,ti,h=>by rw[T.ej]at h;cases h
 | .n l v r,f,hc,p,ti,h=>by
   simp only[Fg,Za9]at hc;cases p with
   |h=>simp only[T.get]at h;rw[h]at hc;exact agm hc.1.1
   |o p=>exact Lx hc.1.2 p ti h
   |i p=>exact Lx hc.2 p ti h
theorem ail{P:Program}{tt:TT}(h:Fg P (λp=>p) tt=true):cB P tt:=λp ti hp=>Lx h p ti hp
end
noncomputable section
open Go
def JS{α:Type}(g:Nat->Option α):Nat->Nat->Nat->T α
 |0,_,_=>.e
 |d+1,a,m=>.n (JS g d a (2*m)) (g (a+m - 1)) (JS g d (a+m) (2*m))
theorem Ly{α:Type}{g:Nat->Option α}:∀{d a m:Nat}{p:Pos}{x:α},(JS g d a m).get p=some x->g (a+m*p.toNat - 1)=some x
 |0,_,_,p,x,h=>by rw[JS,T.ej]at h;cases h
 |d+1,a,m,.h,x,h=>by rw[Pos.toNat,Zk7];exact h
 |d+1,a,m,.o p,x,h=>by
  have:=Ly (d:=d) (a:=a) (m:=2*m) (p:=p) (x:=x) h;rw[Pos.toNat];have e:a+m*(2*p.toNat) - 1=a+2*m*p.toNat - 1:=by rw[<-Nat.mul_assoc,Nat.mul_comm m 2]
  rw[e];exact this
 |d+1,a,m,.i p,x,h=>by
  have:=Ly (d:=d) (a:=a+m) (m:=2*m) (p:=p) (x:=x) h;rw[Pos.toNat];have e:a+m*(2*p.toNat+1) - 1=a+m+2*m*p.toNat - 1:=by rw[Nat.mul_add,Zk7, <-Nat.mul_assoc,Nat.mul_comm m 2];omega
  rw[e];exact this
def ah9(P:Program)(tt:TT)(i:Nat):Option dB:=match P.funcs[i]? with
 |some fn=>Yq tt fn
 |none=>none
def ggOf(P:Program)(tt:TT):T dB:=JS (ah9 P tt) 10 0 1
theorem aim{P:Program}{tt:TT}(h:(P.funcs.toList.all λfn=> !(fn.name== "runtime.NumGoroutine"))=true):Te P tt (ggOf P tt):=λp F hp=>by
 have:=Ly hp;rw[Zc7,Zo6,ah9]at this;split at this<;>first|(cases this;done)|skip
 rename_i fn Eh;refine⟨fn,Eh,?_,this⟩;have:=Ze5.1 h fn (by obtain⟨hi,e⟩:=Zd2.1 Eh;exact Zm2.2 (e ▸Array.getElem_mem hi));simpa using this
def tkOf(P:Program)(t:Nat):TK:=match P.underlying t with
 |some .bool=>.bool
 |some (.int k)=>.int k
 |some .string=>.string
 |some (.pointer e)=>.ptr e
 |some (.slice e)=>.slice e
 |some (.array n e)=>.array n e
 |some (.map k e)=>.map k e
 |some (.struct fs)=>.struct (fs.toList.map λf=>(f.offset,f.type,f.name != "_"))
 |some (.func _ _ _)=>.func
 |some (.interface _)=>.iface
 |some .unsafePointer=>.upt
 |_=>.other
def zeroOf:Option Value->Option (List AV)
 |  some v=>match Nat.ble v.cells.size 64 with
    |true=>oH v.cells.toList
    |false=>none
 |none=>none
def memN(n:Nat):List Nat->Bool
 |[]=>false
 |  m::l=>match Nat.beq m n with
    |true=>true
    |false=>memN n l
def tiOf(P:Program)(eqs:List Nat)(t:Nat):Option TI:=match P.info? t with
 |none=>none
 |some i=>some { k:=tkOf P t,size:=i.size,bytes:=i.bytes,zero:=zeroOf i.zero,yL:=memN t eqs }
def ttOf(P:Program)(eqs:List Nat):T TI:=JS (tiOf P eqs) 10 0 1
def kS(p n c e:Nat):AV:= .slice (key p) 0 n (some c) e
end
section
open Go
structure kT(P:Program)(C:Cells)(f:FuncId)(s:List AV->St->Option (AV×St)):Prop where
 mono:∀args st v st',s args st=some (v,st')->st.next.toNat<=st'.next.toNat
 runs:∀(ρ:Pos->Loc)(st:St)(w:World)(args:List AV)(v:AV)(st':St)(bQ:List Value),s args st=some (v,st')->
  bn ρ C st w->az ρ st.next.toNat C args bQ->Reaches P (mW ρ C st w v st') ((callFunc f bQ.toArray).run P w)
def Ar:List (Nat×(List AV->St->Option (AV×St)))->ff
 |[]=>λ_=>none
 |  (g,s)::l=>λf=>match Nat.beq f g with
    |true=>some s
    |false=>Ar l f
theorem yU{P:Program}{C:Cells}:∀{l:List (Nat×(List AV->St->Option (AV×St)))},(∀x∈l,kT P C x.1 x.2)->rC P C (Ar l)/\k8 (Ar l)
 |[],_=>⟨λf s h=>by simp[Ar]at h,λf s h=>by simp[Ar]at h⟩
 |(g,   s0)::l,hl=>by
  obtain⟨h1,h2⟩:=yU λx hx=>hl x (Za0 _ hx)
  have h0:=hl _ (Zd8 ..);refine⟨λf s h=> ?_,λf s h=> ?_⟩
  . simp only[Ar]at h;split at h
    .   rename_i he;simp only[H0]at h;subst h;have:=H4 he;subst this;exact h0.runs
    .   exact h1 f s h
  . simp only[Ar]at h;split at h
    .   simp only[H0]at h;subst h;exact h0.mono
    .   exact h2 f s h
def N5:List AV->St->Option (AV×St)
 |  [.str a,.str b],st=>some (.int .i64 (match aD a b with
    |true=>.negSucc 0
    |false=>match aD b a with
     |true=>.ofNat 1
     |false=>.ofNat 0),st)
 |_,_=>none
theorem Oz:∀(x y:List UInt8),Lib.compareBytes x y=match aD (x.map UInt8.toNat) (y.map UInt8.toNat)with
  |true=>.negSucc 0
  | false=>match aD (y.map UInt8.toNat) (x.map UInt8.toNat)with
    |true=>.ofNat 1
    |false=>.ofNat 0
 |[],[]=>rfl
 |[],_::_=>rfl
 |_::_,[]=>rfl
 |a ::x  ,b::y=>by
  rw[tQ,tQ];have ih:=Oz x y;rw[tQ,tQ]at ih;simp only[Lib.compareBytes,Op.bytesLess];by_cases h:a<b
  .simp[h]
  . by_cases h':b<a
    .   have cU:(a==b)=false:=(by rw[Zl1];exact λe=>by subst e;exact h h');simp[h,h',cU]
    .   have he:a=b:=(by apply Zq3.1;rw[Zo0]at h h';omega);subst he;simp only[h,Ze1,ih];simp
theorem afJ{P:Program}{C:Cells}{f:FuncId}{fn:Func}(hf:P.funcs[f]? =some fn)(fY:(fn.name== "runtime.NumGoroutine")=false)(hb:fn.body.isNone=true)
  (hx:Extern.findNext fn=none) (he:Extern.find fn=some Extern.BytealgCompare.compare):kT P C f N5 where
 mono args st v st' h:=by unfold N5 at h;split at h<;>cases h;exact Za3 _
 runs ρ st w args v st' bQ h hW hv:=by
  unfold N5 at h;split at h<;>cases h;rename_i a b;obtain⟨x,xs,rfl,h1,h2⟩:=hv.cons_inv;obtain⟨y,ys,rfl,h3,h4⟩:=h2.cons_inv;have:=h4.mL;subst this;obtain⟨s,rfl,hs⟩:=h1.eU;obtain⟨t,rfl,ht⟩:=h3.eU;have cC:(callFunc f [Value.string s,Value.string t].toArray).run P w= .ok (.value (.int .i64 (Lib.compareBytes s.data.toList t.data.toList))) w:=by rw[run_callFunc_extern hf fY hb hx he];show((Extern.BytealgCompare.compare #[.string s,.string t]).run P w).andThen _=_;rw[Lib.run_compareString];rfl
  rw[cC];refine⟨ρ,?_,λ_ _=>rfl,Za3 _,hW,jW.refl _ _ _⟩;rw[Oz,hs,ht];exact .int _ _
def Dc:List AV->List AV->Bool
 |[],[]=>true
 |a::x,b::y=>dN a b&&Dc x y
 |_,_=>false
theorem HR:∀{a b:List AV},Dc a b=true->a=b
 |[],[],_=>rfl
 |[],_::_,h=>by simp[Dc]at h
 |_::_,[],h=>by simp[Dc]at h
 |a::x,b::y,h=>by
  simp only[Dc,Za9]at h;rw[rM h.1,HR h.2]
def Qz:List (AV×AV×Nat)->List (AV×AV×Nat)->Bool
 |[],[]=>true
 |(a,b,n)::x,(a',b',n')::y=>dN a a'&&dN b b'&&Nat.beq n n'&&Qz x y
 |_,_=>false
theorem Zv:∀{a b:List (AV×AV×Nat)},Qz a b=true->a=b
 |[],[],_=>rfl
 |[],_::_,h=>by simp[Qz]at h
 |_::_,[],h=>by simp[Qz]at h
 |(a,b,n)::x,(a',b',n')::y,h=>by
  simp only[Qz,Za9]at h;obtain⟨⟨⟨h1,h2⟩,h3⟩,h4⟩:=h;rw[rM h1,rM h2,H4 h3,Zv h4]
def HS:AB->AB->Bool
 |.cells cs fz,.cells mG fz'=>Dc cs mG&&Nat.beq fz fz'
 |.map es c,.map es' c'=>Qz es es'&&Nat.beq c c'
 |.jS s p,.jS s' p'=>ja s s'&&Nat.beq p p'
 |.typed t cs,.typed t' mG=>Dc cs mG&&Nat.beq t t'
 |_,_=>false
theorem Ss{a b:AB}(h:HS a b=true):a=b:=by
 unfold HS at h;split at h<;>(try simp only[Za9]at h)
 .rw[HR h.1,H4 h.2]
 .rw[Zv h.1,H4 h.2]
 .rw[jX.1 h.1,H4 h.2]
 .rw[HR h.1,H4 h.2]
 .cases h
structure Lit where
 args:List AV
 n0:Pos
 L0:List (Pos×AB)
 v:AV
 n1:Pos
 L1:List (Pos×AB)
end
end Go.Ai
