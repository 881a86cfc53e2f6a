/- Its calls answer as the model does. -/
import Derived.Test.YtlkadmkojjceiaaGreatDoorVEvalC
import Derived.Lib.Bytealg
set_option linter.all false
namespace Go.Ai
section
open Go Go.RowKit
theorem Cr{a b:AV}(h:jK a b=true):a=b:=by
 unfold jK at h;split at h<;>(try simp only[Za6,Zd5]at h)<;>try rfl
 .rw[beq_iff_eq.1 h]
 .rename_i k i k' i';have h2:=h.2;rw[iV]at h2;rw[wR h.1,beq_iff_eq.1 h2]
 .rw[mR.1 h]
 .rw[Pos.beq_eq.1 h.1,H3 h.2]
 .obtain⟨⟨⟨h1,h2⟩,h3⟩,h4⟩:=h;rw[Pos.beq_eq.1 h1,H3 h2,H3 h3,H3 h4]
 .obtain⟨⟨⟨⟨h1,h2⟩,h3⟩,h4⟩,h5⟩:=h;rw[Pos.beq_eq.1 h1,H3 h2,H3 h3,H3 h4,H3 h5]
 .rw[Pos.beq_eq.1 h]
theorem FQ:∀{a b:List AV},v9 a b=true->a=b
 |[],[],_=>rfl
 |[],_::_,h=>by simp[v9]at h
 |_::_,[],h=>by simp[v9]at h
 |a::x,b::y,h=>by
  simp only[v9,Za6]at h;rw[Cr h.1,FQ h.2]
theorem Vo{f:AV->AV->Bool}(hf:∀{a b},f a b=true->a=b):∀{a b:List AV},ET f a b=true->a=b
 |[],[],_=>rfl
 |[],_::_,h=>by simp[ET]at h
 |_::_,[],h=>by simp[ET]at h
 |a::x,b::y,h=>by
  simp only[ET,Za6]at h;rw[hf h.1,Vo hf h.2]
theorem P6{f:AV->AV->Bool}(hf:∀{a b},f a b=true->a=b):∀{a b:List (List AV)},wP f a b=true->a=b
 |[],[],_=>rfl
 |[],_::_,h=>by simp[wP]at h
 |_::_,[],h=>by simp[wP]at h
 |a::x,b::y,h=>by
  simp only[wP,Za6]at h;rw[Vo hf h.1,P6 hf h.2]
theorem Vp:∀{d:Nat}{a b:AV},EU d a b=true->a=b
 |0,_,_,h=>by unfold EU at h;exact Cr h
 |d +1,a,b,h=>by
  unfold EU at h;split at h
  .rename_i heq;cases heq;simp only[Za6]at h;rw[P6 (λh=>Vp h) h.1,H3 h.2]
  .exact Cr h
theorem P7{a b:AV}(h:wQ a b=true):a=b:=by
 unfold wQ at h;split at h
 .simp only[Za6]at h;rw[H3 h.1.1,FQ h.1.2,FQ h.2]
 .exact Vp h
 .exact Cr h
theorem AH:∀{a b:List AV},rV a b=true->a=b
 |[],[],_=>rfl
 |[],_::_,h=>by simp[rV]at h
 |_::_,[],h=>by simp[rV]at h
 |a::x,b::y,h=>by
  simp only[rV,Za6]at h;rw[P7 h.1,AH h.2]
theorem pL{a b:AV}(h:fC a b=true):a=b:=by
 unfold fC at h;split at h
 .rw[AH h]
 .rw[AH h]
 .exact P7 h
theorem ab6 {k:az}{H H':Pos->Option AB}{n n':Pos}{xs:List AV}{v:AV}(h:k.run H n xs=some (.val v))(hm:∀b x,H b=some x->H' b=some x):
  k.run H' n' xs=some (.val v):=by
 cases k<;>simp only[az.run]at h ⊢ <;>try exact h
 case alloc z=>unfold HY at h;split at h<;>cases h
 case box=>unfold Pz at h;split at h<;>cases h
 case buildSlice es len z p=>unfold qu at h;dsimp only at h;split at h<;>cases h
 case mkMap=>unfold H7 at h;cases h
 case mkSlice es b z=>
  unfold yg at h
  repeat' split at h
  all_goals cases h
 case rangeS=>
  unfold ER at h
  repeat' split at h
  all_goals cases h
 case store m=>
  unfold CT at h
  repeat' split at h
  all_goals cases h
 case mapSet pk=>
  unfold wN at h
  repeat' split at h
  all_goals cases h
 case load m=>
  unfold tK at h ⊢;split at h<;>first|(cases h;done)|skip
  split at h<;>first|(cases h;done)|skip
  . split at h<;>first|(cases h;done)|skip
    .   rename_i cs fz hb;simp only[hm _ _ hb];exact h
    .   rename_i t0 cs hb;simp only[hm _ _ hb];exact h
  .exact h
 case conv c=>
  unfold Ac at h ⊢;split at h<;>first|(cases h;done)|skip
  split at h<;>first|(cases h;done)|exact h|skip
  rename_i b off m _ _;cases hb:Nat.beq m 0 with
  |true=>simp only[hb]at h ⊢; exact h
  | false=>
    simp only[hb]at h ⊢;cases hH:H b with
    |none=>simp[hH]at h
    |some x=>simp only[hH]at h;simp only[hm _ _ hH];exact h
 case lookup pk z ok=>
  unfold wM at h ⊢;split at h<;>first|(cases h;done)|skip
  rename_i m k';cases m<;>try exact h
  rename_i b;cases hb:H b with
  |none=>simp[hb]at h
  | some x=>
    simp only[hb]at h;simp only[hm _ _ hb];exact h
 case lenB lk=>
  unfold GL at h ⊢;split at h<;>first|(cases h;done)|skip
  split at h<;>first|(cases h;done)|exact h|skip
  split at h<;>first|(cases h;done)|skip
  rename_i es c hb;simp only[hm _ _ hb];exact h
 case nextS=>
  unfold H8 at h ⊢;split at h<;>first|(cases h;done)|skip
  split at h<;>first|(cases h;done)|skip
  split at h<;>first|(cases h;done)|skip
  rename_i s pos hb;simp only[hm _ _ hb];split at h
  .rename_i aK;split at h<;>cases h
  .rename_i aK;exact h
 case allocT t z=>
  unfold ES at h;split at h<;>cases h
 case appendT e bytes=>
  unfold tL at h ⊢;split at h<;>first|(cases h;done)|skip
  split at h<;>first|(cases h;done)|skip
  split at h<;>first|(cases h;done)|skip
  . (split at h<;>first|(cases h;done)|skip);split at h<;>first|(cases h;done)|exact h
  . (split at h<;>first|(cases h;done)|skip);split at h
    .   exact h
    .   repeat' split at h
        all_goals cases h
 case toU=>
  unfold PA at h ⊢;split at h<;>first|(cases h;done)|skip
  split at h<;>first|(cases h;done)|exact h|skip
  split at h<;>first|(cases h;done)|skip
  rename_i t0 cs hb;simp only[hm _ _ hb];exact h
 case fromU u m=>
  unfold H9 at h ⊢;split at h<;>first|(cases h;done)|skip
  split at h<;>first|(cases h;done)|exact h|skip
  split at h<;>first|(cases h;done)|skip
  rename_i t0 cs hb;simp only[hm _ _ hb];exact h
 case unsafeStr e=>
  unfold n6 at h ⊢;split at h<;>first|(cases h;done)|skip
  split at h<;>first|(cases h;done)|skip
  split at h
  .exact h
  . repeat' split at h
    all_goals cases h
 case clearS es z=>
  unfold wO at h ⊢;split at h<;>first|(cases h;done)|skip
  split at h<;>first|(cases h;done)|exact h|skip
  rename_i b off m _ _;cases hb:Nat.beq m 0 with
  |true=>simp only[hb]at h ⊢; exact h
  | false=>
    simp only[hb]at h
    repeat' split at h
    all_goals cases h
 case copyB es=>
  unfold Ad at h ⊢;split at h<;>first|(cases h;done)|skip
  rename_i d x;cases hd:cS d with
  |none=>simp[hd]at h
  | some m1=>
    cases hx:cS x with
    |none=>simp[hd,hx]at h
    |   some m2=>
        simp only[hd,hx]at h ⊢;cases hb:Nat.beq (min m2 m1) 0 with
        |true=>simp only[hb]at h ⊢; exact h
        |false=>
         simp only[hb]at h;(split at h<;>first|(cases h;done)|skip);(split at h<;>first|(cases h;done)|skip);split at h<;>cases h
 case append es bytes=>
  unfold fk at h ⊢;split at h<;>first|(cases h;done)|skip
  rename_i s x;cases hd:cS s with
  |none=>simp[hd]at h
  | some m1  =>
    cases hx:cS x with
    |none=>simp[hd,hx]at h
    |   some m2=>
        simp only[hd,hx]at h ⊢;cases h1:Nat.ble ((2*(m1+m2)+768)*bytes) 281474976710656 with
        |false=>simp[h1]at h
        |true=>
         cases h2:Nat.ble (m1+m2) 9223372036854775807 with
         |false=>simp[h1,h2]at h
         |  true=>
            simp only[h1,h2]at h ⊢;cases hb:Nat.beq m2 0 with
            |true=>
             simp only[hb]at h ⊢;split at h<;>first|(cases h;done)|exact h|skip
             all_goals (simp_all;done)
            |false=>
             simp only[hb]at h
             repeat' split at h
             all_goals first
               |(rename_i e;cases e;done)
               |(rename_i e _;cases e;done)
               |(cases h;done)
               |simp_all
inductive wo(n:Pos):AV->AB->Prop where
 |ptr (cs:List AV):wo n (.ptr n 0) (.cells cs 0)
 |iR (s:List Nat):wo n (.ptr n 0) (.iR s 0)
 |slice (len es:Nat) (cap:Option Nat) (cs:List AV) (h:len=0->cap=none\/cap=some 0->cs=[]):wo n (.slice n 0 len cap es) (.cells cs 0)
 |map:wo n (.map n) (.map [] 0)
 |ptrT (t:TypeId) (cs:List AV):wo n (.ptr n 0) (.typed t cs)
 |aaJ (len:Nat) (t:TypeId) (cs:List AV) (h:len≠0):wo n (.slice n 0 len none 1) (.typed t cs)
theorem SU:∀{ps:List (Nat×Nat)}{xs cs:List AV},bG [] ps xs=some cs->cs=[]
 |[],[],cs,h=>by simp[bG]at h;exact h.symm ▸rfl
 |[],_::_,cs,h=>by simp[bG]at h
 |_::_,[],cs,h=>by simp[bG]at h
 |(off,size)::ps,v::vs,cs,h=>by
  unfold bG at h;split at h<;>first|(cases h;done)|skip
  rename_i h1 h2;have h1:=H3 h1;have h2:=Za0 h2;have h3:v.cells=[]:=by apply Za8;simp at h2;omega
  rw[h3]at h;have h4:aH ([]:List AV) off []=[]:=by simp[aH]
  rw[h4]at h;exact SU h
theorem ad6 {k : az}{n:Pos}{xs:List AV}{v:AV}{ay:AB}(h:k.run (λ_=>none) n xs=some (.aF v none none (some ay))):wo n v ay:=by
 cases k<;>simp only[az.run]at h
 case alloc z=>unfold HY at h;split at h<;>cases h;exact .ptr _
 case allocT t z=>unfold ES at h;split at h<;>cases h;exact .ptrT _ _
 case appendT e bytes=>
  unfold tL at h;split at h<;>first|(cases h;done)|skip
  split at h<;>first|(cases h;done)|skip
  split at h<;>first|(cases h;done)|skip
  . (split at h<;>first|(cases h;done)|skip);split at h<;>cases h;rename_i hb;exact .aaJ _ _ _ (by have:=Zb2 hb;omega)
  . split at h<;>first|(cases h;done)|skip
    repeat' split at h
    all_goals cases h
 case toU=>   unfold PA at h;repeat' split at h
              all_goals cases h
 case fromU=>   unfold H9 at h;repeat' split at h
                all_goals cases h
 case sliceData=>   unfold rU at h;repeat' split at h
                    all_goals cases h
 case unsafeStr=>   unfold n6 at h;repeat' split at h
                    all_goals cases h
 case box=>unfold Pz at h;split at h<;>cases h;exact .ptr _
 case buildSlice es len z p=>
  unfold qu at h;dsimp only at h;split at h<;>cases h;rename_i cs hc;refine .slice _ _ _ _ λh0 _=> ?_
  subst h0;exact SU hc
 case mkMap=>unfold H7 at h;cases h;exact .map
 case mkSlice es b z=>
  unfold yg at h
  repeat' split at h
  all_goals cases h
  refine .slice _ _ _ _ λ_ h1=> ?_
  rcases h1 with h1|h1
  .cases h1
  .simp only[H0]at h1;subst h1;rfl
 case rangeS=>
  unfold ER at h
  repeat' split at h
  all_goals cases h
  exact .iR _
 case conv c=>
  unfold Ac at h
  repeat' split at h
  all_goals cases h
  rename_i s;refine .slice _ _ _ _ λh0 _=> ?_
  rw[Za8 h0];rfl
 case append es bytes=>
  unfold fk at h
  repeat' split at h
  all_goals cases h
  all_goals refine .slice _ _ _ _ λh0 _=> ?_
  all_goals (exfalso;rename_i hb _ _;simp_all)
 case move=>unfold MU at h;split at h<;>cases h
 case pick=>   unfold Rj at h;repeat' split at h
               all_goals cases h
 case build=>unfold HZ at h;dsimp only at h;split at h<;>cases h
 case load=>   unfold tK at h;repeat' split at h
               all_goals cases h
 case store=>   unfold CT at h;repeat' split at h
                all_goals cases h
 case nilCheck=>   unfold FI at h;repeat' split at h
                   all_goals cases h
 case bin=>   unfold gS at h;repeat' split at h
              all_goals cases h
 case un=>   unfold Za at h;repeat' split at h
             all_goals cases h
 case mkIface=>   unfold H6 at h;repeat' split at h
                  all_goals cases h
 case mkFunc=>unfold EP at h;dsimp only at h;cases h
 case lookup=>
  unfold wM at h;split at h<;>first|(cases h;done)|skip
  dsimp only at h;split at h<;>cases h
 case mapSet=>   unfold wN at h;repeat' split at h
                 all_goals cases h
 case sliceS=>
  unfold KH at h;split at h<;>first|(cases h;done)|skip
  split at h<;>first|(cases h;done)|skip
  dsimp only at h;split at h<;>cases h
 case sliceL=>   unfold oT at h;repeat' split at h
                 all_goals cases h
 case fieldA=>   unfold KI at h;repeat' split at h
                 all_goals cases h
 case idxA=>   unfold mD at h;repeat' split at h
               all_goals cases h
 case field=>   unfold Ov at h;repeat' split at h
                all_goals cases h
 case idxS=>   unfold MV at h;repeat' split at h
               all_goals cases h
 case extract=>   unfold Cp at h;repeat' split at h
                  all_goals cases h
 case callF=>unfold Ow at h;dsimp only at h;cases h
 case callV=>   unfold Ox at h;repeat' split at h
                all_goals cases h
 case lenB=>   unfold GL at h;repeat' split at h
               all_goals cases h
 case copyB=>
  unfold Ad at h;split at h<;>first|(cases h;done)|skip
  split at h<;>first|(cases h;done)|skip
  dsimp only at h
  repeat' split at h
  all_goals cases h
 case minB=>   unfold CI at h;repeat' split at h
               all_goals cases h
 case maxB=>   unfold CJ at h;repeat' split at h
               all_goals cases h
 case clearS=>   unfold wO at h;repeat' split at h
                 all_goals cases h
 case nextS=>   unfold H8 at h;repeat' split at h
                all_goals cases h
 case capB=>cases h
 case bad=>cases h
end
section
def k9(call:ah):Prop:=∀f args st v st',call f args st=some (v,st')->st.next.toNat<=st'.next.toNat
section
variable{call:ah}
theorem Is(hm:k9 call){k:az}{xs:List AV}{st st':St}{v:AV}(h:aV call k xs st=some (v,st')):st.next.toNat<=st'.next.toNat:=by
 unfold aV at h;split at h
 .simp only[H0,Za9]at h;rw[h.2];exact Za3 _
 .simp only[H0,Za9]at h;rw[<-h.2];exact St.Vj _ _ _ _
 .exact hm _ _ _ _ _ h
 .cases h
theorem KW(hm:k9 call):∀(os:List bg)(fr aU:Fr)(st st':St),iJ call os fr st=some (aU,st')->st.next.toNat<=st'.next.toNat
 |[],fr,aU,st,st',h=>by simp only[iJ,H0,Za9]at h;rw[h.2];exact Za3 _
 |o ::os,fr,aU,st,st',h=>by
  unfold iJ at h;split at h
  . (split at h<;>first|(cases h;done)|skip);(split at h<;>first|(cases h;done)|skip);rename_i hs;exact Zc3 (Is hm hs) (KW hm os _ _ _ _ h)
  .exact KW hm os _ _ _ _ h
  .cases h
theorem tP(hm:k9 call):∀(os:List (Nat×bg))(recs:List Rec)(base:T AB)(fr aU:Fr)(st st':St),cH call os recs base fr st=some (aU,st')->st.next.toNat<=st'.next.toNat
 |[],recs,base,fr,aU,st,st',h=>by simp only[cH,H0,Za9]at h;rw[h.2];exact Za3 _
 |(j,   o)::os,recs,base,fr,aU,st,st',h=>by
  have hs:st.next.toNat<=st.next.succ.toNat:=by rw[Pos.aB];omega
  unfold cH at h;split at h
  .exact tP hm os _ _ _ _ _ _ h
  . (split at h<;>first|(cases h;done)|skip);split at h
    .   (split at h<;>first|(cases h;done)|skip);exact Zc3 hs (tP hm os _ _ _ _ _ _ h)
    .   (split at h<;>first|(cases h;done)|skip);rename_i hs;exact Zc3 (Is hm hs) (tP hm os _ _ _ _ _ _ h)
    .   split at h
        .exact tP hm os _ _ _ _ _ _ h
        . (split at h<;>first|(cases h;done)|skip);(split at h<;>first|(cases h;done)|skip);exact tP hm os _ _ _ _ _ _ h
  .cases h
theorem E7(hm:k9 call):∀(m:Nat)(c:AC)(fr aU:Fr)(st st':St)(ex:iU),exec call m c fr st=some (ex,aU,st')->st.next.toNat<=st'.next.toNat
 |0,c,fr,aU,st,st',ex,h=>by simp[exec]at h
 |m +   1,c,fr,aU,st,st',ex,h=>by
  have ih:=E7 hm m;simp only[exec]at h;unfold aW at h;split at h
  .simp only[H0,Za9]at h;rw[h.2.2];exact Za3 _
  . (split at h<;>first|(cases h;done)|skip);rename_i hs;simp only[H0,Za9]at h;rw[<-h.2.2];exact KW hm _ _ _ _ _ hs
  . (split at h<;>first|(cases h;done)|skip);rename_i hs;simp only[H0,Za9]at h;rw[<-h.2.2];exact tP hm _ _ _ _ _ _ _ hs
  . split at h
    .   rename_i hs;exact Zc3 (ih _ _ _ _ _ _ hs) (ih _ _ _ _ _ _ h)
    .   exact ih _ _ _ _ _ _ h
  .split at h<;>first|(cases h;done)|exact ih _ _ _ _ _ _ h
  . split at h
    .   rename_i hs;split at h<;>(simp only[H0,Za9]at h;rw[<-h.2.2];exact ih _ _ _ _ _ _ hs)
    .   exact ih _ _ _ _ _ _ h
  . split at h
    .   rename_i hs;exact Zc3 (ih _ _ _ _ _ _ hs) (ih _ _ _ _ _ _ h)
    .   exact ih _ _ _ _ _ _ h
  .simp only[H0,Za9]at h;rw[h.2.2];exact Za3 _
  .simp only[H0,Za9]at h;rw[h.2.2];exact Za3 _
def jQ(O:dS):Prop:=∀f s,O f=some s->∀args st v st',s args st=some (v,st')->st.next.toNat<=st'.next.toNat
theorem It{O:dS}{G:T cw}(hO:jQ O)(m:Nat):∀d,k9 (pE O G m d)
 |0=>λf args st v st' h=>by simp[pE]at h
 |d +   1=>λf args st v st' h=>by
  have ih:=It (G:=G) hO m d;unfold pE at h;split at h
  .rename_i s hs;exact hO f s hs args st v st' h
  . (split at h<;>first|(cases h;done)|skip);(split at h<;>first|(cases h;done)|skip);split at h<;>first|(cases h;done)|skip
    .   rename_i hs;(split at h<;>first|(cases h;done)|skip);simp only[H0,Za9]at h;rw[<-h.2];exact E7 ih _ _ _ _ _ _ _ hs
    .   rename_i hs;(split at h<;>first|(cases h;done)|skip);simp only[H0,Za9]at h;rw[<-h.2];exact E7 ih _ _ _ _ _ _ _ hs
end
def lf(bO:Fr):List Rec->Fr
 |[]=>bO
 |r::R=>cM (lf bO R) r.o.dst r.v
def cO(n0:Pos):List Rec->Pos
 |[]=>n0
 |r::_=>r.nx
def RC.kB:RC->Bool
 |.aF _ _=>true
 |_=>false
def iB(h0:T AB):List Rec->T AB
 |[]=>h0
 |  r::R=>match r.c with
    |.aF _ h=>h
    |_=>iB h0 R
def iC(h0:T AB):List Rec->T AB
 |[]=>h0
 |  r::R=>match r.c with
    |.aF _ h=>h
    |.new id ay=>(iC h0 R).put (some ay) id
    |.pure=>iC h0 R
def E8:List Rec->Prop
 |[]=>True
 |r::_=>r.c.kB=true
def Vq(h0:T AB)(R:List Rec)(o:bg)(xs:List AV)(v:AV):Prop:=
 ∀  A B,R=A++B->E8 B->(∀r∈A,r.c.kB=true->o.bA.testBit r.idx=false)->
    ∃h:T AB,(∀b x,h.get b=some x->(iB h0 B).get b=some x\/∃r∈A,r.c= .new b x/\o.bA.testBit r.idx=true)/\o.k.run (λb=>h.get b) .h xs=some (.val v)
inductive oa(call:ah)(bO:Fr)(h0:T AB)(n0:Pos):Rec->List Rec->Prop where
 |skip (i:Nat) (o:bg) (R:List Rec) (hw:bI (lf bO R) o.guard=some false):
  oa call bO h0 n0 { idx:=i,o:=o,v:= .undef,c:= .pure,nx:=cO n0 R } R
 |pure (i:Nat) (o:bg) (v:AV) (xs:List AV) (R:List Rec) (hw:bI (lf bO R) o.guard=some true) (hx:dN (lf bO R) o.xs=some xs) (hr:Vq h0 R o xs v):
  oa call bO h0 n0 { idx:=i,o:=o,v:=v,c:= .pure,nx:=cO n0 R } R
 |new (i:Nat) (o:bg) (v:AV) (ay:AB) (xs:List AV) (R:List Rec) (hw:bI (lf bO R) o.guard=some true) (hx:dN (lf bO R) o.xs=some xs)
  (hr:o.k.run (λ_=>none) (cO n0 R) xs=some (.aF v none none (some ay))):
  oa call bO h0 n0 { idx:=i,o:=o,v:=v,c:= .new (cO n0 R) ay,nx:=(cO n0 R).succ } R
 |aF (i:Nat) (o:bg) (v:AV) (st':St) (xs:List AV) (R:List Rec) (hc:o.cls= .aF) (hw:bI (lf bO R) o.guard=some true) (hx:dN (lf bO R) o.xs=some xs)
  (hr:aV call o.k xs { heap:=iC h0 R,next:=cO n0 R }=some (v,st')):
  oa call bO h0 n0 { idx:=i,o:=o,v:=v,c:= .aF (iB h0 R) st'.heap,nx:=st'.next } R
def Good(call:ah)(bO:Fr)(h0:T AB)(n0:Pos):List Rec->Prop
 |[]=>True
 |r::R=>oa call bO h0 n0 r R/\Good call bO h0 n0 R
section
variable{call:ah}{bO:Fr}{h0:T AB}{n0:Pos}
theorem Good.tail:∀{A B:List Rec},Good call bO h0 n0 (A++B)->Good call bO h0 n0 B
 |[],_,h=>h
 |_::_,_,h=>Good.tail h.2
theorem Good.at{A B:List Rec}{r:Rec}(h:Good call bO h0 n0 (A++r::B)):oa call bO h0 n0 r B:=(Good.tail h).1
theorem Iu:∀{A B:List Rec},(∀r∈A,r.c.kB=false)->iB h0 (A++B)=iB h0 B
 |[],_,_=>rfl
 |r::A,B,h=>by
  have h1:=h r (Zc4 ..);have ih:=Iu (A:=A) (B:=B) λr hr=>h r (Za4 _ hr)
  simp only[Ze4,iB];split
  .rename_i hc;rw[hc]at h1;cases h1
  .exact ih
theorem OJ{bA:Nat}:∀{A B:List Rec}{h:T AB}{b:Pos}{x:AB},(∀r∈A,r.c.kB=false)->E8 B->(snap bA h (A++B)).get b=some x->
  h.get b=some x\/∃r∈A,r.c= .new b x/\bA.testBit r.idx=true
 |[],B,h,b,x,_,hB,hs=>by
  cases B with
  |nil=>exact .inl hs
  | cons r B=>
    simp only[E8]at hB;simp only[Zg8,snap]at hs;(cases hc:r.c<;>rw[hc]at hB<;>first|(cases hB;done)|skip);rw[hc]at hs;exact .inl hs
 |r ::A   ,B,h,b,x,hA,hB,hs=>by
  have ih:=@OJ bA A B h b x (λr hr=>hA r (Za4 _ hr)) hB;have up:(h.get b=some x\/∃r∈A,r.c= .new b x/\bA.testBit r.idx=true)->h.get b=some x\/∃r'∈r::A,r'.c= .new b x/\bA.testBit r'.idx=true:=λh1=>
    h1.imp id λ⟨r',h2,h3⟩=>⟨r',Za4 _ h2,h3⟩
  simp only[Ze4,snap]at hs;cases hc:r.c with
  |pure=>rw[hc]at hs;exact up (ih hs)
  |aF b1 h1=>have:=hA r (Zc4 ..);rw[hc]at this;cases this
  | new   id ay=>
    rw[hc]at hs;cases ht:bA.testBit r.idx with
    |false=>simp only[ht]at hs;exact up (ih hs)
    |   true=>
        simp only[ht]at hs;by_cases P8:id=b
        .subst P8;rw[T.eo]at hs;simp only[H0]at hs;subst hs;exact .inr ⟨r,Zc4 ..,hc,ht⟩
        .rw[T.bw _ P8]at hs;exact up (ih hs)
theorem SV:∀{up:List (Pos×AB)}{h:T AB}{b:Pos}{x:AB},(vR up h).get b=some x->h.get b=some x\/(b,x)∈up
 |[],_,_,_,h=>.inl h
 |(id,ay)::up,h,b,x,hs=>by
  unfold vR at hs;by_cases P8:id=b
  .subst P8;rw[T.eo]at hs;simp only[H0]at hs;subst hs;exact .inr (Zc4 ..)
  .rw[T.bw _ P8]at hs;exact(SV hs).imp (λh=>h) λh=>Za4 _ h
theorem Iv:∀(A:List Rec),(∀r∈A,r.c.kB=false)\/∃r∈A,r.c.kB=true
 |[]=>.inl λr h=>by cases h
 |r::A=>by
  cases hr:r.c.kB with
  |true=>exact .inr ⟨r,Zc4 ..,hr⟩
  |false=>
   rcases Iv A with h|⟨r',h1,h2⟩
   . exact .inl λr' qx=>by
      rcases Za5.1 qx with rfl|h'
      .exact hr
      .exact h r' h'
   .exact .inr ⟨r',Za4 _ h1,h2⟩
theorem JW{bA:Nat}{k:az}{xs:List AV}{v:AV}:∀(A B:List Rec)(up:List (Pos×AB)),jL bA k xs v up (A++B)=true->Good call bO h0 n0 (A++B)->E8 B->
  (∀r∈A,r.c.kB=true->bA.testBit r.idx=false)->(∃r∈A,r.c.kB=true)->
  ∃h:T AB,(∀b x,h.get b=some x->(iB h0 B).get b=some x\/(∃r∈A,r.c= .new b x/\bA.testBit r.idx=true)\/(b,x)∈up)/\k.run (λb=>h.get b) .h xs=some (.val v)
 |[],B,up,_,_,_,_,he=>by obtain⟨r,hr,_⟩:=he;cases hr
 |r::A    , B,up,E9,hG,hB,hn,he=>by
  have Vr:∀r∈A,r.c.kB=true->bA.testBit r.idx=false:=λr' qx=>hn r' (Za4 _ qx)
  have ih:=λup (h2:jL bA k xs v up (A++B)=true) h3=>JW A B up h2 hG.2 hB Vr h3
  simp only[Ze4,jL]at E9;cases hc:r.c with
  |pure=>
   rw[hc]at E9;have jN:∃r∈A,r.c.kB=true:=by
        obtain⟨r',h1,h2⟩:=he;rcases Za5.1 h1 with rfl|h1
        .rw[hc]at h2;cases h2
        .exact⟨r',h1,h2⟩
   obtain⟨h,h1,h2⟩:=ih up E9 jN;exact⟨h,λb x hb=>(h1 b x hb).imp (λh=>h) (Or.imp (λ⟨r',h3,h4⟩=>⟨r',Za4 _ h3,h4⟩) λh=>h),h2⟩
  |new    id ay=>
   rw[hc]at E9;have jN:∃r∈A,r.c.kB=true:=by
        obtain⟨r',h1,h2⟩:=he;rcases Za5.1 h1 with rfl|h1
        .rw[hc]at h2;cases h2
        .exact⟨r',h1,h2⟩
   cases ht:bA.testBit r.idx with
   |    false=>
        simp only[ht]at E9;obtain⟨h,h1,h2⟩:=ih up E9 jN;exact⟨h,λb x hb=>(h1 b x hb).imp (λh=>h) (Or.imp (λ⟨r',h3,h4⟩=>⟨r',Za4 _ h3,h4⟩) λh=>h),h2⟩
   |    true=>
        simp only[ht]at E9;obtain⟨h,h1,h2⟩:=ih _ E9 jN;refine⟨h,λb x hb=> ?_,h2⟩;rcases h1 b x hb with h3|⟨r',h3,h4⟩|h3
        .exact .inl h3
        .exact .inr (.inl ⟨r',Za4 _ h3,h4⟩)
        . rcases Za5.1 h3 with h3|h3
          .simp only[Za9]at h3;obtain⟨rfl,rfl⟩:=h3;exact .inr (.inl ⟨r,Zc4 ..,hc,ht⟩)
          .exact .inr (.inr h3)
  |aF base h=>
   rw[hc]at E9;have ht:=hn r (Zc4 ..) (by rw[hc];rfl);simp only[ht,Za6]at E9;rcases Iv A with hA|hA
   .    have UA:base=iB h0 B:=(by have hs:=hG.1;(cases hs<;>simp only at hc<;>first|(cases hc;done)|skip);simp only[RC.aF.injEq]at hc;rw[<-hc.1];exact Iu hA);have hra:=E9.1;unfold mE at hra;(split at hra<;>first|(cases hra;done)|skip);rename_i u hu;rw[pL hra]at hu;refine⟨_,λb x hb=> ?_,hu⟩;rcases SV hb with hb|hb
        . rcases OJ hA hB hb with h3|⟨r',h3,h4⟩
          .rw[<-UA];exact .inl h3
          .exact .inr (.inl ⟨r',Za4 _ h3,h4⟩)
        .exact .inr (.inr hb)
   .    obtain⟨h,h1,h2⟩:=ih up E9.2 hA;exact⟨h,λb x hb=>(h1 b x hb).imp (λh=>h) (Or.imp (λ⟨r',h3,h4⟩=>⟨r',Za4 _ h3,h4⟩) λh=>h),h2⟩
theorem P9:∀(L:List (Nat×bg))(R:List Rec)(fr aU:Fr)(st st':St),cH call L R (iB h0 R) fr st=some (aU,st')->Good call bO h0 n0 R->
  fr=lf bO R->st.heap=iC h0 R->st.next=cO n0 R->
  ∃R',Good call bO h0 n0 (R'++R)/\(R'.map λr=>(r.idx,r.o))=L.reverse/\aU=lf bO (R'++R)/\st'.heap=iC h0 (R'++R)/\st'.next=cO n0 (R'++R)
 |[],R,fr,aU,st,st',h,hG,h1,h2,h3=>by
  simp only[cH,H0,Za9]at h;obtain⟨rfl,rfl⟩:=h;exact⟨[],hG,rfl,h1,h2,h3⟩
 |(j,   o)::  L,R,fr,aU,st,st',h,hG,h1,h2,h3=>by
  have fin:∀(r:Rec)(aN:St)(bN:Fr),r.idx=j->r.o=o->oa call bO h0 n0 r R->bN=lf bO (r::R)->aN.heap=iC h0 (r::R)->aN.next=r.nx->
        cH call L (r::R) (iB h0 (r::R)) bN aN=some (aU,st')->
        ∃R',Good call bO h0 n0 (R'++R)/\(R'.map λr=>(r.idx,r.o))=((j,o)::L).reverse/\aU=lf bO (R'++R)/\st'.heap=iC h0 (R'++R)/\st'.next=cO n0 (R'++R):=by
    intro r aN bN hj ho hs k1 k2 k3 hd;obtain⟨R',g1,g2,g3,g4,g5⟩:=P9 L (r::R) bN aU aN st' hd ⟨hs,hG⟩ k1 k2 k3;have e:R'++r::R=(R'++[r])++R:=(by simp);rw[e]at g1 g3 g4 g5;exact⟨R'++[r],g1,by simp[g2,hj,ho],g3,g4,g5⟩
  unfold cH at h;subst h1;split at h
  .rename_i hw;exact fin _ _ _ rfl rfl (h3 ▸oa.skip j o R hw) rfl h2 rfl h
  . rename_i hw;(split at h<;>first|(cases h;done)|skip);rename_i xs hx;split at h
    .   (split at h<;>first|(cases h;done)|skip);rename_i v ay hr;rw[h3]at hr;have hs:=oa.new (call:=call) (bO:=bO) (h0:=h0) (n0:=n0) j o v ay xs R hw hx hr;rw[<-h3]at hs;refine fin _ _ _ rfl rfl hs rfl ?_ rfl h;simp only[iC,h2]
    .   rename_i ab7;(split at h<;>first|(cases h;done)|skip);rename_i v aN hr;have oX:st={ heap:=iC h0 R,next:=cO n0 R }:=(by cases st;simp_all);rw[oX]at hr;exact fin _ aN _ rfl rfl (oa.aF j o v aN xs R ab7 hw hx hr) rfl rfl rfl h
    .   split at h
        . rename_i v hr;have SW:Vq h0 R o xs v:=by
           intro A B _ _ _;refine⟨.e,λb x hb=> ?_,?_⟩
           .  rw[T.dh]at hb;cases hb
           .  have e:(λb=>T.get b (T.e:T AB))=λ_=>none:=(by funext b;exact T.dh b);rw[e];exact hr
          exact fin _ _ _ rfl rfl (h3 ▸oa.pure j o v xs R hw hx SW) rfl h2 rfl h
        . (split at h<;>first|(cases h;done)|skip);rename_i v hr;(split at h<;>first|(cases h;done)|skip);rename_i E9;have SW:Vq h0 R o xs v:=by
           intro A B hAB hB hn;subst hAB;rcases Iv A with hA|hA
           .  refine⟨_,λb x hb=> ?_,hr⟩;have:=OJ hA hB hb;rw[Iu hA]at this;exact this
           .  obtain⟨h,k1,k2⟩:=JW A B [] E9 hG hB hn hA;exact⟨h,λb x hb=>(k1 b x hb).imp id λh=>h.resolve_right (by simp),k2⟩
          exact fin _ _ _ rfl rfl (h3 ▸oa.pure j o v xs R hw hx SW) rfl h2 rfl h
  .cases h
end
end
section
open Go
structure Late(m:Nat)(pre:List Nat)(L:List (Nat×bg)):Prop where
 all:∀i,i<m->i∈pre\/i∈L.map (·.1)
 lt:∀x∈L,x.1<m
 one:∀A i o B,L=A++(i,o)::B->i∉pre/\i∉A.map (·.1)
 bA:∀A i o B,L=A++(i,o)::B->∀b,o.bA.testBit b=true->b∈pre\/b∈A.map (·.1)
 aF:∀A i o B,L=A++(i,o)::B->o.cls= .aF->∀b,(b∈pre\/b∈A.map (·.1))->o.bA.testBit b=true
 apart:∀A i o B,L=A++(i,o)::B->∀x∈B,x.2.bA.testBit i=true\/KJ o x.2=true
theorem NM{m:Nat}:∀(L:List (Nat×bg))(seen:Nat)(pre:List Nat),GO m seen L=true->(∀b,seen.testBit b=true↔b∈pre)->Late m pre L
 |[],seen,pre,h,hs=>by
  simp only[GO]at h;have:=H3 h;refine⟨λi hi=>.inl ((hs i).1 ?_),λx hx=>(by cases hx),λA i o B h=> ?_,λA i o B h=> ?_,λA i o B h=> ?_,λA i o B h=> ?_⟩
  .rw[this,Nat.testBit_two_pow_sub_one];simpa using hi
  all_goals (cases A<;>cases h)
 |(i,   o)::L,seen,pre,h,hs=>by
  simp only[GO,Za6]at h;obtain⟨⟨⟨⟨⟨h1,h2⟩,h3⟩,h4⟩,h5⟩,h6⟩:=h;have h1:i<m:=Za0 h1;have h2:i∉pre:=λhp=>by rw[(hs i).2 hp]at h2;cases h2
  have h3:=H3 h3;have hb:∀b,o.bA.testBit b=true->b∈pre:=λb hb=>by rw[<-h3,Nat.testBit_and,Za6]at hb;exact(hs b).1 hb.2
  have he:o.cls= .aF->∀b,b∈pre->o.bA.testBit b=true:=λhc b hp=>by rw[hc]at h4;rw[H3 h4];exact(hs b).2 hp
  have ih:=NM L (seen ||| 2 ^ i) (pre++[i]) h6 (λb=>by
    rw[Nat.testBit_or,Nat.testBit_two_pow,Zg9,hs b,Zd4];simp[eq_comm])
  rw[Zd6]at h5;have UC:∀{A:List (Nat×bg)}{j:Nat}{p:bg}{B:List (Nat×bg)},(i,o)::L=A++(j,p)::B->(A=[]/\i=j/\o=p/\L=B)\/∃A',A=(i,o)::A'/\L=A'++(j,p)::B:=by
    intro A j p B hA;cases A with
    |nil=>simp at hA;exact .inl ⟨rfl,hA.1.1,hA.1.2,hA.2⟩
    |cons x A=>simp at hA;exact .inr ⟨A,by rw[hA.1],hA.2⟩
  refine⟨λj hj=> ?_,λx hx=> ?_,λA j p B hA=> ?_,λA j p B hA=> ?_,λA j p B hA=> ?_,λA j p B hA=> ?_⟩
  . rcases ih.all j hj with h|h
    .   rcases Zd4.1 h with h|h
        .exact .inl h
        .simp at h;exact .inr (by simp[h])
    .   exact .inr (by simp only[Zb8,Za5];exact .inr h)
  . rcases Za5.1 hx with rfl|hx
    .   exact h1
    .   exact ih.lt x hx
  . rcases UC hA with⟨rfl,rfl,rfl,rfl⟩|⟨A',rfl,JX⟩
    .   exact⟨h2,by simp⟩
    .   obtain⟨k1,k2⟩:=ih.one A' j p B JX;simp only[Zd4,Zc7,not_or]at k1;exact⟨k1.1,by simp only[Zb8,Za5,not_or];exact⟨k1.2,k2⟩⟩
  . rcases UC hA with⟨rfl,rfl,rfl,rfl⟩|⟨A',rfl,JX⟩
    .   exact λb jE=>.inl (hb b jE)
    .   intro b jE;rcases ih.bA A' j p B JX b jE with h|h
        . rcases Zd4.1 h with h|h
          .exact .inl h
          .simp at h;exact .inr (by simp[h])
        .exact .inr (by simp only[Zb8,Za5];exact .inr h)
  . rcases UC hA with⟨rfl,rfl,rfl,rfl⟩|⟨A',rfl,JX⟩
    .   intro hc b jE;rcases jE with h|h
        .exact he hc b h
        .simp at h
    .   intro hc b jE;refine ih.aF A' j p B JX hc b ?_;rcases jE with h|h
        .exact .inl (Zd4.2 (.inl h))
        . simp only[Zb8,Za5]at h;rcases h with rfl|h
          .exact .inl (by simp)
          .exact .inr h
  . rcases UC hA with⟨rfl,rfl,rfl,rfl⟩|⟨A',rfl,JX⟩
    .   intro x hx;have:=h5 x hx
        rwa [Zg9]at this
    .   exact ih.apart A' j p B JX
inductive Reach(ops:Array Oper):Nat->Nat->Prop where
 |edge (i:Nat) (o:Oper) (e:Edge) (ho:ops[i]? =some o) (he:e∈o.after) (hb:Region.binds .any e=true):Reach ops i e.on
 |trans (i:Nat) (o:Oper) (e:Edge) (b:Nat) (ho:ops[i]? =some o) (he:e∈o.after) (hb:Region.binds .any e=true) (h:Reach ops e.on b):Reach ops i b
def Zu(ops:Array Oper)(i m:Nat):Prop:=
 (∀o,ops[i]? =some o->∀e∈o.after,Region.binds .any e=true->m.testBit e.on=true)/\∀b,m.testBit b=true->Reach ops i b
theorem Rv(acc:List Nat):∀(l:List Edge)(s b:Nat),(l.foldl (λs e=>match Region.binds .any e with
   |true=>s ||| 2 ^ e.on ||| (nth acc e.on).getD 0
   |false=>s) s).testBit b=true↔s.testBit b=true\/∃e∈l,Region.binds .any e=true/\(e.on=b\/((nth acc e.on).getD 0).testBit b=true)
 |[],s,b=>by simp
 |e::l,s,b=>by
  rw[Zo7,Rv acc l];cases he:Region.binds .any e with
  |false=>simp[he]
  |true=>
   simp only[Nat.testBit_or,Zg9,Nat.testBit_two_pow,Zc8,Za5,exists_eq_or_imp,he,true_and];constructor
   .    rintro(((h|h)|h)|h)
        .exact .inl h
        .exact .inr (.inl (.inl h))
        .exact .inr (.inl (.inr h))
        .exact .inr (.inr h)
   .    rintro(h|(h|h)|h)
        .exact .inl (.inl (.inl h))
        .exact .inl (.inl (.inr h))
        .exact .inl (.inr h)
        .exact .inr h
theorem Yb {ops:Array Oper}:∀(os:List Oper)(acc:List Nat),os=ops.toList.drop acc.length->acc.length<=ops.size->(∀i,i<acc.length->Zu ops i (acc.getD i 0))->
  ∀i,i<ops.size->Zu ops i ((UX os acc).getD i 0)
 |[],acc,Yc,hl,Zv,i,hi=>by
  have h1:(ops.toList.drop acc.length).length=0:=by rw[<-Yc];rfl
  have:ops.size<=acc.length:=by simp at h1;omega
  exact Zv i (by omega)
 |o ::os,acc,Yc,hl,Zv,i,hi=>by
  simp only[UX];have ho:ops[acc.length]? =some o:=by have:(ops.toList.drop acc.length)[0]? =some o:=(by rw[<-Yc];rfl);simpa using this
  have aK:acc.length<ops.size:=(Zc0.1 ho).1;refine Yb os _ ?_ (by simp;omega) (λj hj=> ?_) i hi
  .rw[Zd1,List.length_singleton, <-Zl8, <-Yc];rfl
  . rcases Zi1 j acc.length with h|h
    .   rw[Zc5,Zc9 h, <-Zc5];exact Zv j h
    .   have BT:j=acc.length:=(by simp at hj;omega);subst BT;rw[Zc5,Zd0 (Za3 _)];simp only[Zn6,Ze8,Zi7];refine⟨λo' E6 e he hb=> ?_,λb hb=> ?_⟩
        .rw[ho]at E6;simp only[H0]at E6;subst E6;exact(Rv acc _ 0 e.on).2 (.inr ⟨e,by simpa using he,hb,.inl rfl⟩)
        . have hb:=(Rv acc _ 0 b).1 hb;rcases hb with hb|⟨e,he,jE,hb⟩
          .simp at hb
          . have jN:e∈o.after:=(by simpa using he);rcases hb with rfl|hb
            .exact .edge _ o e ho jN jE
            . refine .trans _ o e b ho jN jE ?_;rw[kq]at hb;rcases Zi1 e.on acc.length with h|h
              .exact(Zv _ h).2 b (by rw[Zc5];exact hb)
              .rw[Zb3 h]at hb;simp at hb
theorem Yd:∀(l:List bg)(k:Nat)(x:Nat×bg),x∈CU k l->∃i,x.1=k+i/\l[i]? =some x.2
 |[],k,x,h=>by cases h
 |o ::l,k,x,h=>by
  simp only[CU,Za5]at h;rcases h with rfl|h
  .exact⟨0,rfl,rfl⟩
  .obtain⟨i,h1,h2⟩:=Yd l (k+1) x h;exact⟨i+1,by omega,by simpa using h2⟩
theorem KX:∀(l held:List (Nat×bg))(x:Nat×bg),x∈vT l held->x∈l\/x∈held
 |[],held,x,h=>.inr h
 |(i,   o)::l,held,x,h=>by
  unfold vT at h;split at h
  . rcases Zd4.1 h with h|h
    .   exact .inr (Zk9.1 h).1
    .   rcases Za5.1 h with h|h
        .exact .inl (by rw[h];exact Zc4 ..)
        . rcases KX l _ x h with h|h
          .exact .inl (Za4 _ h)
          .exact .inr (Zk9.1 h).1
  . rcases KX l _ x h with h|h
    .   exact .inl (Za4 _ h)
    .   rcases Zd4.1 h with h|h
        .exact .inr h
        .simp at h;exact .inl (by rw[h];exact Zc4 ..)
theorem ad7{l:List bg}{x:Nat×bg}(h:x∈vT (CU 0 l) []):l[x.1]? =some x.2:=by
 rcases KX _ _ _ h with h|h
 .obtain⟨i,h1,h2⟩:=Yd l 0 x h;rw[h1,Zb6];exact h2
 .cases h
theorem Iw{p:Pos}:∀{l:List Pos},GN p l=true↔p∈l
 |[]=>by simp[GN]
 |q::l=>by simp[GN,Iw (l:=l),Pos.beq_eq]
theorem FR{a b:bg}(h:KJ a b=true):
   (∀d,a.dst=some d->d∉b.looks/\b.dst≠some d)/\(∀d,b.dst=some d->d∉a.looks):=by
 unfold KJ at h;rw[Za6]at h;obtain⟨h1,h2⟩:=h;constructor
 . intro d hd;rw[hd]at h1;simp only[Za6,Zh2]at h1;refine⟨λhm=> ?_,λhb=> ?_⟩
   .rw[Iw.2 hm]at h1;exact absurd h1.1 (by simp)
   .rw[hb]at h1;have:Pos.beq d d=true:=Pos.beq_eq.2 rfl;simp[this]at h1
 .intro d hd hm;rw[hd]at h2;simp only[Zh2]at h2;rw[Iw.2 hm]at h2;cases h2
section
variable(P:Program)(tt:TT)(C:Cells)(nt:Nat)(ops:Array Oper)(call:ah)(bO:Fr)(h0:T AB)(n0:Pos)(R:List Rec)
structure yy:Prop where
 OK:Good call bO h0 n0 R
 mono:k9 call
 one:∀A r B,R=A++r::B->∀r'∈B,r'.idx≠r.idx
 bA:∀A r B,R=A++r::B->∀b,r.o.bA.testBit b=true->∃r'∈B,r'.idx=b
 aF:∀A r B,R=A++r::B->r.o.cls= .aF->∀r'∈B,r.o.bA.testBit r'.idx=true
 apart:∀A r B,R=A++r::B->∀r'∈A,r'.o.bA.testBit r.idx=true\/KJ r.o r'.o=true
 rel:∀r∈R,∃o,ops[r.idx]? =some o/\tO tt nt ops o r.o/\Zu ops r.idx r.o.bA
 all:∀i,i<ops.size->∃r∈R,r.idx=i
def Kept(D:Nat->Prop)(b:Pos):Prop:=∀A r B,R=A++r::B->¬D r.idx->b.toNat<(cO n0 B).toNat\/r.nx.toNat<=b.toNat
def T1(D:Nat->Prop)(ρ:Pos->Loc)(tmps:Array Value):Prop:=
 ∀M s T p,R=M++s::T->D s.idx->s.o.dst=some p->(∀s'∈M,D s'.idx->s'.o.dst≠some p)->∃x,tmps[p.toNat - 1]? =some x/\aj ρ s.nx.toNat C s.v x
def T0(D:Nat->Prop)(ρ:Pos->Loc)(tmps:Array Value):Prop:=
 ∀p v,bO.get p=some v->(∀s∈R,D s.idx->s.o.dst≠some p)->∃x,tmps[p.toNat - 1]? =some x/\aj ρ n0.toNat C v x
structure SX(D:Nat->Prop)(A B:List Rec)(a:Act):Prop where
 split:R=A++B
 bound:E8 B
 inB:∀r∈B,D r.idx
 Vt:∀r∈A,D r.idx->r.c.kB=false
 closed:∀i o e,D i->ops[i]? =some o->e∈o.after->Region.binds .any e=true->D e.on
 size:a.tmps.size=nt
 defers:a.defers=[]
structure Inv0(jF:Pos->Loc)(w0:World)(D:Nat->Prop)(A B:List Rec)(ρ:Pos->Loc)(a:Act)(w:World):Prop where
 W:aT ρ C { heap:=iB h0 B,next:=cO n0 B } w
 N:∀r∈A,D r.idx->∀id ay,r.c= .new id ay->kV ρ r.nx.toNat C (ρ id) w ay/\(ρ id).ay<w.heap.size/\w0.heap.size<=(ρ id).ay/\
  (∀b x,(iB h0 B).get b=some x->(ρ b).ay≠(ρ id).ay)/\(∀ad v,C ad=some v->(ρ id).ay≠ad.block)
 N2:∀r∈A,D r.idx->∀id ay,r.c= .new id ay->∀r'∈A,D r'.idx->∀ru By,r'.c= .new ru By->id≠ru->(ρ id).ay≠(ρ ru).ay
 t1:T1 C R D ρ a.tmps
 t0:T0 C bO n0 R D ρ a.tmps
 E:jr jF { heap:=h0,next:=n0 } w0 ρ { heap:=iB h0 B,next:=cO n0 B } w
 Cs:∀b:Pos,b.toNat<n0.toNat->ρ b=jF b
def Inv(jF:Pos->Loc)(w0:World)(D:Nat->Prop)(A B:List Rec)(ρ:Pos->Loc)(a:Act)(w:World):Prop:=
 SX nt ops R D A B a/\∀ρ',(∀b,Kept n0 R D b->ρ' b=ρ b)->Inv0 C bO h0 n0 R jF w0 D A B ρ' a w
end
section
variable{P:Program}{tt:TT}{C:Cells}{nt:Nat}{ops:Array Oper}{call:ah}{bO:Fr}{h0:T AB}{n0:Pos}{R:List Rec}
theorem Dh(h:∀A r B,R=A++r::B->∀r'∈B,r'.idx≠r.idx){X X' Y Y':List Rec}{r r':Rec}(h1:R=X++r::Y)(h2:R=X'++r'::Y')(hi:r.idx=r'.idx):
   X=X'/\r=r'/\Y=Y':=by
 have h3:X++r::Y=X'++r'::Y':=h1.symm.trans h2;rcases List.append_eq_append_iff.1 h3 with⟨Z,hX,hZ⟩|⟨Z,hX,hZ⟩
 . cases Z with
   |nil=>simp at hZ hX;exact⟨hX.symm,hZ.1,hZ.2⟩
   |cons z Z=>
    simp at hZ;exact absurd hi.symm (h X r Y h1 r' (by rw[hZ.2];simp))
 . cases Z with
   |nil=>simp at hZ hX;exact⟨hX,hZ.1.symm,hZ.2.symm⟩
   |cons z Z=>
    simp at hZ;exact absurd hi (h X' r' Y' h2 r (by rw[hZ.2];simp))
theorem j7{r:Rec}(h:r∈R):∃A B,R=A++r::B:=List.append_of_mem h
theorem Ye(hm:k9 call){r:Rec}{B:List Rec}(h:oa call bO h0 n0 r B):(cO n0 B).toNat<=r.nx.toNat:=by
 cases h with
 |skip=>exact Za3 _
 |pure=>exact Za3 _
 |new=>simp only[Pos.aB];omega
 |aF i o v st' xs _ hc hw hx hr=>exact Is hm hr
theorem Rw(hm:k9 call):∀{A B:List Rec},Good call bO h0 n0 (A++B)->(cO n0 B).toNat<=(cO n0 (A++B)).toNat
 |[],_,_=>Za3 _
 |r::A,B,h=>Zc3 (Rw hm (A:=A) h.2) (Ye hm h.1)
namespace yy
variable(G:yy tt nt ops call bO h0 n0 R)
include G
theorem later{X Y:List Rec}{r r':Rec}(h:R=X++r::Y)(hr:r'∈X):r'.idx≠r.idx:=by
 obtain⟨A,B,rfl⟩:=j7 hr;have h':R=A++r'::(B++r::Y):=by rw[h];simp
 exact λe=>G.one _ _ _ h' r (by simp) e.symm
theorem adJ{X Y:List Rec}{r:Rec}(h:R=X++r::Y):(cO n0 Y).toNat<=r.nx.toNat:=Ye G.mono (Good.at (h ▸G.OK))
theorem AU{X Y Z:List Rec}(h:R=X++(Y++Z)):(cO n0 Z).toNat<=(cO n0 (Y++Z)).toNat:=Rw G.mono (Good.tail (h ▸G.OK))
theorem Zw{X Y:List Rec}(h:R=X++Y):n0.toNat<=(cO n0 Y).toNat:=by have:=Rw (n0:=n0) G.mono (A:=Y) (B:=[]) (by rw[Zf4];exact Good.tail (h ▸G.OK));rw[Zf4]at this;exact this
theorem Qa{D:Nat->Prop}(hc:∀i o e,D i->ops[i]? =some o->e∈o.after->Region.binds .any e=true->D e.on){i b:Nat}(h:Reach ops i b)
  (hi:∀o e,ops[i]? =some o->e∈o.after->Region.binds .any e=true->D e.on):D b:=by
 induction h with
 |edge i o e ho he hb=>exact hi o e ho he hb
 |trans i o e b ho he hb _ ih=>exact ih λo' e' E6 jN iz=>hc _ o' e' (hi o e ho he hb) E6 jN iz
theorem adK{D:Nat->Prop}{A B:List Rec}{a:Act}(hp:SX nt ops R D A B a){s:Rec}(hs:s∈R)(hD:D s.idx){b:Nat}(hb:s.o.bA.testBit b=true):D b:=by obtain⟨o,ho,_,hB⟩:=G.rel s hs;exact G.Qa hp.closed (hB.2 b hb) λo' e E6 he jE=>hp.closed _ o' e hD E6 he jE
end yy
theorem KY:∀(Y:List Rec)(p:Pos)(v:AV),(lf bO Y).get p=some v->
  (∃M s T,Y=M++s::T/\s.o.dst=some p/\s.v=v/\∀s'∈M,s'.o.dst≠some p)\/(bO.get p=some v/\∀s∈Y,s.o.dst≠some p)
 |[],p,v,h=>.inr ⟨h,λs hs=>by cases hs⟩
 |r ::Y   ,p,v,h=>by
  simp only[lf]at h;by_cases hr:r.o.dst=some p
  .rw[hr]at h;simp only[cM,T.eo,H0]at h;exact .inl ⟨[],r,Y,rfl,hr,h,λs hs=>by cases hs⟩
  . have h':(lf bO Y).get p=some v:=by
        cases hd:r.o.dst with
        |none=>rw[hd]at h;exact h
        | some d=>
          rw[hd]at h;simp only[cM]at h
          rwa [T.bw _ λe=>hr (by rw[hd,e])]at h
    rcases KY Y p v h' with⟨M,s,T,rfl,h2,h3,h4⟩|⟨h2,h3⟩
    .   refine .inl ⟨r::M,s,T,rfl,h2,h3,λs' kZ=> ?_⟩;rcases Za5.1 kZ with rfl|kZ
        .exact hr
        .exact h4 s' kZ
    .   refine .inr ⟨h2,λs hs=> ?_⟩;rcases Za5.1 hs with rfl|hs
        .exact hr
        .exact h3 s hs
theorem look(G:yy tt nt ops call bO h0 n0 R){D:Nat->Prop}{A B:List Rec}{a:Act}(hp:SX nt ops R D A B a){ρ:Pos->Loc}(h1:T1 C R D ρ a.tmps)(h2:T0 C bO n0 R D ρ a.tmps)
   {X Y:List Rec} {r:Rec} (hR:R=X++r::Y) (hD:¬D r.idx) (Ry:∀b,r.o.bA.testBit b=true->D b) {p:Pos} {v:AV} (hl:p∈r.o.looks) (hv:(lf bO Y).get p=some v):
   ∃x,a.tmps[p.toNat - 1]? =some x/\aj ρ (cO n0 Y).toNat C v x:=by
 have hX:∀s∈X,D s.idx->s.o.dst≠some p:=by
   intro s hs e9 hd;rcases G.apart X r Y hR s hs with h|h
   .exact hD (G.adK hp (by rw[hR];simp[hs]) e9 h)
   .exact(FR h).2 p hd hl
 rcases KY Y p v hv with⟨M,s,T,rfl,h3,rfl,h4⟩|⟨h3,h4⟩
 . have hR':R=(X++r::M)++s::T:=(by rw[hR];simp);have e9:D s.idx:=by
     rcases G.apart _ s T hR' r (by simp)with h|h
     .  exact Ry _ h
     .  exact absurd hl ((FR h).1 p h3).1
   obtain⟨x,hx,KZ⟩:=h1 (X++r::M) s T p hR' e9 h3 (λs' kZ Di=>by
     rcases Zd4.1 kZ with h|h
     .  exact hX s' h Di
     .  rcases Za5.1 h with rfl|h
        .exact absurd Di hD
        .exact h4 s' h)
   refine⟨x,hx,KZ.mono (λ_ _=>rfl) ?_⟩;have:=G.AU (X:=X++[r]) (Y:=M) (Z:=s::T) (by rw[hR];simp);exact this
 . obtain⟨x,hx,KZ⟩:=h2 p v h3 (λs hs e9=>by
     rw[hR]at hs;rcases Zd4.1 hs with h|h
     .  exact hX s h e9
     .  rcases Za5.1 h with rfl|h
        .exact absurd e9 hD
        .exact h4 s h)
   exact⟨x,hx,KZ.mono (λ_ _=>rfl) (G.Zw (X:=X++[r]) (by rw[hR];simp))⟩
theorem Fa{a:Act}{d:Option Tmp}{x:Value}{p:Pos}(h:d.map key≠some p):(a.put d x).tmps[p.toNat - 1]? =a.tmps[p.toNat - 1]? :=by
 cases d with
 |none=>rfl
 |some e=>
  simp only[Act.put];rw[Zd3];intro he;apply h;simp only[Ze0,H0];apply Pos.toNat_inj;rw[ey];have:=p.toNat_pos;omega
theorem ab8{a:Act}{d:Option Tmp}{x:Value}{p:Pos}(h:d.map key=some p)(hs:a.tmps.size=nt)(hd:∀e,d=some e->e<nt):(a.put d x).tmps[p.toNat - 1]? =some x:=by
 cases d with
 |none=>cases h
 |some e=>
  simp only[Ze0,H0]at h;subst h;simp only[Act.put];rw[ey,Ze2,Zk0];simp[hs,hd e rfl]
theorem Zx(G:yy tt nt ops call bO h0 n0 R){D:Nat->Prop}{A B:List Rec}{a:Act}(hp:SX nt ops R D A B a){ρ:Pos->Loc}(h1:T1 C R D ρ a.tmps)(h2:T0 C bO n0 R D ρ a.tmps)
   {X Y:List Rec} {r:Rec} (hR:R=X++r::Y) (hD:¬D r.idx) {o:Oper} (hrel:tO tt nt ops o r.o) {x:Value} (hv:aj ρ r.nx.toNat C r.v x):
   T1 C R (λi=>D i\/i=r.idx) ρ (a.put o.dst x).tmps/\T0 C bO n0 R (λi=>D i\/i=r.idx) ρ (a.put o.dst x).tmps:=by
 constructor
 . intro  M s T p hM e9 hd kM;by_cases hi:s.idx=r.idx
   .obtain⟨_,rfl,_⟩:=Dh G.one hM hR hi;rw[hrel.dst]at hd;exact⟨x,ab8 hd hp.size hrel.lt,hv⟩
   . have e9:=e9.resolve_right hi;by_cases K3:r.o.dst=some p
     .  exfalso;have hs:s∈R:=(by rw[hM];simp);rw[hR]at hs;rcases Zd4.1 hs with h|h
        . rcases G.apart X r Y hR s h with k|k
          .exact hD (G.adK hp (by rw[hR];simp[h]) e9 k)
          .exact((FR k).1 p K3).2 hd
        . rcases Za5.1 h with rfl|h
          .exact hi rfl
          .obtain⟨Y1,Y2,rfl⟩:=j7 h;have hR':R=(X++r::Y1)++s::Y2:=(by rw[hR];simp);obtain⟨hM',_,_⟩:=Dh G.one hM hR' rfl;exact kM r (by rw[hM'];simp) (.inr rfl) K3
     .  (rw[hrel.dst]at K3;obtain⟨y,hy,C6⟩:=h1 M s T p hM e9 hd λs' kZ Di=>kM s' kZ (.inl Di));exact⟨y,by rw[Fa K3];exact hy,C6⟩
 . (intro p v hf kM;have hr:r.o.dst≠some p:=kM r (by rw[hR];simp) (.inr rfl);rw[hrel.dst]at hr;obtain⟨y,hy,C6⟩:=h2 p v hf λs hs e9=>kM s hs (.inl e9));exact⟨y,by rw[Fa hr];exact hy,C6⟩
end
section
variable{P:Program}{tt:TT}{C:Cells}{nt:Nat}{ops:Array Oper}{call:ah}{bO:Fr}{h0:T AB}{n0:Pos}{R:List Rec}
theorem aT.congr{ρ ρ':Pos->Loc}{st:St}{w:World}(h:aT ρ C st w)(aQ:∀b:Pos,b.toNat<st.next.toNat->ρ' b=ρ b):aT ρ' C st w where
 live b x hb:=by
  obtain⟨h1,h2,h3⟩:=h.live b x hb;rw[aQ b h1];exact⟨h1,h2,h3.mono aQ (Za3 _)⟩
 inj b b' x x' hb iz he:=by rw[aQ b (h.live b x hb).1,aQ b' (h.live b' x' iz).1]at he;exact h.inj b b' x x' hb iz he
 cV a v ha:=⟨(h.cV a v ha).1,λb x hb=>by rw[aQ b (h.live b x hb).1];exact(h.cV a v ha).2 b x hb⟩
 whole:=h.whole
theorem jr.congr{ρ dB ρ':Pos->Loc}{st st':St}{w w':World}(h:jr ρ st w dB st' w')(aQ:∀b x,st'.heap.get b=some x->ρ' b=dB b):jr ρ st w ρ' st' w' where
 os:=h.os
 tape:=h.tape
 output:=h.output
 size:=h.size
 block:=h.block
 nc b x hb:=by rw[aQ b x hb];exact h.nc b x hb
namespace yy
variable(G:yy tt nt ops call bO h0 n0 R)
include G
theorem same{r r':Rec}(h:r∈R)(h':r'∈R)(hi:r.idx=r'.idx):r=r':=by obtain⟨A,B,hA⟩:=j7 h;obtain⟨A',B',JX⟩:=j7 h';exact(Dh G.one hA JX hi).2.1
theorem cmp{X Y X' Y':List Rec}{r r':Rec}(h1:R=X++r::Y)(h2:R=X'++r'::Y')(hi:r'.idx≠r.idx):
   (∃Z,Y'=Z++r::Y)\/(∃Z,Y=Z++r'::Y'):=by
 have h3:X++r::Y=X'++r'::Y':=h1.symm.trans h2;rcases List.append_eq_append_iff.1 h3 with⟨Z,hX,hZ⟩|⟨Z,hX,hZ⟩
 . cases Z with
   |nil=>simp at hZ;exact absurd (by rw[hZ.1]) hi
   |cons z Z=>simp at hZ;exact .inr ⟨Z,hZ.2⟩
 . cases Z with
   |nil=>simp at hZ;exact absurd (by rw[hZ.1]) hi
   |cons z Z=>simp at hZ;exact .inl ⟨Z,hZ.2⟩
theorem Ix{X Y X' Z:List Rec}{r r':Rec}(h1:R=X++r::Y)(h2:R=X'++r'::(Z++r::Y)):r.nx.toNat<=(cO n0 (Z++r::Y)).toNat:=by have:=G.AU (X:=X'++[r']) (Y:=Z) (Z:=r::Y) (by rw[h2];simp);exact this
theorem Ct{X Y' Z:List Rec}{r r':Rec}(h1:R=X++r::(Z++r'::Y')):r'.nx.toNat<=(cO n0 (Z++r'::Y')).toNat:=by have:=G.AU (X:=X++[r]) (Y:=Z) (Z:=r'::Y') (by rw[h1];simp);exact this
theorem K4{X Y:List Rec}{r:Rec}(h:R=X++r::Y){id:Pos}{ay:AB}(hc:r.c= .new id ay):id=cO n0 Y/\r.nx=id.succ:=by
 have hs:=Good.at (h ▸G.OK);cases hs<;>simp only at hc<;>first|(cases hc;done)|skip
 simp only[RC.new.injEq]at hc;obtain⟨rfl,_⟩:=hc;exact⟨rfl,rfl⟩
end yy
theorem Kept.up{D D':Nat->Prop}(h:∀i,D i->D' i){b:Pos}(hk:Kept n0 R D b):Kept n0 R D' b:=λA r B hR hD=>hk A r B hR λhd=>hD (h _ hd)
theorem SX.next(G:yy tt nt ops call bO h0 n0 R){D:Nat->Prop}{A B:List Rec}{a:Act}(hp:SX nt ops R D A B a){X Y:List Rec}{r:Rec}(hR:R=X++r::Y)
  (oc:∀o e,ops[r.idx]? =some o->e∈o.after->Region.binds .any e=true->D e.on) (hc:r.c.kB=false) (d:Option Tmp) (x:Value):
  SX nt ops R (λi=>D i\/i=r.idx) A B (a.put d x) where
 split:=hp.split
 bound:=hp.bound
 inB s hs:= .inl (hp.inB s hs)
 Vt s hs hD:=by
  rcases hD with hD|hD
  .exact hp.Vt s hs hD
  .rw[G.same (by rw[hp.split];simp[hs]) (by rw[hR];simp) hD];exact hc
 closed i o e hD ho he hb:=by
  rcases hD with hD|rfl
  .exact .inl (hp.closed i o e hD ho he hb)
  .exact .inl (oc o e ho he hb)
 size:=by rw[Act.gJ];exact hp.size
 defers:=by rw[Act.iP];exact hp.defers
theorem SY(G:yy tt nt ops call bO h0 n0 R){jF:Pos->Loc}{w0:World}{D:Nat->Prop}{A B:List Rec}{ρ:Pos->Loc}{a:Act}{w:World}
  (hI:Inv C nt ops bO h0 n0 R jF w0 D A B ρ a w) {X Y:List Rec} {r:Rec} (hR:R=X++r::Y) (hD:¬D r.idx)
  (oc:∀o e,ops[r.idx]? =some o->e∈o.after->Region.binds .any e=true->D e.on) {o:Oper} (hrel:tO tt nt ops o r.o) (hc:r.c= .pure) {x:Value}
  (hv:∀ρ',(∀b,Kept n0 R D b->ρ' b=ρ b)->aj ρ' r.nx.toNat C r.v x):
  Inv C nt ops bO h0 n0 R jF w0 (λi=>D i\/i=r.idx) A B ρ (a.put o.dst x) w:=by
 obtain⟨hp,hI⟩:=hI;refine⟨hp.next G hR oc (by rw[hc];rfl) _ _,λρ' Ak=> ?_⟩;have hf:∀b,Kept n0 R D b->ρ' b=ρ b:=λb hb=>Ak b (hb.up λ_ h=>.inl h)
 have h:=hI ρ' hf;have hnr:∀s∈A,(D s.idx\/s.idx=r.idx)->∀id ay,s.c= .new id ay->D s.idx:=λs hs e9 id ay eZ=>by
  rcases e9 with e9|e9
  .exact e9
  .rw[G.same (by rw[hp.split];simp[hs]) (by rw[hR];simp) e9,hc]at eZ;cases eZ
 obtain⟨k1,k2⟩:=Zx G hp h.t1 h.t0 hR hD hrel (hv ρ' hf);exact⟨h.W,λs hs e9 id ay eZ=>h.N s hs (hnr s hs e9 id ay eZ) id ay eZ,
  λs hs e9 id ay eZ s' kZ Di ru By pM=>h.N2 s hs (hnr s hs e9 id ay eZ) id ay eZ s' kZ (hnr s' kZ Di ru By pM) ru By pM,k1,k2,h.E,h.Cs⟩
theorem aT.grow{ρ:Pos->Loc}{st:St}{w w':World}(h:aT ρ C st w)(hs:w.heap.size<=w'.heap.size)(hb:∀k,k<w.heap.size->w'.heap[k]? =w.heap[k]?):aT ρ C st w' where
 live b x hx:=let⟨h1,h2,h3⟩:=h.live b x hx;⟨h1,Zb9 h2 hs,h3.of_heap (hb _ h2)⟩
 inj:=h.inj
 cV a v ha:=by
  obtain⟨h1,h2⟩:=h.cV a v ha;exact⟨by rw[World.cell?_of_block (w:=w) (hb _ (World.block_lt_of_cell? _ _ h1))];exact h1,h2⟩
 whole a v ha o ho:=by have jW:a.block<w.heap.size:=World.block_lt_of_cell? _ _ (h.cV a v ha).1;rw[World.cell?_of_block (w:=w) (a:=⟨a.block,o,none⟩) (hb _ jW)];exact h.whole a v ha o ho
theorem ab9(G:yy tt nt ops call bO h0 n0 R){jF:Pos->Loc}{w0:World}{D:Nat->Prop}{A B:List Rec}{ρ:Pos->Loc}{a:Act}{w w':World}
   (hI:Inv C nt ops bO h0 n0 R jF w0 D A B ρ a w) {X Y:List Rec} {r:Rec} (hR:R=X++r::Y) (hD:¬D r.idx)
   (oc:∀o e,ops[r.idx]? =some o->e∈o.after->Region.binds .any e=true->D e.on) {o:Oper} (hrel:tO tt nt ops o r.o) {id:Pos} {ay:AB} (hc:r.c= .new id ay) {x:Value} {L:Loc}
   (hL:w.heap.size<=L.ay) (hL':L.ay<w'.heap.size) (Yc:w'.os=w.os) (afP:w'.tape=w.tape) (Rz:w'.output=w.output) (acd:∀k,k<w.heap.size->w'.heap[k]? =w.heap[k]?)
   (hv:∀ρ',(∀b,Kept n0 R D b->ρ' b=ρ b)->ρ' id=L->aj ρ' r.nx.toNat C r.v x/\kV ρ' r.nx.toNat C L w' ay):
   Inv C nt ops bO h0 n0 R jF w0 (λi=>D i\/i=r.idx) A B (λb=>if b=id then L else ρ b) (a.put o.dst x) w':=by
 obtain⟨hp,hI⟩:=hI;have hrA:r∈A:=by
   have:r∈R:=(by rw[hR];simp);rw[hp.split]at this;exact(Zd4.1 this).resolve_right λh=>hD (hp.inB r h)
 obtain⟨P8,K5⟩:=G.K4 hR hc;have eF:w.heap.size<=w'.heap.size:=by omega
 refine⟨hp.next G hR oc (by rw[hc];rfl) _ _,λρ' Ak=> ?_⟩;have hkid:Kept n0 R (λi=>D i\/i=r.idx) id:=by
   (intro A' r' B' JX hD';have aR:r'.idx≠r.idx:=λe=>hD' (.inr e));rcases G.cmp hR JX aR with⟨Z,rfl⟩|⟨Z,rfl⟩
   .left;have:=G.Ix hR JX;rw[K5,Pos.aB]at this;omega
   .right;have:=G.Ct hR;rw[P8];exact this
 have Zy:ρ' id=L:=by rw[Ak id hkid];simp
 have hf:∀b,Kept n0 R D b->ρ' b=ρ b:=λb hb=>by
   have aR:b≠id:=by
     rintro rfl;rcases hb X r Y hR hD with h|h
     .  rw[P8]at h;omega
     .  rw[K5,Pos.aB]at h;omega
   rw[Ak b (hb.up λ_ h=>.inl h)];exact Za1 aR
 have h:=hI ρ' hf;obtain⟨EW,CY⟩:=hv ρ' hf Zy;obtain⟨k1,k2⟩:=Zx G hp h.t1 h.t0 hR hD hrel EW;have UD:∀s∈A,(D s.idx\/s.idx=r.idx)->D s.idx\/s=r:=λs hs e9=>e9.imp (λh=>h) λe9=>G.same (by rw[hp.split];simp[hs]) (by rw[hR];simp) e9
 refine⟨h.W.grow eF acd,λs hs e9 ru By eZ=> ?_,λs hs e9 ru By eZ s' kZ Di id'' adL pM aR=> ?_,k1,k2,?_,h.Cs⟩
 . rcases UD s hs e9 with e9|rfl
   .obtain⟨g1,g2,g3,g4,g5⟩:=h.N s hs e9 ru By eZ;exact⟨g1.of_heap (acd _ g2),by omega,g3,g4,g5⟩
   . rw[hc]at eZ;simp only[RC.new.injEq]at eZ;obtain⟨rfl,rfl⟩:=eZ;rw[Zy];refine⟨CY,hL',Zc3 h.E.size hL,λb x hb e=> ?_,λad v ha e=> ?_⟩
     .  have:=(h.W.live b x hb).2.1;omega
     .  have:=World.block_lt_of_cell? _ _ (h.W.cV ad v ha).1;omega
 . rcases UD s hs e9 with hDk|rfl
   . rcases UD s' kZ Di with ace|rfl
     .  exact h.N2 s hs hDk ru By eZ s' kZ ace id'' adL pM aR
     .  rw[hc]at pM;simp only[RC.new.injEq]at pM;obtain⟨rfl,rfl⟩:=pM;have:=(h.N s hs hDk ru By eZ).2.1;rw[Zy];omega
   . rw[hc]at eZ;simp only[RC.new.injEq]at eZ;obtain⟨rfl,rfl⟩:=eZ;rcases UD s' kZ Di with ace|rfl
     .  have:=(h.N s' kZ ace id'' adL pM).2.1;rw[Zy];omega
     .  rw[hc]at pM;simp only[RC.new.injEq]at pM;exact absurd pM.1 aR
 .exact⟨Yc.trans h.E.os,afP.trans h.E.tape,Rz.trans h.E.output,Zc3 h.E.size eF,λk hk hn=>by rw[acd k (Zb9 hk h.E.size)];exact h.E.block k hk hn,h.E.nc⟩
theorem Zz(G:yy tt nt ops call bO h0 n0 R){jF:Pos->Loc}{w0:World}{D:Nat->Prop}{A B:List Rec}{ρ:Pos->Loc}{a:Act}{w:World}
  (h:Inv0 C bO h0 n0 R jF w0 D A B ρ a w) (ae4:R=A++B) {hp:T AB} {N:Pos} (hN:(cO n0 B).toNat<=N.toNat)
  (FT:∀b x,hp.get b=some x->(iB h0 B).get b=some x\/∃s∈A,D s.idx/\s.c= .new b x/\s.nx.toNat<=N.toNat):aT ρ C { heap:=hp,next:=N } w where
 live b x hb:=by
  rcases FT b x hb with h1|⟨s,hs,hD,hc,hn⟩
  .  obtain⟨g1,g2,g3⟩:=h.W.live b x h1;exact⟨Zb9 g1 hN,g2,g3.mono (λ_ _=>rfl) hN⟩
  .  obtain⟨g1,g2,_⟩:=h.N s hs hD b x hc;obtain⟨M,T,hM⟩:=j7 (r:=s) (R:=R) (by rw[ae4];simp[hs]);obtain⟨_,e⟩:=G.K4 hM hc;rw[e]at hn;refine⟨?_,g2,g1.mono (λ_ _=>rfl) (by rw[e];exact hn)⟩;rw[Pos.aB]at hn;exact hn
 inj b  b' x x' hb iz he:=by
  rcases FT b x hb with h1|⟨s,hs,hD,hc,hn⟩
  .  rcases FT b' x' iz with X3|⟨s',kZ,hD',uZ,Vr⟩
     .  exact h.W.inj b b' x x' h1 X3 he
     .  exact absurd he ((h.N s' kZ hD' b' x' uZ).2.2.2.1 b x h1)
  .  rcases FT b' x' iz with X3|⟨s',kZ,hD',uZ,Vr⟩
     .  exact absurd he.symm ((h.N s hs hD b x hc).2.2.2.1 b' x' X3)
     .  by_cases e:b=b'
        .exact e
        .exact absurd he (h.N2 s hs hD b x hc s' kZ hD' b' x' uZ e)
 cV ad v ha:=⟨(h.W.cV ad v ha).1,λb x hb=>by
  rcases FT b x hb with h1|⟨s,hs,hD,hc,hn⟩
  .  exact(h.W.cV ad v ha).2 b x h1
  .  exact(h.N s hs hD b x hc).2.2.2.2 ad v ha⟩
 whole:=h.W.whole
theorem yA:∀{Z B:List Rec}{b:Pos}{x:AB},(∀r∈Z,r.c.kB=false)->E8 B->(iC h0 (Z++B)).get b=some x->
  (iB h0 B).get b=some x\/∃s∈Z,s.c= .new b x
 |[],B,b,x,_,hB,h=>by
  cases B with
  |nil=>exact .inl h
  | cons r B=>
    simp only[E8]at hB;(cases hc:r.c<;>rw[hc]at hB<;>first|(cases hB;done)|skip);simp only[Zg8,iC,hc]at h;simp only[iB,hc];exact .inl h
 |r ::Z,B,b,x,hZ,hB,h=>by
  have ih:=@yA Z B b x (λs hs=>hZ s (Za4 _ hs)) hB;have hr:=hZ r (Zc4 ..);simp only[Ze4,iC]at h;cases hc:r.c with
  |pure=>rw[hc]at h;exact(ih h).imp (λh=>h) λ⟨s,h1,h2⟩=>⟨s,Za4 _ h1,h2⟩
  |aF _ _=>rw[hc]at hr;cases hr
  | new id ay=>
    rw[hc]at h;by_cases e:id=b
    .   subst e;rw[T.eo]at h;simp only[H0]at h;subst h;exact .inr ⟨r,Zc4 ..,hc⟩
    .   rw[T.bw _ e]at h;exact(ih h).imp (λh=>h) λ⟨s,h1,h2⟩=>⟨s,Za4 _ h1,h2⟩
end
section
variable{P:Program}{tt:TT}{C:Cells}{nt:Nat}{ops:Array Oper}{call:ah}{bO:Fr}{h0:T AB}{n0:Pos}{R:List Rec}
theorem around(G:yy tt nt ops call bO h0 n0 R){D:Nat->Prop}{A B:List Rec}{a:Act}(hp:SX nt ops R D A B a){X Y:List Rec}{r:Rec}(hR:R=X++r::Y)(hD:¬D r.idx):
  ∃Z,A=X++r::Z/\Y=Z++B:=by
 have hrA:r∈A:=by
  have:r∈R:=by rw[hR];simp
  rw[hp.split]at this;exact(Zd4.1 this).resolve_right λh=>hD (hp.inB r h)
 obtain⟨X',Z,hA⟩:=j7 hrA;have h2:R=X'++r::(Z++B):=by rw[hp.split,hA];simp
 obtain⟨rfl,_,rfl⟩:=Dh G.one hR h2 rfl;exact⟨Z,hA,rfl⟩
theorem acf(G:yy tt nt ops call bO h0 n0 R){jF:Pos->Loc}{w0:World}{D:Nat->Prop}{A B:List Rec}{ρ:Pos->Loc}{a:Act}{w w':World}
   (hI:Inv C nt ops bO h0 n0 R jF w0 D A B ρ a w) {X Y:List Rec} {r:Rec} (hR:R=X++r::Y) (hD:¬D r.idx)
   (oc:∀o e,ops[r.idx]? =some o->e∈o.after->Region.binds .any e=true->D e.on) {o:Oper} (hrel:tO tt nt ops o r.o)
   (hY:∀s∈Y,D s.idx) {st':St} {b0:T AB} (hc:r.c= .aF b0 st'.heap) (K5:r.nx=st'.next) {x:Value}
   (ZA:k8 ρ C { heap:=iC h0 Y,next:=cO n0 Y } w r.v st' x w'):
   ∃kW,Inv C nt ops bO h0 n0 R jF w0 (λi=>D i\/i=r.idx) X (r::Y) kW (a.put o.dst x) w':=by
 obtain⟨hp,hI⟩:=hI;obtain⟨dB,hv,hρ1,hle,Vl,hE1⟩:=ZA;simp only at hρ1 hle;obtain⟨Z,hA,rfl⟩:=around G hp hR hD;have hZ:∀s∈Z,s.c.kB=false:=λs hs=>hp.Vt s (by rw[hA];simp[hs]) (hY s (by simp[hs]))
 have Yf:∀s∈X,s∈A:=λs hs=>by rw[hA];simp[hs]
 have hXD:∀s∈X,(D s.idx\/s.idx=r.idx)->D s.idx:=λs hs h=>h.resolve_right (G.later hR hs)
 have Vu:(cO n0 B).toNat<=(cO n0 (Z++B)).toNat:=G.AU (X:=X++[r]) (by rw[hR];simp)
 let kW:Pos->Loc:=λb=>if(cO n0 (Z++B)).toNat<=b.toNat/\b.toNat<r.nx.toNat then dB b else ρ b
 have Vv:∀b:Pos,b.toNat<(cO n0 (Z++B)).toNat->Kept n0 R D b:=by
   intro b hb M s T hM e9;left;by_cases hi:s.idx=r.idx
   .obtain⟨_,_,rfl⟩:=Dh G.one hM hR hi;exact hb
   . rcases G.cmp hR hM hi with⟨W,rfl⟩|⟨W,hW⟩
     .  have:=G.Ix hR hM;have:=G.adJ hR;omega
     .  exact absurd (hY s (by rw[hW];simp)) e9
 refine⟨kW,⟨by rw[hR],by simp[E8,hc,RC.kB],?_,?_,?_,by rw[Act.gJ];exact hp.size,by rw[Act.iP];exact hp.defers⟩,λρ' Ak=> ?_⟩
 . intro s hs;rcases Za5.1 hs with rfl|hs
   .exact .inr rfl
   .exact .inl (hY s hs)
 .intro s hs e9;exact hp.Vt s (Yf s hs) (hXD s hs e9)
 . intro i o' e hDi ho he hb;rcases hDi with hDi|rfl
   .exact .inl (hp.closed i o' e hDi ho he hb)
   .exact .inl (oc o' e ho he hb)
 have afQ:∀b:Pos,b.toNat<r.nx.toNat->Kept n0 R (λi=>D i\/i=r.idx) b:=by
   (intro b hb M s T hM e9;left;have hi:s.idx≠r.idx:=λe=>e9 (.inr e));rcases G.cmp hR hM hi with⟨W,rfl⟩|⟨W,hW⟩
   .exact Zb9 hb (G.Ix hR hM)
   .exact absurd (.inl (hY s (by rw[hW];simp))) e9
 have hf:∀b,Kept n0 R D b->ρ' b=ρ b:=λb hb=>by rw[Ak b (hb.up λ_ h=>.inl h)];refine Za1 ?_;rintro⟨g1,g2⟩;rcases hb X r _ hR hD with h|h<;>omega
 have h:=hI ρ' hf;have SZ:∀b:Pos,b.toNat<r.nx.toNat->ρ' b=dB b:=by
   intro b hb;rcases Zi1 b.toNat (cO n0 (Z++B)).toNat with g|g
   .rw[hf b (Vv b g),hρ1 b g]
   .rw[Ak b (afQ b hb)];exact Za2 ⟨g,hb⟩
 have zQ:aj ρ' r.nx.toNat C r.v x:=by
   rw[K5]at SZ ⊢;exact hv.mono SZ (Za3 _)
 have ei:aT ρ' C { heap:=st'.heap,next:=r.nx } w':=by rw[K5]at SZ ⊢;exact Vl.congr SZ
 have hold:∀s∈X,D s.idx->∀id ay,s.c= .new id ay->∀b y,(iC h0 (Z++B)).get b=some y->(ρ b).ay≠(ρ' id).ay:=by
   intro s hs e9 id ay eZ b y hb;obtain⟨g1,g2,g3,g4,g5⟩:=h.N s (Yf s hs) e9 id ay eZ;obtain⟨M,T,hM⟩:=j7 (r:=s) (R:=R) (by rw[hR];simp[hs]);rcases yA hZ hp.bound hb with hb|⟨s',kZ,pM⟩
   .rw[<-hf b (Vv b (Zb9 (h.W.live b y hb).1 Vu))];exact g4 b y hb
   . obtain⟨Z1,Z2,rfl⟩:=j7 kZ;have hM':R=(X++r::Z1)++s'::(Z2++B):=(by rw[hR];simp);obtain⟨e1,e2⟩:=G.K4 hM' pM;obtain⟨e3,e4⟩:=G.K4 hM eZ;have hbn:b.toNat<(cO n0 ((Z1++s'::Z2)++B)).toNat:=(by have:=G.Ct (X:=X) (r:=r) (Z:=Z1) (r':=s') (Y':=Z2++B) (by rw[hR];simp);rw[e2,Pos.aB]at this;simp only[Zi4,Ze4];omega);have hsr:s.idx≠r.idx:=G.later hR hs;have P8:r.nx.toNat<=id.toNat:=by
        rcases G.cmp hR hM hsr with⟨W,rfl⟩|⟨W,hW⟩
        .rw[e3];exact G.Ix hR hM
        .obtain⟨A1,A2,hX⟩:=j7 hs;have hM2:R=A1++s::(A2++r::((Z1++s'::Z2)++B)):=(by rw[hR,hX];simp);have rA:s∈(Z1++s'::Z2)++B:=(by rw[hW];simp);exact absurd rfl (G.one A1 s _ hM2 s (Zd4.2 (.inr (Za4 _ rA))))
     have aR:b≠id:=(by rintro rfl;have:=G.adJ hR;omega);rw[<-hf b (Vv b hbn)];exact h.N2 s' (by rw[hA];simp) (hY s' (by simp)) b y pM s (Yf s hs) e9 id ay eZ aR
 have hEa:jr jF { heap:=h0,next:=n0 } w0 ρ { heap:=iC h0 (Z++B),next:=cO n0 (Z++B) } w:=by
   refine⟨h.E.os,h.E.tape,h.E.output,h.E.size,h.E.block,λb y hb=> ?_⟩;rcases yA hZ hp.bound hb with hb|⟨s',kZ,pM⟩
   .rw[<-hf b (Vv b (Zb9 (h.W.live b y hb).1 Vu))];exact h.E.nc b y hb
   .obtain⟨Z1,Z2,rfl⟩:=j7 kZ;have hM':R=(X++r::Z1)++s'::(Z2++B):=(by rw[hR];simp);obtain⟨e1,e2⟩:=G.K4 hM' pM;have hbn:b.toNat<(cO n0 ((Z1++s'::Z2)++B)).toNat:=(by have:=G.Ct (X:=X) (r:=r) (Z:=Z1) (r':=s') (Y':=Z2++B) (by rw[hR];simp);rw[e2,Pos.aB]at this;simp only[Zi4,Ze4];omega);rw[<-hf b (Vv b hbn)];exact .inr (h.N s' (by rw[hA];simp) (hY s' (by simp)) b y pM).2.2.1
 obtain⟨k1,k2⟩:=Zx G hp h.t1 h.t0 hR hD hrel zQ;refine⟨?_,λs hs e9 id ay eZ=> ?_,λs hs e9 id ay eZ s' kZ Di ru By pM aR=> ?_,k1,k2,?_,h.Cs⟩
 .simp only[iB,hc,cO];exact ei
 . have e9:=hXD s hs e9;obtain⟨g1,g2,g3,g4,g5⟩:=h.N s (Yf s hs) e9 id ay eZ;refine⟨g1.of_heap (hE1.block _ g2 (hold s hs e9 id ay eZ)),Zb9 g2 hE1.size,g3,λb y hb=> ?_,g5⟩;simp only[iB,hc]at hb;rw[SZ b (by rw[K5];exact(Vl.live b y hb).1)];rcases hE1.nc b y hb with⟨b',y',iz,e⟩|e
   .rw[<-e];exact hold s hs e9 id ay eZ b' y' iz
   .omega
 .exact h.N2 s (Yf s hs) (hXD s hs e9) id ay eZ s' (Yf s' kZ) (hXD s' kZ Di) ru By pM aR
 . have:=(hEa.trans hE1).congr (ρ':=ρ') λb y hb=>SZ b (by rw[K5];exact(Vl.live b y hb).1)
   simp only[iB,hc,cO];exact⟨this.os,this.tape,this.output,this.size,this.block,this.nc⟩
end
section
variable{P:Program}{tt:TT}{C:Cells}{nt:Nat}{ops:Array Oper}{call:ah}{bO:Fr}{h0:T AB}{n0:Pos}{R:List Rec}
theorem AW{ρ:Pos->Loc}{n:Pos}{w:World}(hC:∀ad v,C ad=some v->w.cell? ad=some v)(hC2:∀a v,C a=some v->∀o,C ⟨a.block,o,none⟩=none->w.cell? ⟨a.block,o,none⟩=none):aT ρ C { heap:= .e,next:=n } w where
 live b x hb:=by rw[T.dh]at hb;cases hb
 inj b b' x x' hb:=by rw[T.dh]at hb;cases hb
 cV a v ha:=⟨hC a v ha,λb x hb=>by rw[T.dh]at hb;cases hb⟩
 whole:=hC2
theorem Yields.eq{N:Next}{x y:Value}(h:Yields N x)(k:Yields N y):x=y:=by
 rcases h with rfl|⟨rfl,rfl⟩<;>rcases k with k|⟨k,rfl⟩
 .simp only[Next.value.injEq]at k;exact k
 .cases k
 .cases k
 .rfl
theorem kV.acg{ρ ρ':Pos->Loc}{n n':Nat}{L:Loc}{w:World}{s:List Nat}{p:Nat}(h:kV ρ n C L w (.iR s p)):kV ρ' n' C L w (.iR s p):=h
theorem aaK(hT:bM P tt){o:Oper}{k:az}{xs:List dM}{cls:X1}(hc:fo tt o.op=some (k,xs,cls)){n:Pos}{vs:List AV}{v:AV}{ay:AB}
  (hr:k.run (λ_=>none) n vs=some (.aF v none none (some ay))) {fr:Fr} (hx:dN fr xs=some vs) {a:Act} {w:World} {Yg:(Pos->Loc)->Prop} {ρ:Pos->Loc} (aQ:Yg ρ)
  (hF:∀ρ',Yg ρ'->eO ρ' n.toNat C fr a.tmps) (hC:∀ad v,C ad=some v->w.cell? ad=some v) (hC2:∀a v,C a=some v->∀o,C ⟨a.block,o,none⟩=none->w.cell? ⟨a.block,o,none⟩=none):
  ∃ N x w' L,(execOp a.eval o).run P w= .ok N w'/\Yields N x/\w.heap.size<=L.ay/\L.ay<w'.heap.size/\w'.os=w.os/\w'.tape=w.tape/\w'.output=w.output/\
    (∀k,k<w.heap.size->w'.heap[k]? =w.heap[k]?)/\∀ρ',Yg ρ'->ρ' n=L->aj ρ' n.succ.toNat C v x/\kV ρ' n.succ.toNat C L w' ay:=by
 have bU:k.run (λb=>T.get b (T.e:T AB)) n vs=some (.aF v none none (some ay)):=by
  have e:(λb=>T.get b (T.e:T AB))=λ_=>none:=by funext b;exact T.dh b
  rw[e];exact hr
 have H:=λρ' (hf:Yg ρ')=>MY hT o.op ρ' C { heap:= .e,next:=n } w k xs cls fr a o vs _ rfl hc (AW hC hC2) (hF ρ' hf) hx bU
 have key:∀ρ',Yg ρ'->∃N x w' dB,(execOp a.eval o).run P w= .ok N w'/\Yields N x/\(∀b:Pos,b.toNat<n.toNat->dB b=ρ' b)/\aj dB n.succ.toNat C v x/\
    kV dB n.succ.toNat C (dB n) w' ay/\w.heap.size<=(dB n).ay/\(dB n).ay<w'.heap.size/\w'.os=w.os/\w'.tape=w.tape/\w'.output=w.output/\
    (∀k,k<w.heap.size->w'.heap[k]? =w.heap[k]?):=by
  intro ρ' hf;obtain⟨N,x,w',dB,he,hy,h1,h2,h3,h4⟩:=H ρ' hf;have hg:(St.aF { heap:= .e,next:=n } none none (some ay)).heap.get n=some ay:=T.eo _ _ _;obtain⟨g1,g2,g3⟩:=h2.live n ay hg;refine⟨N,x,w',dB,he,hy,h1,h3,g3,?_,g2,h4.os,h4.tape,h4.output,λk hk=>h4.block k hk λb x hb=> ?_⟩
  . rcases h4.nc n ay hg with⟨b',x',iz,_⟩|h
    .   rw[T.dh]at iz;cases iz
    .   exact h
  .rw[T.dh]at hb;cases hb
 obtain⟨N,x,w',dB,he,hy,h1,h2,h3,h4,h5,h6,h7,h8,h9⟩:=key ρ aQ;refine⟨N,x,w',dB n,he,hy,h4,h5,h6,h7,h8,h9,λρ' hf hL=> ?_⟩;obtain⟨N',x',w'',kW,jN,S0,k1,k2,k3,_⟩:=key ρ' hf;rw[he]at jN;simp only[Result.ok.injEq]at jN;obtain⟨rfl,rfl⟩:=jN;have Vw:=hy.eq S0;subst Vw;have ZB:n.toNat<n.succ.toNat:=by rw[Pos.aB];omega
 have Cs:(kW n).ay=(dB n).ay->(kW n).base=(dB n).base->((∃cs fz,ay= .cells cs fz)\/∃t cs,ay= .typed t cs)->aj ρ' n.succ.toNat C v x/\kV ρ' n.succ.toNat C (dB n) w' ay:=by
  intro e1 e2 uG;have e3:(kW n).size=(dB n).size:=by
    rcases uG with⟨cs,fz,rfl⟩|⟨t,cs,rfl⟩
    .   obtain⟨c,e,fr,g1,g2,_⟩:=h3;obtain⟨c',e',aU,Dj,g2',_⟩:=k3;rw[e1,g1]at Dj;simp only[H0,Obj.cells.injEq]at Dj;rw[<-g2, <-g2',Dj.1]
    .   obtain⟨c,fr,g1,g2,_⟩:=h3;obtain⟨c',aU,Dj,g2',_⟩:=k3;rw[e1,g1]at Dj;simp only[H0,Obj.cells.injEq]at Dj;rw[<-g2, <-g2',Dj.1]
  have e4:kW n=dB n:=by
    cases hh:kW n;cases hh':dB n;rw[hh,hh']at e1 e2 e3;simp only at e1 e2 e3;rw[e1,e2,e3]
  have bW:∀b:Pos,b.toNat<n.succ.toNat->ρ' b=kW b:=by
    intro b hb;rcases Zi1 b.toNat n.toNat with g|g
    .   exact(k1 b g).symm
    .   have:b=n:=Pos.toNat_inj (by rw[Pos.aB]at hb;omega);subst this;rw[hL,e4]
  refine⟨k2.mono bW (Za3 _),?_⟩;rw[<-e4];exact k3.mono bW (Za3 _)
 cases ad6 hr with
 |ptr cs=>
  obtain⟨_,g1⟩:=h2.eu;obtain⟨_,g2⟩:=k2.eu;rw[g1]at g2;simp only[Value.pointer.injEq,H0,Addr.mk.injEq,Zh8,Zn2]at g2;exact Cs g2.1.symm g2.2.symm (.inl ⟨cs,0,rfl⟩)
 |ptrT t cs=>
  obtain⟨_,g1⟩:=h2.eu;obtain⟨_,g2⟩:=k2.eu;rw[g1]at g2;simp only[Value.pointer.injEq,H0,Addr.mk.injEq,Zh8,Zn2]at g2;exact Cs g2.1.symm g2.2.symm (.inr ⟨t,cs,rfl⟩)
 |aaJ len t cs hl=>
  obtain⟨ad,aI,g1,g2,g3,g4⟩:=h2.cQ;obtain⟨ad',ZC,Dj,g2',g3',g4'⟩:=k2.cQ;rw[g1]at Dj;simp only[Value.slice.injEq,H0,true_and]at Dj;obtain⟨rfl,rfl⟩:=Dj;obtain⟨_,a1,_⟩:=g4 (by omega);obtain⟨_,a2,_⟩:=g4' (by omega);rw[a1]at a2;simp only[Addr.mk.injEq,Zh8,Zn2]at a2;exact Cs a2.1.symm a2.2.symm (.inr ⟨t,cs,rfl⟩)
 |iR s=>
  obtain⟨_,g1⟩:=h2.eu;refine⟨?_,h3.acg⟩;rw[g1, <-hL];exact .ptr n 0 ZB
 |slice len es cap cs eZ=>
  obtain⟨ad,aI,g1,g2,g3,g4⟩:=h2.cQ;obtain⟨ad',ZC,Dj,g2',g3',g4'⟩:=k2.cQ;rw[g1]at Dj;simp only[Value.slice.injEq,H0,true_and]at Dj;obtain⟨rfl,rfl⟩:=Dj;by_cases h0:aI=0
  . subst h0;have hl0:len=0:=(by omega);have hcs0:cs=[]:=eZ hl0 (by
        cases cap with
        |none=>exact .inl rfl
        |some c=>exact .inr (by rw[g3 c rfl]))
    subst hcs0;refine⟨?_,?_⟩
    .   rw[g1];exact .slice n 0 len cap es 0 ad g2 g3 (λh=>absurd rfl h) (λ_=>ZB)
    .   obtain⟨c,e,fr,q1,q2,q3,q4,q5⟩:=h3;exact⟨c,e,fr,q1,q2,q3,av.nil,q5⟩
  .obtain⟨_,a1,_⟩:=g4 h0;obtain⟨_,a2,_⟩:=g4' h0;rw[a1]at a2;simp only[Addr.mk.injEq,Zh8,Zn2]at a2;exact Cs a2.1.symm a2.2.symm (.inl ⟨cs,0,rfl⟩)
 |map=>
  obtain⟨_,g1⟩:=h2.wS;refine⟨?_,?_⟩
  .rw[g1, <-hL];exact .map n ZB
  .obtain⟨es',q1,q2,q3⟩:=h3;exact⟨es',q1,q2,λi e e' he=>by simp at he⟩
end
section
variable{P:Program}{tt:TT}{C:Cells}{nt:Nat}{ops:Array Oper}{call:ah}{bO:Fr}{h0:T AB}{n0:Pos}{R:List Rec}
def u7(fr:Fr):List Pos->Fr
 |[]=>.e
 |p::l=>(u7 fr l).put (fr.get p) p
theorem S6{fr:Fr}{p:Pos}:∀{l:List Pos},p∈l->(u7 fr l).get p=fr.get p
 |[],h=>by cases h
 |q ::l,h=>by
  simp only[u7];by_cases e:q=p
  .subst e;exact T.eo _ _ _
  .rw[T.bw _ e];exact S6 ((Za5.1 h).resolve_left λh=>e h.symm)
theorem NN{fr:Fr}{p:Pos}{v:AV}:∀{l:List Pos},(u7 fr l).get p=some v->p∈l/\fr.get p=some v
 |[],h=>by simp only[u7]at h;rw[T.dh]at h;cases h
 |q ::l,h=>by
  simp only[u7]at h;by_cases e:q=p
  .subst e;rw[T.eo]at h;exact⟨by simp,h⟩
  .rw[T.bw _ e]at h;obtain⟨h1,h2⟩:=NN h;exact⟨by simp[h1],h2⟩
theorem S7{fr:Fr}{l:List Pos}:∀{xs:List dM},(∀p,dM.t p∈xs->p∈l)->dN (u7 fr l) xs=dN fr xs
 |[],_=>rfl
 |x::xs,h=>by
  have h1:AQ (u7 fr l) x=AQ fr x:=by
   cases x with
   |t p=>exact S6 (h p (by simp))
   |c v=>rfl
  simp only[dN,h1,S7 λp hp=>h p (Za4 _ hp)]
theorem aaL{o:bg}{p:Pos}(h:dM.t p∈o.xs):p∈o.looks:=by
 unfold bg.looks;exact Zi0 _ (Zl2.2 ⟨_,h,rfl⟩)
theorem Xy{o:bg}{p:Pos}{q:Bool}(h:o.guard=some (p,q)):p∈o.looks:=by unfold bg.looks;rw[h];simp
theorem Yields.upon{K:Value->World->Prop}{N:Next}{x:Value}{w:World}(h:Yields N x)(hk:K x w):Reaches P K (.ok N w):=by rcases h with rfl|⟨rfl,rfl⟩<;>exact hk
theorem ach(hT:bM P tt)(bH:eE P C call)(G:yy tt nt ops call bO h0 n0 R){jF:Pos->Loc}{w0:World}{D:Nat->Prop}{A B:List Rec}{ρ:Pos->Loc}{a:Act}{w:World}
  (hI:Inv C nt ops bO h0 n0 R jF w0 D A B ρ a w) {i:Nat} (hi:i<ops.size) (hD:¬D i)
  (oc:∀o e,ops[i]? =some o->e∈o.after->Region.binds .any e=true->D e.on):
  Da P ops i (λa' w'=>∃A' B' ρ',Inv C nt ops bO h0 n0 R jF w0 (λj=>D j\/j=i) A' B' ρ' a' w') a w:=by
 obtain⟨r,hr,rfl⟩:=G.all i hi;obtain⟨X,Y,hR⟩:=j7 hr;obtain⟨o,ho,hrel,hB⟩:=G.rel r hr;have hp:=hI.1;have Ry:∀b,r.o.bA.testBit b=true->D b:=λb hb=>G.Qa hp.closed (hB.2 b hb) oc
 obtain⟨Z,hA,S8⟩:=around G hp hR hD;have Iy:∀ρ',(∀b,Kept n0 R D b->ρ' b=ρ b)->∀p v,p∈r.o.looks->(lf bO Y).get p=some v->∃x,a.tmps[p.toNat - 1]? =some x/\aj ρ' (cO n0 Y).toNat C v x:=
  λρ' hf p v hl hv=>look G hp (hI.2 ρ' hf).t1 (hI.2 ρ' hf).t0 hR hD Ry hl hv
 have hFR:∀ρ',(∀b,Kept n0 R D b->ρ' b=ρ b)->eO ρ' (cO n0 Y).toNat C (u7 (lf bO Y) r.o.looks) a.tmps:=λρ' hf p v hv=>
  let⟨h1,h2⟩:=NN hv;Iy ρ' hf p v h1 h2
 have Iz:∀b,Kept n0 R D b->ρ b=ρ b:=λ_ _=>rfl
 have hw:∀b,bI (lf bO Y) r.o.guard=some b->Region.wanted o (yielded ops a.tmps)=b:=λb hb=>
  Dc hrel.guard (λp v hv ⟨q,hq⟩=>Iy ρ Iz p v (Xy hq) hv) hb
 have hnZ:∀s∈Z,s.nx.toNat<=(cO n0 Y).toNat:=λs hs=>by obtain⟨Z1,Z2,rfl⟩:=j7 hs;have:=G.Ct (X:=X) (r:=r) (Z:=Z1) (r':=s) (Y':=Z2++B) (by rw[hR,S8];simp);rw[S8];simp only[Zi4,Ze4];exact this
 have Vu:(cO n0 B).toNat<=(cO n0 Y).toNat:=by rw[S8];exact G.AU (X:=X++[r]) (by rw[hR,S8];simp)
 have hs:=Good.at (hR ▸G.OK);have hex:∀xs,dN (lf bO Y) r.o.xs=some xs->dN (u7 (lf bO Y) r.o.looks) r.o.xs=some xs:=λxs hx=>by rw[S7 λp hp=>aaL hp];exact hx
 unfold Da;simp only[ho];generalize hrr:r=r0 at*
 cases hs with
 |skip i' o' _ hw'=>
  rw[Za1 (by rw[hw _ hw'];simp)];exact⟨A,B,ρ,SY G hI hR hD oc hrel rfl λρ' _=> .SR⟩
 |pure i' o' v xs _ hw' hx SW=>
  rw[Za2 (hw _ hw')];rw[S8]at SW;obtain⟨h,FT,bU⟩:=SW Z B rfl hp.bound λs hs he=>by
    cases hb:o'.bA.testBit s.idx with
    |false=>rfl
    |   true=>
        have h1:=hp.Vt s (by rw[hA];simp[hs]) (Ry _ hb);rw[h1]at he;cases he
  rcases hrel.op with hc|⟨hk,_⟩
  . have H:∀ρ',(∀b,Kept n0 R D b->ρ' b=ρ b)->∃N x,(execOp a.eval o).run P w= .ok N w/\Yields N x/\aj ρ' (cO n0 Y).toNat C v x:=by
        intro ρ' hf;have hW:=Zz G (hI.2 ρ' hf) hp.split (hp:=h) Vu λb y hb=>(FT b y hb).imp (λh=>h) λ⟨s,h1,h2,h3⟩=>
          ⟨s,by rw[hA];simp[h1],Ry _ h3,h2,hnZ s h1⟩
        exact MY hT o.op ρ' C _ w _ _ _ _ a o _ _ rfl hc hW (hFR ρ' hf) (hex xs hx) (ab6 bU λ_ _ h=>h)
    obtain⟨N,x,he,hy,hv⟩:=H ρ Iz;unfold Rt;rw[he];refine hy.upon ⟨A,B,ρ,SY G hI hR hD oc hrel rfl λρ' hf=> ?_⟩;obtain⟨N',x',jN,S0,zQ⟩:=H ρ' hf;rw[he]at jN;simp only[Result.ok.injEq,Zn2]at jN;subst jN;rw[hy.eq S0];exact zQ
  .rw[hk]at bU;cases bU
 |new   i' o' v ay xs _ hw' hx bU=>
  rw[Za2 (hw _ hw')];rcases hrel.op with hc|⟨hk,_⟩
  . obtain⟨N,x,w',L,he,hy,h1,h2,h3,h4,h5,h6,h7⟩:=aaK hT hc bU (hex xs hx) (Yg:=λρ'=>∀b,Kept n0 R D b->ρ' b=ρ b) Iz hFR
        (λad v ha=>((hI.2 ρ Iz).W.cV ad v ha).1) (hI.2 ρ Iz).W.whole
    unfold Rt;rw[he];exact hy.upon ⟨A,B,_,ab9 G hI hR hD oc hrel rfl h1 h2 h3 h4 h5 h6 h7⟩
  .rw[hk]at bU;cases bU
 |aF i' o' v st' xs _ ab7 hw' hx oX=>
  rw[Za2 (hw _ hw')];rcases hrel.op with hc|⟨hk,_⟩
  . have hY:∀s∈Y,D s.idx:=λs hs=>Ry _ (G.aF X _ Y hR ab7 s hs)
    have hZ:∀s∈Z,s.c.kB=false:=λs hs=>hp.Vt s (by rw[hA];simp[hs]) (hY s (by rw[S8];simp[hs]))
    have hW:aT ρ C { heap:=iC h0 Y,next:=cO n0 Y } w:=Zz G (hI.2 ρ Iz) hp.split Vu λb y hb=>by
        rw[S8]at hb;rcases yA hZ hp.bound hb with hb|⟨s,h1,h2⟩
        .exact .inl hb
        .exact .inr ⟨s,by rw[hA];simp[h1],hY s (by rw[S8];simp[h1]),h2,hnZ s h1⟩
    have hre:=NK hT bH hc hW (hFR ρ Iz) (hex xs hx) oX;(refine hre.mono λx w' ZA=> ?_);obtain⟨kW,h⟩:=acf G hI hR hD oc hrel hY rfl rfl ZA;exact⟨_,_,kW,h⟩
  .exact(Reaches.bad hk oX).elim
end
section
variable{P:Program}{tt:TT}{C:Cells}{nt:Nat}{ops:Array Oper}{call:ah}{bO:Fr}{h0:T AB}{n0:Pos}{R:List Rec}
theorem S9(G:yy tt nt ops call bO h0 n0 R){jF:Pos->Loc}{w0:World}{D:Nat->Prop}{A B:List Rec}{ρ:Pos->Loc}{a:Act}{w:World}
   (hI:Inv C nt ops bO h0 n0 R jF w0 D A B ρ a w) (bW:∀r∈R,D r.idx):eW nt jF C { heap:=h0,next:=n0 } w0 (lf bO R) { heap:=iC h0 R,next:=cO n0 R } a w:=by
 obtain⟨hp,hI⟩:=hI;have h:=hI ρ λ_ _=>rfl
 have hZ:∀s∈A,s.c.kB=false:=λs hs=>hp.Vt s hs (bW s (by rw[hp.split];simp[hs]))
 have hnA:∀s∈A,s.nx.toNat<=(cO n0 R).toNat:=λs hs=>by obtain⟨Z1,Z2,hA⟩:=j7 hs;have:=G.AU (X:=[]) (Y:=Z1) (Z:=s::(Z2++B)) (by rw[hp.split,hA];simp);have e:R=Z1++s::(Z2++B):=(by rw[hp.split,hA];simp);rw[<-e]at this;exact this
 have Vu:(cO n0 B).toNat<=(cO n0 R).toNat:=by
   have:=G.AU (X:=[]) (Y:=A) (Z:=B) (by rw[hp.split];simp)
   rwa [<-hp.split]at this
 have NJ:n0.toNat<=(cO n0 R).toNat:=G.Zw (X:=[]) rfl;have FT:∀b x,(iC h0 R).get b=some x->(iB h0 B).get b=some x\/∃s∈A,D s.idx/\s.c= .new b x/\s.nx.toNat<=(cO n0 R).toNat:=λb x hb=>by
   rw[hp.split]at hb;rcases yA hZ hp.bound hb with hb|⟨s,h1,h2⟩
   .exact .inl hb
   .exact .inr ⟨s,h1,bW s (by rw[hp.split];simp[h1]),h2,hnA s h1⟩
 refine⟨ρ,⟨Zz G h hp.split Vu FT,?_,hp.size,hp.defers⟩,h.Cs,NJ,?_⟩
 . intro p v hv;rcases KY R p v hv with⟨M,s,T,hM,h2,rfl,h3⟩|⟨h1,h2⟩
   . obtain⟨x,hx,KZ⟩:=h.t1 M s T p hM (bW s (by rw[hM];simp)) h2 λs' kZ _=>h3 s' kZ
     refine⟨x,hx,KZ.mono (λ_ _=>rfl) ?_⟩;have:=G.AU (X:=[]) (Y:=M) (Z:=s::T) (by rw[hM];simp);rw[<-hM]at this;exact this
   . obtain⟨x,hx,KZ⟩:=h.t0 p v h1 λs hs _=>h2 s hs
     exact⟨x,hx,KZ.mono (λ_ _=>rfl) NJ⟩
 . refine⟨h.E.os,h.E.tape,h.E.output,h.E.size,h.E.block,λb x hb=> ?_⟩;rcases FT b x hb with hb|⟨s,h1,h2,h3,_⟩
   .exact h.E.nc b x hb
   .exact .inr (h.N s h1 h2 b x h3).2.2.1
def DL(listed:Array Bool)(j:Nat):Prop:=listed.getD j false=true
theorem aaM{listed:Array Bool}{i:Nat}(hi:i<listed.size):(λj=>DL listed j\/j=i)=DL (listed.setIfInBounds i true):=by
 funext j;apply propext;unfold DL;by_cases h:j=i
 .subst h;simp[hi]
 .rw[getD_set_ne false (Ne.symm h)];simp[h]
theorem Vx{listed:Array Bool}{j:Nat}(h:listed.getD j true=false):¬DL listed j:=by
 unfold DL;intro h';rcases Zi1 j listed.size with hj|hj
 .simp[hj]at h h';rw[h]at h';cases h'
 .simp[Array.getElem?_eq_none hj]at h'
theorem ad8{listed:Array Bool}{j:Nat}(hj:j<listed.size)(h:¬DL listed j):listed.getD j true=false:=by unfold DL at h;simp[hj]at h ⊢; exact h
theorem K7(G:yy tt nt ops call bO h0 n0 R){listed:Array Bool}(hs:listed.size=ops.size)(hr:Region.ready .any ops listed=[]):∀(Y X:List Rec),R=X++Y->∀r∈Y,DL listed r.idx
 |[],_,_,r,qx=>by cases qx
 |r ::Y  ,X,hR,r',qx=>by
  have ih:=K7 G hs hr Y (X++[r]) (by rw[hR];simp);rcases Za5.1 qx with rfl|qx
  . obtain⟨o,ho,_,hB⟩:=G.rel r' (by rw[hR];simp);have aK:r'.idx<ops.size:=(Zc0.1 ho).1;by_cases h:DL listed r'.idx
    .   exact h
    .   exfalso;have:r'.idx∈Region.ready .any ops listed:=mem_ready.2 ⟨ad8 (by omega) h,o,ho,λe he hb=>by obtain⟨s,h1,h2⟩:=G.bA X r' Y hR _ (hB.1 o ho e he hb);have:=ih s h1;rw[h2]at this;exact this⟩;rw[hr]at this;cases this
  .exact ih r' qx
theorem Ta(hT:bM P tt)(bH:eE P C call)(G:yy tt nt ops call bO h0 n0 R){Q:Exit->Act->World->Prop}{jF:Pos->Loc}{w0:World}
  (hQ:∀a' w',eW nt jF C { heap:=h0,next:=n0 } w0 (lf bO R) { heap:=iC h0 R,next:=cO n0 R } a' w'->Q .normal a' w'):
  ∀ (fuel:Nat)(listed:Array Bool)(U:List Nat)(A B:List Rec)(ρ:Pos->Loc)(a:Act)(w:World),listed.size=ops.size->U.length<=fuel->U.Nodup->(∀j,j<ops.size->¬DL listed j->j∈U)->
    Inv C nt ops bO h0 n0 R jF w0 (DL listed) A B ρ a w->UB P ops (Q .normal) fuel listed a w
 |0,listed,U,A,B,ρ,a,w,hs,hU,_,hm,hI=>by
  have hU0:U=[]:=Za8 (by omega);subst hU0;have hr:Region.ready .any ops listed=[]:=by
    cases h:Region.ready .any ops listed with
    |nil=>rfl
    |   cons i l=>
        have hi:i∈Region.ready .any ops listed:=(by rw[h];simp);obtain⟨h1,o,ho,_⟩:=mem_ready.1 hi;have:=hm i (Zc0.1 ho).1 (Vx h1);cases this
  exact⟨hr,hQ a w (S9 G hI (K7 G hs hr R [] rfl))⟩
 |fuel+1,listed,U,A,B,ρ,a,w,hs,hU,EL,hm,hI=>by
  refine⟨λhr=>hQ a w (S9 G hI (K7 G hs hr R [] rfl)),λi hi=> ?_⟩;obtain⟨h1,o,ho,h2⟩:=mem_ready.1 hi;have aK:i<ops.size:=(Zc0.1 ho).1;have oX:=ach hT bH G hI aK (Vx h1) λo' e E6 he hb=>by rw[ho]at E6;simp only[H0]at E6;subst E6;exact h2 e he hb
  refine SN (λa' w' hh=> ?_) oX;obtain⟨A',B',ρ',hI'⟩:=hh;rw[aaM (by omega)]at hI';have hiU:i∈U:=hm i aK (Vx h1);refine Ta hT bH G hQ fuel _ (U.erase i) A' B' ρ' a' w' (by simp[hs]) ?_ (EL.erase i) (λj hj hD=> ?_) hI'
  .rw[List.length_erase_of_mem hiU];omega
  . (rw[<-aaM (by omega)]at hD;have aR:j≠i:=λe=>hD (.inr e));exact(List.mem_erase_of_ne aR).2 (hm j hj λh=>hD (.inl h))
theorem IA(hm:P.follows .mixedOrders=true)(hT:bM P tt)(bH:eE P C call)(afR:k9 call):qy P tt C call:=by
 intro nt id ops l Q fr aU st st' ρ a w hl cT h hS hQ;obtain⟨R,hG,hmap,X2,afS,K5⟩:=P9 (call:=call) (bO:=fr) (h0:=st.heap) (n0:=st.next) _ [] fr aU st st' h trivial rfl rfl rfl;simp only[Zf4]at hG X2 afS K5;have hst':st'={ heap:=iC st.heap R,next:=cO st.next R }:=by cases st';simp_all
 have hlen:l.length=ops.size:=by rw[(nj hl).1,Ze9]
 have Qb:=NM _ 0 [] cT λb=>by simp
 have hL:vT (CU 0 l) []=(R.map λr=>(r.idx,r.o)).reverse:=by rw[hmap,List.reverse_reverse]
 have dec:∀{A B:List Rec}{r:Rec},R=A++r::B->vT (CU 0 l) []=(B.map λr=>(r.idx,r.o)).reverse++(r.idx,r.o)::(A.map λr=>(r.idx,r.o)).reverse:=λe=>by rw[hL,e];simp
 have OM:∀{B:List Rec}{i:Nat},i∈((B.map λr=>(r.idx,r.o)).reverse).map (·.1)↔ ∃r∈B,r.idx=i:=λ{B i}=>by simp
 have G:yy tt nt ops call fr st.heap st.next R:=by
   refine⟨hG,afR,λA r B e r' qx hi=> ?_,λA r B e b hb=> ?_,λA r B e hc r' qx=> ?_,λA r B e r' qx=> ?_,λr hr=> ?_,λi hi=> ?_⟩
   .exact(Qb.one _ _ _ _ (dec e)).2 (OM.2 ⟨r',qx,hi⟩)
   . rcases Qb.bA _ _ _ _ (dec e) b hb with h|h
     .cases h
     .exact OM.1 h
   .exact Qb.aF _ _ _ _ (dec e) hc _ (.inr (OM.2 ⟨r',qx,rfl⟩))
   .exact Qb.apart _ _ _ _ (dec e) (r'.idx,r'.o) (by simp;exact⟨r',qx,rfl,rfl⟩)
   .obtain⟨A,B,e⟩:=j7 hr;have hx:(r.idx,r.o)∈vT (CU 0 l) []:=(by rw[dec e];simp);have h1:=ad7 hx;obtain⟨o,h2,h3,h4⟩:=Aj hl _ _ h1;refine⟨o,h2,h3,?_⟩;rw[h4];exact Yb ops.toList [] rfl (Zi3 _) (λi hi=>by simp at hi) _ (Zc0.1 h2).1
   . rcases Qb.all i (by rw[hlen];exact hi)with h|h
     .cases h
     .rw[hL]at h;exact OM.1 h
 refine⟨hm,?_⟩;rw[hst',X2]at hQ;have hkn:∀b:Pos,b.toNat<st.next.toNat->∀D,Kept st.next R D b:=λb hb D A r B e _=>.inl (Zb9 hb (G.Zw (X:=A++[r]) (by rw[e];simp)))
 refine Ta (Q:=Q) (jF:=ρ) (w0:=w) hT bH G hQ ops.size _ (List.range ops.size) R [] ρ a _ (by simp) (by simp) List.nodup_range (λj hj _=>List.mem_range.2 hj) ?_;have kM:∀j,¬DL (Array.replicate ops.size false) j:=λj h=>by
   unfold DL at h;rcases Zi1 j ops.size with hj|hj
   .simp[hj]at h
   .simp[Nat.not_lt.2 hj]at h
 refine⟨⟨by simp,trivial,(λr hr=>by cases hr),λr _ hD=>absurd hD (kM _),λi _ _ hD=>absurd hD (kM _),hS.size,hS.defers⟩,λρ' Ak=> ?_⟩;have nS:∀b:Pos,b.toNat<st.next.toNat->ρ' b=ρ b:=λb hb=>Ak b (hkn b hb _)
 have hW:aT ρ' C st { w with drawn:=w.drawn+1 }:=(hS.W.congr nS).grow (Za3 _) λ_ _=>rfl
 refine⟨hW,λr _ hD=>absurd hD (kM _),λr _ hD=>absurd hD (kM _),λM s T p _ hD=>absurd hD (kM _),λp v hv _=> ?_,⟨rfl,rfl,rfl,Za3 _,λ_ _ _=>rfl,λb x hb=>.inl ⟨b,x,hb,?_⟩⟩,nS⟩
 .obtain⟨x,hx,KZ⟩:=hS.F p v hv;exact⟨x,hx,KZ.mono nS (Za3 _)⟩
 .rw[nS b (hS.W.live b x hb).1]
theorem HW(hm:P.follows .mixedOrders=true)(hT:bM P tt){O:dS}{G:T cw}(hO:pg P C O)(K8:jQ O)(hG:Pu P tt G)(m d:Nat):eE P C (pE O G m d):=
 NL hT hO hG m (λd bH=>IA hm hT bH (It K8 m d)) d
end
end
section
section
variable{R:Type}
theorem tQ{α:Type}:∀(p:Pos)(t:T α),kX p t=t.get p
 |.h,.e=>rfl
 |.h,.n _ _ _=>rfl
 |.o _,.e=>rfl
 |.o p,.n l _ _=>tQ p l
 |.i _,.e=>rfl
 |.i p,.n _ _ r=>tQ p r
theorem gQ{α:Type}(x:Option α):∀(p:Pos)(t:T α)(k:T α->R),nh x p t k=k (t.put x p)
 |.h,.e,_=>rfl
 |.h,.n _ _ _,_=>rfl
 |.o p,.e,k=>gQ x p .e _
 |.o p,.n l _ _,k=>gQ x p l _
 |.i p,.e,k=>gQ x p .e _
 |.i p,.n _ _ r,k=>gQ x p r _
theorem AI(n:Nat)(k:Nat->R):ni n k=k n:=by cases n<;>rfl
theorem Xz(n:Int)(k:Int->R):Oy n k=k n:=by cases n<;>simp only[Oy,AI]
theorem Vy(b:Bool)(k:Bool->R):SD b k=k b:=by cases b<;>rfl
theorem Fb{α:Type}:∀(l:List α)(k:List α->R),ym l k=k l
 |[],_=>rfl
 |a::l,k=>Fb l λt=>k (a::t)
theorem FU:∀(p:Pos)(k:Pos->R),Ie p k=k p
 |.h,_=>rfl
 |.o p,k=>FU p λq=>k (.o q)
 |.i p,k=>FU p λq=>k (.i q)
theorem aaN(o:Option Nat)(k:Option Nat->R):UY o k=k o:=by
 cases o with
 |none=>rfl
 |some n=>simp only[UY,AI]
theorem Tb(v:AV)(k:AV->R):KL v k=k v:=by
 cases v<;>simp only[KL,Vy,Xz,Fb,FU,AI,aaN]
theorem IB:∀(l:List AV)(k:List AV->R),MW l k=k l
 |[],_=>rfl
 |a::l,k=>by
  show KL a (λa=>MW l λt=>k (a::t))=_;rw[Tb,IB l]
theorem Fe(v:AV)(k:AV->R):qv v k=k v:=by
 unfold qv;split
 .exact IB _ _
 .exact Tb _ _
theorem IC(x:AB)(k:AB->R):CM x k=k x:=by
 cases x<;>simp only[CM,Fb,AI]
theorem ID:∀(p:Pos)(k:Pos->R),PE p k=k p.succ
 |.h,_=>rfl
 |.o _,_=>rfl
 |.i p,k=>ID p λq=>k (.o q)
variable(z:R)
def nk{α:Type}(r:Option α)(k:α->R):R:=match r with
 |some x=>k x
 |none=>z
theorem K9(fr:Fr)(x:dM)(k:AV->R):SE z fr x k=nk z (AQ fr x) k:=by
 cases x with
 |t p=>simp only[SE,tQ,AQ,nk];cases T.get p fr<;>rfl
 |c v=>rfl
theorem M6(fr:Fr):∀(xs:List dM)(k:List AV->R),Oz z fr xs k=nk z (dN fr xs) k
 |[],k=>rfl
 |x::xs,k=>by
  show SE z fr x (λv=>Oz z fr xs λvs=>k (v::vs))=_;rw[K9];simp only[M6 fr xs];simp only[dN];cases AQ fr x with
  |none=>rfl
  |some v=>simp only[nk];cases dN fr xs<;>rfl
theorem Qc(fr:Fr)(g:Option (Pos×Bool))(yes no:R):CN z fr g yes no=match bI fr g with
  |some true=>yes
  |some false=>no
  |none=>z:=by
 unfold CN bI;cases g with
 |none=>rfl
 |some g=>
  obtain⟨p,want⟩:=g;simp only[tQ];cases T.get p fr with
  |none=>rfl
  |some v=>
   (cases v<;>try rfl);rename_i b;cases b<;>cases want<;>rfl
theorem Qd(fr:Fr)(d:Option Pos)(v:AV)(k:Fr->R):jM fr d v k=k (cM fr d v):=by
 cases d with
 |none=>rfl
 |some p=>exact gQ _ _ _ _
theorem ad9(st:St)(del:Option Pos)(set:Option (Pos×AB))(new:Option AB)(k:St->R):abM st del set new k=k (st.aF del set new):=by
 have hdel:∀(h:T AB)(k:T AB->R),delK del h k=k (FJ del h):=λh k=>by
  cases del with
  |none=>rfl
  |some b=>exact gQ _ _ _ _
 have Im:∀(h:T AB)(k:T AB->R),KM set h k=k (Ia set h):=λh k=>by
  cases set with
  |none=>rfl
  |some b=>simp only[KM,IC,gQ];rfl
 unfold abM;rw[hdel,Im];cases new with
 |none=>rfl
 |some x=>simp only[IC,gQ,ID];rfl
def CK(aX:ic R)(call:ah):Prop:=∀f args st k,aX f args st k=nk z (call f args st) λx=>k x.1 x.2
variable{aX:ic R}{call:ah}
theorem IE(h:T AB):(λb=>kX b h)=λb=>h.get b:=funext λb=>tQ b h
theorem Vz(hc:CK z aX call)(op:az)(xs:List AV)(st:St)(k:AV->St->R):MX z aX op xs st k=nk z (aV call op xs st) λx=>k x.1 x.2:=by
 unfold MX aV;rw[IE];cases op.run (λb=>st.heap.get b) st.next xs with
 |none=>rfl
 |some r=>
  cases r with
  |val v=>simp only[Fe];rfl
  |aF v d s n=>simp only[Fe,ad9];rfl
  |call f args=>simp only[Fb];exact hc f args st k
theorem M7(hc:CK z aX call):∀(ops:List bg)(fr:Fr)(st:St)(k:Fr->St->R),Rm z aX ops fr st k=nk z (iJ call ops fr st) λx=>k x.1 x.2
 |[],fr,st,k=>rfl
 |o::os,fr,st,k=>by
  show CN z fr o.guard (Oz z fr o.xs λxs=>MX z aX o.k xs st λv st=>jM fr o.dst v λfr=>Rm z aX os fr st k) (jM fr o.dst .undef λfr=>Rm z aX os fr st k)=_;rw[Qc,M6];simp only[Vz z hc,Qd,M7 hc os];simp only[iJ];cases bI fr o.guard with
  |none=>rfl
  |some b=>
   cases b with
   |false=>rfl
   |    true=>
        simp only[];cases dN fr o.xs with
        |none=>rfl
        |some xs=>
         simp only[nk];cases aV call o.k xs st with
         |none=>rfl
         |some x=>rfl
theorem Dk(bA:Nat)(h:T AB):∀(recs:List Rec)(k:T AB->R),Ig bA h recs k=k (snap bA h recs)
 |[],k=>rfl
 |r::rs,k=>by
  show (match r.c with
   |    .new id ay=>match bA.testBit r.idx with
        |true=>Ig bA h rs λh'=>nh (some ay) id h' k
        |false=>Ig bA h rs k
   |.aF _ _=>k h
   |.pure=>Ig bA h rs k)=_
  unfold snap;cases r.c with
  |pure=>exact Dk bA h rs k
  |aF _ _=>rfl
  |new id ay=>
   simp only[];cases bA.testBit r.idx with
   |true=>simp only[Dk bA h rs,gQ]
   |false=>exact Dk bA h rs k
theorem Tc(h:T AB):∀(l:List (Pos×AB))(k:T AB->R),UZ h l k=k (vR l h)
 |[],k=>rfl
 |(id,ay)::l,k=>by show UZ h l (λh'=>nh (some ay) id h' k)=_;rw[Tc h l,gQ];rfl
theorem yB(bA:Nat)(op:az)(xs:List AV)(v:AV):∀(recs:List Rec)(up:List (Pos×AB)),oU bA op xs v up recs=jL bA op xs v up recs
 |[],up=>rfl
 |r::rs,up=>by
  unfold oU jL;cases r.c with
  |pure=>exact yB bA op xs v rs up
  |new id ay=>simp only[yB bA op xs v rs]<;>(cases bA.testBit r.idx<;>rfl)
  |aF base _=>
   simp only[yB bA op xs v rs,Dk,Tc];unfold U0 mE;simp only[IE]<;>(cases bA.testBit r.idx<;>rfl)
theorem VA (hc:CK z aX call):∀(ops:List (Nat×bg))(recs:List Rec)(base:T AB)(fr:Fr)(st:St)(k:Fr->St->R),
  Ih z aX ops recs base fr st k=nk z (cH call ops recs base fr st) λx=>k x.1 x.2
 |[],recs,base,fr,st,k=>rfl
 |(j,   o)::  os,recs,base,fr,st,k=>by
  show CN   z fr o.guard
    (Oz   z fr o.xs λxs=>match o.cls with
        | .new=>match o.k.run (λ_=>none) st.next xs with
          |some (.aF v none none (some ay))=>qv v λv=>CM ay λay=>jM fr o.dst v λfr=>PE st.next λn=>nh (some ay) st.next st.heap λh=>
              Ih z aX os ({ idx:=j,o:=o,v:=v,c:= .new st.next ay,nx:=n }::recs) base fr { heap:=h,next:=n } k
          |_=>z
        |.aF=>MX z aX o.k xs st λv st'=>jM fr o.dst v λfr=>Ih z aX os ({ idx:=j,o:=o,v:=v,c:= .aF base st'.heap,nx:=st'.next }::recs) st'.heap fr st' k
        | _ =>match o.k.run (λ_=>none) .h xs with
          |some (.val v)=>qv v λv=>jM fr o.dst v λfr=>Ih z aX os ({ idx:=j,o:=o,v:=v,c:= .pure,nx:=st.next }::recs) base fr st k
          | _ =>Ig o.bA base recs λh=>match o.k.run (λb=>kX b h) .h xs with
            | some (.val v)=>qv v λv=>match oU o.bA o.k xs v [] recs with
              |true=>jM fr o.dst v λfr=>Ih z aX os ({ idx:=j,o:=o,v:=v,c:= .pure,nx:=st.next }::recs) base fr st k
              |false=>z
            |_=>z)
    (jM fr o.dst .undef λfr=>Ih z aX os ({ idx:=j,o:=o,v:= .undef,c:= .pure,nx:=st.next }::recs) base fr st k)=_
  rw[Qc,M6];simp only[Vz z hc,Qd,Fe,IC,ID,gQ,Dk,yB,IE,VA hc os];simp only[cH];cases bI fr o.guard with
  |none=>rfl
  | some b=>
    cases b with
    |false=>rfl
    |   true=>
        simp only[];cases dN fr o.xs with
        |none=>rfl
        | some xs=>
          simp only[nk];cases o.cls with
          | new=>
            simp only[];split<;>simp_all
          | aF=>
            simp only[];cases aV call o.k xs st with
            |none=>rfl
            |some x=>rfl
          | pure=>
            simp only[];split
            .simp_all
            .split<;>simp_all;split<;>simp_all
          | read=>
            simp only[];split
            .simp_all
            .split<;>simp_all;split<;>simp_all
def VB(r:Option (iU×Fr×St))(kn:Fr->St->R)(kx:Nat->Fr->St->R)(kr:Fr->St->R):R:=match r with
 |some (.normal,fr,st)=>kn fr st
 |some (.exit id,fr,st)=>kx id fr st
 |some (.ret,fr,st)=>kr fr st
 |none=>z
theorem ON(hc:CK z aX call):∀(m:Nat)(c:AC)(fr:Fr)(st:St)(kn:Fr->St->R)(kx:Nat->Fr->St->R)(kr:Fr->St->R),
  PG z aX m c fr st kn kx kr=VB z (exec call m c fr st) kn kx kr
 |0,c,fr,st,kn,kx,kr=>rfl
 |m+    1,c,fr,st,kn,kx,kr=>by
  have ih:=ON hc m;show oV z aX (PG z aX m) c fr st kn kx kr=VB z (aW call (exec call m) c fr st) kn kx kr;cases c with
  |skip=>rfl
  |region ops=>
   simp only[oV,aW,M7 z hc];cases iJ call ops fr st with
   |none=>rfl
   |some x=>rfl
  |draw ops=>
   simp only[oV,aW,VA z hc];cases cH call ops [] st.heap fr st with
   |none=>rfl
   |some x=>rfl
  |seq a b=>
   simp only[oV,aW,ih];cases exec call m a fr st with
   |none=>rfl
   |    some x=>
        obtain⟨e,bN,aN⟩:=x;cases e<;>rfl
  |cond x a b=>
   simp only[oV,aW,K9];cases AQ fr x with
   |none=>rfl
   |    some v=>
        simp only[nk];(cases v<;>try rfl);rename_i t;cases t<;>simp only[ih]
  |block id a=>
   simp only[oV,aW,ih];cases exec call m a fr st with
   |none=>rfl
   |    some x=>
        obtain⟨e,bN,aN⟩:=x;(cases e<;>try rfl);rename_i ru;simp only[VB];cases Nat.beq ru id<;>rfl
  |loop a=>
   simp only[oV,aW,ih];cases exec call m a fr st with
   |none=>rfl
   |    some x=>
        obtain⟨e,bN,aN⟩:=x;cases e<;>rfl
  |exit id=>rfl
  |ret=>rfl
theorem Cu:∀(vs:List AV)(i:Nat)(fr:Fr)(k:Fr->R),Af vs i fr k=k (params i vs fr)
 |[],i,fr,k=>rfl
 |v::vs,i,fr,k=>by show nh (some v) (key i) fr (λfr=>Af vs (i+1) fr k)=_;rw[gQ,Cu vs];rfl
theorem XA(st:St)(fr:Fr)(rs:List AP)(k:AV->R):Ag z st fr rs k=nk z (cu (λb=>st.heap.get b) fr rs) λvs=>k (fR vs):=by
 unfold Ag;rw[IE];cases cu (λb=>st.heap.get b) fr rs with
 |none=>rfl
 |some vs=>
  simp only[IB,nk];cases vs with
  |nil=>rfl
  |cons v vs=>cases vs<;>rfl
theorem IF (O:dS)(G:T cw)(m:Nat):∀d,CK z (EN z O G m d) (pE O G m d)
 |0=>λf args st k=>rfl
 |d+    1=>fun f args st k=>by
  have ih:=IF O G m d;show( match O f with
   |    some s=>match s args st with
        |some (v,st')=>qv v λv=>k v st'
        |none=>z
   |    none=>match kX (key f) G with
        |some F=>match Nat.beq args.length F.nparams with
         |true=>Af args 0 .e λfr=>PG z (EN z O G m d) m F.code fr st
             (λfr st=>Ag z st fr F.results λv=>k v st)
             (λ_ _ _=>z)
             (λfr st=>Ag z st fr F.results λv=>k v st)
         |false=>z
        |none=>z)=_
  simp only[pE,Fe,tQ,Cu,ON z ih,XA];cases O f with
  |some s=>
   simp only[];cases s args st with
   |none=>rfl
   |some x=>rfl
  |none=>
   simp only[];cases G.get (key f)with
   |none=>rfl
   |    some F=>
        simp only[];cases Nat.beq args.length F.nparams with
        |false=>rfl
        |true=>
         simp only[];cases exec (pE O G m d) m F.code (params 0 args .e) st with
         |none=>rfl
         |  some x=>
            obtain⟨e,bN,aN⟩:=x;cases e with
            |normal=>
             simp only[VB];cases cu (λb=>aN.heap.get b) bN F.results<;>rfl
            |exit id=>rfl
            |ret=>
             simp only[VB];cases cu (λb=>aN.heap.get b) bN F.results<;>rfl
end
end
section
open Go
def ZD (P:Program)(t:Nat)(ti:TI):Bool:=
 match P.underlying t,P.info? t with
 |  some d,some i=>bB ti.k d&&Nat.beq i.size ti.size&&Nat.beq i.bytes ti.bytes&&
    (match ti.zero with
     |none=>true
     | some z=>match i.zero with
       |some v=>(match mP v.cells.toList with
           |some z'=>rV z' z
           |none=>false)&&Nat.beq z.length ti.size&&(match ti.k.isAgg,v with
           |true,.agg _=>true
           |true,_=>false
           |false,.agg _=>false
           |false,_=>true)
       |none=>false)&&(match ti.k with
     |.ptr e=>(P.info? e).isSome
     |_=>true)&&(!ti.vS||(!P.stoodInHeld t&& !P.eqGuardType P.depth t))
 |_,_=>false
theorem aci{P:Program}{t:Nat}{ti:TI}(h:ZD P t ti=true):Zc P t ti:=by
 unfold ZD at h;split at h<;>first|(cases h;done)|skip
 rename_i d i hd hi;simp only[Za6,Zg9,Zh2]at h;obtain⟨⟨⟨⟨⟨h1,h2⟩,h3⟩,h4⟩,h6⟩,h5⟩:=h;refine⟨⟨d,hd,h1⟩,⟨i,hi,H3 h2,H3 h3,λz hz=> ?_⟩,λe he=> ?_,λhe=> ?_⟩
 . rw[hz]at h4;simp only at h4;(split at h4<;>first|(cases h4;done)|skip);rename_i v hv;simp only[Za6]at h4;obtain⟨⟨g1,g2⟩,g3⟩:=h4;(split at g1<;>first|(cases g1;done)|skip);rename_i z' zT;rw[AH g1]at zT;refine⟨v,hv,zT,H3 g2,λha=> ?_,λha=> ?_⟩
   .rw[ha]at g3;cases v<;>first|exact⟨_,rfl⟩|cases g3
   .rw[ha]at g3;cases v<;>first|rfl|cases g3
 .rw[he]at h6;exact Option.isSome_iff_exists.1 h6
 . rcases h5 with h5|h5
   .rw[he]at h5;cases h5
   .exact h5
def CH(P:Program):(Pos->Pos)->T TI->Bool
 |_,.e=>true
 |  f,.n l v r=>(match v with
    |some ti=>ZD P ((f .h).toNat - 1) ti
    |none=>true)&&CH P (λp=>f (.o p)) l&&CH P (λp=>f (.i p)) r
theorem IG{P:Program}:∀{t:T TI}{f:Pos->Pos},CH P f t=true->∀p ti,t.get p=some ti->Zc P ((f p).toNat - 1) ti
 |.e,f,_,p,ti,h=>by rw[T.dh]at h;cases h
 | .n l v r,f,hc,p,ti,h=>by
   simp only[CH,Za6]at hc;cases p with
   |h=>simp only[T.get]at h;rw[h]at hc;exact aci hc.1.1
   |o p=>exact IG hc.1.2 p ti h
   |i p=>exact IG hc.2 p ti h
theorem adW{P:Program}{tt:TT}(h:CH P (λp=>p) tt=true):bM P tt:=λp ti hp=>IG h p ti hp
end
noncomputable section
open Go
def G3{α:Type}(g:Nat->Option α):Nat->Nat->Nat->T α
 |0,_,_=>.e
 |d+1,a,m=>.n (G3 g d a (2*m)) (g (a+m - 1)) (G3 g d (a+m) (2*m))
theorem II{α:Type}{g:Nat->Option α}:∀{d a m:Nat}{p:Pos}{x:α},(G3 g d a m).get p=some x->g (a+m*p.toNat - 1)=some x
 |0,_,_,p,x,h=>by rw[G3,T.dh]at h;cases h
 |d+1,a,m,.h,x,h=>by rw[Pos.toNat,Zj7];exact h
 |d+1,a,m,.o p,x,h=>by
  have:=II (d:=d) (a:=a) (m:=2*m) (p:=p) (x:=x) h;rw[Pos.toNat];have e:a+m*(2*p.toNat) - 1=a+2*m*p.toNat - 1:=by rw[<-Nat.mul_assoc,Nat.mul_comm m 2]
  rw[e];exact this
 |d+1,a,m,.i p,x,h=>by
  have:=II (d:=d) (a:=a+m) (m:=2*m) (p:=p) (x:=x) h;rw[Pos.toNat];have e:a+m*(2*p.toNat+1) - 1=a+m+2*m*p.toNat - 1:=by rw[Nat.mul_add,Zj7, <-Nat.mul_assoc,Nat.mul_comm m 2];omega
  rw[e];exact this
def adM(P:Program)(tt:TT)(i:Nat):Option cw:=match P.funcs[i]? with
 |some fn=>Uy tt fn
 |none=>none
def ggOf(P:Program)(tt:TT):T cw:=G3 (adM P tt) 10 0 1
theorem adX{P:Program}{tt:TT}(h:(P.funcs.toList.all λfn=> !(fn.name== "runtime.NumGoroutine"))=true):Pu P tt (ggOf P tt):=λp F hp=>by
 have:=II hp;rw[Zb6,Zn1,adM]at this;split at this<;>first|(cases this;done)|skip
 rename_i fn BS;refine⟨fn,BS,?_,this⟩;have:=Zd6.1 h fn (by obtain⟨hi,e⟩:=Zc0.1 BS;exact Zk4.2 (e ▸Array.getElem_mem hi));simpa using this
def tkOf(P:Program)(t:Nat):TK:=match P.underlying t with
 |some .bool=>.bool
 |some (.int k)=>.int k
 |some .string=>.string
 |some (.pointer e)=>.ptr e
 |some (.slice e)=>.slice e
 |some (.array n e)=>.array n e
 |some (.map k e)=>.map k e
 |some (.struct fs)=>.struct (fs.toList.map λf=>(f.offset,f.type,f.name != "_"))
 |some (.func _ _ _)=>.func
 |some (.interface _)=>.iface
 |some .unsafePointer=>.upt
 |_=>.other
def zeroOf:Option Value->Option (List AV)
 |  some v=>match Nat.ble v.cells.size 64 with
    |true=>mP v.cells.toList
    |false=>none
 |none=>none
def memN(n:Nat):List Nat->Bool
 |[]=>false
 |  m::l=>match Nat.beq m n with
    |true=>true
    |false=>memN n l
def tiOf(P:Program)(eqs:List Nat)(t:Nat):Option TI:=match P.info? t with
 |none=>none
 |some i=>some { k:=tkOf P t,size:=i.size,bytes:=i.bytes,zero:=zeroOf i.zero,vS:=memN t eqs }
def ttOf(P:Program)(eqs:List Nat):T TI:=G3 (tiOf P eqs) 10 0 1
end
section
open Go
structure lW(P:Program)(C:Cells)(f:FuncId)(s:List AV->St->Option (AV×St)):Prop where
 mono:∀args st v st',s args st=some (v,st')->st.next.toNat<=st'.next.toNat
 runs:∀(ρ:Pos->Loc)(st:St)(w:World)(args:List AV)(v:AV)(st':St)(bC:List Value),s args st=some (v,st')->
  aT ρ C st w->av ρ st.next.toNat C args bC->Reaches P (k8 ρ C st w v st') ((callFunc f bC.toArray).run P w)
def yf:List (Nat×(List AV->St->Option (AV×St)))->dS
 |[]=>λ_=>none
 |  (g,s)::l=>λf=>match Nat.beq f g with
    |true=>some s
    |false=>yf l f
theorem v7{P:Program}{C:Cells}:∀{l:List (Nat×(List AV->St->Option (AV×St)))},(∀x∈l,lW P C x.1 x.2)->pg P C (yf l)/\jQ (yf l)
 |[],_=>⟨λf s h=>by simp[yf]at h,λf s h=>by simp[yf]at h⟩
 |(g,   s0)::l,hl=>by
  obtain⟨h1,h2⟩:=v7 λx hx=>hl x (Za4 _ hx)
  have h0:=hl _ (Zc4 ..);refine⟨λf s h=> ?_,λf s h=> ?_⟩
  . simp only[yf]at h;split at h
    .   rename_i he;simp only[H0]at h;subst h;have:=H3 he;subst this;exact h0.runs
    .   exact h1 f s h
  . simp only[yf]at h;split at h
    .   simp only[H0]at h;subst h;exact h0.mono
    .   exact h2 f s h
def KE:List AV->St->Option (AV×St)
 |  [.str a,.str b],st=>some (.int .i64 (match aA a b with
    |true=>.negSucc 0
    |false=>match aA b a with
     |true=>.ofNat 1
     |false=>.ofNat 0),st)
 |_,_=>none
theorem La:∀(x y:List UInt8),Lib.compareBytes x y=match aA (x.map UInt8.toNat) (y.map UInt8.toNat)with
  |true=>.negSucc 0
  | false=>match aA (y.map UInt8.toNat) (x.map UInt8.toNat)with
    |true=>.ofNat 1
    |false=>.ofNat 0
 |[],[]=>rfl
 |[],_::_=>rfl
 |_::_,[]=>rfl
 |a ::x  ,b::y=>by
  rw[qM,qM];have ih:=La x y;rw[qM,qM]at ih;simp only[Lib.compareBytes,Op.bytesLess];by_cases h:a<b
  .simp[h]
  . by_cases h':b<a
    .   have aR:(a==b)=false:=(by rw[beq_eq_false_iff_ne];exact λe=>by subst e;exact h h');simp[h,h',aR]
    .   have he:a=b:=(by apply Zo6.1;rw[Zm3]at h h';omega);subst he;simp only[h,Zd9,ih];simp
theorem abJ{P:Program}{C:Cells}{f:FuncId}{fn:Func}(hf:P.funcs[f]? =some fn)(ia:(fn.name== "runtime.NumGoroutine")=false)(hb:fn.body.isNone=true)
  (hx:Extern.findNext fn=none) (he:Extern.find fn=some Extern.BytealgCompare.compare):lW P C f KE where
 mono args st v st' h:=by unfold KE at h;split at h<;>cases h;exact Za3 _
 runs ρ st w args v st' bC h hW hv:=by
  unfold KE at h;split at h<;>cases h;rename_i a b;obtain⟨x,xs,rfl,h1,h2⟩:=hv.cons_inv;obtain⟨y,ys,rfl,h3,h4⟩:=h2.cons_inv;have:=h4.mF;subst this;obtain⟨s,rfl,hs⟩:=h1.dP;obtain⟨t,rfl,ht⟩:=h3.dP;have bU:(callFunc f [Value.string s,Value.string t].toArray).run P w= .ok (.value (.int .i64 (Lib.compareBytes s.data.toList t.data.toList))) w:=by rw[run_callFunc_extern hf ia hb hx he];show((Extern.BytealgCompare.compare #[.string s,.string t]).run P w).andThen _=_;rw[Lib.run_compareString];rfl
  rw[bU];refine⟨ρ,?_,λ_ _=>rfl,Za3 _,hW,jr.refl _ _ _⟩;rw[La,hs,ht];exact .int _ _
def AX:List AV->List AV->Bool
 |[],[]=>true
 |a::x,b::y=>fC a b&&AX x y
 |_,_=>false
theorem Ff:∀{a b:List AV},AX a b=true->a=b
 |[],[],_=>rfl
 |[],_::_,h=>by simp[AX]at h
 |_::_,[],h=>by simp[AX]at h
 |a::x,b::y,h=>by
  simp only[AX,Za6]at h;rw[pL h.1,Ff h.2]
def M8:List (AV×AV×Nat)->List (AV×AV×Nat)->Bool
 |[],[]=>true
 |(a,b,n)::x,(a',b',n')::y=>fC a a'&&fC b b'&&Nat.beq n n'&&M8 x y
 |_,_=>false
theorem VC:∀{a b:List (AV×AV×Nat)},M8 a b=true->a=b
 |[],[],_=>rfl
 |[],_::_,h=>by simp[M8]at h
 |_::_,[],h=>by simp[M8]at h
 |(a,b,n)::x,(a',b',n')::y,h=>by
  simp only[M8,Za6]at h;obtain⟨⟨⟨h1,h2⟩,h3⟩,h4⟩:=h;rw[pL h1,pL h2,H3 h3,VC h4]
def Fg:AB->AB->Bool
 |.cells cs fz,.cells kO fz'=>AX cs kO&&Nat.beq fz fz'
 |.map es c,.map es' c'=>M8 es es'&&Nat.beq c c'
 |.iR s p,.iR s' p'=>iy s s'&&Nat.beq p p'
 |.typed t cs,.typed t' kO=>AX cs kO&&Nat.beq t t'
 |_,_=>false
theorem OO{a b:AB}(h:Fg a b=true):a=b:=by
 unfold Fg at h;split at h<;>(try simp only[Za6]at h)
 .rw[Ff h.1,H3 h.2]
 .rw[VC h.1,H3 h.2]
 .rw[mR.1 h.1,H3 h.2]
 .rw[Ff h.1,H3 h.2]
 .cases h
structure Lit where
 args:List AV
 n0:Pos
 L0:List (Pos×AB)
 v:AV
 n1:Pos
 L1:List (Pos×AB)
end
end Go.Ai
