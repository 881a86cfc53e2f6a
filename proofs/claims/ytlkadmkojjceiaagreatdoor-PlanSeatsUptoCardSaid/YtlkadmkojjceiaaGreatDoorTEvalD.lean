/- Its calls answer as the model does. -/
import Derived.Test.YtlkadmkojjceiaaGreatDoorTEvalC
import Derived.Lib.Bytealg
set_option linter.all false
namespace Go.Ai
section
open Go Go.RowKit
theorem AK{a b:AV}(h:jD a b=true):a=b:=by
 unfold jD at h;split at h<;>(try simp only[Za4,Zd4]at h)<;>try rfl
 .rw[beq_iff_eq.1 h]
 .rename_i k i k' i';have h2:=h.2;rw[kf]at h2;rw[vk h.1,beq_iff_eq.1 h2]
 .rw[lD.1 h]
 .rw[Pos.beq_eq.1 h.1,H2 h.2]
 .obtain⟨⟨⟨h1,h2⟩,h3⟩,h4⟩:=h;rw[Pos.beq_eq.1 h1,H2 h2,H2 h3,H2 h4]
 .obtain⟨⟨⟨⟨h1,h2⟩,h3⟩,h4⟩,h5⟩:=h;rw[Pos.beq_eq.1 h1,H2 h2,H2 h3,H2 h4,H2 h5]
 .rw[Pos.beq_eq.1 h]
theorem DY:∀{a b:List AV},uK a b=true->a=b
 |[],[],_=>rfl
 |[],_::_,h=>by simp[uK]at h
 |_::_,[],h=>by simp[uK]at h
 |a::x,b::y,h=>by
  simp only[uK,Za4]at h;rw[AK h.1,DY h.2]
theorem Tb{f:AV->AV->Bool}(hf:∀{a b},f a b=true->a=b):∀{a b:List AV},Dd f a b=true->a=b
 |[],[],_=>rfl
 |[],_::_,h=>by simp[Dd]at h
 |_::_,[],h=>by simp[Dd]at h
 |a::x,b::y,h=>by
  simp only[Dd,Za4]at h;rw[hf h.1,Tb hf h.2]
theorem NP{f:AV->AV->Bool}(hf:∀{a b},f a b=true->a=b):∀{a b:List (List AV)},vh f a b=true->a=b
 |[],[],_=>rfl
 |[],_::_,h=>by simp[vh]at h
 |_::_,[],h=>by simp[vh]at h
 |a::x,b::y,h=>by
  simp only[vh,Za4]at h;rw[Tb hf h.1,NP hf h.2]
theorem Tc:∀{d:Nat}{a b:AV},De d a b=true->a=b
 |0,_,_,h=>by unfold De at h;exact AK h
 |d +1,a,b,h=>by
  unfold De at h;split at h
  .rename_i heq;cases heq;simp only[Za4]at h;rw[NP (λh=>Tc h) h.1,H2 h.2]
  .exact AK h
theorem NQ{a b:AV}(h:yy a b=true):a=b:=by
 unfold yy at h;split at h
 .simp only[Za4]at h;rw[H2 h.1.1,DY h.1.2,DY h.2]
 .exact Tc h
 .exact AK h
theorem yY:∀{a b:List AV},qB a b=true->a=b
 |[],[],_=>rfl
 |[],_::_,h=>by simp[qB]at h
 |_::_,[],h=>by simp[qB]at h
 |a::x,b::y,h=>by
  simp only[qB,Za4]at h;rw[NQ h.1,yY h.2]
theorem oe{a b:AV}(h:fB a b=true):a=b:=by
 unfold fB at h;split at h
 .rw[yY h]
 .rw[yY h]
 .exact NQ h
theorem aaN {k:az}{H H':Pos->Option AB}{n n':Pos}{xs:List AV}{v:AV}(h:k.run H n xs=some (.val v))(hm:∀b x,H b=some x->H' b=some x):
  k.run H' n' xs=some (.val v):=by
 cases k<;>simp only[az.run]at h ⊢ <;>try exact h
 case alloc z=>unfold F7 at h;split at h<;>cases h
 case box=>unfold Np at h;split at h<;>cases h
 case buildSlice es len z p=>unfold oZ at h;dsimp only at h;split at h<;>cases h
 case mkMap=>unfold Ga at h;cases h
 case mkSlice es b z=>
  unfold wq at h
  repeat' split at h
  all_goals cases h
 case rangeS=>
  unfold Db at h
  repeat' split at h
  all_goals cases h
 case store m=>
  unfold Bn at h
  repeat' split at h
  all_goals cases h
 case mapSet pk=>
  unfold ve at h
  repeat' split at h
  all_goals cases h
 case load m=>
  unfold rR at h ⊢;split at h<;>first|(cases h;done)|skip
  split at h<;>first|(cases h;done)|skip
  . split at h<;>first|(cases h;done)|skip
    .   rename_i cs fz hb;simp only[hm _ _ hb];exact h
    .   rename_i t0 cs hb;simp only[hm _ _ hb];exact h
  .exact h
 case conv c=>
  unfold yw at h ⊢;split at h<;>first|(cases h;done)|skip
  split at h<;>first|(cases h;done)|exact h|skip
  rename_i b off m _ _;cases hb:Nat.beq m 0 with
  |true=>simp only[hb]at h ⊢; exact h
  | false=>
    simp only[hb]at h ⊢;cases hH:H b with
    |none=>simp[hH]at h
    |some x=>simp only[hH]at h;simp only[hm _ _ hH];exact h
 case lookup pk z ok=>
  unfold u9 at h ⊢;split at h<;>first|(cases h;done)|skip
  rename_i m k';cases m<;>try exact h
  rename_i b;cases hb:H b with
  |none=>simp[hb]at h
  | some x=>
    simp only[hb]at h;simp only[hm _ _ hb];exact h
 case lenB lk=>
  unfold EH at h ⊢;split at h<;>first|(cases h;done)|skip
  split at h<;>first|(cases h;done)|exact h|skip
  split at h<;>first|(cases h;done)|skip
  rename_i es c hb;simp only[hm _ _ hb];exact h
 case nextS=>
  unfold Gb at h ⊢;split at h<;>first|(cases h;done)|skip
  split at h<;>first|(cases h;done)|skip
  split at h<;>first|(cases h;done)|skip
  rename_i s pos hb;simp only[hm _ _ hb];split at h
  .rename_i aY;split at h<;>cases h
  .rename_i aY;exact h
 case allocT t z=>
  unfold Dc at h;split at h<;>cases h
 case appendT e bytes=>
  unfold rS at h ⊢;split at h<;>first|(cases h;done)|skip
  split at h<;>first|(cases h;done)|skip
  split at h<;>first|(cases h;done)|skip
  . (split at h<;>first|(cases h;done)|skip);split at h<;>first|(cases h;done)|exact h
  . (split at h<;>first|(cases h;done)|skip);split at h
    .   exact h
    .   repeat' split at h
        all_goals cases h
 case toU=>
  unfold Nq at h ⊢;split at h<;>first|(cases h;done)|skip
  split at h<;>first|(cases h;done)|exact h|skip
  split at h<;>first|(cases h;done)|skip
  rename_i t0 cs hb;simp only[hm _ _ hb];exact h
 case fromU u m=>
  unfold Gc at h ⊢;split at h<;>first|(cases h;done)|skip
  split at h<;>first|(cases h;done)|exact h|skip
  split at h<;>first|(cases h;done)|skip
  rename_i t0 cs hb;simp only[hm _ _ hb];exact h
 case unsafeStr e=>
  unfold mR at h ⊢;split at h<;>first|(cases h;done)|skip
  split at h<;>first|(cases h;done)|skip
  split at h
  .exact h
  . repeat' split at h
    all_goals cases h
 case clearS es z=>
  unfold vg at h ⊢;split at h<;>first|(cases h;done)|skip
  split at h<;>first|(cases h;done)|exact h|skip
  rename_i b off m _ _;cases hb:Nat.beq m 0 with
  |true=>simp only[hb]at h ⊢; exact h
  | false=>
    simp only[hb]at h
    repeat' split at h
    all_goals cases h
 case copyB es=>
  unfold yx at h ⊢;split at h<;>first|(cases h;done)|skip
  rename_i d x;cases hd:cN d with
  |none=>simp[hd]at h
  | some m1=>
    cases hx:cN x with
    |none=>simp[hd,hx]at h
    |   some m2=>
        simp only[hd,hx]at h ⊢;cases hb:Nat.beq (min m2 m1) 0 with
        |true=>simp only[hb]at h ⊢; exact h
        |false=>
         simp only[hb]at h;(split at h<;>first|(cases h;done)|skip);(split at h<;>first|(cases h;done)|skip);split at h<;>cases h
 case append es bytes=>
  unfold eU at h ⊢;split at h<;>first|(cases h;done)|skip
  rename_i s x;cases hd:cN s with
  |none=>simp[hd]at h
  | some m1  =>
    cases hx:cN x with
    |none=>simp[hd,hx]at h
    |   some m2=>
        simp only[hd,hx]at h ⊢;cases h1:Nat.ble ((2*(m1+m2)+768)*bytes) 281474976710656 with
        |false=>simp[h1]at h
        |true=>
         cases h2:Nat.ble (m1+m2) 9223372036854775807 with
         |false=>simp[h1,h2]at h
         |  true=>
            simp only[h1,h2]at h ⊢;cases hb:Nat.beq m2 0 with
            |true=>
             simp only[hb]at h ⊢;split at h<;>first|(cases h;done)|exact h|skip
             all_goals (simp_all;done)
            |false=>
             simp only[hb]at h
             repeat' split at h
             all_goals first
               |(rename_i e;cases e;done)
               |(rename_i e _;cases e;done)
               |(cases h;done)
               |simp_all
inductive uO(n:Pos):AV->AB->Prop where
 |ptr (cs:List AV):uO n (.ptr n 0) (.cells cs 0)
 |iu (s:List Nat):uO n (.ptr n 0) (.iu s 0)
 |slice (len es:Nat) (cap:Option Nat) (cs:List AV) (h:len=0->cap=none\/cap=some 0->cs=[]):uO n (.slice n 0 len cap es) (.cells cs 0)
 |map:uO n (.map n) (.map [] 0)
 |ptrT (t:TypeId) (cs:List AV):uO n (.ptr n 0) (.typed t cs)
 |Y4 (len:Nat) (t:TypeId) (cs:List AV) (h:len≠0):uO n (.slice n 0 len none 1) (.typed t cs)
theorem QB:∀{ps:List (Nat×Nat)}{xs cs:List AV},bS [] ps xs=some cs->cs=[]
 |[],[],cs,h=>by simp[bS]at h;exact h.symm ▸rfl
 |[],_::_,cs,h=>by simp[bS]at h
 |_::_,[],cs,h=>by simp[bS]at h
 |(off,size)::ps,v::vs,cs,h=>by
  unfold bS at h;split at h<;>first|(cases h;done)|skip
  rename_i h1 h2;have h1:=H2 h1;have h2:=H4 h2;have h3:v.cells=[]:=by apply Za7;simp at h2;omega
  rw[h3]at h;have h4:aK ([]:List AV) off []=[]:=by simp[aK]
  rw[h4]at h;exact QB h
theorem acH {k : az}{n:Pos}{xs:List AV}{v:AV}{au:AB}(h:k.run (λ_=>none) n xs=some (.aG v none none (some au))):uO n v au:=by
 cases k<;>simp only[az.run]at h
 case alloc z=>unfold F7 at h;split at h<;>cases h;exact .ptr _
 case allocT t z=>unfold Dc at h;split at h<;>cases h;exact .ptrT _ _
 case appendT e bytes=>
  unfold rS at h;split at h<;>first|(cases h;done)|skip
  split at h<;>first|(cases h;done)|skip
  split at h<;>first|(cases h;done)|skip
  . (split at h<;>first|(cases h;done)|skip);split at h<;>cases h;rename_i hb;exact .Y4 _ _ _ (by have:=Zb0 hb;omega)
  . split at h<;>first|(cases h;done)|skip
    repeat' split at h
    all_goals cases h
 case toU=>   unfold Nq at h;repeat' split at h
              all_goals cases h
 case fromU=>   unfold Gc at h;repeat' split at h
                all_goals cases h
 case sliceData=>   unfold qA at h;repeat' split at h
                    all_goals cases h
 case unsafeStr=>   unfold mR at h;repeat' split at h
                    all_goals cases h
 case box=>unfold Np at h;split at h<;>cases h;exact .ptr _
 case buildSlice es len z p=>
  unfold oZ at h;dsimp only at h;split at h<;>cases h;rename_i cs hc;refine .slice _ _ _ _ λh0 _=> ?_
  subst h0;exact QB hc
 case mkMap=>unfold Ga at h;cases h;exact .map
 case mkSlice es b z=>
  unfold wq at h
  repeat' split at h
  all_goals cases h
  refine .slice _ _ _ _ λ_ h1=> ?_
  rcases h1 with h1|h1
  .cases h1
  .simp only[H0]at h1;subst h1;rfl
 case rangeS=>
  unfold Db at h
  repeat' split at h
  all_goals cases h
  exact .iu _
 case conv c=>
  unfold yw at h
  repeat' split at h
  all_goals cases h
  rename_i s;refine .slice _ _ _ _ λh0 _=> ?_
  rw[Za7 h0];rfl
 case append es bytes=>
  unfold eU at h
  repeat' split at h
  all_goals cases h
  all_goals refine .slice _ _ _ _ λh0 _=> ?_
  all_goals (exfalso;rename_i hb _ _;simp_all)
 case move=>unfold KJ at h;split at h<;>cases h
 case pick=>   unfold OY at h;repeat' split at h
               all_goals cases h
 case build=>unfold F8 at h;dsimp only at h;split at h<;>cases h
 case load=>   unfold rR at h;repeat' split at h
               all_goals cases h
 case store=>   unfold Bn at h;repeat' split at h
                all_goals cases h
 case nilCheck=>   unfold DQ at h;repeat' split at h
                   all_goals cases h
 case bin=>   unfold gO at h;repeat' split at h
              all_goals cases h
 case un=>   unfold Xa at h;repeat' split at h
             all_goals cases h
 case mkIface=>   unfold F9 at h;repeat' split at h
                  all_goals cases h
 case mkFunc=>unfold Da at h;dsimp only at h;cases h
 case lookup=>
  unfold u9 at h;split at h<;>first|(cases h;done)|skip
  dsimp only at h;split at h<;>cases h
 case mapSet=>   unfold ve at h;repeat' split at h
                 all_goals cases h
 case sliceS=>
  unfold I0 at h;split at h<;>first|(cases h;done)|skip
  split at h<;>first|(cases h;done)|skip
  dsimp only at h;split at h<;>cases h
 case sliceL=>   unfold nQ at h;repeat' split at h
                 all_goals cases h
 case fieldA=>   unfold I1 at h;repeat' split at h
                 all_goals cases h
 case idxA=>   unfold mQ at h;repeat' split at h
               all_goals cases h
 case field=>   unfold Mo at h;repeat' split at h
                all_goals cases h
 case idxS=>   unfold KL at h;repeat' split at h
               all_goals cases h
 case extract=>   unfold AH at h;repeat' split at h
                  all_goals cases h
 case callF=>unfold Mp at h;dsimp only at h;cases h
 case callV=>   unfold Mq at h;repeat' split at h
                all_goals cases h
 case lenB=>   unfold EH at h;repeat' split at h
               all_goals cases h
 case copyB=>
  unfold yx at h;split at h<;>first|(cases h;done)|skip
  split at h<;>first|(cases h;done)|skip
  dsimp only at h
  repeat' split at h
  all_goals cases h
 case minB=>   unfold A0 at h;repeat' split at h
               all_goals cases h
 case maxB=>   unfold A3 at h;repeat' split at h
               all_goals cases h
 case clearS=>   unfold vg at h;repeat' split at h
                 all_goals cases h
 case nextS=>   unfold Gb at h;repeat' split at h
                all_goals cases h
 case capB=>cases h
 case bad=>cases h
end
section
def kj(call:ah):Prop:=∀f args st v st',call f args st=some (v,st')->st.next.toNat<=st'.next.toNat
section
variable{call:ah}
theorem Gt(hm:kj call){k:az}{xs:List AV}{st st':St}{v:AV}(h:bT call k xs st=some (v,st')):st.next.toNat<=st'.next.toNat:=by
 unfold bT at h;split at h
 .simp only[H0,Za8]at h;rw[h.2];exact Za1 _
 .simp only[H0,Za8]at h;rw[<-h.2];exact St.S6 _ _ _ _
 .exact hm _ _ _ _ _ h
 .cases h
theorem Jd(hm:kj call):∀(os:List aX)(fr aQ:Fr)(st st':St),g7 call os fr st=some (aQ,st')->st.next.toNat<=st'.next.toNat
 |[],fr,aQ,st,st',h=>by simp only[g7,H0,Za8]at h;rw[h.2];exact Za1 _
 |o ::os,fr,aQ,st,st',h=>by
  unfold g7 at h;split at h
  . (split at h<;>first|(cases h;done)|skip);(split at h<;>first|(cases h;done)|skip);rename_i hs;exact Zc4 (Gt hm hs) (Jd hm os _ _ _ _ h)
  .exact Jd hm os _ _ _ _ h
  .cases h
theorem rX(hm:kj call):∀(os:List (Nat×aX))(recs:List Rec)(base:T AB)(fr aQ:Fr)(st st':St),cB call os recs base fr st=some (aQ,st')->st.next.toNat<=st'.next.toNat
 |[],recs,base,fr,aQ,st,st',h=>by simp only[cB,H0,Za8]at h;rw[h.2];exact Za1 _
 |(j,   o)::os,recs,base,fr,aQ,st,st',h=>by
  have hs:st.next.toNat<=st.next.succ.toNat:=by rw[Pos.aB];omega
  unfold cB at h;split at h
  .exact rX hm os _ _ _ _ _ _ h
  . (split at h<;>first|(cases h;done)|skip);split at h
    .   (split at h<;>first|(cases h;done)|skip);exact Zc4 hs (rX hm os _ _ _ _ _ _ h)
    .   (split at h<;>first|(cases h;done)|skip);rename_i hs;exact Zc4 (Gt hm hs) (rX hm os _ _ _ _ _ _ h)
    .   split at h
        .exact rX hm os _ _ _ _ _ _ h
        . (split at h<;>first|(cases h;done)|skip);(split at h<;>first|(cases h;done)|skip);exact rX hm os _ _ _ _ _ _ h
  .cases h
theorem Dm(hm:kj call):∀(m:Nat)(c:AC)(fr aQ:Fr)(st st':St)(ex:iy),exec call m c fr st=some (ex,aQ,st')->st.next.toNat<=st'.next.toNat
 |0,c,fr,aQ,st,st',ex,h=>by simp[exec]at h
 |m +   1,c,fr,aQ,st,st',ex,h=>by
  have ih:=Dm hm m;simp only[exec]at h;unfold aR at h;split at h
  .simp only[H0,Za8]at h;rw[h.2.2];exact Za1 _
  . (split at h<;>first|(cases h;done)|skip);rename_i hs;simp only[H0,Za8]at h;rw[<-h.2.2];exact Jd hm _ _ _ _ _ hs
  . (split at h<;>first|(cases h;done)|skip);rename_i hs;simp only[H0,Za8]at h;rw[<-h.2.2];exact rX hm _ _ _ _ _ _ _ hs
  . split at h
    .   rename_i hs;exact Zc4 (ih _ _ _ _ _ _ hs) (ih _ _ _ _ _ _ h)
    .   exact ih _ _ _ _ _ _ h
  .split at h<;>first|(cases h;done)|exact ih _ _ _ _ _ _ h
  . split at h
    .   rename_i hs;split at h<;>(simp only[H0,Za8]at h;rw[<-h.2.2];exact ih _ _ _ _ _ _ hs)
    .   exact ih _ _ _ _ _ _ h
  . split at h
    .   rename_i hs;exact Zc4 (ih _ _ _ _ _ _ hs) (ih _ _ _ _ _ _ h)
    .   exact ih _ _ _ _ _ _ h
  .simp only[H0,Za8]at h;rw[h.2.2];exact Za1 _
  .simp only[H0,Za8]at h;rw[h.2.2];exact Za1 _
def jr(O:dG):Prop:=∀f s,O f=some s->∀args st v st',s args st=some (v,st')->st.next.toNat<=st'.next.toNat
theorem Gu{O:dG}{G:T cq}(hO:jr O)(m:Nat):∀d,kj (n6 O G m d)
 |0=>λf args st v st' h=>by simp[n6]at h
 |d +   1=>λf args st v st' h=>by
  have ih:=Gu (G:=G) hO m d;unfold n6 at h;split at h
  .rename_i s hs;exact hO f s hs args st v st' h
  . (split at h<;>first|(cases h;done)|skip);(split at h<;>first|(cases h;done)|skip);split at h<;>first|(cases h;done)|skip
    .   rename_i hs;(split at h<;>first|(cases h;done)|skip);simp only[H0,Za8]at h;rw[<-h.2];exact Dm ih _ _ _ _ _ _ _ hs
    .   rename_i hs;(split at h<;>first|(cases h;done)|skip);simp only[H0,Za8]at h;rw[<-h.2];exact Dm ih _ _ _ _ _ _ _ hs
end
def kq(bJ:Fr):List Rec->Fr
 |[]=>bJ
 |r::R=>cE (kq bJ R) r.o.dst r.v
def cI(n0:Pos):List Rec->Pos
 |[]=>n0
 |r::_=>r.nx
def RC.jP:RC->Bool
 |.aG _ _=>true
 |_=>false
def gQ(h0:T AB):List Rec->T AB
 |[]=>h0
 |  r::R=>match r.c with
    |.aG _ h=>h
    |_=>gQ h0 R
def gR(h0:T AB):List Rec->T AB
 |[]=>h0
 |  r::R=>match r.c with
    |.aG _ h=>h
    |.new id au=>(gR h0 R).put (some au) id
    |.pure=>gR h0 R
def Dn:List Rec->Prop
 |[]=>True
 |r::_=>r.c.jP=true
def Td(h0:T AB)(R:List Rec)(o:aX)(xs:List AV)(v:AV):Prop:=
 ∀  A B,R=A++B->Dn B->(∀r∈A,r.c.jP=true->o.br.testBit r.idx=false)->
    ∃h:T AB,(∀b x,h.get b=some x->(gQ h0 B).get b=some x\/∃r∈A,r.c= .new b x/\o.br.testBit r.idx=true)/\o.k.run (λb=>h.get b) .h xs=some (.val v)
inductive mV(call:ah)(bJ:Fr)(h0:T AB)(n0:Pos):Rec->List Rec->Prop where
 |skip (i:Nat) (o:aX) (R:List Rec) (hw:bC (kq bJ R) o.guard=some false):
  mV call bJ h0 n0 { idx:=i,o:=o,v:= .undef,c:= .pure,nx:=cI n0 R } R
 |pure (i:Nat) (o:aX) (v:AV) (xs:List AV) (R:List Rec) (hw:bC (kq bJ R) o.guard=some true) (hx:dB (kq bJ R) o.xs=some xs) (hr:Td h0 R o xs v):
  mV call bJ h0 n0 { idx:=i,o:=o,v:=v,c:= .pure,nx:=cI n0 R } R
 |new (i:Nat) (o:aX) (v:AV) (au:AB) (xs:List AV) (R:List Rec) (hw:bC (kq bJ R) o.guard=some true) (hx:dB (kq bJ R) o.xs=some xs)
  (hr:o.k.run (λ_=>none) (cI n0 R) xs=some (.aG v none none (some au))):
  mV call bJ h0 n0 { idx:=i,o:=o,v:=v,c:= .new (cI n0 R) au,nx:=(cI n0 R).succ } R
 |aG (i:Nat) (o:aX) (v:AV) (st':St) (xs:List AV) (R:List Rec) (hc:o.cls= .aG) (hw:bC (kq bJ R) o.guard=some true) (hx:dB (kq bJ R) o.xs=some xs)
  (hr:bT call o.k xs { heap:=gR h0 R,next:=cI n0 R }=some (v,st')):
  mV call bJ h0 n0 { idx:=i,o:=o,v:=v,c:= .aG (gQ h0 R) st'.heap,nx:=st'.next } R
def Good(call:ah)(bJ:Fr)(h0:T AB)(n0:Pos):List Rec->Prop
 |[]=>True
 |r::R=>mV call bJ h0 n0 r R/\Good call bJ h0 n0 R
section
variable{call:ah}{bJ:Fr}{h0:T AB}{n0:Pos}
theorem Good.tail:∀{A B:List Rec},Good call bJ h0 n0 (A++B)->Good call bJ h0 n0 B
 |[],_,h=>h
 |_::_,_,h=>Good.tail h.2
theorem Good.at{A B:List Rec}{r:Rec}(h:Good call bJ h0 n0 (A++r::B)):mV call bJ h0 n0 r B:=(Good.tail h).1
theorem Gv:∀{A B:List Rec},(∀r∈A,r.c.jP=false)->gQ h0 (A++B)=gQ h0 B
 |[],_,_=>rfl
 |r::A,B,h=>by
  have h1:=h r (Zc2 ..);have ih:=Gv (A:=A) (B:=B) λr hr=>h r (Za3 _ hr)
  simp only[Ze9,gQ];split
  .rename_i hc;rw[hc]at h1;cases h1
  .exact ih
theorem MB{br:Nat}:∀{A B:List Rec}{h:T AB}{b:Pos}{x:AB},(∀r∈A,r.c.jP=false)->Dn B->(snap br h (A++B)).get b=some x->
  h.get b=some x\/∃r∈A,r.c= .new b x/\br.testBit r.idx=true
 |[],B,h,b,x,_,hB,hs=>by
  cases B with
  |nil=>exact .inl hs
  | cons r B=>
    simp only[Dn]at hB;simp only[Ze5,snap]at hs;(cases hc:r.c<;>rw[hc]at hB<;>first|(cases hB;done)|skip);rw[hc]at hs;exact .inl hs
 |r ::A   ,B,h,b,x,hA,hB,hs=>by
  have ih:=@MB br A B h b x (λr hr=>hA r (Za3 _ hr)) hB;have up:(h.get b=some x\/∃r∈A,r.c= .new b x/\br.testBit r.idx=true)->h.get b=some x\/∃r'∈r::A,r'.c= .new b x/\br.testBit r'.idx=true:=λh1=>
    h1.imp id λ⟨r',h2,h3⟩=>⟨r',Za3 _ h2,h3⟩
  simp only[Ze9,snap]at hs;cases hc:r.c with
  |pure=>rw[hc]at hs;exact up (ih hs)
  |aG b1 h1=>have:=hA r (Zc2 ..);rw[hc]at this;cases this
  | new   id au=>
    rw[hc]at hs;cases ht:br.testBit r.idx with
    |false=>simp only[ht]at hs;exact up (ih hs)
    |   true=>
        simp only[ht]at hs;by_cases NR:id=b
        .subst NR;rw[T.dP]at hs;simp only[H0]at hs;subst hs;exact .inr ⟨r,Zc2 ..,hc,ht⟩
        .rw[T.bn _ NR]at hs;exact up (ih hs)
theorem QC:∀{up:List (Pos×AB)}{h:T AB}{b:Pos}{x:AB},(wu up h).get b=some x->h.get b=some x\/(b,x)∈up
 |[],_,_,_,h=>.inl h
 |(id,au)::up,h,b,x,hs=>by
  unfold wu at hs;by_cases NR:id=b
  .subst NR;rw[T.dP]at hs;simp only[H0]at hs;subst hs;exact .inr (Zc2 ..)
  .rw[T.bn _ NR]at hs;exact(QC hs).imp (λh=>h) λh=>Za3 _ h
theorem Gw:∀(A:List Rec),(∀r∈A,r.c.jP=false)\/∃r∈A,r.c.jP=true
 |[]=>.inl λr h=>by cases h
 |r::A=>by
  cases hr:r.c.jP with
  |true=>exact .inr ⟨r,Zc2 ..,hr⟩
  |false=>
   rcases Gw A with h|⟨r',h1,h2⟩
   . exact .inl λr' o8=>by
      rcases Za2.1 o8 with rfl|h'
      .exact hr
      .exact h r' h'
   .exact .inr ⟨r',Za3 _ h1,h2⟩
theorem H9{br:Nat}{k:az}{xs:List AV}{v:AV}:∀(A B:List Rec)(up:List (Pos×AB)),jf br k xs v up (A++B)=true->Good call bJ h0 n0 (A++B)->Dn B->
  (∀r∈A,r.c.jP=true->br.testBit r.idx=false)->(∃r∈A,r.c.jP=true)->
  ∃h:T AB,(∀b x,h.get b=some x->(gQ h0 B).get b=some x\/(∃r∈A,r.c= .new b x/\br.testBit r.idx=true)\/(b,x)∈up)/\k.run (λb=>h.get b) .h xs=some (.val v)
 |[],B,up,_,_,_,_,he=>by obtain⟨r,hr,_⟩:=he;cases hr
 |r::A    , B,up,Dp,hG,hB,hn,he=>by
  have Te:∀r∈A,r.c.jP=true->br.testBit r.idx=false:=λr' o8=>hn r' (Za3 _ o8)
  have ih:=λup (h2:jf br k xs v up (A++B)=true) h3=>H9 A B up h2 hG.2 hB Te h3
  simp only[Ze9,jf]at Dp;cases hc:r.c with
  |pure=>
   rw[hc]at Dp;have ji:∃r∈A,r.c.jP=true:=by
        obtain⟨r',h1,h2⟩:=he;rcases Za2.1 h1 with rfl|h1
        .rw[hc]at h2;cases h2
        .exact⟨r',h1,h2⟩
   obtain⟨h,h1,h2⟩:=ih up Dp ji;exact⟨h,λb x hb=>(h1 b x hb).imp (λh=>h) (Or.imp (λ⟨r',h3,h4⟩=>⟨r',Za3 _ h3,h4⟩) λh=>h),h2⟩
  |new    id au=>
   rw[hc]at Dp;have ji:∃r∈A,r.c.jP=true:=by
        obtain⟨r',h1,h2⟩:=he;rcases Za2.1 h1 with rfl|h1
        .rw[hc]at h2;cases h2
        .exact⟨r',h1,h2⟩
   cases ht:br.testBit r.idx with
   |    false=>
        simp only[ht]at Dp;obtain⟨h,h1,h2⟩:=ih up Dp ji;exact⟨h,λb x hb=>(h1 b x hb).imp (λh=>h) (Or.imp (λ⟨r',h3,h4⟩=>⟨r',Za3 _ h3,h4⟩) λh=>h),h2⟩
   |    true=>
        simp only[ht]at Dp;obtain⟨h,h1,h2⟩:=ih _ Dp ji;refine⟨h,λb x hb=> ?_,h2⟩;rcases h1 b x hb with h3|⟨r',h3,h4⟩|h3
        .exact .inl h3
        .exact .inr (.inl ⟨r',Za3 _ h3,h4⟩)
        . rcases Za2.1 h3 with h3|h3
          .simp only[Za8]at h3;obtain⟨rfl,rfl⟩:=h3;exact .inr (.inl ⟨r,Zc2 ..,hc,ht⟩)
          .exact .inr (.inr h3)
  |aG base h=>
   rw[hc]at Dp;have ht:=hn r (Zc2 ..) (by rw[hc];rfl);simp only[ht,Za4]at Dp;rcases Gw A with hA|hA
   .    have Sc:base=gQ h0 B:=(by have hs:=hG.1;(cases hs<;>simp only at hc<;>first|(cases hc;done)|skip);simp only[RC.aG.injEq]at hc;rw[<-hc.1];exact Gv hA);have hra:=Dp.1;unfold mS at hra;(split at hra<;>first|(cases hra;done)|skip);rename_i u hu;rw[oe hra]at hu;refine⟨_,λb x hb=> ?_,hu⟩;rcases QC hb with hb|hb
        . rcases MB hA hB hb with h3|⟨r',h3,h4⟩
          .rw[<-Sc];exact .inl h3
          .exact .inr (.inl ⟨r',Za3 _ h3,h4⟩)
        .exact .inr (.inr hb)
   .    obtain⟨h,h1,h2⟩:=ih up Dp.2 hA;exact⟨h,λb x hb=>(h1 b x hb).imp (λh=>h) (Or.imp (λ⟨r',h3,h4⟩=>⟨r',Za3 _ h3,h4⟩) λh=>h),h2⟩
theorem NT:∀(L:List (Nat×aX))(R:List Rec)(fr aQ:Fr)(st st':St),cB call L R (gQ h0 R) fr st=some (aQ,st')->Good call bJ h0 n0 R->
  fr=kq bJ R->st.heap=gR h0 R->st.next=cI n0 R->
  ∃R',Good call bJ h0 n0 (R'++R)/\(R'.map λr=>(r.idx,r.o))=L.reverse/\aQ=kq bJ (R'++R)/\st'.heap=gR h0 (R'++R)/\st'.next=cI n0 (R'++R)
 |[],R,fr,aQ,st,st',h,hG,h1,h2,h3=>by
  simp only[cB,H0,Za8]at h;obtain⟨rfl,rfl⟩:=h;exact⟨[],hG,rfl,h1,h2,h3⟩
 |(j,   o)::  L,R,fr,aQ,st,st',h,hG,h1,h2,h3=>by
  have fin:∀(r:Rec)(aL:St)(bI:Fr),r.idx=j->r.o=o->mV call bJ h0 n0 r R->bI=kq bJ (r::R)->aL.heap=gR h0 (r::R)->aL.next=r.nx->
        cB call L (r::R) (gQ h0 (r::R)) bI aL=some (aQ,st')->
        ∃R',Good call bJ h0 n0 (R'++R)/\(R'.map λr=>(r.idx,r.o))=((j,o)::L).reverse/\aQ=kq bJ (R'++R)/\st'.heap=gR h0 (R'++R)/\st'.next=cI n0 (R'++R):=by
    intro r aL bI hj ho hs k1 k2 k3 hd;obtain⟨R',g1,g2,g3,g4,g5⟩:=NT L (r::R) bI aQ aL st' hd ⟨hs,hG⟩ k1 k2 k3;have e:R'++r::R=(R'++[r])++R:=(by simp);rw[e]at g1 g3 g4 g5;exact⟨R'++[r],g1,by simp[g2,hj,ho],g3,g4,g5⟩
  unfold cB at h;subst h1;split at h
  .rename_i hw;exact fin _ _ _ rfl rfl (h3 ▸mV.skip j o R hw) rfl h2 rfl h
  . rename_i hw;(split at h<;>first|(cases h;done)|skip);rename_i xs hx;split at h
    .   (split at h<;>first|(cases h;done)|skip);rename_i v au hr;rw[h3]at hr;have hs:=mV.new (call:=call) (bJ:=bJ) (h0:=h0) (n0:=n0) j o v au xs R hw hx hr;rw[<-h3]at hs;refine fin _ _ _ rfl rfl hs rfl ?_ rfl h;simp only[gR,h2]
    .   rename_i aaO;(split at h<;>first|(cases h;done)|skip);rename_i v aL hr;have nU:st={ heap:=gR h0 R,next:=cI n0 R }:=(by cases st;simp_all);rw[nU]at hr;exact fin _ aL _ rfl rfl (mV.aG j o v aL xs R aaO hw hx hr) rfl rfl rfl h
    .   split at h
        . rename_i v hr;have QD:Td h0 R o xs v:=by
           intro A B _ _ _;refine⟨.e,λb x hb=> ?_,?_⟩
           .  rw[T.cT]at hb;cases hb
           .  have e:(λb=>T.get b (T.e:T AB))=λ_=>none:=(by funext b;exact T.cT b);rw[e];exact hr
          exact fin _ _ _ rfl rfl (h3 ▸mV.pure j o v xs R hw hx QD) rfl h2 rfl h
        . (split at h<;>first|(cases h;done)|skip);rename_i v hr;(split at h<;>first|(cases h;done)|skip);rename_i Dp;have QD:Td h0 R o xs v:=by
           intro A B hAB hB hn;subst hAB;rcases Gw A with hA|hA
           .  refine⟨_,λb x hb=> ?_,hr⟩;have:=MB hA hB hb;rw[Gv hA]at this;exact this
           .  obtain⟨h,k1,k2⟩:=H9 A B [] Dp hG hB hn hA;exact⟨h,λb x hb=>(k1 b x hb).imp id λh=>h.resolve_right (by simp),k2⟩
          exact fin _ _ _ rfl rfl (h3 ▸mV.pure j o v xs R hw hx QD) rfl h2 rfl h
  .cases h
end
end
section
open Go
structure Late(m:Nat)(pre:List Nat)(L:List (Nat×aX)):Prop where
 all:∀i,i<m->i∈pre\/i∈L.map (·.1)
 lt:∀x∈L,x.1<m
 one:∀A i o B,L=A++(i,o)::B->i∉pre/\i∉A.map (·.1)
 br:∀A i o B,L=A++(i,o)::B->∀b,o.br.testBit b=true->b∈pre\/b∈A.map (·.1)
 aG:∀A i o B,L=A++(i,o)::B->o.cls= .aG->∀b,(b∈pre\/b∈A.map (·.1))->o.br.testBit b=true
 apart:∀A i o B,L=A++(i,o)::B->∀x∈B,x.2.br.testBit i=true\/I2 o x.2=true
theorem LC{m:Nat}:∀(L:List (Nat×aX))(seen:Nat)(pre:List Nat),EK m seen L=true->(∀b,seen.testBit b=true↔b∈pre)->Late m pre L
 |[],seen,pre,h,hs=>by
  simp only[EK]at h;have:=H2 h;refine⟨λi hi=>.inl ((hs i).1 ?_),λx hx=>(by cases hx),λA i o B h=> ?_,λA i o B h=> ?_,λA i o B h=> ?_,λA i o B h=> ?_⟩
  .rw[this,Nat.testBit_two_pow_sub_one];simpa using hi
  all_goals (cases A<;>cases h)
 |(i,   o)::L,seen,pre,h,hs=>by
  simp only[EK,Za4]at h;obtain⟨⟨⟨⟨⟨h1,h2⟩,h3⟩,h4⟩,h5⟩,h6⟩:=h;have h1:i<m:=H4 h1;have h2:i∉pre:=λhp=>by rw[(hs i).2 hp]at h2;cases h2
  have h3:=H2 h3;have hb:∀b,o.br.testBit b=true->b∈pre:=λb hb=>by rw[<-h3,Nat.testBit_and,Za4]at hb;exact(hs b).1 hb.2
  have he:o.cls= .aG->∀b,b∈pre->o.br.testBit b=true:=λhc b hp=>by rw[hc]at h4;rw[H2 h4];exact(hs b).2 hp
  have ih:=LC L (seen ||| 2 ^ i) (pre++[i]) h6 (λb=>by
    rw[Nat.testBit_or,Nat.testBit_two_pow,Zg6,hs b,Zd2];simp[eq_comm])
  rw[Zd6]at h5;have Se:∀{A:List (Nat×aX)}{j:Nat}{p:aX}{B:List (Nat×aX)},(i,o)::L=A++(j,p)::B->(A=[]/\i=j/\o=p/\L=B)\/∃A',A=(i,o)::A'/\L=A'++(j,p)::B:=by
    intro A j p B hA;cases A with
    |nil=>simp at hA;exact .inl ⟨rfl,hA.1.1,hA.1.2,hA.2⟩
    |cons x A=>simp at hA;exact .inr ⟨A,by rw[hA.1],hA.2⟩
  refine⟨λj hj=> ?_,λx hx=> ?_,λA j p B hA=> ?_,λA j p B hA=> ?_,λA j p B hA=> ?_,λA j p B hA=> ?_⟩
  . rcases ih.all j hj with h|h
    .   rcases Zd2.1 h with h|h
        .exact .inl h
        .simp at h;exact .inr (by simp[h])
    .   exact .inr (by simp only[Zb1,Za2];exact .inr h)
  . rcases Za2.1 hx with rfl|hx
    .   exact h1
    .   exact ih.lt x hx
  . rcases Se hA with⟨rfl,rfl,rfl,rfl⟩|⟨A',rfl,Ia⟩
    .   exact⟨h2,by simp⟩
    .   obtain⟨k1,k2⟩:=ih.one A' j p B Ia;simp only[Zd2,Zc3,not_or]at k1;exact⟨k1.1,by simp only[Zb1,Za2,not_or];exact⟨k1.2,k2⟩⟩
  . rcases Se hA with⟨rfl,rfl,rfl,rfl⟩|⟨A',rfl,Ia⟩
    .   exact λb iX=>.inl (hb b iX)
    .   intro b iX;rcases ih.br A' j p B Ia b iX with h|h
        . rcases Zd2.1 h with h|h
          .exact .inl h
          .simp at h;exact .inr (by simp[h])
        .exact .inr (by simp only[Zb1,Za2];exact .inr h)
  . rcases Se hA with⟨rfl,rfl,rfl,rfl⟩|⟨A',rfl,Ia⟩
    .   intro hc b iX;rcases iX with h|h
        .exact he hc b h
        .simp at h
    .   intro hc b iX;refine ih.aG A' j p B Ia hc b ?_;rcases iX with h|h
        .exact .inl (Zd2.2 (.inl h))
        . simp only[Zb1,Za2]at h;rcases h with rfl|h
          .exact .inl (by simp)
          .exact .inr h
  . rcases Se hA with⟨rfl,rfl,rfl,rfl⟩|⟨A',rfl,Ia⟩
    .   intro x hx;have:=h5 x hx
        rwa [Zg6]at this
    .   exact ih.apart A' j p B Ia
inductive Reach(ops:Array Oper):Nat->Nat->Prop where
 |edge (i:Nat) (o:Oper) (e:Edge) (ho:ops[i]? =some o) (he:e∈o.after) (hb:Region.binds .any e=true):Reach ops i e.on
 |trans (i:Nat) (o:Oper) (e:Edge) (b:Nat) (ho:ops[i]? =some o) (he:e∈o.after) (hb:Region.binds .any e=true) (h:Reach ops e.on b):Reach ops i b
def Xu(ops:Array Oper)(i m:Nat):Prop:=
 (∀o,ops[i]? =some o->∀e∈o.after,Region.binds .any e=true->m.testBit e.on=true)/\∀b,m.testBit b=true->Reach ops i b
theorem Pb(acc:List Nat):∀(l:List Edge)(s b:Nat),(l.foldl (λs e=>match Region.binds .any e with
   |true=>s ||| 2 ^ e.on ||| (nth acc e.on).getD 0
   |false=>s) s).testBit b=true↔s.testBit b=true\/∃e∈l,Region.binds .any e=true/\(e.on=b\/((nth acc e.on).getD 0).testBit b=true)
 |[],s,b=>by simp
 |e::l,s,b=>by
  rw[Zo2,Pb acc l];cases he:Region.binds .any e with
  |false=>simp[he]
  |true=>
   simp only[Nat.testBit_or,Zg6,Nat.testBit_two_pow,Zc6,Za2,exists_eq_or_imp,he,true_and];constructor
   .    rintro(((h|h)|h)|h)
        .exact .inl h
        .exact .inr (.inl (.inl h))
        .exact .inr (.inl (.inr h))
        .exact .inr (.inr h)
   .    rintro(h|(h|h)|h)
        .exact .inl (.inl (.inl h))
        .exact .inl (.inl (.inr h))
        .exact .inl (.inr h)
        .exact .inr h
theorem Wa {ops:Array Oper}:∀(os:List Oper)(acc:List Nat),os=ops.toList.drop acc.length->acc.length<=ops.size->(∀i,i<acc.length->Xu ops i (acc.getD i 0))->
  ∀i,i<ops.size->Xu ops i ((SC os acc).getD i 0)
 |[],acc,Wb,hl,Xv,i,hi=>by
  have h1:(ops.toList.drop acc.length).length=0:=by rw[<-Wb];rfl
  have:ops.size<=acc.length:=by simp at h1;omega
  exact Xv i (by omega)
 |o ::os,acc,Wb,hl,Xv,i,hi=>by
  simp only[SC];have ho:ops[acc.length]? =some o:=by have:(ops.toList.drop acc.length)[0]? =some o:=(by rw[<-Wb];rfl);simpa using this
  have aY:acc.length<ops.size:=(Zb8.1 ho).1;refine Wa os _ ?_ (by simp;omega) (λj hj=> ?_) i hi
  .rw[Zd8,List.length_singleton, <-Zl4, <-Wb];rfl
  . rcases Zi0 j acc.length with h|h
    .   rw[Zd5,Zc7 h, <-Zd5];exact Xv j h
    .   have Ad:j=acc.length:=(by simp at hj;omega);subst Ad;rw[Zd5,Zc8 (Za1 _)];simp only[Zn1,Ze6,Zi5];refine⟨λo' Dl e he hb=> ?_,λb hb=> ?_⟩
        .rw[ho]at Dl;simp only[H0]at Dl;subst Dl;exact(Pb acc _ 0 e.on).2 (.inr ⟨e,by simpa using he,hb,.inl rfl⟩)
        . have hb:=(Pb acc _ 0 b).1 hb;rcases hb with hb|⟨e,he,iX,hb⟩
          .simp at hb
          . have ji:e∈o.after:=(by simpa using he);rcases hb with rfl|hb
            .exact .edge _ o e ho ji iX
            . refine .trans _ o e b ho ji iX ?_;rw[jL]at hb;rcases Zi0 e.on acc.length with h|h
              .exact(Xv _ h).2 b (by rw[Zd5];exact hb)
              .rw[Zb4 h]at hb;simp at hb
theorem Wc:∀(l:List aX)(k:Nat)(x:Nat×aX),x∈Bo k l->∃i,x.1=k+i/\l[i]? =some x.2
 |[],k,x,h=>by cases h
 |o ::l,k,x,h=>by
  simp only[Bo,Za2]at h;rcases h with rfl|h
  .exact⟨0,rfl,rfl⟩
  .obtain⟨i,h1,h2⟩:=Wc l (k+1) x h;exact⟨i+1,by omega,by simpa using h2⟩
theorem Je:∀(l held:List (Nat×aX))(x:Nat×aX),x∈uz l held->x∈l\/x∈held
 |[],held,x,h=>.inr h
 |(i,   o)::l,held,x,h=>by
  unfold uz at h;split at h
  . rcases Zd2.1 h with h|h
    .   exact .inr (Zo3.1 h).1
    .   rcases Za2.1 h with h|h
        .exact .inl (by rw[h];exact Zc2 ..)
        . rcases Je l _ x h with h|h
          .exact .inl (Za3 _ h)
          .exact .inr (Zo3.1 h).1
  . rcases Je l _ x h with h|h
    .   exact .inl (Za3 _ h)
    .   rcases Zd2.1 h with h|h
        .exact .inr h
        .simp at h;exact .inl (by rw[h];exact Zc2 ..)
theorem acI{l:List aX}{x:Nat×aX}(h:x∈uz (Bo 0 l) []):l[x.1]? =some x.2:=by
 rcases Je _ _ _ h with h|h
 .obtain⟨i,h1,h2⟩:=Wc l 0 x h;rw[h1,Zb9];exact h2
 .cases h
theorem Gx{p:Pos}:∀{l:List Pos},EJ p l=true↔p∈l
 |[]=>by simp[EJ]
 |q::l=>by simp[EJ,Gx (l:=l),Pos.beq_eq]
theorem DZ{a b:aX}(h:I2 a b=true):
   (∀d,a.dst=some d->d∉b.looks/\b.dst≠some d)/\(∀d,b.dst=some d->d∉a.looks):=by
 unfold I2 at h;rw[Za4]at h;obtain⟨h1,h2⟩:=h;constructor
 . intro d hd;rw[hd]at h1;simp only[Za4,Zg9]at h1;refine⟨λhm=> ?_,λhb=> ?_⟩
   .rw[Gx.2 hm]at h1;exact absurd h1.1 (by simp)
   .rw[hb]at h1;have:Pos.beq d d=true:=Pos.beq_eq.2 rfl;simp[this]at h1
 .intro d hd hm;rw[hd]at h2;simp only[Zg9]at h2;rw[Gx.2 hm]at h2;cases h2
section
variable(P:Program)(tt:TT)(C:Cells)(nt:Nat)(ops:Array Oper)(call:ah)(bJ:Fr)(h0:T AB)(n0:Pos)(R:List Rec)
structure wI:Prop where
 MD:Good call bJ h0 n0 R
 mono:kj call
 one:∀A r B,R=A++r::B->∀r'∈B,r'.idx≠r.idx
 br:∀A r B,R=A++r::B->∀b,r.o.br.testBit b=true->∃r'∈B,r'.idx=b
 aG:∀A r B,R=A++r::B->r.o.cls= .aG->∀r'∈B,r.o.br.testBit r'.idx=true
 apart:∀A r B,R=A++r::B->∀r'∈A,r'.o.br.testBit r.idx=true\/I2 r.o r'.o=true
 rel:∀r∈R,∃o,ops[r.idx]? =some o/\rW tt nt ops o r.o/\Xu ops r.idx r.o.br
 all:∀i,i<ops.size->∃r∈R,r.idx=i
def Kept(D:Nat->Prop)(b:Pos):Prop:=∀A r B,R=A++r::B->¬D r.idx->b.toNat<(cI n0 B).toNat\/r.nx.toNat<=b.toNat
def T1(D:Nat->Prop)(ρ:Pos->Loc)(tmps:Array Value):Prop:=
 ∀M s T p,R=M++s::T->D s.idx->s.o.dst=some p->(∀s'∈M,D s'.idx->s'.o.dst≠some p)->∃x,tmps[p.toNat - 1]? =some x/\aj ρ s.nx.toNat C s.v x
def T0(D:Nat->Prop)(ρ:Pos->Loc)(tmps:Array Value):Prop:=
 ∀p v,bJ.get p=some v->(∀s∈R,D s.idx->s.o.dst≠some p)->∃x,tmps[p.toNat - 1]? =some x/\aj ρ n0.toNat C v x
structure QE(D:Nat->Prop)(A B:List Rec)(a:Act):Prop where
 split:R=A++B
 bound:Dn B
 inB:∀r∈B,D r.idx
 Tf:∀r∈A,D r.idx->r.c.jP=false
 closed:∀i o e,D i->ops[i]? =some o->e∈o.after->Region.binds .any e=true->D e.on
 size:a.tmps.size=nt
 defers:a.defers=[]
structure Inv0(iY:Pos->Loc)(w0:World)(D:Nat->Prop)(A B:List Rec)(ρ:Pos->Loc)(a:Act)(w:World):Prop where
 W:aP ρ C { heap:=gQ h0 B,next:=cI n0 B } w
 N:∀r∈A,D r.idx->∀id au,r.c= .new id au->j7 ρ r.nx.toNat C (ρ id) w au/\(ρ id).au<w.heap.size/\w0.heap.size<=(ρ id).au/\
  (∀b x,(gQ h0 B).get b=some x->(ρ b).au≠(ρ id).au)/\(∀ad v,C ad=some v->(ρ id).au≠ad.block)
 N2:∀r∈A,D r.idx->∀id au,r.c= .new id au->∀r'∈A,D r'.idx->∀qf zL,r'.c= .new qf zL->id≠qf->(ρ id).au≠(ρ qf).au
 t1:T1 C R D ρ a.tmps
 t0:T0 C bJ n0 R D ρ a.tmps
 E:iL iY { heap:=h0,next:=n0 } w0 ρ { heap:=gQ h0 B,next:=cI n0 B } w
 AL:∀b:Pos,b.toNat<n0.toNat->ρ b=iY b
def Inv(iY:Pos->Loc)(w0:World)(D:Nat->Prop)(A B:List Rec)(ρ:Pos->Loc)(a:Act)(w:World):Prop:=
 QE nt ops R D A B a/\∀ρ',(∀b,Kept n0 R D b->ρ' b=ρ b)->Inv0 C bJ h0 n0 R iY w0 D A B ρ' a w
end
section
variable{P:Program}{tt:TT}{C:Cells}{nt:Nat}{ops:Array Oper}{call:ah}{bJ:Fr}{h0:T AB}{n0:Pos}{R:List Rec}
theorem BF(h:∀A r B,R=A++r::B->∀r'∈B,r'.idx≠r.idx){X X' Y Y':List Rec}{r r':Rec}(h1:R=X++r::Y)(h2:R=X'++r'::Y')(hi:r.idx=r'.idx):
   X=X'/\r=r'/\Y=Y':=by
 have h3:X++r::Y=X'++r'::Y':=h1.symm.trans h2;rcases List.append_eq_append_iff.1 h3 with⟨Z,hX,hZ⟩|⟨Z,hX,hZ⟩
 . cases Z with
   |nil=>simp at hZ hX;exact⟨hX.symm,hZ.1,hZ.2⟩
   |cons z Z=>
    simp at hZ;exact absurd hi.symm (h X r Y h1 r' (by rw[hZ.2];simp))
 . cases Z with
   |nil=>simp at hZ hX;exact⟨hX,hZ.1.symm,hZ.2.symm⟩
   |cons z Z=>
    simp at hZ;exact absurd hi (h X' r' Y' h2 r (by rw[hZ.2];simp))
theorem jF{r:Rec}(h:r∈R):∃A B,R=A++r::B:=List.append_of_mem h
theorem Wd(hm:kj call){r:Rec}{B:List Rec}(h:mV call bJ h0 n0 r B):(cI n0 B).toNat<=r.nx.toNat:=by
 cases h with
 |skip=>exact Za1 _
 |pure=>exact Za1 _
 |new=>simp only[Pos.aB];omega
 |aG i o v st' xs _ hc hw hx hr=>exact Gt hm hr
theorem Pc(hm:kj call):∀{A B:List Rec},Good call bJ h0 n0 (A++B)->(cI n0 B).toNat<=(cI n0 (A++B)).toNat
 |[],_,_=>Za1 _
 |r::A,B,h=>Zc4 (Pc hm (A:=A) h.2) (Wd hm h.1)
namespace wI
variable(G:wI tt nt ops call bJ h0 n0 R)
include G
theorem later{X Y:List Rec}{r r':Rec}(h:R=X++r::Y)(hr:r'∈X):r'.idx≠r.idx:=by
 obtain⟨A,B,rfl⟩:=jF hr;have h':R=A++r'::(B++r::Y):=by rw[h];simp
 exact λe=>G.one _ _ _ h' r (by simp) e.symm
theorem acg{X Y:List Rec}{r:Rec}(h:R=X++r::Y):(cI n0 Y).toNat<=r.nx.toNat:=Wd G.mono (Good.at (h ▸G.MD))
theorem zf{X Y Z:List Rec}(h:R=X++(Y++Z)):(cI n0 Z).toNat<=(cI n0 (Y++Z)).toNat:=Pc G.mono (Good.tail (h ▸G.MD))
theorem Xw{X Y:List Rec}(h:R=X++Y):n0.toNat<=(cI n0 Y).toNat:=by have:=Pc (n0:=n0) G.mono (A:=Y) (B:=[]) (by rw[Zf7];exact Good.tail (h ▸G.MD));rw[Zf7]at this;exact this
theorem NU{D:Nat->Prop}(hc:∀i o e,D i->ops[i]? =some o->e∈o.after->Region.binds .any e=true->D e.on){i b:Nat}(h:Reach ops i b)
  (hi:∀o e,ops[i]? =some o->e∈o.after->Region.binds .any e=true->D e.on):D b:=by
 induction h with
 |edge i o e ho he hb=>exact hi o e ho he hb
 |trans i o e b ho he hb _ ih=>exact ih λo' e' Dl ji iz=>hc _ o' e' (hi o e ho he hb) Dl ji iz
theorem ach{D:Nat->Prop}{A B:List Rec}{a:Act}(hp:QE nt ops R D A B a){s:Rec}(hs:s∈R)(hD:D s.idx){b:Nat}(hb:s.o.br.testBit b=true):D b:=by obtain⟨o,ho,_,hB⟩:=G.rel s hs;exact G.NU hp.closed (hB.2 b hb) λo' e Dl he iX=>hp.closed _ o' e hD Dl he iX
end wI
theorem Jf:∀(Y:List Rec)(p:Pos)(v:AV),(kq bJ Y).get p=some v->
  (∃M s T,Y=M++s::T/\s.o.dst=some p/\s.v=v/\∀s'∈M,s'.o.dst≠some p)\/(bJ.get p=some v/\∀s∈Y,s.o.dst≠some p)
 |[],p,v,h=>.inr ⟨h,λs hs=>by cases hs⟩
 |r ::Y   ,p,v,h=>by
  simp only[kq]at h;by_cases hr:r.o.dst=some p
  .rw[hr]at h;simp only[cE,T.dP,H0]at h;exact .inl ⟨[],r,Y,rfl,hr,h,λs hs=>by cases hs⟩
  . have h':(kq bJ Y).get p=some v:=by
        cases hd:r.o.dst with
        |none=>rw[hd]at h;exact h
        | some d=>
          rw[hd]at h;simp only[cE]at h
          rwa [T.bn _ λe=>hr (by rw[hd,e])]at h
    rcases Jf Y p v h' with⟨M,s,T,rfl,h2,h3,h4⟩|⟨h2,h3⟩
    .   refine .inl ⟨r::M,s,T,rfl,h2,h3,λs' kg=> ?_⟩;rcases Za2.1 kg with rfl|kg
        .exact hr
        .exact h4 s' kg
    .   refine .inr ⟨h2,λs hs=> ?_⟩;rcases Za2.1 hs with rfl|hs
        .exact hr
        .exact h3 s hs
theorem look(G:wI tt nt ops call bJ h0 n0 R){D:Nat->Prop}{A B:List Rec}{a:Act}(hp:QE nt ops R D A B a){ρ:Pos->Loc}(h1:T1 C R D ρ a.tmps)(h2:T0 C bJ n0 R D ρ a.tmps)
   {X Y:List Rec} {r:Rec} (hR:R=X++r::Y) (hD:¬D r.idx) (Pd:∀b,r.o.br.testBit b=true->D b) {p:Pos} {v:AV} (hl:p∈r.o.looks) (hv:(kq bJ Y).get p=some v):
   ∃x,a.tmps[p.toNat - 1]? =some x/\aj ρ (cI n0 Y).toNat C v x:=by
 have hX:∀s∈X,D s.idx->s.o.dst≠some p:=by
   intro s hs eN hd;rcases G.apart X r Y hR s hs with h|h
   .exact hD (G.ach hp (by rw[hR];simp[hs]) eN h)
   .exact(DZ h).2 p hd hl
 rcases Jf Y p v hv with⟨M,s,T,rfl,h3,rfl,h4⟩|⟨h3,h4⟩
 . have hR':R=(X++r::M)++s::T:=(by rw[hR];simp);have eN:D s.idx:=by
     rcases G.apart _ s T hR' r (by simp)with h|h
     .  exact Pd _ h
     .  exact absurd hl ((DZ h).1 p h3).1
   obtain⟨x,hx,Jg⟩:=h1 (X++r::M) s T p hR' eN h3 (λs' kg BG=>by
     rcases Zd2.1 kg with h|h
     .  exact hX s' h BG
     .  rcases Za2.1 h with rfl|h
        .exact absurd BG hD
        .exact h4 s' h)
   refine⟨x,hx,Jg.mono (λ_ _=>rfl) ?_⟩;have:=G.zf (X:=X++[r]) (Y:=M) (Z:=s::T) (by rw[hR];simp);exact this
 . obtain⟨x,hx,Jg⟩:=h2 p v h3 (λs hs eN=>by
     rw[hR]at hs;rcases Zd2.1 hs with h|h
     .  exact hX s h eN
     .  rcases Za2.1 h with rfl|h
        .exact absurd eN hD
        .exact h4 s h)
   exact⟨x,hx,Jg.mono (λ_ _=>rfl) (G.Xw (X:=X++[r]) (by rw[hR];simp))⟩
theorem Dq{a:Act}{d:Option Tmp}{x:Value}{p:Pos}(h:d.map key≠some p):(a.put d x).tmps[p.toNat - 1]? =a.tmps[p.toNat - 1]? :=by
 cases d with
 |none=>rfl
 |some e=>
  simp only[Act.put];rw[Zd1];intro he;apply h;simp only[Zd9,H0];apply Pos.toNat_inj;rw[dU];have:=p.toNat_pos;omega
theorem aaP{a:Act}{d:Option Tmp}{x:Value}{p:Pos}(h:d.map key=some p)(hs:a.tmps.size=nt)(hd:∀e,d=some e->e<nt):(a.put d x).tmps[p.toNat - 1]? =some x:=by
 cases d with
 |none=>cases h
 |some e=>
  simp only[Zd9,H0]at h;subst h;simp only[Act.put];rw[dU,Ze1,Zj7];simp[hs,hd e rfl]
theorem Xx(G:wI tt nt ops call bJ h0 n0 R){D:Nat->Prop}{A B:List Rec}{a:Act}(hp:QE nt ops R D A B a){ρ:Pos->Loc}(h1:T1 C R D ρ a.tmps)(h2:T0 C bJ n0 R D ρ a.tmps)
   {X Y:List Rec} {r:Rec} (hR:R=X++r::Y) (hD:¬D r.idx) {o:Oper} (hrel:rW tt nt ops o r.o) {x:Value} (hv:aj ρ r.nx.toNat C r.v x):
   T1 C R (λi=>D i\/i=r.idx) ρ (a.put o.dst x).tmps/\T0 C bJ n0 R (λi=>D i\/i=r.idx) ρ (a.put o.dst x).tmps:=by
 constructor
 . intro  M s T p hM eN hd mH;by_cases hi:s.idx=r.idx
   .obtain⟨_,rfl,_⟩:=BF G.one hM hR hi;rw[hrel.dst]at hd;exact⟨x,aaP hd hp.size hrel.lt,hv⟩
   . have eN:=eN.resolve_right hi;by_cases Jh:r.o.dst=some p
     .  exfalso;have hs:s∈R:=(by rw[hM];simp);rw[hR]at hs;rcases Zd2.1 hs with h|h
        . rcases G.apart X r Y hR s h with k|k
          .exact hD (G.ach hp (by rw[hR];simp[h]) eN k)
          .exact((DZ k).1 p Jh).2 hd
        . rcases Za2.1 h with rfl|h
          .exact hi rfl
          .obtain⟨Y1,Y2,rfl⟩:=jF h;have hR':R=(X++r::Y1)++s::Y2:=(by rw[hR];simp);obtain⟨Y5,_,_⟩:=BF G.one hM hR' rfl;exact mH r (by rw[Y5];simp) (.inr rfl) Jh
     .  (rw[hrel.dst]at Jh;obtain⟨y,hy,Bu⟩:=h1 M s T p hM eN hd λs' kg BG=>mH s' kg (.inl BG));exact⟨y,by rw[Dq Jh];exact hy,Bu⟩
 . (intro p v hf mH;have hr:r.o.dst≠some p:=mH r (by rw[hR];simp) (.inr rfl);rw[hrel.dst]at hr;obtain⟨y,hy,Bu⟩:=h2 p v hf λs hs eN=>mH s hs (.inl eN));exact⟨y,by rw[Dq hr];exact hy,Bu⟩
end
section
variable{P:Program}{tt:TT}{C:Cells}{nt:Nat}{ops:Array Oper}{call:ah}{bJ:Fr}{h0:T AB}{n0:Pos}{R:List Rec}
theorem aP.congr{ρ ρ':Pos->Loc}{st:St}{w:World}(h:aP ρ C st w)(aN:∀b:Pos,b.toNat<st.next.toNat->ρ' b=ρ b):aP ρ' C st w where
 live b x hb:=by
  obtain⟨h1,h2,h3⟩:=h.live b x hb;rw[aN b h1];exact⟨h1,h2,h3.mono aN (Za1 _)⟩
 inj b b' x x' hb iz he:=by rw[aN b (h.live b x hb).1,aN b' (h.live b' x' iz).1]at he;exact h.inj b b' x x' hb iz he
 cO a v ha:=⟨(h.cO a v ha).1,λb x hb=>by rw[aN b (h.live b x hb).1];exact(h.cO a v ha).2 b x hb⟩
 whole:=h.whole
theorem iL.congr{ρ cY ρ':Pos->Loc}{st st':St}{w w':World}(h:iL ρ st w cY st' w')(aN:∀b x,st'.heap.get b=some x->ρ' b=cY b):iL ρ st w ρ' st' w' where
 os:=h.os
 tape:=h.tape
 output:=h.output
 size:=h.size
 block:=h.block
 lO b x hb:=by rw[aN b x hb];exact h.lO b x hb
namespace wI
variable(G:wI tt nt ops call bJ h0 n0 R)
include G
theorem same{r r':Rec}(h:r∈R)(h':r'∈R)(hi:r.idx=r'.idx):r=r':=by obtain⟨A,B,hA⟩:=jF h;obtain⟨A',B',Ia⟩:=jF h';exact(BF G.one hA Ia hi).2.1
theorem cmp{X Y X' Y':List Rec}{r r':Rec}(h1:R=X++r::Y)(h2:R=X'++r'::Y')(hi:r'.idx≠r.idx):
   (∃Z,Y'=Z++r::Y)\/(∃Z,Y=Z++r'::Y'):=by
 have h3:X++r::Y=X'++r'::Y':=h1.symm.trans h2;rcases List.append_eq_append_iff.1 h3 with⟨Z,hX,hZ⟩|⟨Z,hX,hZ⟩
 . cases Z with
   |nil=>simp at hZ;exact absurd (by rw[hZ.1]) hi
   |cons z Z=>simp at hZ;exact .inr ⟨Z,hZ.2⟩
 . cases Z with
   |nil=>simp at hZ;exact absurd (by rw[hZ.1]) hi
   |cons z Z=>simp at hZ;exact .inl ⟨Z,hZ.2⟩
theorem Gy{X Y X' Z:List Rec}{r r':Rec}(h1:R=X++r::Y)(h2:R=X'++r'::(Z++r::Y)):r.nx.toNat<=(cI n0 (Z++r::Y)).toNat:=by have:=G.zf (X:=X'++[r']) (Y:=Z) (Z:=r::Y) (by rw[h2];simp);exact this
theorem AM{X Y' Z:List Rec}{r r':Rec}(h1:R=X++r::(Z++r'::Y')):r'.nx.toNat<=(cI n0 (Z++r'::Y')).toNat:=by have:=G.zf (X:=X++[r]) (Y:=Z) (Z:=r'::Y') (by rw[h1];simp);exact this
theorem Ji{X Y:List Rec}{r:Rec}(h:R=X++r::Y){id:Pos}{au:AB}(hc:r.c= .new id au):id=cI n0 Y/\r.nx=id.succ:=by
 have hs:=Good.at (h ▸G.MD);cases hs<;>simp only at hc<;>first|(cases hc;done)|skip
 simp only[RC.new.injEq]at hc;obtain⟨rfl,_⟩:=hc;exact⟨rfl,rfl⟩
end wI
theorem Kept.up{D D':Nat->Prop}(h:∀i,D i->D' i){b:Pos}(hk:Kept n0 R D b):Kept n0 R D' b:=λA r B hR hD=>hk A r B hR λhd=>hD (h _ hd)
theorem QE.next(G:wI tt nt ops call bJ h0 n0 R){D:Nat->Prop}{A B:List Rec}{a:Act}(hp:QE nt ops R D A B a){X Y:List Rec}{r:Rec}(hR:R=X++r::Y)
  (mW:∀o e,ops[r.idx]? =some o->e∈o.after->Region.binds .any e=true->D e.on) (hc:r.c.jP=false) (d:Option Tmp) (x:Value):
  QE nt ops R (λi=>D i\/i=r.idx) A B (a.put d x) where
 split:=hp.split
 bound:=hp.bound
 inB s hs:= .inl (hp.inB s hs)
 Tf s hs hD:=by
  rcases hD with hD|hD
  .exact hp.Tf s hs hD
  .rw[G.same (by rw[hp.split];simp[hs]) (by rw[hR];simp) hD];exact hc
 closed i o e hD ho he hb:=by
  rcases hD with hD|rfl
  .exact .inl (hp.closed i o e hD ho he hb)
  .exact .inl (mW o e ho he hb)
 size:=by rw[Act.fY];exact hp.size
 defers:=by rw[Act.iq];exact hp.defers
theorem QF(G:wI tt nt ops call bJ h0 n0 R){iY:Pos->Loc}{w0:World}{D:Nat->Prop}{A B:List Rec}{ρ:Pos->Loc}{a:Act}{w:World}
  (hI:Inv C nt ops bJ h0 n0 R iY w0 D A B ρ a w) {X Y:List Rec} {r:Rec} (hR:R=X++r::Y) (hD:¬D r.idx)
  (mW:∀o e,ops[r.idx]? =some o->e∈o.after->Region.binds .any e=true->D e.on) {o:Oper} (hrel:rW tt nt ops o r.o) (hc:r.c= .pure) {x:Value}
  (hv:∀ρ',(∀b,Kept n0 R D b->ρ' b=ρ b)->aj ρ' r.nx.toNat C r.v x):
  Inv C nt ops bJ h0 n0 R iY w0 (λi=>D i\/i=r.idx) A B ρ (a.put o.dst x) w:=by
 obtain⟨hp,hI⟩:=hI;refine⟨hp.next G hR mW (by rw[hc];rfl) _ _,λρ' yF=> ?_⟩;have hf:∀b,Kept n0 R D b->ρ' b=ρ b:=λb hb=>yF b (hb.up λ_ h=>.inl h)
 have h:=hI ρ' hf;have hnr:∀s∈A,(D s.idx\/s.idx=r.idx)->∀id au,s.c= .new id au->D s.idx:=λs hs eN id au e8=>by
  rcases eN with eN|eN
  .exact eN
  .rw[G.same (by rw[hp.split];simp[hs]) (by rw[hR];simp) eN,hc]at e8;cases e8
 obtain⟨k1,k2⟩:=Xx G hp h.t1 h.t0 hR hD hrel (hv ρ' hf);exact⟨h.W,λs hs eN id au e8=>h.N s hs (hnr s hs eN id au e8) id au e8,
  λs hs eN id au e8 s' kg BG qf zL oh=>h.N2 s hs (hnr s hs eN id au e8) id au e8 s' kg (hnr s' kg BG qf zL oh) qf zL oh,k1,k2,h.E,h.AL⟩
theorem aP.grow{ρ:Pos->Loc}{st:St}{w w':World}(h:aP ρ C st w)(hs:w.heap.size<=w'.heap.size)(hb:∀k,k<w.heap.size->w'.heap[k]? =w.heap[k]?):aP ρ C st w' where
 live b x hx:=let⟨h1,h2,h3⟩:=h.live b x hx;⟨h1,Zb7 h2 hs,h3.of_heap (hb _ h2)⟩
 inj:=h.inj
 cO a v ha:=by
  obtain⟨h1,h2⟩:=h.cO a v ha;exact⟨by rw[World.cell?_of_block (w:=w) (hb _ (World.block_lt_of_cell? _ _ h1))];exact h1,h2⟩
 whole a v ha o ho:=by have jE:a.block<w.heap.size:=World.block_lt_of_cell? _ _ (h.cO a v ha).1;rw[World.cell?_of_block (w:=w) (a:=⟨a.block,o,none⟩) (hb _ jE)];exact h.whole a v ha o ho
theorem aaQ(G:wI tt nt ops call bJ h0 n0 R){iY:Pos->Loc}{w0:World}{D:Nat->Prop}{A B:List Rec}{ρ:Pos->Loc}{a:Act}{w w':World}
   (hI:Inv C nt ops bJ h0 n0 R iY w0 D A B ρ a w) {X Y:List Rec} {r:Rec} (hR:R=X++r::Y) (hD:¬D r.idx)
   (mW:∀o e,ops[r.idx]? =some o->e∈o.after->Region.binds .any e=true->D e.on) {o:Oper} (hrel:rW tt nt ops o r.o) {id:Pos} {au:AB} (hc:r.c= .new id au) {x:Value} {L:Loc}
   (hL:w.heap.size<=L.au) (hL':L.au<w'.heap.size) (Wb:w'.os=w.os) (aek:w'.tape=w.tape) (Pe:w'.output=w.output) (aaR:∀k,k<w.heap.size->w'.heap[k]? =w.heap[k]?)
   (hv:∀ρ',(∀b,Kept n0 R D b->ρ' b=ρ b)->ρ' id=L->aj ρ' r.nx.toNat C r.v x/\j7 ρ' r.nx.toNat C L w' au):
   Inv C nt ops bJ h0 n0 R iY w0 (λi=>D i\/i=r.idx) A B (λb=>if b=id then L else ρ b) (a.put o.dst x) w':=by
 obtain⟨hp,hI⟩:=hI;have hrA:r∈A:=by
   have:r∈R:=(by rw[hR];simp);rw[hp.split]at this;exact(Zd2.1 this).resolve_right λh=>hD (hp.inB r h)
 obtain⟨NR,Jj⟩:=G.Ji hR hc;have ei:w.heap.size<=w'.heap.size:=by omega
 refine⟨hp.next G hR mW (by rw[hc];rfl) _ _,λρ' yF=> ?_⟩;have hkid:Kept n0 R (λi=>D i\/i=r.idx) id:=by
   (intro A' r' B' Ia Y6;have c9:r'.idx≠r.idx:=λe=>Y6 (.inr e));rcases G.cmp hR Ia c9 with⟨Z,rfl⟩|⟨Z,rfl⟩
   .left;have:=G.Gy hR Ia;rw[Jj,Pos.aB]at this;omega
   .right;have:=G.AM hR;rw[NR];exact this
 have Xy:ρ' id=L:=by rw[yF id hkid];simp
 have hf:∀b,Kept n0 R D b->ρ' b=ρ b:=λb hb=>by
   have c9:b≠id:=by
     rintro rfl;rcases hb X r Y hR hD with h|h
     .  rw[NR]at h;omega
     .  rw[Jj,Pos.aB]at h;omega
   rw[yF b (hb.up λ_ h=>.inl h)];exact Za5 c9
 have h:=hI ρ' hf;obtain⟨Lo,I5⟩:=hv ρ' hf Xy;obtain⟨k1,k2⟩:=Xx G hp h.t1 h.t0 hR hD hrel Lo;have Sf:∀s∈A,(D s.idx\/s.idx=r.idx)->D s.idx\/s=r:=λs hs eN=>eN.imp (λh=>h) λeN=>G.same (by rw[hp.split];simp[hs]) (by rw[hR];simp) eN
 refine⟨h.W.grow ei aaR,λs hs eN qf zL e8=> ?_,λs hs eN qf zL e8 s' kg BG id'' aci oh c9=> ?_,k1,k2,?_,h.AL⟩
 . rcases Sf s hs eN with eN|rfl
   .obtain⟨g1,g2,g3,g4,g5⟩:=h.N s hs eN qf zL e8;exact⟨g1.of_heap (aaR _ g2),by omega,g3,g4,g5⟩
   . rw[hc]at e8;simp only[RC.new.injEq]at e8;obtain⟨rfl,rfl⟩:=e8;rw[Xy];refine⟨I5,hL',Zc4 h.E.size hL,λb x hb e=> ?_,λad v ha e=> ?_⟩
     .  have:=(h.W.live b x hb).2.1;omega
     .  have:=World.block_lt_of_cell? _ _ (h.W.cO ad v ha).1;omega
 . rcases Sf s hs eN with hDk|rfl
   . rcases Sf s' kg BG with aaS|rfl
     .  exact h.N2 s hs hDk qf zL e8 s' kg aaS id'' aci oh c9
     .  rw[hc]at oh;simp only[RC.new.injEq]at oh;obtain⟨rfl,rfl⟩:=oh;have:=(h.N s hs hDk qf zL e8).2.1;rw[Xy];omega
   . rw[hc]at e8;simp only[RC.new.injEq]at e8;obtain⟨rfl,rfl⟩:=e8;rcases Sf s' kg BG with aaS|rfl
     .  have:=(h.N s' kg aaS id'' aci oh).2.1;rw[Xy];omega
     .  rw[hc]at oh;simp only[RC.new.injEq]at oh;exact absurd oh.1 c9
 .exact⟨Wb.trans h.E.os,aek.trans h.E.tape,Pe.trans h.E.output,Zc4 h.E.size ei,λk hk hn=>by rw[aaR k (Zb7 hk h.E.size)];exact h.E.block k hk hn,h.E.lO⟩
theorem Xz(G:wI tt nt ops call bJ h0 n0 R){iY:Pos->Loc}{w0:World}{D:Nat->Prop}{A B:List Rec}{ρ:Pos->Loc}{a:Act}{w:World}
  (h:Inv0 C bJ h0 n0 R iY w0 D A B ρ a w) (adD:R=A++B) {hp:T AB} {N:Pos} (hN:(cI n0 B).toNat<=N.toNat)
  (D1:∀b x,hp.get b=some x->(gQ h0 B).get b=some x\/∃s∈A,D s.idx/\s.c= .new b x/\s.nx.toNat<=N.toNat):aP ρ C { heap:=hp,next:=N } w where
 live b x hb:=by
  rcases D1 b x hb with h1|⟨s,hs,hD,hc,hn⟩
  .  obtain⟨g1,g2,g3⟩:=h.W.live b x h1;exact⟨Zb7 g1 hN,g2,g3.mono (λ_ _=>rfl) hN⟩
  .  obtain⟨g1,g2,_⟩:=h.N s hs hD b x hc;obtain⟨M,T,hM⟩:=jF (r:=s) (R:=R) (by rw[adD];simp[hs]);obtain⟨_,e⟩:=G.Ji hM hc;rw[e]at hn;refine⟨?_,g2,g1.mono (λ_ _=>rfl) (by rw[e];exact hn)⟩;rw[Pos.aB]at hn;exact hn
 inj b  b' x x' hb iz he:=by
  rcases D1 b x hb with h1|⟨s,hs,hD,hc,hn⟩
  .  rcases D1 b' x' iz with VX|⟨s',kg,Y6,tF,Te⟩
     .  exact h.W.inj b b' x x' h1 VX he
     .  exact absurd he ((h.N s' kg Y6 b' x' tF).2.2.2.1 b x h1)
  .  rcases D1 b' x' iz with VX|⟨s',kg,Y6,tF,Te⟩
     .  exact absurd he.symm ((h.N s hs hD b x hc).2.2.2.1 b' x' VX)
     .  by_cases e:b=b'
        .exact e
        .exact absurd he (h.N2 s hs hD b x hc s' kg Y6 b' x' tF e)
 cO ad v ha:=⟨(h.W.cO ad v ha).1,λb x hb=>by
  rcases D1 b x hb with h1|⟨s,hs,hD,hc,hn⟩
  .  exact(h.W.cO ad v ha).2 b x h1
  .  exact(h.N s hs hD b x hc).2.2.2.2 ad v ha⟩
 whole:=h.W.whole
theorem wJ:∀{Z B:List Rec}{b:Pos}{x:AB},(∀r∈Z,r.c.jP=false)->Dn B->(gR h0 (Z++B)).get b=some x->
  (gQ h0 B).get b=some x\/∃s∈Z,s.c= .new b x
 |[],B,b,x,_,hB,h=>by
  cases B with
  |nil=>exact .inl h
  | cons r B=>
    simp only[Dn]at hB;(cases hc:r.c<;>rw[hc]at hB<;>first|(cases hB;done)|skip);simp only[Ze5,gR,hc]at h;simp only[gQ,hc];exact .inl h
 |r ::Z,B,b,x,hZ,hB,h=>by
  have ih:=@wJ Z B b x (λs hs=>hZ s (Za3 _ hs)) hB;have hr:=hZ r (Zc2 ..);simp only[Ze9,gR]at h;cases hc:r.c with
  |pure=>rw[hc]at h;exact(ih h).imp (λh=>h) λ⟨s,h1,h2⟩=>⟨s,Za3 _ h1,h2⟩
  |aG _ _=>rw[hc]at hr;cases hr
  | new id au=>
    rw[hc]at h;by_cases e:id=b
    .   subst e;rw[T.dP]at h;simp only[H0]at h;subst h;exact .inr ⟨r,Zc2 ..,hc⟩
    .   rw[T.bn _ e]at h;exact(ih h).imp (λh=>h) λ⟨s,h1,h2⟩=>⟨s,Za3 _ h1,h2⟩
end
section
variable{P:Program}{tt:TT}{C:Cells}{nt:Nat}{ops:Array Oper}{call:ah}{bJ:Fr}{h0:T AB}{n0:Pos}{R:List Rec}
theorem around(G:wI tt nt ops call bJ h0 n0 R){D:Nat->Prop}{A B:List Rec}{a:Act}(hp:QE nt ops R D A B a){X Y:List Rec}{r:Rec}(hR:R=X++r::Y)(hD:¬D r.idx):
  ∃Z,A=X++r::Z/\Y=Z++B:=by
 have hrA:r∈A:=by
  have:r∈R:=by rw[hR];simp
  rw[hp.split]at this;exact(Zd2.1 this).resolve_right λh=>hD (hp.inB r h)
 obtain⟨X',Z,hA⟩:=jF hrA;have h2:R=X'++r::(Z++B):=by rw[hp.split,hA];simp
 obtain⟨rfl,_,rfl⟩:=BF G.one hR h2 rfl;exact⟨Z,hA,rfl⟩
theorem aaT(G:wI tt nt ops call bJ h0 n0 R){iY:Pos->Loc}{w0:World}{D:Nat->Prop}{A B:List Rec}{ρ:Pos->Loc}{a:Act}{w w':World}
   (hI:Inv C nt ops bJ h0 n0 R iY w0 D A B ρ a w) {X Y:List Rec} {r:Rec} (hR:R=X++r::Y) (hD:¬D r.idx)
   (mW:∀o e,ops[r.idx]? =some o->e∈o.after->Region.binds .any e=true->D e.on) {o:Oper} (hrel:rW tt nt ops o r.o)
   (hY:∀s∈Y,D s.idx) {st':St} {b0:T AB} (hc:r.c= .aG b0 st'.heap) (Jj:r.nx=st'.next) {x:Value}
   (XA:ki ρ C { heap:=gR h0 Y,next:=cI n0 Y } w r.v st' x w'):
   ∃j8,Inv C nt ops bJ h0 n0 R iY w0 (λi=>D i\/i=r.idx) X (r::Y) j8 (a.put o.dst x) w':=by
 obtain⟨hp,hI⟩:=hI;obtain⟨cY,hv,hρ1,hle,S8,hE1⟩:=XA;simp only at hρ1 hle;obtain⟨Z,hA,rfl⟩:=around G hp hR hD;have hZ:∀s∈Z,s.c.jP=false:=λs hs=>hp.Tf s (by rw[hA];simp[hs]) (hY s (by simp[hs]))
 have We:∀s∈X,s∈A:=λs hs=>by rw[hA];simp[hs]
 have hXD:∀s∈X,(D s.idx\/s.idx=r.idx)->D s.idx:=λs hs h=>h.resolve_right (G.later hR hs)
 have Tg:(cI n0 B).toNat<=(cI n0 (Z++B)).toNat:=G.zf (X:=X++[r]) (by rw[hR];simp)
 let j8:Pos->Loc:=λb=>if(cI n0 (Z++B)).toNat<=b.toNat/\b.toNat<r.nx.toNat then cY b else ρ b
 have Th:∀b:Pos,b.toNat<(cI n0 (Z++B)).toNat->Kept n0 R D b:=by
   intro b hb M s T hM eN;left;by_cases hi:s.idx=r.idx
   .obtain⟨_,_,rfl⟩:=BF G.one hM hR hi;exact hb
   . rcases G.cmp hR hM hi with⟨W,rfl⟩|⟨W,hW⟩
     .  have:=G.Gy hR hM;have:=G.acg hR;omega
     .  exact absurd (hY s (by rw[hW];simp)) eN
 refine⟨j8,⟨by rw[hR],by simp[Dn,hc,RC.jP],?_,?_,?_,by rw[Act.fY];exact hp.size,by rw[Act.iq];exact hp.defers⟩,λρ' yF=> ?_⟩
 . intro s hs;rcases Za2.1 hs with rfl|hs
   .exact .inr rfl
   .exact .inl (hY s hs)
 .intro s hs eN;exact hp.Tf s (We s hs) (hXD s hs eN)
 . intro i o' e hDi ho he hb;rcases hDi with hDi|rfl
   .exact .inl (hp.closed i o' e hDi ho he hb)
   .exact .inl (mW o' e ho he hb)
 have ael:∀b:Pos,b.toNat<r.nx.toNat->Kept n0 R (λi=>D i\/i=r.idx) b:=by
   (intro b hb M s T hM eN;left;have hi:s.idx≠r.idx:=λe=>eN (.inr e));rcases G.cmp hR hM hi with⟨W,rfl⟩|⟨W,hW⟩
   .exact Zb7 hb (G.Gy hR hM)
   .exact absurd (.inl (hY s (by rw[hW];simp))) eN
 have hf:∀b,Kept n0 R D b->ρ' b=ρ b:=λb hb=>by rw[yF b (hb.up λ_ h=>.inl h)];refine Za5 ?_;rintro⟨g1,g2⟩;rcases hb X r _ hR hD with h|h<;>omega
 have h:=hI ρ' hf;have QG:∀b:Pos,b.toNat<r.nx.toNat->ρ' b=cY b:=by
   intro b hb;rcases Zi0 b.toNat (cI n0 (Z++B)).toNat with g|g
   .rw[hf b (Th b g),hρ1 b g]
   .rw[yF b (ael b hb)];exact Za6 ⟨g,hb⟩
 have xZ:aj ρ' r.nx.toNat C r.v x:=by
   rw[Jj]at QG ⊢;exact hv.mono QG (Za1 _)
 have dN:aP ρ' C { heap:=st'.heap,next:=r.nx } w':=by rw[Jj]at QG ⊢;exact S8.congr QG
 have hold:∀s∈X,D s.idx->∀id au,s.c= .new id au->∀b y,(gR h0 (Z++B)).get b=some y->(ρ b).au≠(ρ' id).au:=by
   intro s hs eN id au e8 b y hb;obtain⟨g1,g2,g3,g4,g5⟩:=h.N s (We s hs) eN id au e8;obtain⟨M,T,hM⟩:=jF (r:=s) (R:=R) (by rw[hR];simp[hs]);rcases wJ hZ hp.bound hb with hb|⟨s',kg,oh⟩
   .rw[<-hf b (Th b (Zb7 (h.W.live b y hb).1 Tg))];exact g4 b y hb
   . obtain⟨Z1,Z2,rfl⟩:=jF kg;have Y5:R=(X++r::Z1)++s'::(Z2++B):=(by rw[hR];simp);obtain⟨e1,e2⟩:=G.Ji Y5 oh;obtain⟨e3,e4⟩:=G.Ji hM e8;have hbn:b.toNat<(cI n0 ((Z1++s'::Z2)++B)).toNat:=(by have:=G.AM (X:=X) (r:=r) (Z:=Z1) (r':=s') (Y':=Z2++B) (by rw[hR];simp);rw[e2,Pos.aB]at this;simp only[Zi2,Ze9];omega);have hsr:s.idx≠r.idx:=G.later hR hs;have NR:r.nx.toNat<=id.toNat:=by
        rcases G.cmp hR hM hsr with⟨W,rfl⟩|⟨W,hW⟩
        .rw[e3];exact G.Gy hR hM
        .obtain⟨A1,A2,hX⟩:=jF hs;have hM2:R=A1++s::(A2++r::((Z1++s'::Z2)++B)):=(by rw[hR,hX];simp);have qh:s∈(Z1++s'::Z2)++B:=(by rw[hW];simp);exact absurd rfl (G.one A1 s _ hM2 s (Zd2.2 (.inr (Za3 _ qh))))
     have c9:b≠id:=(by rintro rfl;have:=G.acg hR;omega);rw[<-hf b (Th b hbn)];exact h.N2 s' (by rw[hA];simp) (hY s' (by simp)) b y oh s (We s hs) eN id au e8 c9
 have hEa:iL iY { heap:=h0,next:=n0 } w0 ρ { heap:=gR h0 (Z++B),next:=cI n0 (Z++B) } w:=by
   refine⟨h.E.os,h.E.tape,h.E.output,h.E.size,h.E.block,λb y hb=> ?_⟩;rcases wJ hZ hp.bound hb with hb|⟨s',kg,oh⟩
   .rw[<-hf b (Th b (Zb7 (h.W.live b y hb).1 Tg))];exact h.E.lO b y hb
   .obtain⟨Z1,Z2,rfl⟩:=jF kg;have Y5:R=(X++r::Z1)++s'::(Z2++B):=(by rw[hR];simp);obtain⟨e1,e2⟩:=G.Ji Y5 oh;have hbn:b.toNat<(cI n0 ((Z1++s'::Z2)++B)).toNat:=(by have:=G.AM (X:=X) (r:=r) (Z:=Z1) (r':=s') (Y':=Z2++B) (by rw[hR];simp);rw[e2,Pos.aB]at this;simp only[Zi2,Ze9];omega);rw[<-hf b (Th b hbn)];exact .inr (h.N s' (by rw[hA];simp) (hY s' (by simp)) b y oh).2.2.1
 obtain⟨k1,k2⟩:=Xx G hp h.t1 h.t0 hR hD hrel xZ;refine⟨?_,λs hs eN id au e8=> ?_,λs hs eN id au e8 s' kg BG qf zL oh c9=> ?_,k1,k2,?_,h.AL⟩
 .simp only[gQ,hc,cI];exact dN
 . have eN:=hXD s hs eN;obtain⟨g1,g2,g3,g4,g5⟩:=h.N s (We s hs) eN id au e8;refine⟨g1.of_heap (hE1.block _ g2 (hold s hs eN id au e8)),Zb7 g2 hE1.size,g3,λb y hb=> ?_,g5⟩;simp only[gQ,hc]at hb;rw[QG b (by rw[Jj];exact(S8.live b y hb).1)];rcases hE1.lO b y hb with⟨b',y',iz,e⟩|e
   .rw[<-e];exact hold s hs eN id au e8 b' y' iz
   .omega
 .exact h.N2 s (We s hs) (hXD s hs eN) id au e8 s' (We s' kg) (hXD s' kg BG) qf zL oh c9
 . have:=(hEa.trans hE1).congr (ρ':=ρ') λb y hb=>QG b (by rw[Jj];exact(S8.live b y hb).1)
   simp only[gQ,hc,cI];exact⟨this.os,this.tape,this.output,this.size,this.block,this.lO⟩
end
section
variable{P:Program}{tt:TT}{C:Cells}{nt:Nat}{ops:Array Oper}{call:ah}{bJ:Fr}{h0:T AB}{n0:Pos}{R:List Rec}
theorem zg{ρ:Pos->Loc}{n:Pos}{w:World}(hC:∀ad v,C ad=some v->w.cell? ad=some v)(Y7:∀a v,C a=some v->∀o,C ⟨a.block,o,none⟩=none->w.cell? ⟨a.block,o,none⟩=none):aP ρ C { heap:= .e,next:=n } w where
 live b x hb:=by rw[T.cT]at hb;cases hb
 inj b b' x x' hb:=by rw[T.cT]at hb;cases hb
 cO a v ha:=⟨hC a v ha,λb x hb=>by rw[T.cT]at hb;cases hb⟩
 whole:=Y7
theorem Yields.eq{N:Next}{x y:Value}(h:Yields N x)(k:Yields N y):x=y:=by
 rcases h with rfl|⟨rfl,rfl⟩<;>rcases k with k|⟨k,rfl⟩
 .simp only[Next.value.injEq]at k;exact k
 .cases k
 .cases k
 .rfl
theorem j7.aaU{ρ ρ':Pos->Loc}{n n':Nat}{L:Loc}{w:World}{s:List Nat}{p:Nat}(h:j7 ρ n C L w (.iu s p)):j7 ρ' n' C L w (.iu s p):=h
theorem Y8(hT:bG P tt){o:Oper}{k:az}{xs:List dA}{cls:VV}(hc:eV tt o.op=some (k,xs,cls)){n:Pos}{vs:List AV}{v:AV}{au:AB}
  (hr:k.run (λ_=>none) n vs=some (.aG v none none (some au))) {fr:Fr} (hx:dB fr xs=some vs) {a:Act} {w:World} {Wg:(Pos->Loc)->Prop} {ρ:Pos->Loc} (aN:Wg ρ)
  (hF:∀ρ',Wg ρ'->eB ρ' n.toNat C fr a.tmps) (hC:∀ad v,C ad=some v->w.cell? ad=some v) (Y7:∀a v,C a=some v->∀o,C ⟨a.block,o,none⟩=none->w.cell? ⟨a.block,o,none⟩=none):
  ∃ N x w' L,(execOp a.eval o).run P w= .ok N w'/\Yields N x/\w.heap.size<=L.au/\L.au<w'.heap.size/\w'.os=w.os/\w'.tape=w.tape/\w'.output=w.output/\
    (∀k,k<w.heap.size->w'.heap[k]? =w.heap[k]?)/\∀ρ',Wg ρ'->ρ' n=L->aj ρ' n.succ.toNat C v x/\j7 ρ' n.succ.toNat C L w' au:=by
 have bQ:k.run (λb=>T.get b (T.e:T AB)) n vs=some (.aG v none none (some au)):=by
  have e:(λb=>T.get b (T.e:T AB))=λ_=>none:=by funext b;exact T.cT b
  rw[e];exact hr
 have H:=λρ' (hf:Wg ρ')=>KO hT o.op ρ' C { heap:= .e,next:=n } w k xs cls fr a o vs _ rfl hc (zg hC Y7) (hF ρ' hf) hx bQ
 have key:∀ρ',Wg ρ'->∃N x w' cY,(execOp a.eval o).run P w= .ok N w'/\Yields N x/\(∀b:Pos,b.toNat<n.toNat->cY b=ρ' b)/\aj cY n.succ.toNat C v x/\
    j7 cY n.succ.toNat C (cY n) w' au/\w.heap.size<=(cY n).au/\(cY n).au<w'.heap.size/\w'.os=w.os/\w'.tape=w.tape/\w'.output=w.output/\
    (∀k,k<w.heap.size->w'.heap[k]? =w.heap[k]?):=by
  intro ρ' hf;obtain⟨N,x,w',cY,he,hy,h1,h2,h3,h4⟩:=H ρ' hf;have hg:(St.aG { heap:= .e,next:=n } none none (some au)).heap.get n=some au:=T.dP _ _ _;obtain⟨g1,g2,g3⟩:=h2.live n au hg;refine⟨N,x,w',cY,he,hy,h1,h3,g3,?_,g2,h4.os,h4.tape,h4.output,λk hk=>h4.block k hk λb x hb=> ?_⟩
  . rcases h4.lO n au hg with⟨b',x',iz,_⟩|h
    .   rw[T.cT]at iz;cases iz
    .   exact h
  .rw[T.cT]at hb;cases hb
 obtain⟨N,x,w',cY,he,hy,h1,h2,h3,h4,h5,h6,h7,h8,h9⟩:=key ρ aN;refine⟨N,x,w',cY n,he,hy,h4,h5,h6,h7,h8,h9,λρ' hf hL=> ?_⟩;obtain⟨N',x',w'',j8,ji,QH,k1,k2,k3,_⟩:=key ρ' hf;rw[he]at ji;simp only[Result.ok.injEq]at ji;obtain⟨rfl,rfl⟩:=ji;have Ti:=hy.eq QH;subst Ti;have XB:n.toNat<n.succ.toNat:=by rw[Pos.aB];omega
 have AL:(j8 n).au=(cY n).au->(j8 n).base=(cY n).base->((∃cs fz,au= .cells cs fz)\/∃t cs,au= .typed t cs)->aj ρ' n.succ.toNat C v x/\j7 ρ' n.succ.toNat C (cY n) w' au:=by
  intro e1 e2 sY;have e3:(j8 n).size=(cY n).size:=by
    rcases sY with⟨cs,fz,rfl⟩|⟨t,cs,rfl⟩
    .   obtain⟨c,e,fr,g1,g2,_⟩:=h3;obtain⟨c',e',aQ,BH,Y9,_⟩:=k3;rw[e1,g1]at BH;simp only[H0,Obj.cells.injEq]at BH;rw[<-g2, <-Y9,BH.1]
    .   obtain⟨c,fr,g1,g2,_⟩:=h3;obtain⟨c',aQ,BH,Y9,_⟩:=k3;rw[e1,g1]at BH;simp only[H0,Obj.cells.injEq]at BH;rw[<-g2, <-Y9,BH.1]
  have e4:j8 n=cY n:=by
    cases hh:j8 n;cases hh':cY n;rw[hh,hh']at e1 e2 e3;simp only at e1 e2 e3;rw[e1,e2,e3]
  have fE:∀b:Pos,b.toNat<n.succ.toNat->ρ' b=j8 b:=by
    intro b hb;rcases Zi0 b.toNat n.toNat with g|g
    .   exact(k1 b g).symm
    .   have:b=n:=Pos.toNat_inj (by rw[Pos.aB]at hb;omega);subst this;rw[hL,e4]
  refine⟨k2.mono fE (Za1 _),?_⟩;rw[<-e4];exact k3.mono fE (Za1 _)
 cases acH hr with
 |ptr cs=>
  obtain⟨_,g1⟩:=h2.dQ;obtain⟨_,g2⟩:=k2.dQ;rw[g1]at g2;simp only[Value.pointer.injEq,H0,Addr.mk.injEq,Zh1,Zn7]at g2;exact AL g2.1.symm g2.2.symm (.inl ⟨cs,0,rfl⟩)
 |ptrT t cs=>
  obtain⟨_,g1⟩:=h2.dQ;obtain⟨_,g2⟩:=k2.dQ;rw[g1]at g2;simp only[Value.pointer.injEq,H0,Addr.mk.injEq,Zh1,Zn7]at g2;exact AL g2.1.symm g2.2.symm (.inr ⟨t,cs,rfl⟩)
 |Y4 len t cs hl=>
  obtain⟨ad,aH,g1,g2,g3,g4⟩:=h2.cK;obtain⟨ad',XC,BH,Y9,g3',g4'⟩:=k2.cK;rw[g1]at BH;simp only[Value.slice.injEq,H0,true_and]at BH;obtain⟨rfl,rfl⟩:=BH;obtain⟨_,a1,_⟩:=g4 (by omega);obtain⟨_,a2,_⟩:=g4' (by omega);rw[a1]at a2;simp only[Addr.mk.injEq,Zh1,Zn7]at a2;exact AL a2.1.symm a2.2.symm (.inr ⟨t,cs,rfl⟩)
 |iu s=>
  obtain⟨_,g1⟩:=h2.dQ;refine⟨?_,h3.aaU⟩;rw[g1, <-hL];exact .ptr n 0 XB
 |slice len es cap cs e8=>
  obtain⟨ad,aH,g1,g2,g3,g4⟩:=h2.cK;obtain⟨ad',XC,BH,Y9,g3',g4'⟩:=k2.cK;rw[g1]at BH;simp only[Value.slice.injEq,H0,true_and]at BH;obtain⟨rfl,rfl⟩:=BH;by_cases h0:aH=0
  . subst h0;have YT:len=0:=(by omega);have hcs0:cs=[]:=e8 YT (by
        cases cap with
        |none=>exact .inl rfl
        |some c=>exact .inr (by rw[g3 c rfl]))
    subst hcs0;refine⟨?_,?_⟩
    .   rw[g1];exact .slice n 0 len cap es 0 ad g2 g3 (λh=>absurd rfl h) (λ_=>XB)
    .   obtain⟨c,e,fr,q1,q2,q3,q4,q5⟩:=h3;exact⟨c,e,fr,q1,q2,q3,ak.nil,q5⟩
  .obtain⟨_,a1,_⟩:=g4 h0;obtain⟨_,a2,_⟩:=g4' h0;rw[a1]at a2;simp only[Addr.mk.injEq,Zh1,Zn7]at a2;exact AL a2.1.symm a2.2.symm (.inl ⟨cs,0,rfl⟩)
 |map=>
  obtain⟨_,g1⟩:=h2.vn;refine⟨?_,?_⟩
  .rw[g1, <-hL];exact .map n XB
  .obtain⟨es',q1,q2,q3⟩:=h3;exact⟨es',q1,q2,λi e e' he=>by simp at he⟩
end
section
variable{P:Program}{tt:TT}{C:Cells}{nt:Nat}{ops:Array Oper}{call:ah}{bJ:Fr}{h0:T AB}{n0:Pos}{R:List Rec}
def tJ(fr:Fr):List Pos->Fr
 |[]=>.e
 |p::l=>(tJ fr l).put (fr.get p) p
theorem QI{fr:Fr}{p:Pos}:∀{l:List Pos},p∈l->(tJ fr l).get p=fr.get p
 |[],h=>by cases h
 |q ::l,h=>by
  simp only[tJ];by_cases e:q=p
  .subst e;exact T.dP _ _ _
  .rw[T.bn _ e];exact QI ((Za2.1 h).resolve_left λh=>e h.symm)
theorem LD{fr:Fr}{p:Pos}{v:AV}:∀{l:List Pos},(tJ fr l).get p=some v->p∈l/\fr.get p=some v
 |[],h=>by simp only[tJ]at h;rw[T.cT]at h;cases h
 |q ::l,h=>by
  simp only[tJ]at h;by_cases e:q=p
  .subst e;rw[T.dP]at h;exact⟨by simp,h⟩
  .rw[T.bn _ e]at h;obtain⟨h1,h2⟩:=LD h;exact⟨by simp[h1],h2⟩
theorem QJ{fr:Fr}{l:List Pos}:∀{xs:List dA},(∀p,dA.t p∈xs->p∈l)->dB (tJ fr l) xs=dB fr xs
 |[],_=>rfl
 |x::xs,h=>by
  have h1:zb (tJ fr l) x=zb fr x:=by
   cases x with
   |t p=>exact QI (h p (by simp))
   |c v=>rfl
  simp only[dB,h1,QJ λp hp=>h p (Za3 _ hp)]
theorem Za{o:aX}{p:Pos}(h:dA.t p∈o.xs):p∈o.looks:=by
 unfold aX.looks;exact Zh8 _ (Zk7.2 ⟨_,h,rfl⟩)
theorem Vt{o:aX}{p:Pos}{q:Bool}(h:o.guard=some (p,q)):p∈o.looks:=by unfold aX.looks;rw[h];simp
theorem Yields.upon{K:Value->World->Prop}{N:Next}{x:Value}{w:World}(h:Yields N x)(hk:K x w):Reaches P K (.ok N w):=by rcases h with rfl|⟨rfl,rfl⟩<;>exact hk
theorem aaV(hT:bG P tt)(bB:eg P C call)(G:wI tt nt ops call bJ h0 n0 R){iY:Pos->Loc}{w0:World}{D:Nat->Prop}{A B:List Rec}{ρ:Pos->Loc}{a:Act}{w:World}
  (hI:Inv C nt ops bJ h0 n0 R iY w0 D A B ρ a w) {i:Nat} (hi:i<ops.size) (hD:¬D i)
  (mW:∀o e,ops[i]? =some o->e∈o.after->Region.binds .any e=true->D e.on):
  By P ops i (λa' w'=>∃A' B' ρ',Inv C nt ops bJ h0 n0 R iY w0 (λj=>D j\/j=i) A' B' ρ' a' w') a w:=by
 obtain⟨r,hr,rfl⟩:=G.all i hi;obtain⟨X,Y,hR⟩:=jF hr;obtain⟨o,ho,hrel,hB⟩:=G.rel r hr;have hp:=hI.1;have Pd:∀b,r.o.br.testBit b=true->D b:=λb hb=>G.NU hp.closed (hB.2 b hb) mW
 obtain⟨Z,hA,QK⟩:=around G hp hR hD;have Gz:∀ρ',(∀b,Kept n0 R D b->ρ' b=ρ b)->∀p v,p∈r.o.looks->(kq bJ Y).get p=some v->∃x,a.tmps[p.toNat - 1]? =some x/\aj ρ' (cI n0 Y).toNat C v x:=
  λρ' hf p v hl hv=>look G hp (hI.2 ρ' hf).t1 (hI.2 ρ' hf).t0 hR hD Pd hl hv
 have hFR:∀ρ',(∀b,Kept n0 R D b->ρ' b=ρ b)->eB ρ' (cI n0 Y).toNat C (tJ (kq bJ Y) r.o.looks) a.tmps:=λρ' hf p v hv=>
  let⟨h1,h2⟩:=LD hv;Gz ρ' hf p v h1 h2
 have GC:∀b,Kept n0 R D b->ρ b=ρ b:=λ_ _=>rfl
 have hw:∀b,bC (kq bJ Y) r.o.guard=some b->Region.wanted o (yielded ops a.tmps)=b:=λb hb=>
  BA hrel.guard (λp v hv ⟨q,hq⟩=>Gz ρ GC p v (Vt hq) hv) hb
 have hnZ:∀s∈Z,s.nx.toNat<=(cI n0 Y).toNat:=λs hs=>by obtain⟨Z1,Z2,rfl⟩:=jF hs;have:=G.AM (X:=X) (r:=r) (Z:=Z1) (r':=s) (Y':=Z2++B) (by rw[hR,QK];simp);rw[QK];simp only[Zi2,Ze9];exact this
 have Tg:(cI n0 B).toNat<=(cI n0 Y).toNat:=by rw[QK];exact G.zf (X:=X++[r]) (by rw[hR,QK];simp)
 have hs:=Good.at (hR ▸G.MD);have hex:∀xs,dB (kq bJ Y) r.o.xs=some xs->dB (tJ (kq bJ Y) r.o.looks) r.o.xs=some xs:=λxs hx=>by rw[QJ λp hp=>Za hp];exact hx
 unfold By;simp only[ho];generalize hrr:r=r0 at*
 cases hs with
 |skip i' o' _ hw'=>
  rw[Za5 (by rw[hw _ hw'];simp)];exact⟨A,B,ρ,QF G hI hR hD mW hrel rfl λρ' _=> .Qz⟩
 |pure i' o' v xs _ hw' hx QD=>
  rw[Za6 (hw _ hw')];rw[QK]at QD;obtain⟨h,D1,bQ⟩:=QD Z B rfl hp.bound λs hs he=>by
    cases hb:o'.br.testBit s.idx with
    |false=>rfl
    |   true=>
        have h1:=hp.Tf s (by rw[hA];simp[hs]) (Pd _ hb);rw[h1]at he;cases he
  rcases hrel.op with hc|⟨hk,_⟩
  . have H:∀ρ',(∀b,Kept n0 R D b->ρ' b=ρ b)->∃N x,(execOp a.eval o).run P w= .ok N w/\Yields N x/\aj ρ' (cI n0 Y).toNat C v x:=by
        intro ρ' hf;have hW:=Xz G (hI.2 ρ' hf) hp.split (hp:=h) Tg λb y hb=>(D1 b y hb).imp (λh=>h) λ⟨s,h1,h2,h3⟩=>
          ⟨s,by rw[hA];simp[h1],Pd _ h3,h2,hnZ s h1⟩
        exact KO hT o.op ρ' C _ w _ _ _ _ a o _ _ rfl hc hW (hFR ρ' hf) (hex xs hx) (aaN bQ λ_ _ h=>h)
    obtain⟨N,x,he,hy,hv⟩:=H ρ GC;unfold O9;rw[he];refine hy.upon ⟨A,B,ρ,QF G hI hR hD mW hrel rfl λρ' hf=> ?_⟩;obtain⟨N',x',ji,QH,xZ⟩:=H ρ' hf;rw[he]at ji;simp only[Result.ok.injEq,Zn7]at ji;subst ji;rw[hy.eq QH];exact xZ
  .rw[hk]at bQ;cases bQ
 |new   i' o' v au xs _ hw' hx bQ=>
  rw[Za6 (hw _ hw')];rcases hrel.op with hc|⟨hk,_⟩
  . obtain⟨N,x,w',L,he,hy,h1,h2,h3,h4,h5,h6,h7⟩:=Y8 hT hc bQ (hex xs hx) (Wg:=λρ'=>∀b,Kept n0 R D b->ρ' b=ρ b) GC hFR
        (λad v ha=>((hI.2 ρ GC).W.cO ad v ha).1) (hI.2 ρ GC).W.whole
    unfold O9;rw[he];exact hy.upon ⟨A,B,_,aaQ G hI hR hD mW hrel rfl h1 h2 h3 h4 h5 h6 h7⟩
  .rw[hk]at bQ;cases bQ
 |aG i' o' v st' xs _ aaO hw' hx nU=>
  rw[Za6 (hw _ hw')];rcases hrel.op with hc|⟨hk,_⟩
  . have hY:∀s∈Y,D s.idx:=λs hs=>Pd _ (G.aG X _ Y hR aaO s hs)
    have hZ:∀s∈Z,s.c.jP=false:=λs hs=>hp.Tf s (by rw[hA];simp[hs]) (hY s (by rw[QK];simp[hs]))
    have hW:aP ρ C { heap:=gR h0 Y,next:=cI n0 Y } w:=Xz G (hI.2 ρ GC) hp.split Tg λb y hb=>by
        rw[QK]at hb;rcases wJ hZ hp.bound hb with hb|⟨s,h1,h2⟩
        .exact .inl hb
        .exact .inr ⟨s,by rw[hA];simp[h1],hY s (by rw[QK];simp[h1]),h2,hnZ s h1⟩
    have hre:=LA hT bB hc hW (hFR ρ GC) (hex xs hx) nU;(refine hre.mono λx w' XA=> ?_);obtain⟨j8,h⟩:=aaT G hI hR hD mW hrel hY rfl rfl XA;exact⟨_,_,j8,h⟩
  .exact(Reaches.bad hk nU).elim
end
section
variable{P:Program}{tt:TT}{C:Cells}{nt:Nat}{ops:Array Oper}{call:ah}{bJ:Fr}{h0:T AB}{n0:Pos}{R:List Rec}
theorem QL(G:wI tt nt ops call bJ h0 n0 R){iY:Pos->Loc}{w0:World}{D:Nat->Prop}{A B:List Rec}{ρ:Pos->Loc}{a:Act}{w:World}
   (hI:Inv C nt ops bJ h0 n0 R iY w0 D A B ρ a w) (fE:∀r∈R,D r.idx):eG nt iY C { heap:=h0,next:=n0 } w0 (kq bJ R) { heap:=gR h0 R,next:=cI n0 R } a w:=by
 obtain⟨hp,hI⟩:=hI;have h:=hI ρ λ_ _=>rfl
 have hZ:∀s∈A,s.c.jP=false:=λs hs=>hp.Tf s hs (fE s (by rw[hp.split];simp[hs]))
 have hnA:∀s∈A,s.nx.toNat<=(cI n0 R).toNat:=λs hs=>by obtain⟨Z1,Z2,hA⟩:=jF hs;have:=G.zf (X:=[]) (Y:=Z1) (Z:=s::(Z2++B)) (by rw[hp.split,hA];simp);have e:R=Z1++s::(Z2++B):=(by rw[hp.split,hA];simp);rw[<-e]at this;exact this
 have Tg:(cI n0 B).toNat<=(cI n0 R).toNat:=by
   have:=G.zf (X:=[]) (Y:=A) (Z:=B) (by rw[hp.split];simp)
   rwa [<-hp.split]at this
 have Lz:n0.toNat<=(cI n0 R).toNat:=G.Xw (X:=[]) rfl;have D1:∀b x,(gR h0 R).get b=some x->(gQ h0 B).get b=some x\/∃s∈A,D s.idx/\s.c= .new b x/\s.nx.toNat<=(cI n0 R).toNat:=λb x hb=>by
   rw[hp.split]at hb;rcases wJ hZ hp.bound hb with hb|⟨s,h1,h2⟩
   .exact .inl hb
   .exact .inr ⟨s,h1,fE s (by rw[hp.split];simp[h1]),h2,hnA s h1⟩
 refine⟨ρ,⟨Xz G h hp.split Tg D1,?_,hp.size,hp.defers⟩,h.AL,Lz,?_⟩
 . intro p v hv;rcases Jf R p v hv with⟨M,s,T,hM,h2,rfl,h3⟩|⟨h1,h2⟩
   . obtain⟨x,hx,Jg⟩:=h.t1 M s T p hM (fE s (by rw[hM];simp)) h2 λs' kg _=>h3 s' kg
     refine⟨x,hx,Jg.mono (λ_ _=>rfl) ?_⟩;have:=G.zf (X:=[]) (Y:=M) (Z:=s::T) (by rw[hM];simp);rw[<-hM]at this;exact this
   . obtain⟨x,hx,Jg⟩:=h.t0 p v h1 λs hs _=>h2 s hs
     exact⟨x,hx,Jg.mono (λ_ _=>rfl) Lz⟩
 . refine⟨h.E.os,h.E.tape,h.E.output,h.E.size,h.E.block,λb x hb=> ?_⟩;rcases D1 b x hb with hb|⟨s,h1,h2,h3,_⟩
   .exact h.E.lO b x hb
   .exact .inr (h.N s h1 h2 b x h3).2.2.1
def DL(listed:Array Bool)(j:Nat):Prop:=listed.getD j false=true
theorem Zb{listed:Array Bool}{i:Nat}(hi:i<listed.size):(λj=>DL listed j\/j=i)=DL (listed.setIfInBounds i true):=by
 funext j;apply propext;unfold DL;by_cases h:j=i
 .subst h;simp[hi]
 .rw[getD_set_ne false (Ne.symm h)];simp[h]
theorem Tj{listed:Array Bool}{j:Nat}(h:listed.getD j true=false):¬DL listed j:=by
 unfold DL;intro h';rcases Zi0 j listed.size with hj|hj
 .simp[hj]at h h';rw[h]at h';cases h'
 .simp[Array.getElem?_eq_none hj]at h'
theorem acJ{listed:Array Bool}{j:Nat}(hj:j<listed.size)(h:¬DL listed j):listed.getD j true=false:=by unfold DL at h;simp[hj]at h ⊢; exact h
theorem Jk(G:wI tt nt ops call bJ h0 n0 R){listed:Array Bool}(hs:listed.size=ops.size)(hr:Region.ready .any ops listed=[]):∀(Y X:List Rec),R=X++Y->∀r∈Y,DL listed r.idx
 |[],_,_,r,o8=>by cases o8
 |r ::Y  ,X,hR,r',o8=>by
  have ih:=Jk G hs hr Y (X++[r]) (by rw[hR];simp);rcases Za2.1 o8 with rfl|o8
  . obtain⟨o,ho,_,hB⟩:=G.rel r' (by rw[hR];simp);have aY:r'.idx<ops.size:=(Zb8.1 ho).1;by_cases h:DL listed r'.idx
    .   exact h
    .   exfalso;have:r'.idx∈Region.ready .any ops listed:=mem_ready.2 ⟨acJ (by omega) h,o,ho,λe he hb=>by obtain⟨s,h1,h2⟩:=G.br X r' Y hR _ (hB.1 o ho e he hb);have:=ih s h1;rw[h2]at this;exact this⟩;rw[hr]at this;cases this
  .exact ih r' o8
theorem QM(hT:bG P tt)(bB:eg P C call)(G:wI tt nt ops call bJ h0 n0 R){Q:Exit->Act->World->Prop}{iY:Pos->Loc}{w0:World}
  (hQ:∀a' w',eG nt iY C { heap:=h0,next:=n0 } w0 (kq bJ R) { heap:=gR h0 R,next:=cI n0 R } a' w'->Q .normal a' w'):
  ∀ (fuel:Nat)(listed:Array Bool)(U:List Nat)(A B:List Rec)(ρ:Pos->Loc)(a:Act)(w:World),listed.size=ops.size->U.length<=fuel->U.Nodup->(∀j,j<ops.size->¬DL listed j->j∈U)->
    Inv C nt ops bJ h0 n0 R iY w0 (DL listed) A B ρ a w->Sd P ops (Q .normal) fuel listed a w
 |0,listed,U,A,B,ρ,a,w,hs,hU,_,hm,hI=>by
  have hU0:U=[]:=Za7 (by omega);subst hU0;have hr:Region.ready .any ops listed=[]:=by
    cases h:Region.ready .any ops listed with
    |nil=>rfl
    |   cons i l=>
        have hi:i∈Region.ready .any ops listed:=(by rw[h];simp);obtain⟨h1,o,ho,_⟩:=mem_ready.1 hi;have:=hm i (Zb8.1 ho).1 (Tj h1);cases this
  exact⟨hr,hQ a w (QL G hI (Jk G hs hr R [] rfl))⟩
 |fuel+1,listed,U,A,B,ρ,a,w,hs,hU,HV,hm,hI=>by
  refine⟨λhr=>hQ a w (QL G hI (Jk G hs hr R [] rfl)),λi hi=> ?_⟩;obtain⟨h1,o,ho,h2⟩:=mem_ready.1 hi;have aY:i<ops.size:=(Zb8.1 ho).1;have nU:=aaV hT bB G hI aY (Tj h1) λo' e Dl he hb=>by rw[ho]at Dl;simp only[H0]at Dl;subst Dl;exact h2 e he hb
  refine Qw (λa' w' hh=> ?_) nU;obtain⟨A',B',ρ',hI'⟩:=hh;rw[Zb (by omega)]at hI';have hiU:i∈U:=hm i aY (Tj h1);refine QM hT bB G hQ fuel _ (U.erase i) A' B' ρ' a' w' (by simp[hs]) ?_ (HV.erase i) (λj hj hD=> ?_) hI'
  .rw[List.length_erase_of_mem hiU];omega
  . (rw[<-Zb (by omega)]at hD;have c9:j≠i:=λe=>hD (.inr e));exact(List.mem_erase_of_ne c9).2 (hm j hj λh=>hD (.inl h))
theorem GD(hm:P.follows .mixedOrders=true)(hT:bG P tt)(bB:eg P C call)(aem:kj call):o9 P tt C call:=by
 intro nt id ops l Q fr aQ st st' ρ a w hl ct h hS hQ;obtain⟨R,hG,hmap,VW,aen,Jj⟩:=NT (call:=call) (bJ:=fr) (h0:=st.heap) (n0:=st.next) _ [] fr aQ st st' h trivial rfl rfl rfl;simp only[Zf7]at hG VW aen Jj;have hst':st'={ heap:=gR st.heap R,next:=cI st.next R }:=by cases st';simp_all
 have hlen:l.length=ops.size:=by rw[(lS hl).1,Ze7]
 have NV:=LC _ 0 [] ct λb=>by simp
 have hL:uz (Bo 0 l) []=(R.map λr=>(r.idx,r.o)).reverse:=by rw[hmap,List.reverse_reverse]
 have dec:∀{A B:List Rec}{r:Rec},R=A++r::B->uz (Bo 0 l) []=(B.map λr=>(r.idx,r.o)).reverse++(r.idx,r.o)::(A.map λr=>(r.idx,r.o)).reverse:=λe=>by rw[hL,e];simp
 have D3:∀{B:List Rec}{i:Nat},i∈((B.map λr=>(r.idx,r.o)).reverse).map (·.1)↔ ∃r∈B,r.idx=i:=λ{B i}=>by simp
 have G:wI tt nt ops call fr st.heap st.next R:=by
   refine⟨hG,aem,λA r B e r' o8 hi=> ?_,λA r B e b hb=> ?_,λA r B e hc r' o8=> ?_,λA r B e r' o8=> ?_,λr hr=> ?_,λi hi=> ?_⟩
   .exact(NV.one _ _ _ _ (dec e)).2 (D3.2 ⟨r',o8,hi⟩)
   . rcases NV.br _ _ _ _ (dec e) b hb with h|h
     .cases h
     .exact D3.1 h
   .exact NV.aG _ _ _ _ (dec e) hc _ (.inr (D3.2 ⟨r',o8,rfl⟩))
   .exact NV.apart _ _ _ _ (dec e) (r'.idx,r'.o) (by simp;exact⟨r',o8,rfl,rfl⟩)
   .obtain⟨A,B,e⟩:=jF hr;have hx:(r.idx,r.o)∈uz (Bo 0 l) []:=(by rw[dec e];simp);have h1:=acI hx;obtain⟨o,h2,h3,h4⟩:=yE hl _ _ h1;refine⟨o,h2,h3,?_⟩;rw[h4];exact Wa ops.toList [] rfl (Zk8 _) (λi hi=>by simp at hi) _ (Zb8.1 h2).1
   . rcases NV.all i (by rw[hlen];exact hi)with h|h
     .cases h
     .rw[hL]at h;exact D3.1 h
 refine⟨hm,?_⟩;rw[hst',VW]at hQ;have hkn:∀b:Pos,b.toNat<st.next.toNat->∀D,Kept st.next R D b:=λb hb D A r B e _=>.inl (Zb7 hb (G.Xw (X:=A++[r]) (by rw[e];simp)))
 refine QM (Q:=Q) (iY:=ρ) (w0:=w) hT bB G hQ ops.size _ (List.range ops.size) R [] ρ a _ (by simp) (by simp) List.nodup_range (λj hj _=>List.mem_range.2 hj) ?_;have mH:∀j,¬DL (Array.replicate ops.size false) j:=λj h=>by
   unfold DL at h;rcases Zi0 j ops.size with hj|hj
   .simp[hj]at h
   .simp[Nat.not_lt.2 hj]at h
 refine⟨⟨by simp,trivial,(λr hr=>by cases hr),λr _ hD=>absurd hD (mH _),λi _ _ hD=>absurd hD (mH _),hS.size,hS.defers⟩,λρ' yF=> ?_⟩;have mG:∀b:Pos,b.toNat<st.next.toNat->ρ' b=ρ b:=λb hb=>yF b (hkn b hb _)
 have hW:aP ρ' C st { w with drawn:=w.drawn+1 }:=(hS.W.congr mG).grow (Za1 _) λ_ _=>rfl
 refine⟨hW,λr _ hD=>absurd hD (mH _),λr _ hD=>absurd hD (mH _),λM s T p _ hD=>absurd hD (mH _),λp v hv _=> ?_,⟨rfl,rfl,rfl,Za1 _,λ_ _ _=>rfl,λb x hb=>.inl ⟨b,x,hb,?_⟩⟩,mG⟩
 .obtain⟨x,hx,Jg⟩:=hS.F p v hv;exact⟨x,hx,Jg.mono mG (Za1 _)⟩
 .rw[mG b (hS.W.live b x hb).1]
theorem FZ(hm:P.follows .mixedOrders=true)(hT:bG P tt){O:dG}{G:T cq}(hO:nY P C O)(Jl:jr O)(hG:Nk P tt G)(m d:Nat):eg P C (n6 O G m d):=
 LB hT hO hG m (λd bB=>GD hm hT bB (Gu Jl m d)) d
end
end
section
section
variable{R:Type}
theorem rY{α:Type}:∀(p:Pos)(t:T α),j9 p t=t.get p
 |.h,.e=>rfl
 |.h,.n _ _ _=>rfl
 |.o _,.e=>rfl
 |.o p,.n l _ _=>rY p l
 |.i _,.e=>rfl
 |.i p,.n _ _ r=>rY p r
theorem gj{α:Type}(x:Option α):∀(p:Pos)(t:T α)(k:T α->R),lQ x p t k=k (t.put x p)
 |.h,.e,_=>rfl
 |.h,.n _ _ _,_=>rfl
 |.o p,.e,k=>gj x p .e _
 |.o p,.n l _ _,k=>gj x p l _
 |.i p,.e,k=>gj x p .e _
 |.i p,.n _ _ r,k=>gj x p r _
theorem yZ(n:Nat)(k:Nat->R):lR n k=k n:=by cases n<;>rfl
theorem Vu(n:Int)(k:Int->R):Mr n k=k n:=by cases n<;>simp only[Mr,yZ]
theorem Tk(b:Bool)(k:Bool->R):Qm b k=k b:=by cases b<;>rfl
theorem Dr{α:Type}:∀(l:List α)(k:List α->R),wC l k=k l
 |[],_=>rfl
 |a::l,k=>Dr l λt=>k (a::t)
theorem D4:∀(p:Pos)(k:Pos->R),Gg p k=k p
 |.h,_=>rfl
 |.o p,k=>D4 p λq=>k (.o q)
 |.i p,k=>D4 p λq=>k (.i q)
theorem Zc(o:Option Nat)(k:Option Nat->R):SD o k=k o:=by
 cases o with
 |none=>rfl
 |some n=>simp only[SD,yZ]
theorem QN(v:AV)(k:AV->R):I3 v k=k v:=by
 cases v<;>simp only[I3,Tk,Vu,Dr,D4,yZ,Zc]
theorem GF:∀(l:List AV)(k:List AV->R),KM l k=k l
 |[],_=>rfl
 |a::l,k=>by
  show I3 a (λa=>KM l λt=>k (a::t))=_;rw[QN,GF l]
theorem Ds(v:AV)(k:AV->R):o6 v k=k v:=by
 unfold o6;split
 .exact GF _ _
 .exact QN _ _
theorem GG(x:AB)(k:AB->R):A5 x k=k x:=by
 cases x<;>simp only[A5,Dr,yZ]
theorem GH:∀(p:Pos)(k:Pos->R),Ns p k=k p.succ
 |.h,_=>rfl
 |.o _,_=>rfl
 |.i p,k=>GH p λq=>k (.o q)
variable(z:R)
def lU{α:Type}(r:Option α)(k:α->R):R:=match r with
 |some x=>k x
 |none=>z
theorem Jm(fr:Fr)(x:dA)(k:AV->R):Qn z fr x k=lU z (zb fr x) k:=by
 cases x with
 |t p=>simp only[Qn,rY,zb,lU];cases T.get p fr<;>rfl
 |c v=>rfl
theorem KQ(fr:Fr):∀(xs:List dA)(k:List AV->R),Ms z fr xs k=lU z (dB fr xs) k
 |[],k=>rfl
 |x::xs,k=>by
  show Qn z fr x (λv=>Ms z fr xs λvs=>k (v::vs))=_;rw[Jm];simp only[KQ fr xs];simp only[dB];cases zb fr x with
  |none=>rfl
  |some v=>simp only[lU];cases dB fr xs<;>rfl
theorem NW(fr:Fr)(g:Option (Pos×Bool))(yes no:R):A6 z fr g yes no=match bC fr g with
  |some true=>yes
  |some false=>no
  |none=>z:=by
 unfold A6 bC;cases g with
 |none=>rfl
 |some g=>
  obtain⟨p,want⟩:=g;simp only[rY];cases T.get p fr with
  |none=>rfl
  |some v=>
   (cases v<;>try rfl);rename_i b;cases b<;>cases want<;>rfl
theorem NX(fr:Fr)(d:Option Pos)(v:AV)(k:Fr->R):jg fr d v k=k (cE fr d v):=by
 cases d with
 |none=>rfl
 |some p=>exact gj _ _ _ _
theorem acK(st:St)(del:Option Pos)(set:Option (Pos×AB))(new:Option AB)(k:St->R):aat st del set new k=k (st.aG del set new):=by
 have hdel:∀(h:T AB)(k:T AB->R),delK del h k=k (DR del h):=λh k=>by
  cases del with
  |none=>rfl
  |some b=>exact gj _ _ _ _
 have Gn:∀(h:T AB)(k:T AB->R),aas set h k=k (Gd set h):=λh k=>by
  cases set with
  |none=>rfl
  |some b=>simp only[aas,GG,gj];rfl
 unfold aat;rw[hdel,Gn];cases new with
 |none=>rfl
 |some x=>simp only[GG,gj,GH];rfl
def CK(aS:gI R)(call:ah):Prop:=∀f args st k,aS f args st k=lU z (call f args st) λx=>k x.1 x.2
variable{aS:gI R}{call:ah}
theorem GI(h:T AB):(λb=>j9 b h)=λb=>h.get b:=funext λb=>rY b h
theorem Tl(hc:CK z aS call)(op:az)(xs:List AV)(st:St)(k:AV->St->R):KN z aS op xs st k=lU z (bT call op xs st) λx=>k x.1 x.2:=by
 unfold KN bT;rw[GI];cases op.run (λb=>st.heap.get b) st.next xs with
 |none=>rfl
 |some r=>
  cases r with
  |val v=>simp only[Ds];rfl
  |aG v d s n=>simp only[Ds,acK];rfl
  |call f args=>simp only[Dr];exact hc f args st k
theorem KR(hc:CK z aS call):∀(ops:List aX)(fr:Fr)(st:St)(k:Fr->St->R),O0 z aS ops fr st k=lU z (g7 call ops fr st) λx=>k x.1 x.2
 |[],fr,st,k=>rfl
 |o::os,fr,st,k=>by
  show A6 z fr o.guard (Ms z fr o.xs λxs=>KN z aS o.k xs st λv st=>jg fr o.dst v λfr=>O0 z aS os fr st k) (jg fr o.dst .undef λfr=>O0 z aS os fr st k)=_;rw[NW,KQ];simp only[Tl z hc,NX,KR hc os];simp only[g7];cases bC fr o.guard with
  |none=>rfl
  |some b=>
   cases b with
   |false=>rfl
   |    true=>
        simp only[];cases dB fr o.xs with
        |none=>rfl
        |some xs=>
         simp only[lU];cases bT call o.k xs st with
         |none=>rfl
         |some x=>rfl
theorem BI(br:Nat)(h:T AB):∀(recs:List Rec)(k:T AB->R),Gh br h recs k=k (snap br h recs)
 |[],k=>rfl
 |r::rs,k=>by
  show (match r.c with
   |    .new id au=>match br.testBit r.idx with
        |true=>Gh br h rs λh'=>lQ (some au) id h' k
        |false=>Gh br h rs k
   |.aG _ _=>k h
   |.pure=>Gh br h rs k)=_
  unfold snap;cases r.c with
  |pure=>exact BI br h rs k
  |aG _ _=>rfl
  |new id au=>
   simp only[];cases br.testBit r.idx with
   |true=>simp only[BI br h rs,gj]
   |false=>exact BI br h rs k
theorem QO(h:T AB):∀(l:List (Pos×AB))(k:T AB->R),SE h l k=k (wu l h)
 |[],k=>rfl
 |(id,au)::l,k=>by show SE h l (λh'=>lQ (some au) id h' k)=_;rw[QO h l,gj];rfl
theorem wK(br:Nat)(op:az)(xs:List AV)(v:AV):∀(recs:List Rec)(up:List (Pos×AB)),nR br op xs v up recs=jf br op xs v up recs
 |[],up=>rfl
 |r::rs,up=>by
  unfold nR jf;cases r.c with
  |pure=>exact wK br op xs v rs up
  |new id au=>simp only[wK br op xs v rs]<;>(cases br.testBit r.idx<;>rfl)
  |aG base _=>
   simp only[wK br op xs v rs,BI,QO];unfold SG mS;simp only[GI]<;>(cases br.testBit r.idx<;>rfl)
theorem Tm (hc:CK z aS call):∀(ops:List (Nat×aX))(recs:List Rec)(base:T AB)(fr:Fr)(st:St)(k:Fr->St->R),
  Gi z aS ops recs base fr st k=lU z (cB call ops recs base fr st) λx=>k x.1 x.2
 |[],recs,base,fr,st,k=>rfl
 |(j,   o)::  os,recs,base,fr,st,k=>by
  show A6   z fr o.guard
    (Ms   z fr o.xs λxs=>match o.cls with
        | .new=>match o.k.run (λ_=>none) st.next xs with
          |some (.aG v none none (some au))=>o6 v λv=>A5 au λau=>jg fr o.dst v λfr=>Ns st.next λn=>lQ (some au) st.next st.heap λh=>
              Gi z aS os ({ idx:=j,o:=o,v:=v,c:= .new st.next au,nx:=n }::recs) base fr { heap:=h,next:=n } k
          |_=>z
        |.aG=>KN z aS o.k xs st λv st'=>jg fr o.dst v λfr=>Gi z aS os ({ idx:=j,o:=o,v:=v,c:= .aG base st'.heap,nx:=st'.next }::recs) st'.heap fr st' k
        | _ =>match o.k.run (λ_=>none) .h xs with
          |some (.val v)=>o6 v λv=>jg fr o.dst v λfr=>Gi z aS os ({ idx:=j,o:=o,v:=v,c:= .pure,nx:=st.next }::recs) base fr st k
          | _ =>Gh o.br base recs λh=>match o.k.run (λb=>j9 b h) .h xs with
            | some (.val v)=>o6 v λv=>match nR o.br o.k xs v [] recs with
              |true=>jg fr o.dst v λfr=>Gi z aS os ({ idx:=j,o:=o,v:=v,c:= .pure,nx:=st.next }::recs) base fr st k
              |false=>z
            |_=>z)
    (jg fr o.dst .undef λfr=>Gi z aS os ({ idx:=j,o:=o,v:= .undef,c:= .pure,nx:=st.next }::recs) base fr st k)=_
  rw[NW,KQ];simp only[Tl z hc,NX,Ds,GG,GH,gj,BI,wK,GI,Tm hc os];simp only[cB];cases bC fr o.guard with
  |none=>rfl
  | some b=>
    cases b with
    |false=>rfl
    |   true=>
        simp only[];cases dB fr o.xs with
        |none=>rfl
        | some xs=>
          simp only[lU];cases o.cls with
          | new=>
            simp only[];split<;>simp_all
          | aG=>
            simp only[];cases bT call o.k xs st with
            |none=>rfl
            |some x=>rfl
          | pure=>
            simp only[];split
            .simp_all
            .split<;>simp_all;split<;>simp_all
          | read=>
            simp only[];split
            .simp_all
            .split<;>simp_all;split<;>simp_all
def Tn(r:Option (iy×Fr×St))(kn:Fr->St->R)(kx:Nat->Fr->St->R)(kr:Fr->St->R):R:=match r with
 |some (.normal,fr,st)=>kn fr st
 |some (.exit id,fr,st)=>kx id fr st
 |some (.ret,fr,st)=>kr fr st
 |none=>z
theorem ME(hc:CK z aS call):∀(m:Nat)(c:AC)(fr:Fr)(st:St)(kn:Fr->St->R)(kx:Nat->Fr->St->R)(kr:Fr->St->R),
  Nt z aS m c fr st kn kx kr=Tn z (exec call m c fr st) kn kx kr
 |0,c,fr,st,kn,kx,kr=>rfl
 |m+    1,c,fr,st,kn,kx,kr=>by
  have ih:=ME hc m;show nS z aS (Nt z aS m) c fr st kn kx kr=Tn z (aR call (exec call m) c fr st) kn kx kr;cases c with
  |skip=>rfl
  |region ops=>
   simp only[nS,aR,KR z hc];cases g7 call ops fr st with
   |none=>rfl
   |some x=>rfl
  |draw ops=>
   simp only[nS,aR,Tm z hc];cases cB call ops [] st.heap fr st with
   |none=>rfl
   |some x=>rfl
  |seq a b=>
   simp only[nS,aR,ih];cases exec call m a fr st with
   |none=>rfl
   |    some x=>
        obtain⟨e,bI,aL⟩:=x;cases e<;>rfl
  |cond x a b=>
   simp only[nS,aR,Jm];cases zb fr x with
   |none=>rfl
   |    some v=>
        simp only[lU];(cases v<;>try rfl);rename_i t;cases t<;>simp only[ih]
  |block id a=>
   simp only[nS,aR,ih];cases exec call m a fr st with
   |none=>rfl
   |    some x=>
        obtain⟨e,bI,aL⟩:=x;(cases e<;>try rfl);rename_i qf;simp only[Tn];cases Nat.beq qf id<;>rfl
  |loop a=>
   simp only[nS,aR,ih];cases exec call m a fr st with
   |none=>rfl
   |    some x=>
        obtain⟨e,bI,aL⟩:=x;cases e<;>rfl
  |exit id=>rfl
  |ret=>rfl
theorem AN:∀(vs:List AV)(i:Nat)(fr:Fr)(k:Fr->R),yB vs i fr k=k (params i vs fr)
 |[],i,fr,k=>rfl
 |v::vs,i,fr,k=>by show lQ (some v) (key i) fr (λfr=>yB vs (i+1) fr k)=_;rw[gj,AN vs];rfl
theorem Vv(st:St)(fr:Fr)(rs:List za)(k:AV->R):yC z st fr rs k=lU z (cm (λb=>st.heap.get b) fr rs) λvs=>k (fC vs):=by
 unfold yC;rw[GI];cases cm (λb=>st.heap.get b) fr rs with
 |none=>rfl
 |some vs=>
  simp only[GF,lU];cases vs with
  |nil=>rfl
  |cons v vs=>cases vs<;>rfl
theorem GJ (O:dG)(G:T cq)(m:Nat):∀d,CK z (C9 z O G m d) (n6 O G m d)
 |0=>λf args st k=>rfl
 |d+    1=>fun f args st k=>by
  have ih:=GJ O G m d;show( match O f with
   |    some s=>match s args st with
        |some (v,st')=>o6 v λv=>k v st'
        |none=>z
   |    none=>match j9 (key f) G with
        |some F=>match Nat.beq args.length F.nparams with
         |true=>yB args 0 .e λfr=>Nt z (C9 z O G m d) m F.code fr st
             (λfr st=>yC z st fr F.results λv=>k v st)
             (λ_ _ _=>z)
             (λfr st=>yC z st fr F.results λv=>k v st)
         |false=>z
        |none=>z)=_
  simp only[n6,Ds,rY,AN,ME z ih,Vv];cases O f with
  |some s=>
   simp only[];cases s args st with
   |none=>rfl
   |some x=>rfl
  |none=>
   simp only[];cases G.get (key f)with
   |none=>rfl
   |    some F=>
        simp only[];cases Nat.beq args.length F.nparams with
        |false=>rfl
        |true=>
         simp only[];cases exec (n6 O G m d) m F.code (params 0 args .e) st with
         |none=>rfl
         |  some x=>
            obtain⟨e,bI,aL⟩:=x;cases e with
            |normal=>
             simp only[Tn];cases cm (λb=>aL.heap.get b) bI F.results<;>rfl
            |exit id=>rfl
            |ret=>
             simp only[Tn];cases cm (λb=>aL.heap.get b) bI F.results<;>rfl
end
end
section
open Go
def XD (P:Program)(t:Nat)(ti:TI):Bool:=
 match P.underlying t,P.info? t with
 |  some d,some i=>bt ti.k d&&Nat.beq i.size ti.size&&Nat.beq i.bytes ti.bytes&&
    (match ti.zero with
     |none=>true
     | some z=>match i.zero with
       |some v=>(match lB v.cells.toList with
           |some z'=>qB z' z
           |none=>false)&&Nat.beq z.length ti.size&&(match ti.k.isAgg,v with
           |true,.agg _=>true
           |true,_=>false
           |false,.agg _=>false
           |false,_=>true)
       |none=>false)&&(match ti.k with
     |.ptr e=>(P.info? e).isSome
     |_=>true)&&(!ti.uy||(!P.stoodInHeld t&& !P.eqGuardType P.depth t))
 |_,_=>false
theorem aaW{P:Program}{t:Nat}{ti:TI}(h:XD P t ti=true):Xc P t ti:=by
 unfold XD at h;split at h<;>first|(cases h;done)|skip
 rename_i d i hd hi;simp only[Za4,Zg6,Zg9]at h;obtain⟨⟨⟨⟨⟨h1,h2⟩,h3⟩,h4⟩,h6⟩,h5⟩:=h;refine⟨⟨d,hd,h1⟩,⟨i,hi,H2 h2,H2 h3,λz hz=> ?_⟩,λe he=> ?_,λhe=> ?_⟩
 . rw[hz]at h4;simp only at h4;(split at h4<;>first|(cases h4;done)|skip);rename_i v hv;simp only[Za4]at h4;obtain⟨⟨g1,g2⟩,g3⟩:=h4;(split at g1<;>first|(cases g1;done)|skip);rename_i z' yc;rw[yY g1]at yc;refine⟨v,hv,yc,H2 g2,λha=> ?_,λha=> ?_⟩
   .rw[ha]at g3;cases v<;>first|exact⟨_,rfl⟩|cases g3
   .rw[ha]at g3;cases v<;>first|rfl|cases g3
 .rw[he]at h6;exact Option.isSome_iff_exists.1 h6
 . rcases h5 with h5|h5
   .rw[he]at h5;cases h5
   .exact h5
def AZ(P:Program):(Pos->Pos)->T TI->Bool
 |_,.e=>true
 |  f,.n l v r=>(match v with
    |some ti=>XD P ((f .h).toNat - 1) ti
    |none=>true)&&AZ P (λp=>f (.o p)) l&&AZ P (λp=>f (.i p)) r
theorem GK{P:Program}:∀{t:T TI}{f:Pos->Pos},AZ P f t=true->∀p ti,t.get p=some ti->Xc P ((f p).toNat - 1) ti
 |.e,f,_,p,ti,h=>by rw[T.cT]at h;cases h
 | .n l v r,f,hc,p,ti,h=>by
   simp only[AZ,Za4]at hc;cases p with
   |h=>simp only[T.get]at h;rw[h]at hc;exact aaW hc.1.1
   |o p=>exact GK hc.1.2 p ti h
   |i p=>exact GK hc.2 p ti h
theorem acw{P:Program}{tt:TT}(h:AZ P (λp=>p) tt=true):bG P tt:=λp ti hp=>GK h p ti hp
end
noncomputable section
open Go
def EZ{α:Type}(g:Nat->Option α):Nat->Nat->Nat->T α
 |0,_,_=>.e
 |d+1,a,m=>.n (EZ g d a (2*m)) (g (a+m - 1)) (EZ g d (a+m) (2*m))
theorem GL{α:Type}{g:Nat->Option α}:∀{d a m:Nat}{p:Pos}{x:α},(EZ g d a m).get p=some x->g (a+m*p.toNat - 1)=some x
 |0,_,_,p,x,h=>by rw[EZ,T.cT]at h;cases h
 |d+1,a,m,.h,x,h=>by rw[Pos.toNat,Zj4];exact h
 |d+1,a,m,.o p,x,h=>by
  have:=GL (d:=d) (a:=a) (m:=2*m) (p:=p) (x:=x) h;rw[Pos.toNat];have e:a+m*(2*p.toNat) - 1=a+2*m*p.toNat - 1:=by rw[<-Nat.mul_assoc,Nat.mul_comm m 2]
  rw[e];exact this
 |d+1,a,m,.i p,x,h=>by
  have:=GL (d:=d) (a:=a+m) (m:=2*m) (p:=p) (x:=x) h;rw[Pos.toNat];have e:a+m*(2*p.toNat+1) - 1=a+m+2*m*p.toNat - 1:=by rw[Nat.mul_add,Zj4, <-Nat.mul_assoc,Nat.mul_comm m 2];omega
  rw[e];exact this
def acj(P:Program)(tt:TT)(i:Nat):Option cq:=match P.funcs[i]? with
 |some fn=>Sa tt fn
 |none=>none
def ggOf(P:Program)(tt:TT):T cq:=EZ (acj P tt) 10 0 1
theorem acy{P:Program}{tt:TT}(h:(P.funcs.toList.all λfn=> !(fn.name== "runtime.NumGoroutine"))=true):Nk P tt (ggOf P tt):=λp F hp=>by
 have:=GL hp;rw[Zb9,Zm8,acj]at this;split at this<;>first|(cases this;done)|skip
 rename_i fn Ac;refine⟨fn,Ac,?_,this⟩;have:=Zd6.1 h fn (by obtain⟨hi,e⟩:=Zb8.1 Ac;exact Zk1.2 (e ▸Array.getElem_mem hi));simpa using this
def tkOf(P:Program)(t:Nat):TK:=match P.underlying t with
 |some .bool=>.bool
 |some (.int k)=>.int k
 |some .string=>.string
 |some (.pointer e)=>.ptr e
 |some (.slice e)=>.slice e
 |some (.array n e)=>.array n e
 |some (.map k e)=>.map k e
 |some (.struct fs)=>.struct (fs.toList.map λf=>(f.offset,f.type,f.name != "_"))
 |some (.func _ _ _)=>.func
 |some (.interface _)=>.iface
 |some .unsafePointer=> .Yu
 |_=>.other
def zeroOf:Option Value->Option (List AV)
 |  some v=>match Nat.ble v.cells.size 64 with
    |true=>lB v.cells.toList
    |false=>none
 |none=>none
def memN(n:Nat):List Nat->Bool
 |[]=>false
 |  m::l=>match Nat.beq m n with
    |true=>true
    |false=>memN n l
def tiOf(P:Program)(eqs:List Nat)(t:Nat):Option TI:=match P.info? t with
 |none=>none
 |some i=>some { k:=tkOf P t,size:=i.size,bytes:=i.bytes,zero:=zeroOf i.zero,uy:=memN t eqs }
def ttOf(P:Program)(eqs:List Nat):T TI:=EZ (tiOf P eqs) 10 0 1
end
section
open Go
structure kK(P:Program)(C:Cells)(f:FuncId)(s:List AV->St->Option (AV×St)):Prop where
 mono:∀args st v st',s args st=some (v,st')->st.next.toNat<=st'.next.toNat
 runs:∀(ρ:Pos->Loc)(st:St)(w:World)(args:List AV)(v:AV)(st':St)(bu:List Value),s args st=some (v,st')->
  aP ρ C st w->ak ρ st.next.toNat C args bu->Reaches P (ki ρ C st w v st') ((callFunc f bu.toArray).run P w)
def wo:List (Nat×(List AV->St->Option (AV×St)))->dG
 |[]=>λ_=>none
 |  (g,s)::l=>λf=>match Nat.beq f g with
    |true=>some s
    |false=>wo l f
theorem uH{P:Program}{C:Cells}:∀{l:List (Nat×(List AV->St->Option (AV×St)))},(∀x∈l,kK P C x.1 x.2)->nY P C (wo l)/\jr (wo l)
 |[],_=>⟨λf s h=>by simp[wo]at h,λf s h=>by simp[wo]at h⟩
 |(g,   s0)::l,hl=>by
  obtain⟨h1,h2⟩:=uH λx hx=>hl x (Za3 _ hx)
  have h0:=hl _ (Zc2 ..);refine⟨λf s h=> ?_,λf s h=> ?_⟩
  . simp only[wo]at h;split at h
    .   rename_i he;simp only[H0]at h;subst h;have:=H2 he;subst this;exact h0.runs
    .   exact h1 f s h
  . simp only[wo]at h;split at h
    .   simp only[H0]at h;subst h;exact h0.mono
    .   exact h2 f s h
def IX:List AV->St->Option (AV×St)
 |  [.str a,.str b],st=>some (.int .i64 (match aA a b with
    |true=>.negSucc 0
    |false=>match aA b a with
     |true=>.ofNat 1
     |false=>.ofNat 0),st)
 |_,_=>none
theorem Jn:∀(x y:List UInt8),Lib.compareBytes x y=match aA (x.map UInt8.toNat) (y.map UInt8.toNat)with
  |true=>.negSucc 0
  | false=>match aA (y.map UInt8.toNat) (x.map UInt8.toNat)with
    |true=>.ofNat 1
    |false=>.ofNat 0
 |[],[]=>rfl
 |[],_::_=>rfl
 |_::_,[]=>rfl
 |a ::x  ,b::y=>by
  rw[pM,pM];have ih:=Jn x y;rw[pM,pM]at ih;simp only[Lib.compareBytes,Op.bytesLess];by_cases h:a<b
  .simp[h]
  . by_cases h':b<a
    .   have c9:(a==b)=false:=(by rw[beq_eq_false_iff_ne];exact λe=>by subst e;exact h h');simp[h,h',c9]
    .   have he:a=b:=(by apply Zo1.1;rw[Zl8]at h h';omega);subst he;simp only[h,Zd7,ih];simp
theorem aap{P:Program}{C:Cells}{f:FuncId}{fn:Func}(hf:P.funcs[f]? =some fn)(gH:(fn.name== "runtime.NumGoroutine")=false)(hb:fn.body.isNone=true)
  (hx:Extern.findNext fn=none) (he:Extern.find fn=some Extern.BytealgCompare.compare):kK P C f IX where
 mono args st v st' h:=by unfold IX at h;split at h<;>cases h;exact Za1 _
 runs ρ st w args v st' bu h hW hv:=by
  unfold IX at h;split at h<;>cases h;rename_i a b;obtain⟨x,xs,rfl,h1,h2⟩:=hv.cons_inv;obtain⟨y,ys,rfl,h3,h4⟩:=h2.cons_inv;have:=h4.k8;subst this;obtain⟨s,rfl,hs⟩:=h1.dD;obtain⟨t,rfl,ht⟩:=h3.dD;have bQ:(callFunc f [Value.string s,Value.string t].toArray).run P w= .ok (.value (.int .i64 (Lib.compareBytes s.data.toList t.data.toList))) w:=by rw[run_callFunc_extern hf gH hb hx he];show((Extern.BytealgCompare.compare #[.string s,.string t]).run P w).andThen _=_;rw[Lib.run_compareString];rfl
  rw[bQ];refine⟨ρ,?_,λ_ _=>rfl,Za1 _,hW,iL.refl _ _ _⟩;rw[Jn,hs,ht];exact .int _ _
def zh:List AV->List AV->Bool
 |[],[]=>true
 |a::x,b::y=>fB a b&&zh x y
 |_,_=>false
theorem Dt:∀{a b:List AV},zh a b=true->a=b
 |[],[],_=>rfl
 |[],_::_,h=>by simp[zh]at h
 |_::_,[],h=>by simp[zh]at h
 |a::x,b::y,h=>by
  simp only[zh,Za4]at h;rw[oe h.1,Dt h.2]
def KS:List (AV×AV×Nat)->List (AV×AV×Nat)->Bool
 |[],[]=>true
 |(a,b,n)::x,(a',b',n')::y=>fB a a'&&fB b b'&&Nat.beq n n'&&KS x y
 |_,_=>false
theorem To:∀{a b:List (AV×AV×Nat)},KS a b=true->a=b
 |[],[],_=>rfl
 |[],_::_,h=>by simp[KS]at h
 |_::_,[],h=>by simp[KS]at h
 |(a,b,n)::x,(a',b',n')::y,h=>by
  simp only[KS,Za4]at h;obtain⟨⟨⟨h1,h2⟩,h3⟩,h4⟩:=h;rw[oe h1,oe h2,H2 h3,To h4]
def Du:AB->AB->Bool
 |.cells cs fz,.cells jZ fz'=>zh cs jZ&&Nat.beq fz fz'
 |.map es c,.map es' c'=>KS es es'&&Nat.beq c c'
 |.iu s p,.iu s' p'=>gM s s'&&Nat.beq p p'
 |.typed t cs,.typed t' jZ=>zh cs jZ&&Nat.beq t t'
 |_,_=>false
theorem MF{a b:AB}(h:Du a b=true):a=b:=by
 unfold Du at h;split at h<;>(try simp only[Za4]at h)
 .rw[Dt h.1,H2 h.2]
 .rw[To h.1,H2 h.2]
 .rw[lD.1 h.1,H2 h.2]
 .rw[Dt h.1,H2 h.2]
 .cases h
structure Lit where
 args:List AV
 n0:Pos
 L0:List (Pos×AB)
 v:AV
 n1:Pos
 L1:List (Pos×AB)
end
end Go.Ai
