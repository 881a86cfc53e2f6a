/- Its calls answer as the model does. -/
import Derived.Test.YtlkadmkojjceiaaGreatDoorQEvalC
import Derived.Lib.Bytealg
set_option linter.all false
namespace Go.Ai
section
open Go Go.RowKit
theorem Al{a b:AV}(h:gy a b=true):a=b:=by
 unfold gy at h;split at h<;>(try simp only[Za8,Zf1]at h)<;>try rfl
 .rw[beq_iff_eq.1 h]
 .rename_i k i k' i';have h2:=h.2;rw[j7]at h2;rw[uJ h.1,beq_iff_eq.1 h2]
 .rw[kj.1 h]
 .rw[Pos.beq_eq.1 h.1,Za1 h.2]
 .obtain⟨⟨⟨h1,h2⟩,h3⟩,h4⟩:=h;rw[Pos.beq_eq.1 h1,Za1 h2,Za1 h3,Za1 h4]
 .obtain⟨⟨⟨⟨h1,h2⟩,h3⟩,h4⟩,h5⟩:=h;rw[Pos.beq_eq.1 h1,Za1 h2,Za1 h3,Za1 h4,Za1 h5]
 .rw[Pos.beq_eq.1 h]
theorem Ds:∀{a b:List AV},um a b=true->a=b
 |[],[],_=>rfl
 |[],_::_,h=>by simp[um]at h
 |_::_,[],h=>by simp[um]at h
 |a::x,b::y,h=>by
  simp only[um,Za8]at h;rw[Al h.1,Ds h.2]
theorem SQ{f:AV->AV->Bool}(hf:∀{a b},f a b=true->a=b):∀{a b:List AV},Cq f a b=true->a=b
 |[],[],_=>rfl
 |[],_::_,h=>by simp[Cq]at h
 |_::_,[],h=>by simp[Cq]at h
 |a::x,b::y,h=>by
  simp only[Cq,Za8]at h;rw[hf h.1,SQ hf h.2]
theorem Ny{f:AV->AV->Bool}(hf:∀{a b},f a b=true->a=b):∀{a b:List (List AV)},uI f a b=true->a=b
 |[],[],_=>rfl
 |[],_::_,h=>by simp[uI]at h
 |_::_,[],h=>by simp[uI]at h
 |a::x,b::y,h=>by
  simp only[uI,Za8]at h;rw[SQ hf h.1,Ny hf h.2]
theorem SS:∀{d:Nat}{a b:AV},Cr d a b=true->a=b
 |0,_,_,h=>by unfold Cr at h;exact Al h
 |d +1,a,b,h=>by
  unfold Cr at h;split at h
  .rename_i heq;cases heq;simp only[Za8]at h;rw[Ny (λh=>SS h) h.1,Za1 h.2]
  .exact Al h
theorem Nz{a b:AV}(h:kF a b=true):a=b:=by
 unfold kF at h;split at h
 .simp only[Za8]at h;rw[Za1 h.1.1,Ds h.1.2,Ds h.2]
 .exact SS h
 .exact Al h
theorem yp:∀{a b:List AV},qD a b=true->a=b
 |[],[],_=>rfl
 |[],_::_,h=>by simp[qD]at h
 |_::_,[],h=>by simp[qD]at h
 |a::x,b::y,h=>by
  simp only[qD,Za8]at h;rw[Nz h.1,yp h.2]
theorem oI{a b:AV}(h:fj a b=true):a=b:=by
 unfold fj at h;split at h
 .rw[yp h]
 .rw[yp h]
 .exact Nz h
theorem abh {k:av}{H H':Pos->Option AB}{n n':Pos}{xs:List AV}{v:AV}(h:k.run H n xs=some (.val v))(hm:∀b x,H b=some x->H' b=some x):
  k.run H' n' xs=some (.val v):=by
 cases k<;>simp only[av.run]at h ⊢ <;>try exact h
 case alloc z=>unfold Fp at h;split at h<;>cases h
 case box=>unfold MZ at h;split at h<;>cases h
 case buildSlice es len z p=>unfold o9 at h;dsimp only at h;split at h<;>cases h
 case mkMap=>unfold Ft at h;cases h
 case mkSlice es b z=>
  unfold vt at h
  repeat' split at h
  all_goals cases h
 case rangeS=>
  unfold Co at h
  repeat' split at h
  all_goals cases h
 case store m=>
  unfold AZ at h
  repeat' split at h
  all_goals cases h
 case mapSet pk=>
  unfold uH at h
  repeat' split at h
  all_goals cases h
 case load m=>
  unfold rI at h ⊢;split at h<;>first|(cases h;done)|skip
  split at h<;>first|(cases h;done)|skip
  . split at h<;>first|(cases h;done)|skip
    .   rename_i cs fz hb;simp only[hm _ _ hb];exact h
    .   rename_i t0 cs hb;simp only[hm _ _ hb];exact h
  .exact h
 case conv c=>
  unfold uF at h ⊢;split at h<;>first|(cases h;done)|skip
  split at h<;>first|(cases h;done)|exact h|skip
  rename_i b off m _ _;cases hb:Nat.beq m 0 with
  |true=>simp only[hb]at h ⊢; exact h
  | false=>
    simp only[hb]at h ⊢;cases hH:H b with
    |none=>simp[hH]at h
    |some x=>simp only[hH]at h;simp only[hm _ _ hH];exact h
 case lookup pk z ok=>
  unfold uG at h ⊢;split at h<;>first|(cases h;done)|skip
  rename_i m k';cases m<;>try exact h
  rename_i b;cases hb:H b with
  |none=>simp[hb]at h
  | some x=>
    simp only[hb]at h;simp only[hm _ _ hb];exact h
 case lenB lk=>
  unfold DX at h ⊢;split at h<;>first|(cases h;done)|skip
  split at h<;>first|(cases h;done)|exact h|skip
  split at h<;>first|(cases h;done)|skip
  rename_i es c hb;simp only[hm _ _ hb];exact h
 case nextS=>
  unfold Fu at h ⊢;split at h<;>first|(cases h;done)|skip
  split at h<;>first|(cases h;done)|skip
  split at h<;>first|(cases h;done)|skip
  rename_i s pos hb;simp only[hm _ _ hb];split at h
  .rename_i aT;split at h<;>cases h
  .rename_i aT;exact h
 case allocT t z=>
  unfold Cp at h;split at h<;>cases h
 case appendT e bytes=>
  unfold rJ at h ⊢;split at h<;>first|(cases h;done)|skip
  split at h<;>first|(cases h;done)|skip
  split at h<;>first|(cases h;done)|skip
  . (split at h<;>first|(cases h;done)|skip);split at h<;>first|(cases h;done)|exact h
  . (split at h<;>first|(cases h;done)|skip);split at h
    .   exact h
    .   repeat' split at h
        all_goals cases h
 case toU=>
  unfold M3 at h ⊢;split at h<;>first|(cases h;done)|skip
  split at h<;>first|(cases h;done)|exact h|skip
  split at h<;>first|(cases h;done)|skip
  rename_i t0 cs hb;simp only[hm _ _ hb];exact h
 case fromU u m=>
  unfold Fv at h ⊢;split at h<;>first|(cases h;done)|skip
  split at h<;>first|(cases h;done)|exact h|skip
  split at h<;>first|(cases h;done)|skip
  rename_i t0 cs hb;simp only[hm _ _ hb];exact h
 case unsafeStr e=>
  unfold nH at h ⊢;split at h<;>first|(cases h;done)|skip
  split at h<;>first|(cases h;done)|skip
  split at h
  .exact h
  . repeat' split at h
    all_goals cases h
 case clearS es z=>
  unfold qz at h ⊢;split at h<;>first|(cases h;done)|skip
  split at h<;>first|(cases h;done)|exact h|skip
  rename_i b off m _ _;cases hb:Nat.beq m 0 with
  |true=>simp only[hb]at h ⊢; exact h
  | false=>
    simp only[hb]at h
    repeat' split at h
    all_goals cases h
 case copyB es=>
  unfold xN at h ⊢;split at h<;>first|(cases h;done)|skip
  rename_i d x;cases hd:cS d with
  |none=>simp[hd]at h
  | some m1=>
    cases hx:cS x with
    |none=>simp[hd,hx]at h
    |   some m2=>
        simp only[hd,hx]at h ⊢;cases hb:Nat.beq (min m2 m1) 0 with
        |true=>simp only[hb]at h ⊢; exact h
        |false=>
         simp only[hb]at h;(split at h<;>first|(cases h;done)|skip);(split at h<;>first|(cases h;done)|skip);split at h<;>cases h
 case append es bytes=>
  unfold eV at h ⊢;split at h<;>first|(cases h;done)|skip
  rename_i s x;cases hd:cS s with
  |none=>simp[hd]at h
  | some m1  =>
    cases hx:cS x with
    |none=>simp[hd,hx]at h
    |   some m2=>
        simp only[hd,hx]at h ⊢;cases h1:Nat.ble ((2*(m1+m2)+768)*bytes) 281474976710656 with
        |false=>simp[h1]at h
        |true=>
         cases h2:Nat.ble (m1+m2) 9223372036854775807 with
         |false=>simp[h1,h2]at h
         |  true=>
            simp only[h1,h2]at h ⊢;cases hb:Nat.beq m2 0 with
            |true=>
             simp only[hb]at h ⊢;split at h<;>first|(cases h;done)|exact h|skip
             all_goals (simp_all;done)
            |false=>
             simp only[hb]at h
             repeat' split at h
             all_goals first
               |(rename_i e;cases e;done)
               |(rename_i e _;cases e;done)
               |(cases h;done)
               |simp_all
inductive uu(n:Pos):AV->AB->Prop where
 |ptr (cs:List AV):uu n (.ptr n 0) (.cells cs 0)
 |jq (s:List Nat):uu n (.ptr n 0) (.jq s 0)
 |slice (len es:Nat) (cap:Option Nat) (cs:List AV) (h:len=0->cap=none\/cap=some 0->cs=[]):uu n (.slice n 0 len cap es) (.cells cs 0)
 |map:uu n (.map n) (.map [] 0)
 |ptrT (t:TypeId) (cs:List AV):uu n (.ptr n 0) (.typed t cs)
 |ZG (len:Nat) (t:TypeId) (cs:List AV) (h:len≠0):uu n (.slice n 0 len none 1) (.typed t cs)
theorem Qw:∀{ps:List (Nat×Nat)}{xs cs:List AV},cj [] ps xs=some cs->cs=[]
 |[],[],cs,h=>by simp[cj]at h;exact h.symm ▸rfl
 |[],_::_,cs,h=>by simp[cj]at h
 |_::_,[],cs,h=>by simp[cj]at h
 |(off,size)::ps,v::vs,cs,h=>by
  unfold cj at h;split at h<;>first|(cases h;done)|skip
  rename_i h1 h2;have h1:=Za1 h1;have h2:=Za4 h2;have h3:v.cells=[]:=by apply Zb2;simp at h2;omega
  rw[h3]at h;have h4:aF ([]:List AV) off []=[]:=by simp[aF]
  rw[h4]at h;exact Qw h
theorem adi {k : av}{n:Pos}{xs:List AV}{v:AV}{ax:AB}(h:k.run (λ_=>none) n xs=some (.aH v none none (some ax))):uu n v ax:=by
 cases k<;>simp only[av.run]at h
 case alloc z=>unfold Fp at h;split at h<;>cases h;exact .ptr _
 case allocT t z=>unfold Cp at h;split at h<;>cases h;exact .ptrT _ _
 case appendT e bytes=>
  unfold rJ at h;split at h<;>first|(cases h;done)|skip
  split at h<;>first|(cases h;done)|skip
  split at h<;>first|(cases h;done)|skip
  . (split at h<;>first|(cases h;done)|skip);split at h<;>cases h;rename_i hb;exact .ZG _ _ _ (by have:=Zb9 hb;omega)
  . split at h<;>first|(cases h;done)|skip
    repeat' split at h
    all_goals cases h
 case toU=>   unfold M3 at h;repeat' split at h
              all_goals cases h
 case fromU=>   unfold Fv at h;repeat' split at h
                all_goals cases h
 case sliceData=>   unfold qC at h;repeat' split at h
                    all_goals cases h
 case unsafeStr=>   unfold nH at h;repeat' split at h
                    all_goals cases h
 case box=>unfold MZ at h;split at h<;>cases h;exact .ptr _
 case buildSlice es len z p=>
  unfold o9 at h;dsimp only at h;split at h<;>cases h;rename_i cs hc;refine .slice _ _ _ _ λh0 _=> ?_
  subst h0;exact Qw hc
 case mkMap=>unfold Ft at h;cases h;exact .map
 case mkSlice es b z=>
  unfold vt at h
  repeat' split at h
  all_goals cases h
  refine .slice _ _ _ _ λ_ h1=> ?_
  rcases h1 with h1|h1
  .cases h1
  .simp only[H4]at h1;subst h1;rfl
 case rangeS=>
  unfold Co at h
  repeat' split at h
  all_goals cases h
  exact .jq _
 case conv c=>
  unfold uF at h
  repeat' split at h
  all_goals cases h
  rename_i s;refine .slice _ _ _ _ λh0 _=> ?_
  rw[Zb2 h0];rfl
 case append es bytes=>
  unfold eV at h
  repeat' split at h
  all_goals cases h
  all_goals refine .slice _ _ _ _ λh0 _=> ?_
  all_goals (exfalso;rename_i hb _ _;simp_all)
 case move=>unfold J2 at h;split at h<;>cases h
 case pick=>   unfold OS at h;repeat' split at h
               all_goals cases h
 case build=>unfold Fq at h;dsimp only at h;split at h<;>cases h
 case load=>   unfold rI at h;repeat' split at h
               all_goals cases h
 case store=>   unfold AZ at h;repeat' split at h
                all_goals cases h
 case nilCheck=>   unfold Dj at h;repeat' split at h
                   all_goals cases h
 case bin=>   unfold gI at h;repeat' split at h
              all_goals cases h
 case un=>   unfold Xn at h;repeat' split at h
             all_goals cases h
 case mkIface=>   unfold Fs at h;repeat' split at h
                  all_goals cases h
 case mkFunc=>unfold Cn at h;dsimp only at h;cases h
 case lookup=>
  unfold uG at h;split at h<;>first|(cases h;done)|skip
  dsimp only at h;split at h<;>cases h
 case mapSet=>   unfold uH at h;repeat' split at h
                 all_goals cases h
 case sliceS=>
  unfold Ig at h;split at h<;>first|(cases h;done)|skip
  split at h<;>first|(cases h;done)|skip
  dsimp only at h;split at h<;>cases h
 case sliceL=>   unfold iK at h;repeat' split at h
                 all_goals cases h
 case fieldA=>   unfold Ih at h;repeat' split at h
                 all_goals cases h
 case idxA=>   unfold nG at h;repeat' split at h
               all_goals cases h
 case field=>   unfold LU at h;repeat' split at h
                all_goals cases h
 case idxS=>   unfold J3 at h;repeat' split at h
               all_goals cases h
 case extract=>   unfold Ah at h;repeat' split at h
                  all_goals cases h
 case callF=>unfold LV at h;dsimp only at h;cases h
 case callV=>   unfold LW at h;repeat' split at h
                all_goals cases h
 case lenB=>   unfold DX at h;repeat' split at h
               all_goals cases h
 case copyB=>
  unfold xN at h;split at h<;>first|(cases h;done)|skip
  split at h<;>first|(cases h;done)|skip
  dsimp only at h
  repeat' split at h
  all_goals cases h
 case minB=>   unfold Ay at h;repeat' split at h
               all_goals cases h
 case maxB=>   unfold Az at h;repeat' split at h
               all_goals cases h
 case clearS=>   unfold qz at h;repeat' split at h
                 all_goals cases h
 case nextS=>   unfold Fu at h;repeat' split at h
                all_goals cases h
 case capB=>cases h
 case bad=>cases h
end
section
def lQ(call:ai):Prop:=∀f args st v st',call f args st=some (v,st')->st.next.toNat<=st'.next.toNat
section
variable{call:ai}
theorem FK(hm:lQ call){k:av}{xs:List AV}{st st':St}{v:AV}(h:bS call k xs st=some (v,st')):st.next.toNat<=st'.next.toNat:=by
 unfold bS at h;split at h
 .simp only[H4,Zb6]at h;rw[h.2];exact Za6 _
 .simp only[H4,Zb6]at h;rw[<-h.2];exact St.SK _ _ _ _
 .exact hm _ _ _ _ _ h
 .cases h
theorem Iu(hm:lQ call):∀(os:List bh)(fr aW:Fr)(st st':St),iX call os fr st=some (aW,st')->st.next.toNat<=st'.next.toNat
 |[],fr,aW,st,st',h=>by simp only[iX,H4,Zb6]at h;rw[h.2];exact Za6 _
 |o ::os,fr,aW,st,st',h=>by
  unfold iX at h;split at h
  . (split at h<;>first|(cases h;done)|skip);(split at h<;>first|(cases h;done)|skip);rename_i hs;exact Zc8 (FK hm hs) (Iu hm os _ _ _ _ h)
  .exact Iu hm os _ _ _ _ h
  .cases h
theorem rO(hm:lQ call):∀(os:List (Nat×bh))(recs:List Rec)(base:T AB)(fr aW:Fr)(st st':St),cO call os recs base fr st=some (aW,st')->st.next.toNat<=st'.next.toNat
 |[],recs,base,fr,aW,st,st',h=>by simp only[cO,H4,Zb6]at h;rw[h.2];exact Za6 _
 |(j,   o)::os,recs,base,fr,aW,st,st',h=>by
  have hs:st.next.toNat<=st.next.succ.toNat:=by rw[Pos.az];omega
  unfold cO at h;split at h
  .exact rO hm os _ _ _ _ _ _ h
  . (split at h<;>first|(cases h;done)|skip);split at h
    .   (split at h<;>first|(cases h;done)|skip);exact Zc8 hs (rO hm os _ _ _ _ _ _ h)
    .   (split at h<;>first|(cases h;done)|skip);rename_i hs;exact Zc8 (FK hm hs) (rO hm os _ _ _ _ _ _ h)
    .   split at h
        .exact rO hm os _ _ _ _ _ _ h
        . (split at h<;>first|(cases h;done)|skip);(split at h<;>first|(cases h;done)|skip);exact rO hm os _ _ _ _ _ _ h
  .cases h
theorem CC(hm:lQ call):∀(m:Nat)(c:AC)(fr aW:Fr)(st st':St)(ex:js),exec call m c fr st=some (ex,aW,st')->st.next.toNat<=st'.next.toNat
 |0,c,fr,aW,st,st',ex,h=>by simp[exec]at h
 |m +   1,c,fr,aW,st,st',ex,h=>by
  have ih:=CC hm m;simp only[exec]at h;unfold aX at h;split at h
  .simp only[H4,Zb6]at h;rw[h.2.2];exact Za6 _
  . (split at h<;>first|(cases h;done)|skip);rename_i hs;simp only[H4,Zb6]at h;rw[<-h.2.2];exact Iu hm _ _ _ _ _ hs
  . (split at h<;>first|(cases h;done)|skip);rename_i hs;simp only[H4,Zb6]at h;rw[<-h.2.2];exact rO hm _ _ _ _ _ _ _ hs
  . split at h
    .   rename_i hs;exact Zc8 (ih _ _ _ _ _ _ hs) (ih _ _ _ _ _ _ h)
    .   exact ih _ _ _ _ _ _ h
  .split at h<;>first|(cases h;done)|exact ih _ _ _ _ _ _ h
  . split at h
    .   rename_i hs;split at h<;>(simp only[H4,Zb6]at h;rw[<-h.2.2];exact ih _ _ _ _ _ _ hs)
    .   exact ih _ _ _ _ _ _ h
  . split at h
    .   rename_i hs;exact Zc8 (ih _ _ _ _ _ _ hs) (ih _ _ _ _ _ _ h)
    .   exact ih _ _ _ _ _ _ h
  .simp only[H4,Zb6]at h;rw[h.2.2];exact Za6 _
  .simp only[H4,Zb6]at h;rw[h.2.2];exact Za6 _
def ku(O:dZ):Prop:=∀f s,O f=some s->∀args st v st',s args st=some (v,st')->st.next.toNat<=st'.next.toNat
theorem FM{O:dZ}{G:T cI}(hO:ku O)(m:Nat):∀d,lQ (ou O G m d)
 |0=>λf args st v st' h=>by simp[ou]at h
 |d +   1=>λf args st v st' h=>by
  have ih:=FM (G:=G) hO m d;unfold ou at h;split at h
  .rename_i s hs;exact hO f s hs args st v st' h
  . (split at h<;>first|(cases h;done)|skip);(split at h<;>first|(cases h;done)|skip);split at h<;>first|(cases h;done)|skip
    .   rename_i hs;(split at h<;>first|(cases h;done)|skip);simp only[H4,Zb6]at h;rw[<-h.2];exact CC ih _ _ _ _ _ _ _ hs
    .   rename_i hs;(split at h<;>first|(cases h;done)|skip);simp only[H4,Zb6]at h;rw[<-h.2];exact CC ih _ _ _ _ _ _ _ hs
end
def lR(bP:Fr):List Rec->Fr
 |[]=>bP
 |r::R=>cU (lR bP R) r.o.dst r.v
def cY(n0:Pos):List Rec->Pos
 |[]=>n0
 |r::_=>r.nx
def RC.kU:RC->Bool
 |.aH _ _=>true
 |_=>false
def iM(h0:T AB):List Rec->T AB
 |[]=>h0
 |  r::R=>match r.c with
    |.aH _ h=>h
    |_=>iM h0 R
def iN(h0:T AB):List Rec->T AB
 |[]=>h0
 |  r::R=>match r.c with
    |.aH _ h=>h
    |.new id ax=>(iN h0 R).put (some ax) id
    |.pure=>iN h0 R
def CE:List Rec->Prop
 |[]=>True
 |r::_=>r.c.kU=true
def SU(h0:T AB)(R:List Rec)(o:bh)(xs:List AV)(v:AV):Prop:=
 ∀  A B,R=A++B->CE B->(∀r∈A,r.c.kU=true->o.bD.testBit r.idx=false)->
    ∃h:T AB,(∀b x,h.get b=some x->(iM h0 B).get b=some x\/∃r∈A,r.c= .new b x/\o.bD.testBit r.idx=true)/\o.k.run (λb=>h.get b) .h xs=some (.val v)
inductive nJ(call:ai)(bP:Fr)(h0:T AB)(n0:Pos):Rec->List Rec->Prop where
 |skip (i:Nat) (o:bh) (R:List Rec) (hw:bJ (lR bP R) o.guard=some false):
  nJ call bP h0 n0 { idx:=i,o:=o,v:= .undef,c:= .pure,nx:=cY n0 R } R
 |pure (i:Nat) (o:bh) (v:AV) (xs:List AV) (R:List Rec) (hw:bJ (lR bP R) o.guard=some true) (hx:dV (lR bP R) o.xs=some xs) (hr:SU h0 R o xs v):
  nJ call bP h0 n0 { idx:=i,o:=o,v:=v,c:= .pure,nx:=cY n0 R } R
 |new (i:Nat) (o:bh) (v:AV) (ax:AB) (xs:List AV) (R:List Rec) (hw:bJ (lR bP R) o.guard=some true) (hx:dV (lR bP R) o.xs=some xs)
  (hr:o.k.run (λ_=>none) (cY n0 R) xs=some (.aH v none none (some ax))):
  nJ call bP h0 n0 { idx:=i,o:=o,v:=v,c:= .new (cY n0 R) ax,nx:=(cY n0 R).succ } R
 |aH (i:Nat) (o:bh) (v:AV) (st':St) (xs:List AV) (R:List Rec) (hc:o.cls= .aH) (hw:bJ (lR bP R) o.guard=some true) (hx:dV (lR bP R) o.xs=some xs)
  (hr:bS call o.k xs { heap:=iN h0 R,next:=cY n0 R }=some (v,st')):
  nJ call bP h0 n0 { idx:=i,o:=o,v:=v,c:= .aH (iM h0 R) st'.heap,nx:=st'.next } R
def Good(call:ai)(bP:Fr)(h0:T AB)(n0:Pos):List Rec->Prop
 |[]=>True
 |r::R=>nJ call bP h0 n0 r R/\Good call bP h0 n0 R
section
variable{call:ai}{bP:Fr}{h0:T AB}{n0:Pos}
theorem Good.tail:∀{A B:List Rec},Good call bP h0 n0 (A++B)->Good call bP h0 n0 B
 |[],_,h=>h
 |_::_,_,h=>Good.tail h.2
theorem Good.at{A B:List Rec}{r:Rec}(h:Good call bP h0 n0 (A++r::B)):nJ call bP h0 n0 r B:=(Good.tail h).1
theorem FN:∀{A B:List Rec},(∀r∈A,r.c.kU=false)->iM h0 (A++B)=iM h0 B
 |[],_,_=>rfl
 |r::A,B,h=>by
  have h1:=h r (Zd8 ..);have ih:=FN (A:=A) (B:=B) λr hr=>h r (Zb0 _ hr)
  simp only[Zf7,iM];split
  .rename_i hc;rw[hc]at h1;cases h1
  .exact ih
theorem Mb{bD:Nat}:∀{A B:List Rec}{h:T AB}{b:Pos}{x:AB},(∀r∈A,r.c.kU=false)->CE B->(snap bD h (A++B)).get b=some x->
  h.get b=some x\/∃r∈A,r.c= .new b x/\bD.testBit r.idx=true
 |[],B,h,b,x,_,hB,hs=>by
  cases B with
  |nil=>exact .inl hs
  | cons r B=>
    simp only[CE]at hB;simp only[Ze0,snap]at hs;(cases hc:r.c<;>rw[hc]at hB<;>first|(cases hB;done)|skip);rw[hc]at hs;exact .inl hs
 |r ::A   ,B,h,b,x,hA,hB,hs=>by
  have ih:=@Mb bD A B h b x (λr hr=>hA r (Zb0 _ hr)) hB;have up:(h.get b=some x\/∃r∈A,r.c= .new b x/\bD.testBit r.idx=true)->h.get b=some x\/∃r'∈r::A,r'.c= .new b x/\bD.testBit r'.idx=true:=λh1=>
    h1.imp id λ⟨r',h2,h3⟩=>⟨r',Zb0 _ h2,h3⟩
  simp only[Zf7,snap]at hs;cases hc:r.c with
  |pure=>rw[hc]at hs;exact up (ih hs)
  |aH b1 h1=>have:=hA r (Zd8 ..);rw[hc]at this;cases this
  | new   id ax=>
    rw[hc]at hs;cases ht:bD.testBit r.idx with
    |false=>simp only[ht]at hs;exact up (ih hs)
    |   true=>
        simp only[ht]at hs;by_cases NA:id=b
        .subst NA;rw[T.eH]at hs;simp only[H4]at hs;subst hs;exact .inr ⟨r,Zd8 ..,hc,ht⟩
        .rw[T.bw _ NA]at hs;exact up (ih hs)
theorem Qx:∀{up:List (Pos×AB)}{h:T AB}{b:Pos}{x:AB},(vu up h).get b=some x->h.get b=some x\/(b,x)∈up
 |[],_,_,_,h=>.inl h
 |(id,ax)::up,h,b,x,hs=>by
  unfold vu at hs;by_cases NA:id=b
  .subst NA;rw[T.eH]at hs;simp only[H4]at hs;subst hs;exact .inr (Zd8 ..)
  .rw[T.bw _ NA]at hs;exact(Qx hs).imp (λh=>h) λh=>Zb0 _ h
theorem FO:∀(A:List Rec),(∀r∈A,r.c.kU=false)\/∃r∈A,r.c.kU=true
 |[]=>.inl λr h=>by cases h
 |r::A=>by
  cases hr:r.c.kU with
  |true=>exact .inr ⟨r,Zd8 ..,hr⟩
  |false=>
   rcases FO A with h|⟨r',h1,h2⟩
   . exact .inl λr' pz=>by
      rcases Zb1.1 pz with rfl|h'
      .exact hr
      .exact h r' h'
   .exact .inr ⟨r',Zb0 _ h1,h2⟩
theorem Hq{bD:Nat}{k:av}{xs:List AV}{v:AV}:∀(A B:List Rec)(up:List (Pos×AB)),j5 bD k xs v up (A++B)=true->Good call bP h0 n0 (A++B)->CE B->
  (∀r∈A,r.c.kU=true->bD.testBit r.idx=false)->(∃r∈A,r.c.kU=true)->
  ∃h:T AB,(∀b x,h.get b=some x->(iM h0 B).get b=some x\/(∃r∈A,r.c= .new b x/\bD.testBit r.idx=true)\/(b,x)∈up)/\k.run (λb=>h.get b) .h xs=some (.val v)
 |[],B,up,_,_,_,_,he=>by obtain⟨r,hr,_⟩:=he;cases hr
 |r::A    , B,up,CG,hG,hB,hn,he=>by
  have NB:∀r∈A,r.c.kU=true->bD.testBit r.idx=false:=λr' pz=>hn r' (Zb0 _ pz)
  have ih:=λup (h2:j5 bD k xs v up (A++B)=true) h3=>Hq A B up h2 hG.2 hB NB h3
  simp only[Zf7,j5]at CG;cases hc:r.c with
  |pure=>
   rw[hc]at CG;have j9:∃r∈A,r.c.kU=true:=by
        obtain⟨r',h1,h2⟩:=he;rcases Zb1.1 h1 with rfl|h1
        .rw[hc]at h2;cases h2
        .exact⟨r',h1,h2⟩
   obtain⟨h,h1,h2⟩:=ih up CG j9;exact⟨h,λb x hb=>(h1 b x hb).imp (λh=>h) (Or.imp (λ⟨r',h3,h4⟩=>⟨r',Zb0 _ h3,h4⟩) λh=>h),h2⟩
  |new    id ax=>
   rw[hc]at CG;have j9:∃r∈A,r.c.kU=true:=by
        obtain⟨r',h1,h2⟩:=he;rcases Zb1.1 h1 with rfl|h1
        .rw[hc]at h2;cases h2
        .exact⟨r',h1,h2⟩
   cases ht:bD.testBit r.idx with
   |    false=>
        simp only[ht]at CG;obtain⟨h,h1,h2⟩:=ih up CG j9;exact⟨h,λb x hb=>(h1 b x hb).imp (λh=>h) (Or.imp (λ⟨r',h3,h4⟩=>⟨r',Zb0 _ h3,h4⟩) λh=>h),h2⟩
   |    true=>
        simp only[ht]at CG;obtain⟨h,h1,h2⟩:=ih _ CG j9;refine⟨h,λb x hb=> ?_,h2⟩;rcases h1 b x hb with h3|⟨r',h3,h4⟩|h3
        .exact .inl h3
        .exact .inr (.inl ⟨r',Zb0 _ h3,h4⟩)
        . rcases Zb1.1 h3 with h3|h3
          .simp only[Zb6]at h3;obtain⟨rfl,rfl⟩:=h3;exact .inr (.inl ⟨r,Zd8 ..,hc,ht⟩)
          .exact .inr (.inr h3)
  |aH base h=>
   rw[hc]at CG;have ht:=hn r (Zd8 ..) (by rw[hc];rfl);simp only[ht,Za8]at CG;rcases FO A with hA|hA
   .    have RZ:base=iM h0 B:=(by have hs:=hG.1;(cases hs<;>simp only at hc<;>first|(cases hc;done)|skip);simp only[RC.aH.injEq]at hc;rw[<-hc.1];exact FN hA);have hra:=CG.1;unfold pP at hra;(split at hra<;>first|(cases hra;done)|skip);rename_i u hu;rw[oI hra]at hu;refine⟨_,λb x hb=> ?_,hu⟩;rcases Qx hb with hb|hb
        . rcases Mb hA hB hb with h3|⟨r',h3,h4⟩
          .rw[<-RZ];exact .inl h3
          .exact .inr (.inl ⟨r',Zb0 _ h3,h4⟩)
        .exact .inr (.inr hb)
   .    obtain⟨h,h1,h2⟩:=ih up CG.2 hA;exact⟨h,λb x hb=>(h1 b x hb).imp (λh=>h) (Or.imp (λ⟨r',h3,h4⟩=>⟨r',Zb0 _ h3,h4⟩) λh=>h),h2⟩
theorem NC:∀(L:List (Nat×bh))(R:List Rec)(fr aW:Fr)(st st':St),cO call L R (iM h0 R) fr st=some (aW,st')->Good call bP h0 n0 R->
  fr=lR bP R->st.heap=iN h0 R->st.next=cY n0 R->
  ∃R',Good call bP h0 n0 (R'++R)/\(R'.map λr=>(r.idx,r.o))=L.reverse/\aW=lR bP (R'++R)/\st'.heap=iN h0 (R'++R)/\st'.next=cY n0 (R'++R)
 |[],R,fr,aW,st,st',h,hG,h1,h2,h3=>by
  simp only[cO,H4,Zb6]at h;obtain⟨rfl,rfl⟩:=h;exact⟨[],hG,rfl,h1,h2,h3⟩
 |(j,   o)::  L,R,fr,aW,st,st',h,hG,h1,h2,h3=>by
  have fin:∀(r:Rec)(aN:St)(bO:Fr),r.idx=j->r.o=o->nJ call bP h0 n0 r R->bO=lR bP (r::R)->aN.heap=iN h0 (r::R)->aN.next=r.nx->
        cO call L (r::R) (iM h0 (r::R)) bO aN=some (aW,st')->
        ∃R',Good call bP h0 n0 (R'++R)/\(R'.map λr=>(r.idx,r.o))=((j,o)::L).reverse/\aW=lR bP (R'++R)/\st'.heap=iN h0 (R'++R)/\st'.next=cY n0 (R'++R):=by
    intro r aN bO hj ho hs k1 k2 k3 hd;obtain⟨R',g1,g2,g3,g4,g5⟩:=NC L (r::R) bO aW aN st' hd ⟨hs,hG⟩ k1 k2 k3;have e:R'++r::R=(R'++[r])++R:=(by simp);rw[e]at g1 g3 g4 g5;exact⟨R'++[r],g1,by simp[g2,hj,ho],g3,g4,g5⟩
  unfold cO at h;subst h1;split at h
  .rename_i hw;exact fin _ _ _ rfl rfl (h3 ▸nJ.skip j o R hw) rfl h2 rfl h
  . rename_i hw;(split at h<;>first|(cases h;done)|skip);rename_i xs hx;split at h
    .   (split at h<;>first|(cases h;done)|skip);rename_i v ax hr;rw[h3]at hr;have hs:=nJ.new (call:=call) (bP:=bP) (h0:=h0) (n0:=n0) j o v ax xs R hw hx hr;rw[<-h3]at hs;refine fin _ _ _ rfl rfl hs rfl ?_ rfl h;simp only[iN,h2]
    .   rename_i abi;(split at h<;>first|(cases h;done)|skip);rename_i v aN hr;have kf:st={ heap:=iN h0 R,next:=cY n0 R }:=(by cases st;simp_all);rw[kf]at hr;exact fin _ aN _ rfl rfl (nJ.aH j o v aN xs R abi hw hx hr) rfl rfl rfl h
    .   split at h
        . rename_i v hr;have Qy:SU h0 R o xs v:=by
           intro A B _ _ _;refine⟨.e,λb x hb=> ?_,?_⟩
           .  rw[T.dD]at hb;cases hb
           .  have e:(λb=>T.get b (T.e:T AB))=λ_=>none:=(by funext b;exact T.dD b);rw[e];exact hr
          exact fin _ _ _ rfl rfl (h3 ▸nJ.pure j o v xs R hw hx Qy) rfl h2 rfl h
        . (split at h<;>first|(cases h;done)|skip);rename_i v hr;(split at h<;>first|(cases h;done)|skip);rename_i CG;have Qy:SU h0 R o xs v:=by
           intro A B hAB hB hn;subst hAB;rcases FO A with hA|hA
           .  refine⟨_,λb x hb=> ?_,hr⟩;have:=Mb hA hB hb;rw[FN hA]at this;exact this
           .  obtain⟨h,k1,k2⟩:=Hq A B [] CG hG hB hn hA;exact⟨h,λb x hb=>(k1 b x hb).imp id λh=>h.resolve_right (by simp),k2⟩
          exact fin _ _ _ rfl rfl (h3 ▸nJ.pure j o v xs R hw hx Qy) rfl h2 rfl h
  .cases h
end
end
section
open Go
structure Late(m:Nat)(pre:List Nat)(L:List (Nat×bh)):Prop where
 all:∀i,i<m->i∈pre\/i∈L.map (·.1)
 lt:∀x∈L,x.1<m
 one:∀A i o B,L=A++(i,o)::B->i∉pre/\i∉A.map (·.1)
 bD:∀A i o B,L=A++(i,o)::B->∀b,o.bD.testBit b=true->b∈pre\/b∈A.map (·.1)
 aH:∀A i o B,L=A++(i,o)::B->o.cls= .aH->∀b,(b∈pre\/b∈A.map (·.1))->o.bD.testBit b=true
 apart:∀A i o B,L=A++(i,o)::B->∀x∈B,x.2.bD.testBit i=true\/Ii o x.2=true
theorem KZ{m:Nat}:∀(L:List (Nat×bh))(seen:Nat)(pre:List Nat),D3 m seen L=true->(∀b,seen.testBit b=true↔b∈pre)->Late m pre L
 |[],seen,pre,h,hs=>by
  simp only[D3]at h;have:=Za1 h;refine⟨λi hi=>.inl ((hs i).1 ?_),λx hx=>(by cases hx),λA i o B h=> ?_,λA i o B h=> ?_,λA i o B h=> ?_,λA i o B h=> ?_⟩
  .rw[this,Nat.testBit_two_pow_sub_one];simpa using hi
  all_goals (cases A<;>cases h)
 |(i,   o)::L,seen,pre,h,hs=>by
  simp only[D3,Za8]at h;obtain⟨⟨⟨⟨⟨h1,h2⟩,h3⟩,h4⟩,h5⟩,h6⟩:=h;have h1:i<m:=Za4 h1;have h2:i∉pre:=λhp=>by rw[(hs i).2 hp]at h2;cases h2
  have h3:=Za1 h3;have hb:∀b,o.bD.testBit b=true->b∈pre:=λb hb=>by rw[<-h3,Nat.testBit_and,Za8]at hb;exact(hs b).1 hb.2
  have he:o.cls= .aH->∀b,b∈pre->o.bD.testBit b=true:=λhc b hp=>by rw[hc]at h4;rw[Za1 h4];exact(hs b).2 hp
  have ih:=KZ L (seen ||| 2 ^ i) (pre++[i]) h6 (λb=>by
    rw[Nat.testBit_or,Nat.testBit_two_pow,Zh3,hs b,Zc9];simp[eq_comm])
  rw[Zd3]at h5;have R2:∀{A:List (Nat×bh)}{j:Nat}{p:bh}{B:List (Nat×bh)},(i,o)::L=A++(j,p)::B->(A=[]/\i=j/\o=p/\L=B)\/∃A',A=(i,o)::A'/\L=A'++(j,p)::B:=by
    intro A j p B hA;cases A with
    |nil=>simp at hA;exact .inl ⟨rfl,hA.1.1,hA.1.2,hA.2⟩
    |cons x A=>simp at hA;exact .inr ⟨A,by rw[hA.1],hA.2⟩
  refine⟨λj hj=> ?_,λx hx=> ?_,λA j p B hA=> ?_,λA j p B hA=> ?_,λA j p B hA=> ?_,λA j p B hA=> ?_⟩
  . rcases ih.all j hj with h|h
    .   rcases Zc9.1 h with h|h
        .exact .inl h
        .simp at h;exact .inr (by simp[h])
    .   exact .inr (by simp only[Zd6,Zb1];exact .inr h)
  . rcases Zb1.1 hx with rfl|hx
    .   exact h1
    .   exact ih.lt x hx
  . rcases R2 hA with⟨rfl,rfl,rfl,rfl⟩|⟨A',rfl,Hr⟩
    .   exact⟨h2,by simp⟩
    .   obtain⟨k1,k2⟩:=ih.one A' j p B Hr;simp only[Zc9,Zc3,not_or]at k1;exact⟨k1.1,by simp only[Zd6,Zb1,not_or];exact⟨k1.2,k2⟩⟩
  . rcases R2 hA with⟨rfl,rfl,rfl,rfl⟩|⟨A',rfl,Hr⟩
    .   exact λb jV=>.inl (hb b jV)
    .   intro b jV;rcases ih.bD A' j p B Hr b jV with h|h
        . rcases Zc9.1 h with h|h
          .exact .inl h
          .simp at h;exact .inr (by simp[h])
        .exact .inr (by simp only[Zd6,Zb1];exact .inr h)
  . rcases R2 hA with⟨rfl,rfl,rfl,rfl⟩|⟨A',rfl,Hr⟩
    .   intro hc b jV;rcases jV with h|h
        .exact he hc b h
        .simp at h
    .   intro hc b jV;refine ih.aH A' j p B Hr hc b ?_;rcases jV with h|h
        .exact .inl (Zc9.2 (.inl h))
        . simp only[Zd6,Zb1]at h;rcases h with rfl|h
          .exact .inl (by simp)
          .exact .inr h
  . rcases R2 hA with⟨rfl,rfl,rfl,rfl⟩|⟨A',rfl,Hr⟩
    .   intro x hx;have:=h5 x hx
        rwa [Zh3]at this
    .   exact ih.apart A' j p B Hr
inductive Reach(ops:Array Oper):Nat->Nat->Prop where
 |edge (i:Nat) (o:Oper) (e:Edge) (ho:ops[i]? =some o) (he:e∈o.after) (hb:Region.binds .any e=true):Reach ops i e.on
 |trans (i:Nat) (o:Oper) (e:Edge) (b:Nat) (ho:ops[i]? =some o) (he:e∈o.after) (hb:Region.binds .any e=true) (h:Reach ops e.on b):Reach ops i b
def XH(ops:Array Oper)(i m:Nat):Prop:=
 (∀o,ops[i]? =some o->∀e∈o.after,Region.binds .any e=true->m.testBit e.on=true)/\∀b,m.testBit b=true->Reach ops i b
theorem O5(acc:List Nat):∀(l:List Edge)(s b:Nat),(l.foldl (λs e=>match Region.binds .any e with
   |true=>s ||| 2 ^ e.on ||| (nth acc e.on).getD 0
   |false=>s) s).testBit b=true↔s.testBit b=true\/∃e∈l,Region.binds .any e=true/\(e.on=b\/((nth acc e.on).getD 0).testBit b=true)
 |[],s,b=>by simp
 |e::l,s,b=>by
  rw[Zq2,O5 acc l];cases he:Region.binds .any e with
  |false=>simp[he]
  |true=>
   simp only[Nat.testBit_or,Zh3,Nat.testBit_two_pow,Zd1,Zb1,exists_eq_or_imp,he,true_and];constructor
   .    rintro(((h|h)|h)|h)
        .exact .inl h
        .exact .inr (.inl (.inl h))
        .exact .inr (.inl (.inr h))
        .exact .inr (.inr h)
   .    rintro(h|(h|h)|h)
        .exact .inl (.inl (.inl h))
        .exact .inl (.inl (.inr h))
        .exact .inl (.inr h)
        .exact .inr h
theorem VU {ops:Array Oper}:∀(os:List Oper)(acc:List Nat),os=ops.toList.drop acc.length->acc.length<=ops.size->(∀i,i<acc.length->XH ops i (acc.getD i 0))->
  ∀i,i<ops.size->XH ops i ((Sm os acc).getD i 0)
 |[],acc,VV,hl,XI,i,hi=>by
  have h1:(ops.toList.drop acc.length).length=0:=by rw[<-VV];rfl
  have:ops.size<=acc.length:=by simp at h1;omega
  exact XI i (by omega)
 |o ::os,acc,VV,hl,XI,i,hi=>by
  simp only[Sm];have ho:ops[acc.length]? =some o:=by have:(ops.toList.drop acc.length)[0]? =some o:=(by rw[<-VV];rfl);simpa using this
  have aT:acc.length<ops.size:=(Zd2.1 ho).1;refine VU os _ ?_ (by simp;omega) (λj hj=> ?_) i hi
  .rw[Zd7,List.length_singleton, <-Zp2, <-VV];rfl
  . rcases Zi0 j acc.length with h|h
    .   rw[Zb4,Zb7 h, <-Zb4];exact XI j h
    .   have yG:j=acc.length:=(by simp at hj;omega);subst yG;rw[Zb4,Zc2 (Za6 _)];simp only[Zm8,Zb3,Zg1];refine⟨λo' CB e he hb=> ?_,λb hb=> ?_⟩
        .rw[ho]at CB;simp only[H4]at CB;subst CB;exact(O5 acc _ 0 e.on).2 (.inr ⟨e,by simpa using he,hb,.inl rfl⟩)
        . have hb:=(O5 acc _ 0 b).1 hb;rcases hb with hb|⟨e,he,jV,hb⟩
          .simp at hb
          . have j9:e∈o.after:=(by simpa using he);rcases hb with rfl|hb
            .exact .edge _ o e ho j9 jV
            . refine .trans _ o e b ho j9 jV ?_;rw[kN]at hb;rcases Zi0 e.on acc.length with h|h
              .exact(XI _ h).2 b (by rw[Zb4];exact hb)
              .rw[Zc0 h]at hb;simp at hb
theorem VW:∀(l:List bh)(k:Nat)(x:Nat×bh),x∈A0 k l->∃i,x.1=k+i/\l[i]? =some x.2
 |[],k,x,h=>by cases h
 |o ::l,k,x,h=>by
  simp only[A0,Zb1]at h;rcases h with rfl|h
  .exact⟨0,rfl,rfl⟩
  .obtain⟨i,h1,h2⟩:=VW l (k+1) x h;exact⟨i+1,by omega,by simpa using h2⟩
theorem Iv:∀(l held:List (Nat×bh))(x:Nat×bh),x∈ua l held->x∈l\/x∈held
 |[],held,x,h=>.inr h
 |(i,   o)::l,held,x,h=>by
  unfold ua at h;split at h
  . rcases Zc9.1 h with h|h
    .   exact .inr (Zq4.1 h).1
    .   rcases Zb1.1 h with h|h
        .exact .inl (by rw[h];exact Zd8 ..)
        . rcases Iv l _ x h with h|h
          .exact .inl (Zb0 _ h)
          .exact .inr (Zq4.1 h).1
  . rcases Iv l _ x h with h|h
    .   exact .inl (Zb0 _ h)
    .   rcases Zc9.1 h with h|h
        .exact .inr h
        .simp at h;exact .inl (by rw[h];exact Zd8 ..)
theorem adj{l:List bh}{x:Nat×bh}(h:x∈ua (A0 0 l) []):l[x.1]? =some x.2:=by
 rcases Iv _ _ _ h with h|h
 .obtain⟨i,h1,h2⟩:=VW l 0 x h;rw[h1,Zd9];exact h2
 .cases h
theorem FP{p:Pos}:∀{l:List Pos},DZ p l=true↔p∈l
 |[]=>by simp[DZ]
 |q::l=>by simp[DZ,FP (l:=l),Pos.beq_eq]
theorem Dt{a b:bh}(h:Ii a b=true):
   (∀d,a.dst=some d->d∉b.looks/\b.dst≠some d)/\(∀d,b.dst=some d->d∉a.looks):=by
 unfold Ii at h;rw[Za8]at h;obtain⟨h1,h2⟩:=h;constructor
 . intro d hd;rw[hd]at h1;simp only[Za8,Zh7]at h1;refine⟨λhm=> ?_,λhb=> ?_⟩
   .rw[FP.2 hm]at h1;exact absurd h1.1 (by simp)
   .rw[hb]at h1;have:Pos.beq d d=true:=Pos.beq_eq.2 rfl;simp[this]at h1
 .intro d hd hm;rw[hd]at h2;simp only[Zh7]at h2;rw[FP.2 hm]at h2;cases h2
section
variable(P:Program)(tt:TT)(C:Cells)(nt:Nat)(ops:Array Oper)(call:ai)(bP:Fr)(h0:T AB)(n0:Pos)(R:List Rec)
structure vI:Prop where
 Mc:Good call bP h0 n0 R
 mono:lQ call
 one:∀A r B,R=A++r::B->∀r'∈B,r'.idx≠r.idx
 bD:∀A r B,R=A++r::B->∀b,r.o.bD.testBit b=true->∃r'∈B,r'.idx=b
 aH:∀A r B,R=A++r::B->r.o.cls= .aH->∀r'∈B,r.o.bD.testBit r'.idx=true
 apart:∀A r B,R=A++r::B->∀r'∈A,r'.o.bD.testBit r.idx=true\/Ii r.o r'.o=true
 rel:∀r∈R,∃o,ops[r.idx]? =some o/\rM tt nt ops o r.o/\XH ops r.idx r.o.bD
 all:∀i,i<ops.size->∃r∈R,r.idx=i
def Kept(D:Nat->Prop)(b:Pos):Prop:=∀A r B,R=A++r::B->¬D r.idx->b.toNat<(cY n0 B).toNat\/r.nx.toNat<=b.toNat
def T1(D:Nat->Prop)(ρ:Pos->Loc)(tmps:Array Value):Prop:=
 ∀M s T p,R=M++s::T->D s.idx->s.o.dst=some p->(∀s'∈M,D s'.idx->s'.o.dst≠some p)->∃x,tmps[p.toNat - 1]? =some x/\aj ρ s.nx.toNat C s.v x
def T0(D:Nat->Prop)(ρ:Pos->Loc)(tmps:Array Value):Prop:=
 ∀p v,bP.get p=some v->(∀s∈R,D s.idx->s.o.dst≠some p)->∃x,tmps[p.toNat - 1]? =some x/\aj ρ n0.toNat C v x
structure Qz(D:Nat->Prop)(A B:List Rec)(a:Act):Prop where
 split:R=A++B
 bound:CE B
 inB:∀r∈B,D r.idx
 SV:∀r∈A,D r.idx->r.c.kU=false
 closed:∀i o e,D i->ops[i]? =some o->e∈o.after->Region.binds .any e=true->D e.on
 size:a.tmps.size=nt
 defers:a.defers=[]
structure Inv0(jW:Pos->Loc)(w0:World)(D:Nat->Prop)(A B:List Rec)(ρ:Pos->Loc)(a:Act)(w:World):Prop where
 W:aV ρ C { heap:=iM h0 B,next:=cY n0 B } w
 N:∀r∈A,D r.idx->∀id ax,r.c= .new id ax->lH ρ r.nx.toNat C (ρ id) w ax/\(ρ id).ax<w.heap.size/\w0.heap.size<=(ρ id).ax/\
  (∀b x,(iM h0 B).get b=some x->(ρ b).ax≠(ρ id).ax)/\(∀ad v,C ad=some v->(ρ id).ax≠ad.block)
 N2:∀r∈A,D r.idx->∀id ax,r.c= .new id ax->∀r'∈A,D r'.idx->∀qd zk,r'.c= .new qd zk->id≠qd->(ρ id).ax≠(ρ qd).ax
 t1:T1 C R D ρ a.tmps
 t0:T0 C bP n0 R D ρ a.tmps
 E:jJ jW { heap:=h0,next:=n0 } w0 ρ { heap:=iM h0 B,next:=cY n0 B } w
 Am:∀b:Pos,b.toNat<n0.toNat->ρ b=jW b
def Inv(jW:Pos->Loc)(w0:World)(D:Nat->Prop)(A B:List Rec)(ρ:Pos->Loc)(a:Act)(w:World):Prop:=
 Qz nt ops R D A B a/\∀ρ',(∀b,Kept n0 R D b->ρ' b=ρ b)->Inv0 C bP h0 n0 R jW w0 D A B ρ' a w
end
section
variable{P:Program}{tt:TT}{C:Cells}{nt:Nat}{ops:Array Oper}{call:ai}{bP:Fr}{h0:T AB}{n0:Pos}{R:List Rec}
theorem Bm(h:∀A r B,R=A++r::B->∀r'∈B,r'.idx≠r.idx){X X' Y Y':List Rec}{r r':Rec}(h1:R=X++r::Y)(h2:R=X'++r'::Y')(hi:r.idx=r'.idx):
   X=X'/\r=r'/\Y=Y':=by
 have h3:X++r::Y=X'++r'::Y':=h1.symm.trans h2;rcases List.append_eq_append_iff.1 h3 with⟨Z,hX,hZ⟩|⟨Z,hX,hZ⟩
 . cases Z with
   |nil=>simp at hZ hX;exact⟨hX.symm,hZ.1,hZ.2⟩
   |cons z Z=>
    simp at hZ;exact absurd hi.symm (h X r Y h1 r' (by rw[hZ.2];simp))
 . cases Z with
   |nil=>simp at hZ hX;exact⟨hX,hZ.1.symm,hZ.2.symm⟩
   |cons z Z=>
    simp at hZ;exact absurd hi (h X' r' Y' h2 r (by rw[hZ.2];simp))
theorem kH{r:Rec}(h:r∈R):∃A B,R=A++r::B:=List.append_of_mem h
theorem VX(hm:lQ call){r:Rec}{B:List Rec}(h:nJ call bP h0 n0 r B):(cY n0 B).toNat<=r.nx.toNat:=by
 cases h with
 |skip=>exact Za6 _
 |pure=>exact Za6 _
 |new=>simp only[Pos.az];omega
 |aH i o v st' xs _ hc hw hx hr=>exact FK hm hr
theorem O6(hm:lQ call):∀{A B:List Rec},Good call bP h0 n0 (A++B)->(cY n0 B).toNat<=(cY n0 (A++B)).toNat
 |[],_,_=>Za6 _
 |r::A,B,h=>Zc8 (O6 hm (A:=A) h.2) (VX hm h.1)
namespace vI
variable(G:vI tt nt ops call bP h0 n0 R)
include G
theorem later{X Y:List Rec}{r r':Rec}(h:R=X++r::Y)(hr:r'∈X):r'.idx≠r.idx:=by
 obtain⟨A,B,rfl⟩:=kH hr;have h':R=A++r'::(B++r::Y):=by rw[h];simp
 exact λe=>G.one _ _ _ h' r (by simp) e.symm
theorem acR{X Y:List Rec}{r:Rec}(h:R=X++r::Y):(cY n0 Y).toNat<=r.nx.toNat:=VX G.mono (Good.at (h ▸G.Mc))
theorem yK{X Y Z:List Rec}(h:R=X++(Y++Z)):(cY n0 Z).toNat<=(cY n0 (Y++Z)).toNat:=O6 G.mono (Good.tail (h ▸G.Mc))
theorem XJ{X Y:List Rec}(h:R=X++Y):n0.toNat<=(cY n0 Y).toNat:=by have:=O6 (n0:=n0) G.mono (A:=Y) (B:=[]) (by rw[Zf0];exact Good.tail (h ▸G.Mc));rw[Zf0]at this;exact this
theorem ND{D:Nat->Prop}(hc:∀i o e,D i->ops[i]? =some o->e∈o.after->Region.binds .any e=true->D e.on){i b:Nat}(h:Reach ops i b)
  (hi:∀o e,ops[i]? =some o->e∈o.after->Region.binds .any e=true->D e.on):D b:=by
 induction h with
 |edge i o e ho he hb=>exact hi o e ho he hb
 |trans i o e b ho he hb _ ih=>exact ih λo' e' CB j9 jK=>hc _ o' e' (hi o e ho he hb) CB j9 jK
theorem acS{D:Nat->Prop}{A B:List Rec}{a:Act}(hp:Qz nt ops R D A B a){s:Rec}(hs:s∈R)(hD:D s.idx){b:Nat}(hb:s.o.bD.testBit b=true):D b:=by obtain⟨o,ho,_,hB⟩:=G.rel s hs;exact G.ND hp.closed (hB.2 b hb) λo' e CB he jV=>hp.closed _ o' e hD CB he jV
end vI
theorem Iw:∀(Y:List Rec)(p:Pos)(v:AV),(lR bP Y).get p=some v->
  (∃M s T,Y=M++s::T/\s.o.dst=some p/\s.v=v/\∀s'∈M,s'.o.dst≠some p)\/(bP.get p=some v/\∀s∈Y,s.o.dst≠some p)
 |[],p,v,h=>.inr ⟨h,λs hs=>by cases hs⟩
 |r ::Y   ,p,v,h=>by
  simp only[lR]at h;by_cases hr:r.o.dst=some p
  .rw[hr]at h;simp only[cU,T.eH,H4]at h;exact .inl ⟨[],r,Y,rfl,hr,h,λs hs=>by cases hs⟩
  . have h':(lR bP Y).get p=some v:=by
        cases hd:r.o.dst with
        |none=>rw[hd]at h;exact h
        | some d=>
          rw[hd]at h;simp only[cU]at h
          rwa [T.bw _ λe=>hr (by rw[hd,e])]at h
    rcases Iw Y p v h' with⟨M,s,T,rfl,h2,h3,h4⟩|⟨h2,h3⟩
    .   refine .inl ⟨r::M,s,T,rfl,h2,h3,λs' gK=> ?_⟩;rcases Zb1.1 gK with rfl|gK
        .exact hr
        .exact h4 s' gK
    .   refine .inr ⟨h2,λs hs=> ?_⟩;rcases Zb1.1 hs with rfl|hs
        .exact hr
        .exact h3 s hs
theorem look(G:vI tt nt ops call bP h0 n0 R){D:Nat->Prop}{A B:List Rec}{a:Act}(hp:Qz nt ops R D A B a){ρ:Pos->Loc}(h1:T1 C R D ρ a.tmps)(h2:T0 C bP n0 R D ρ a.tmps)
   {X Y:List Rec} {r:Rec} (hR:R=X++r::Y) (hD:¬D r.idx) (O7:∀b,r.o.bD.testBit b=true->D b) {p:Pos} {v:AV} (hl:p∈r.o.looks) (hv:(lR bP Y).get p=some v):
   ∃x,a.tmps[p.toNat - 1]? =some x/\aj ρ (cY n0 Y).toNat C v x:=by
 have hX:∀s∈X,D s.idx->s.o.dst≠some p:=by
   intro s hs fG hd;rcases G.apart X r Y hR s hs with h|h
   .exact hD (G.acS hp (by rw[hR];simp[hs]) fG h)
   .exact(Dt h).2 p hd hl
 rcases Iw Y p v hv with⟨M,s,T,rfl,h3,rfl,h4⟩|⟨h3,h4⟩
 . have hR':R=(X++r::M)++s::T:=(by rw[hR];simp);have fG:D s.idx:=by
     rcases G.apart _ s T hR' r (by simp)with h|h
     .  exact O7 _ h
     .  exact absurd hl ((Dt h).1 p h3).1
   obtain⟨x,hx,Ix⟩:=h1 (X++r::M) s T p hR' fG h3 (λs' gK Bn=>by
     rcases Zc9.1 gK with h|h
     .  exact hX s' h Bn
     .  rcases Zb1.1 h with rfl|h
        .exact absurd Bn hD
        .exact h4 s' h)
   refine⟨x,hx,Ix.mono (λ_ _=>rfl) ?_⟩;have:=G.yK (X:=X++[r]) (Y:=M) (Z:=s::T) (by rw[hR];simp);exact this
 . obtain⟨x,hx,Ix⟩:=h2 p v h3 (λs hs fG=>by
     rw[hR]at hs;rcases Zc9.1 hs with h|h
     .  exact hX s h fG
     .  rcases Zb1.1 h with rfl|h
        .exact absurd fG hD
        .exact h4 s h)
   exact⟨x,hx,Ix.mono (λ_ _=>rfl) (G.XJ (X:=X++[r]) (by rw[hR];simp))⟩
theorem CH{a:Act}{d:Option Tmp}{x:Value}{p:Pos}(h:d.map key≠some p):(a.put d x).tmps[p.toNat - 1]? =a.tmps[p.toNat - 1]? :=by
 cases d with
 |none=>rfl
 |some e=>
  simp only[Act.put];rw[Ze4];intro he;apply h;simp only[Ze8,H4];apply Pos.toNat_inj;rw[eW];have:=p.toNat_pos;omega
theorem abj{a:Act}{d:Option Tmp}{x:Value}{p:Pos}(h:d.map key=some p)(hs:a.tmps.size=nt)(hd:∀e,d=some e->e<nt):(a.put d x).tmps[p.toNat - 1]? =some x:=by
 cases d with
 |none=>cases h
 |some e=>
  simp only[Ze8,H4]at h;subst h;simp only[Act.put];rw[eW,Ze9,Zk7];simp[hs,hd e rfl]
theorem XK(G:vI tt nt ops call bP h0 n0 R){D:Nat->Prop}{A B:List Rec}{a:Act}(hp:Qz nt ops R D A B a){ρ:Pos->Loc}(h1:T1 C R D ρ a.tmps)(h2:T0 C bP n0 R D ρ a.tmps)
   {X Y:List Rec} {r:Rec} (hR:R=X++r::Y) (hD:¬D r.idx) {o:Oper} (hrel:rM tt nt ops o r.o) {x:Value} (hv:aj ρ r.nx.toNat C r.v x):
   T1 C R (λi=>D i\/i=r.idx) ρ (a.put o.dst x).tmps/\T0 C bP n0 R (λi=>D i\/i=r.idx) ρ (a.put o.dst x).tmps:=by
 constructor
 . intro  M s T p hM fG hd kP;by_cases hi:s.idx=r.idx
   .obtain⟨_,rfl,_⟩:=Bm G.one hM hR hi;rw[hrel.dst]at hd;exact⟨x,abj hd hp.size hrel.lt,hv⟩
   . have fG:=fG.resolve_right hi;by_cases Iy:r.o.dst=some p
     .  exfalso;have hs:s∈R:=(by rw[hM];simp);rw[hR]at hs;rcases Zc9.1 hs with h|h
        . rcases G.apart X r Y hR s h with k|k
          .exact hD (G.acS hp (by rw[hR];simp[h]) fG k)
          .exact((Dt k).1 p Iy).2 hd
        . rcases Zb1.1 h with rfl|h
          .exact hi rfl
          .obtain⟨Y1,Y2,rfl⟩:=kH h;have hR':R=(X++r::Y1)++s::Y2:=(by rw[hR];simp);obtain⟨ZH,_,_⟩:=Bm G.one hM hR' rfl;exact kP r (by rw[ZH];simp) (.inr rfl) Iy
     .  (rw[hrel.dst]at Iy;obtain⟨y,hy,A9⟩:=h1 M s T p hM fG hd λs' gK Bn=>kP s' gK (.inl Bn));exact⟨y,by rw[CH Iy];exact hy,A9⟩
 . (intro p v hf kP;have hr:r.o.dst≠some p:=kP r (by rw[hR];simp) (.inr rfl);rw[hrel.dst]at hr;obtain⟨y,hy,A9⟩:=h2 p v hf λs hs fG=>kP s hs (.inl fG));exact⟨y,by rw[CH hr];exact hy,A9⟩
end
section
variable{P:Program}{tt:TT}{C:Cells}{nt:Nat}{ops:Array Oper}{call:ai}{bP:Fr}{h0:T AB}{n0:Pos}{R:List Rec}
theorem aV.congr{ρ ρ':Pos->Loc}{st:St}{w:World}(h:aV ρ C st w)(aS:∀b:Pos,b.toNat<st.next.toNat->ρ' b=ρ b):aV ρ' C st w where
 live b x hb:=by
  obtain⟨h1,h2,h3⟩:=h.live b x hb;rw[aS b h1];exact⟨h1,h2,h3.mono aS (Za6 _)⟩
 inj b b' x x' hb jK he:=by rw[aS b (h.live b x hb).1,aS b' (h.live b' x' jK).1]at he;exact h.inj b b' x x' hb jK he
 dB a v ha:=⟨(h.dB a v ha).1,λb x hb=>by rw[aS b (h.live b x hb).1];exact(h.dB a v ha).2 b x hb⟩
 whole:=h.whole
theorem jJ.congr{ρ dM ρ':Pos->Loc}{st st':St}{w w':World}(h:jJ ρ st w dM st' w')(aS:∀b x,st'.heap.get b=some x->ρ' b=dM b):jJ ρ st w ρ' st' w' where
 os:=h.os
 tape:=h.tape
 output:=h.output
 size:=h.size
 block:=h.block
 mW b x hb:=by rw[aS b x hb];exact h.mW b x hb
namespace vI
variable(G:vI tt nt ops call bP h0 n0 R)
include G
theorem same{r r':Rec}(h:r∈R)(h':r'∈R)(hi:r.idx=r'.idx):r=r':=by obtain⟨A,B,hA⟩:=kH h;obtain⟨A',B',Hr⟩:=kH h';exact(Bm G.one hA Hr hi).2.1
theorem cmp{X Y X' Y':List Rec}{r r':Rec}(h1:R=X++r::Y)(h2:R=X'++r'::Y')(hi:r'.idx≠r.idx):
   (∃Z,Y'=Z++r::Y)\/(∃Z,Y=Z++r'::Y'):=by
 have h3:X++r::Y=X'++r'::Y':=h1.symm.trans h2;rcases List.append_eq_append_iff.1 h3 with⟨Z,hX,hZ⟩|⟨Z,hX,hZ⟩
 . cases Z with
   |nil=>simp at hZ;exact absurd (by rw[hZ.1]) hi
   |cons z Z=>simp at hZ;exact .inr ⟨Z,hZ.2⟩
 . cases Z with
   |nil=>simp at hZ;exact absurd (by rw[hZ.1]) hi
   |cons z Z=>simp at hZ;exact .inl ⟨Z,hZ.2⟩
theorem FQ{X Y X' Z:List Rec}{r r':Rec}(h1:R=X++r::Y)(h2:R=X'++r'::(Z++r::Y)):r.nx.toNat<=(cY n0 (Z++r::Y)).toNat:=by have:=G.yK (X:=X'++[r']) (Y:=Z) (Z:=r::Y) (by rw[h2];simp);exact this
theorem An{X Y' Z:List Rec}{r r':Rec}(h1:R=X++r::(Z++r'::Y')):r'.nx.toNat<=(cY n0 (Z++r'::Y')).toNat:=by have:=G.yK (X:=X++[r]) (Y:=Z) (Z:=r'::Y') (by rw[h1];simp);exact this
theorem Iz{X Y:List Rec}{r:Rec}(h:R=X++r::Y){id:Pos}{ax:AB}(hc:r.c= .new id ax):id=cY n0 Y/\r.nx=id.succ:=by
 have hs:=Good.at (h ▸G.Mc);cases hs<;>simp only at hc<;>first|(cases hc;done)|skip
 simp only[RC.new.injEq]at hc;obtain⟨rfl,_⟩:=hc;exact⟨rfl,rfl⟩
end vI
theorem Kept.up{D D':Nat->Prop}(h:∀i,D i->D' i){b:Pos}(hk:Kept n0 R D b):Kept n0 R D' b:=λA r B hR hD=>hk A r B hR λhd=>hD (h _ hd)
theorem Qz.next(G:vI tt nt ops call bP h0 n0 R){D:Nat->Prop}{A B:List Rec}{a:Act}(hp:Qz nt ops R D A B a){X Y:List Rec}{r:Rec}(hR:R=X++r::Y)
  (nK:∀o e,ops[r.idx]? =some o->e∈o.after->Region.binds .any e=true->D e.on) (hc:r.c.kU=false) (d:Option Tmp) (x:Value):
  Qz nt ops R (λi=>D i\/i=r.idx) A B (a.put d x) where
 split:=hp.split
 bound:=hp.bound
 inB s hs:= .inl (hp.inB s hs)
 SV s hs hD:=by
  rcases hD with hD|hD
  .exact hp.SV s hs hD
  .rw[G.same (by rw[hp.split];simp[hs]) (by rw[hR];simp) hD];exact hc
 closed i o e hD ho he hb:=by
  rcases hD with hD|rfl
  .exact .inl (hp.closed i o e hD ho he hb)
  .exact .inl (nK o e ho he hb)
 size:=by rw[Act.ij];exact hp.size
 defers:=by rw[Act.jf];exact hp.defers
theorem QA(G:vI tt nt ops call bP h0 n0 R){jW:Pos->Loc}{w0:World}{D:Nat->Prop}{A B:List Rec}{ρ:Pos->Loc}{a:Act}{w:World}
  (hI:Inv C nt ops bP h0 n0 R jW w0 D A B ρ a w) {X Y:List Rec} {r:Rec} (hR:R=X++r::Y) (hD:¬D r.idx)
  (nK:∀o e,ops[r.idx]? =some o->e∈o.after->Region.binds .any e=true->D e.on) {o:Oper} (hrel:rM tt nt ops o r.o) (hc:r.c= .pure) {x:Value}
  (hv:∀ρ',(∀b,Kept n0 R D b->ρ' b=ρ b)->aj ρ' r.nx.toNat C r.v x):
  Inv C nt ops bP h0 n0 R jW w0 (λi=>D i\/i=r.idx) A B ρ (a.put o.dst x) w:=by
 obtain⟨hp,hI⟩:=hI;refine⟨hp.next G hR nK (by rw[hc];rfl) _ _,λρ' xS=> ?_⟩;have hf:∀b,Kept n0 R D b->ρ' b=ρ b:=λb hb=>xS b (hb.up λ_ h=>.inl h)
 have h:=hI ρ' hf;have hnr:∀s∈A,(D s.idx\/s.idx=r.idx)->∀id ax,s.c= .new id ax->D s.idx:=λs hs fG id ax fV=>by
  rcases fG with fG|fG
  .exact fG
  .rw[G.same (by rw[hp.split];simp[hs]) (by rw[hR];simp) fG,hc]at fV;cases fV
 obtain⟨k1,k2⟩:=XK G hp h.t1 h.t0 hR hD hrel (hv ρ' hf);exact⟨h.W,λs hs fG id ax fV=>h.N s hs (hnr s hs fG id ax fV) id ax fV,
  λs hs fG id ax fV s' gK Bn qd zk oJ=>h.N2 s hs (hnr s hs fG id ax fV) id ax fV s' gK (hnr s' gK Bn qd zk oJ) qd zk oJ,k1,k2,h.E,h.Am⟩
theorem aV.grow{ρ:Pos->Loc}{st:St}{w w':World}(h:aV ρ C st w)(hs:w.heap.size<=w'.heap.size)(hb:∀k,k<w.heap.size->w'.heap[k]? =w.heap[k]?):aV ρ C st w' where
 live b x hx:=let⟨h1,h2,h3⟩:=h.live b x hx;⟨h1,Zd0 h2 hs,h3.of_heap (hb _ h2)⟩
 inj:=h.inj
 dB a v ha:=by
  obtain⟨h1,h2⟩:=h.dB a v ha;exact⟨by rw[World.cell?_of_block (w:=w) (hb _ (World.block_lt_of_cell? _ _ h1))];exact h1,h2⟩
 whole a v ha o ho:=by have kZ:a.block<w.heap.size:=World.block_lt_of_cell? _ _ (h.dB a v ha).1;rw[World.cell?_of_block (w:=w) (a:=⟨a.block,o,none⟩) (hb _ kZ)];exact h.whole a v ha o ho
theorem abk(G:vI tt nt ops call bP h0 n0 R){jW:Pos->Loc}{w0:World}{D:Nat->Prop}{A B:List Rec}{ρ:Pos->Loc}{a:Act}{w w':World}
   (hI:Inv C nt ops bP h0 n0 R jW w0 D A B ρ a w) {X Y:List Rec} {r:Rec} (hR:R=X++r::Y) (hD:¬D r.idx)
   (nK:∀o e,ops[r.idx]? =some o->e∈o.after->Region.binds .any e=true->D e.on) {o:Oper} (hrel:rM tt nt ops o r.o) {id:Pos} {ax:AB} (hc:r.c= .new id ax) {x:Value} {L:Loc}
   (hL:w.heap.size<=L.ax) (hL':L.ax<w'.heap.size) (VV:w'.os=w.os) (ae7:w'.tape=w.tape) (O8:w'.output=w.output) (abl:∀k,k<w.heap.size->w'.heap[k]? =w.heap[k]?)
   (hv:∀ρ',(∀b,Kept n0 R D b->ρ' b=ρ b)->ρ' id=L->aj ρ' r.nx.toNat C r.v x/\lH ρ' r.nx.toNat C L w' ax):
   Inv C nt ops bP h0 n0 R jW w0 (λi=>D i\/i=r.idx) A B (λb=>if b=id then L else ρ b) (a.put o.dst x) w':=by
 obtain⟨hp,hI⟩:=hI;have hrA:r∈A:=by
   have:r∈R:=(by rw[hR];simp);rw[hp.split]at this;exact(Zc9.1 this).resolve_right λh=>hD (hp.inB r h)
 obtain⟨NA,CI⟩:=G.Iz hR hc;have fc:w.heap.size<=w'.heap.size:=by omega
 refine⟨hp.next G hR nK (by rw[hc];rfl) _ _,λρ' xS=> ?_⟩;have hkid:Kept n0 R (λi=>D i\/i=r.idx) id:=by
   (intro A' r' B' Hr ZI;have cF:r'.idx≠r.idx:=λe=>ZI (.inr e));rcases G.cmp hR Hr cF with⟨Z,rfl⟩|⟨Z,rfl⟩
   .left;have:=G.FQ hR Hr;rw[CI,Pos.az]at this;omega
   .right;have:=G.An hR;rw[NA];exact this
 have XL:ρ' id=L:=by rw[xS id hkid];simp
 have hf:∀b,Kept n0 R D b->ρ' b=ρ b:=λb hb=>by
   have cF:b≠id:=by
     rintro rfl;rcases hb X r Y hR hD with h|h
     .  rw[NA]at h;omega
     .  rw[CI,Pos.az]at h;omega
   rw[xS b (hb.up λ_ h=>.inl h)];exact Za5 cF
 have h:=hI ρ' hf;obtain⟨KM,Il⟩:=hv ρ' hf XL;obtain⟨k1,k2⟩:=XK G hp h.t1 h.t0 hR hD hrel KM;have R3:∀s∈A,(D s.idx\/s.idx=r.idx)->D s.idx\/s=r:=λs hs fG=>fG.imp (λh=>h) λfG=>G.same (by rw[hp.split];simp[hs]) (by rw[hR];simp) fG
 refine⟨h.W.grow fc abl,λs hs fG qd zk fV=> ?_,λs hs fG qd zk fV s' gK Bn id'' acT oJ cF=> ?_,k1,k2,?_,h.Am⟩
 . rcases R3 s hs fG with fG|rfl
   .obtain⟨g1,g2,g3,g4,g5⟩:=h.N s hs fG qd zk fV;exact⟨g1.of_heap (abl _ g2),by omega,g3,g4,g5⟩
   . rw[hc]at fV;simp only[RC.new.injEq]at fV;obtain⟨rfl,rfl⟩:=fV;rw[XL];refine⟨Il,hL',Zc8 h.E.size hL,λb x hb e=> ?_,λad v ha e=> ?_⟩
     .  have:=(h.W.live b x hb).2.1;omega
     .  have:=World.block_lt_of_cell? _ _ (h.W.dB ad v ha).1;omega
 . rcases R3 s hs fG with hDk|rfl
   . rcases R3 s' gK Bn with abm|rfl
     .  exact h.N2 s hs hDk qd zk fV s' gK abm id'' acT oJ cF
     .  rw[hc]at oJ;simp only[RC.new.injEq]at oJ;obtain⟨rfl,rfl⟩:=oJ;have:=(h.N s hs hDk qd zk fV).2.1;rw[XL];omega
   . rw[hc]at fV;simp only[RC.new.injEq]at fV;obtain⟨rfl,rfl⟩:=fV;rcases R3 s' gK Bn with abm|rfl
     .  have:=(h.N s' gK abm id'' acT oJ).2.1;rw[XL];omega
     .  rw[hc]at oJ;simp only[RC.new.injEq]at oJ;exact absurd oJ.1 cF
 .exact⟨VV.trans h.E.os,ae7.trans h.E.tape,O8.trans h.E.output,Zc8 h.E.size fc,λk hk hn=>by rw[abl k (Zd0 hk h.E.size)];exact h.E.block k hk hn,h.E.mW⟩
theorem XM(G:vI tt nt ops call bP h0 n0 R){jW:Pos->Loc}{w0:World}{D:Nat->Prop}{A B:List Rec}{ρ:Pos->Loc}{a:Act}{w:World}
  (h:Inv0 C bP h0 n0 R jW w0 D A B ρ a w) (ael:R=A++B) {hp:T AB} {N:Pos} (hN:(cY n0 B).toNat<=N.toNat)
  (Du:∀b x,hp.get b=some x->(iM h0 B).get b=some x\/∃s∈A,D s.idx/\s.c= .new b x/\s.nx.toNat<=N.toNat):aV ρ C { heap:=hp,next:=N } w where
 live b x hb:=by
  rcases Du b x hb with h1|⟨s,hs,hD,hc,hn⟩
  .  obtain⟨g1,g2,g3⟩:=h.W.live b x h1;exact⟨Zd0 g1 hN,g2,g3.mono (λ_ _=>rfl) hN⟩
  .  obtain⟨g1,g2,_⟩:=h.N s hs hD b x hc;obtain⟨M,T,hM⟩:=kH (r:=s) (R:=R) (by rw[ael];simp[hs]);obtain⟨_,e⟩:=G.Iz hM hc;rw[e]at hn;refine⟨?_,g2,g1.mono (λ_ _=>rfl) (by rw[e];exact hn)⟩;rw[Pos.az]at hn;exact hn
 inj b  b' x x' hb jK he:=by
  rcases Du b x hb with h1|⟨s,hs,hD,hc,hn⟩
  .  rcases Du b' x' jK with Qh|⟨s',gK,ZI,tD,NB⟩
     .  exact h.W.inj b b' x x' h1 Qh he
     .  exact absurd he ((h.N s' gK ZI b' x' tD).2.2.2.1 b x h1)
  .  rcases Du b' x' jK with Qh|⟨s',gK,ZI,tD,NB⟩
     .  exact absurd he.symm ((h.N s hs hD b x hc).2.2.2.1 b' x' Qh)
     .  by_cases e:b=b'
        .exact e
        .exact absurd he (h.N2 s hs hD b x hc s' gK ZI b' x' tD e)
 dB ad v ha:=⟨(h.W.dB ad v ha).1,λb x hb=>by
  rcases Du b x hb with h1|⟨s,hs,hD,hc,hn⟩
  .  exact(h.W.dB ad v ha).2 b x h1
  .  exact(h.N s hs hD b x hc).2.2.2.2 ad v ha⟩
 whole:=h.W.whole
theorem vJ:∀{Z B:List Rec}{b:Pos}{x:AB},(∀r∈Z,r.c.kU=false)->CE B->(iN h0 (Z++B)).get b=some x->
  (iM h0 B).get b=some x\/∃s∈Z,s.c= .new b x
 |[],B,b,x,_,hB,h=>by
  cases B with
  |nil=>exact .inl h
  | cons r B=>
    simp only[CE]at hB;(cases hc:r.c<;>rw[hc]at hB<;>first|(cases hB;done)|skip);simp only[Ze0,iN,hc]at h;simp only[iM,hc];exact .inl h
 |r ::Z,B,b,x,hZ,hB,h=>by
  have ih:=@vJ Z B b x (λs hs=>hZ s (Zb0 _ hs)) hB;have hr:=hZ r (Zd8 ..);simp only[Zf7,iN]at h;cases hc:r.c with
  |pure=>rw[hc]at h;exact(ih h).imp (λh=>h) λ⟨s,h1,h2⟩=>⟨s,Zb0 _ h1,h2⟩
  |aH _ _=>rw[hc]at hr;cases hr
  | new id ax=>
    rw[hc]at h;by_cases e:id=b
    .   subst e;rw[T.eH]at h;simp only[H4]at h;subst h;exact .inr ⟨r,Zd8 ..,hc⟩
    .   rw[T.bw _ e]at h;exact(ih h).imp (λh=>h) λ⟨s,h1,h2⟩=>⟨s,Zb0 _ h1,h2⟩
end
section
variable{P:Program}{tt:TT}{C:Cells}{nt:Nat}{ops:Array Oper}{call:ai}{bP:Fr}{h0:T AB}{n0:Pos}{R:List Rec}
theorem around(G:vI tt nt ops call bP h0 n0 R){D:Nat->Prop}{A B:List Rec}{a:Act}(hp:Qz nt ops R D A B a){X Y:List Rec}{r:Rec}(hR:R=X++r::Y)(hD:¬D r.idx):
  ∃Z,A=X++r::Z/\Y=Z++B:=by
 have hrA:r∈A:=by
  have:r∈R:=by rw[hR];simp
  rw[hp.split]at this;exact(Zc9.1 this).resolve_right λh=>hD (hp.inB r h)
 obtain⟨X',Z,hA⟩:=kH hrA;have h2:R=X'++r::(Z++B):=by rw[hp.split,hA];simp
 obtain⟨rfl,_,rfl⟩:=Bm G.one hR h2 rfl;exact⟨Z,hA,rfl⟩
theorem abn(G:vI tt nt ops call bP h0 n0 R){jW:Pos->Loc}{w0:World}{D:Nat->Prop}{A B:List Rec}{ρ:Pos->Loc}{a:Act}{w w':World}
   (hI:Inv C nt ops bP h0 n0 R jW w0 D A B ρ a w) {X Y:List Rec} {r:Rec} (hR:R=X++r::Y) (hD:¬D r.idx)
   (nK:∀o e,ops[r.idx]? =some o->e∈o.after->Region.binds .any e=true->D e.on) {o:Oper} (hrel:rM tt nt ops o r.o)
   (hY:∀s∈Y,D s.idx) {st':St} {b0:T AB} (hc:r.c= .aH b0 st'.heap) (CI:r.nx=st'.next) {x:Value}
   (XN:lO ρ C { heap:=iN h0 Y,next:=cY n0 Y } w r.v st' x w'):
   ∃lJ,Inv C nt ops bP h0 n0 R jW w0 (λi=>D i\/i=r.idx) X (r::Y) lJ (a.put o.dst x) w':=by
 obtain⟨hp,hI⟩:=hI;obtain⟨dM,hv,hρ1,hle,SM,hE1⟩:=XN;simp only at hρ1 hle;obtain⟨Z,hA,rfl⟩:=around G hp hR hD;have hZ:∀s∈Z,s.c.kU=false:=λs hs=>hp.SV s (by rw[hA];simp[hs]) (hY s (by simp[hs]))
 have VY:∀s∈X,s∈A:=λs hs=>by rw[hA];simp[hs]
 have hXD:∀s∈X,(D s.idx\/s.idx=r.idx)->D s.idx:=λs hs h=>h.resolve_right (G.later hR hs)
 have SW:(cY n0 B).toNat<=(cY n0 (Z++B)).toNat:=G.yK (X:=X++[r]) (by rw[hR];simp)
 let lJ:Pos->Loc:=λb=>if(cY n0 (Z++B)).toNat<=b.toNat/\b.toNat<r.nx.toNat then dM b else ρ b
 have SX:∀b:Pos,b.toNat<(cY n0 (Z++B)).toNat->Kept n0 R D b:=by
   intro b hb M s T hM fG;left;by_cases hi:s.idx=r.idx
   .obtain⟨_,_,rfl⟩:=Bm G.one hM hR hi;exact hb
   . rcases G.cmp hR hM hi with⟨W,rfl⟩|⟨W,hW⟩
     .  have:=G.FQ hR hM;have:=G.acR hR;omega
     .  exact absurd (hY s (by rw[hW];simp)) fG
 refine⟨lJ,⟨by rw[hR],by simp[CE,hc,RC.kU],?_,?_,?_,by rw[Act.ij];exact hp.size,by rw[Act.jf];exact hp.defers⟩,λρ' xS=> ?_⟩
 . intro s hs;rcases Zb1.1 hs with rfl|hs
   .exact .inr rfl
   .exact .inl (hY s hs)
 .intro s hs fG;exact hp.SV s (VY s hs) (hXD s hs fG)
 . intro i o' e hDi ho he hb;rcases hDi with hDi|rfl
   .exact .inl (hp.closed i o' e hDi ho he hb)
   .exact .inl (nK o' e ho he hb)
 have ae8:∀b:Pos,b.toNat<r.nx.toNat->Kept n0 R (λi=>D i\/i=r.idx) b:=by
   (intro b hb M s T hM fG;left;have hi:s.idx≠r.idx:=λe=>fG (.inr e));rcases G.cmp hR hM hi with⟨W,rfl⟩|⟨W,hW⟩
   .exact Zd0 hb (G.FQ hR hM)
   .exact absurd (.inl (hY s (by rw[hW];simp))) fG
 have hf:∀b,Kept n0 R D b->ρ' b=ρ b:=λb hb=>by rw[xS b (hb.up λ_ h=>.inl h)];refine Za5 ?_;rintro⟨g1,g2⟩;rcases hb X r _ hR hD with h|h<;>omega
 have h:=hI ρ' hf;have SY:∀b:Pos,b.toNat<r.nx.toNat->ρ' b=dM b:=by
   intro b hb;rcases Zi0 b.toNat (cY n0 (Z++B)).toNat with g|g
   .rw[hf b (SX b g),hρ1 b g]
   .rw[xS b (ae8 b hb)];exact Za7 ⟨g,hb⟩
 have Ba:aj ρ' r.nx.toNat C r.v x:=by
   rw[CI]at SY ⊢;exact hv.mono SY (Za6 _)
 have ey:aV ρ' C { heap:=st'.heap,next:=r.nx } w':=by rw[CI]at SY ⊢;exact SM.congr SY
 have hold:∀s∈X,D s.idx->∀id ax,s.c= .new id ax->∀b y,(iN h0 (Z++B)).get b=some y->(ρ b).ax≠(ρ' id).ax:=by
   intro s hs fG id ax fV b y hb;obtain⟨g1,g2,g3,g4,g5⟩:=h.N s (VY s hs) fG id ax fV;obtain⟨M,T,hM⟩:=kH (r:=s) (R:=R) (by rw[hR];simp[hs]);rcases vJ hZ hp.bound hb with hb|⟨s',gK,oJ⟩
   .rw[<-hf b (SX b (Zd0 (h.W.live b y hb).1 SW))];exact g4 b y hb
   . obtain⟨Z1,Z2,rfl⟩:=kH gK;have ZH:R=(X++r::Z1)++s'::(Z2++B):=(by rw[hR];simp);obtain⟨e1,e2⟩:=G.Iz ZH oJ;obtain⟨e3,e4⟩:=G.Iz hM fV;have hbn:b.toNat<(cY n0 ((Z1++s'::Z2)++B)).toNat:=(by have:=G.An (X:=X) (r:=r) (Z:=Z1) (r':=s') (Y':=Z2++B) (by rw[hR];simp);rw[e2,Pos.az]at this;simp only[Zi2,Zf7];omega);have hsr:s.idx≠r.idx:=G.later hR hs;have NA:r.nx.toNat<=id.toNat:=by
        rcases G.cmp hR hM hsr with⟨W,rfl⟩|⟨W,hW⟩
        .rw[e3];exact G.FQ hR hM
        .obtain⟨A1,A2,hX⟩:=kH hs;have hM2:R=A1++s::(A2++r::((Z1++s'::Z2)++B)):=(by rw[hR,hX];simp);have qf:s∈(Z1++s'::Z2)++B:=(by rw[hW];simp);exact absurd rfl (G.one A1 s _ hM2 s (Zc9.2 (.inr (Zb0 _ qf))))
     have cF:b≠id:=(by rintro rfl;have:=G.acR hR;omega);rw[<-hf b (SX b hbn)];exact h.N2 s' (by rw[hA];simp) (hY s' (by simp)) b y oJ s (VY s hs) fG id ax fV cF
 have hEa:jJ jW { heap:=h0,next:=n0 } w0 ρ { heap:=iN h0 (Z++B),next:=cY n0 (Z++B) } w:=by
   refine⟨h.E.os,h.E.tape,h.E.output,h.E.size,h.E.block,λb y hb=> ?_⟩;rcases vJ hZ hp.bound hb with hb|⟨s',gK,oJ⟩
   .rw[<-hf b (SX b (Zd0 (h.W.live b y hb).1 SW))];exact h.E.mW b y hb
   .obtain⟨Z1,Z2,rfl⟩:=kH gK;have ZH:R=(X++r::Z1)++s'::(Z2++B):=(by rw[hR];simp);obtain⟨e1,e2⟩:=G.Iz ZH oJ;have hbn:b.toNat<(cY n0 ((Z1++s'::Z2)++B)).toNat:=(by have:=G.An (X:=X) (r:=r) (Z:=Z1) (r':=s') (Y':=Z2++B) (by rw[hR];simp);rw[e2,Pos.az]at this;simp only[Zi2,Zf7];omega);rw[<-hf b (SX b hbn)];exact .inr (h.N s' (by rw[hA];simp) (hY s' (by simp)) b y oJ).2.2.1
 obtain⟨k1,k2⟩:=XK G hp h.t1 h.t0 hR hD hrel Ba;refine⟨?_,λs hs fG id ax fV=> ?_,λs hs fG id ax fV s' gK Bn qd zk oJ cF=> ?_,k1,k2,?_,h.Am⟩
 .simp only[iM,hc,cY];exact ey
 . have fG:=hXD s hs fG;obtain⟨g1,g2,g3,g4,g5⟩:=h.N s (VY s hs) fG id ax fV;refine⟨g1.of_heap (hE1.block _ g2 (hold s hs fG id ax fV)),Zd0 g2 hE1.size,g3,λb y hb=> ?_,g5⟩;simp only[iM,hc]at hb;rw[SY b (by rw[CI];exact(SM.live b y hb).1)];rcases hE1.mW b y hb with⟨b',y',jK,e⟩|e
   .rw[<-e];exact hold s hs fG id ax fV b' y' jK
   .omega
 .exact h.N2 s (VY s hs) (hXD s hs fG) id ax fV s' (VY s' gK) (hXD s' gK Bn) qd zk oJ cF
 . have:=(hEa.trans hE1).congr (ρ':=ρ') λb y hb=>SY b (by rw[CI];exact(SM.live b y hb).1)
   simp only[iM,hc,cY];exact⟨this.os,this.tape,this.output,this.size,this.block,this.mW⟩
end
section
variable{P:Program}{tt:TT}{C:Cells}{nt:Nat}{ops:Array Oper}{call:ai}{bP:Fr}{h0:T AB}{n0:Pos}{R:List Rec}
theorem yL{ρ:Pos->Loc}{n:Pos}{w:World}(hC:∀ad v,C ad=some v->w.cell? ad=some v)(ZJ:∀a v,C a=some v->∀o,C ⟨a.block,o,none⟩=none->w.cell? ⟨a.block,o,none⟩=none):aV ρ C { heap:= .e,next:=n } w where
 live b x hb:=by rw[T.dD]at hb;cases hb
 inj b b' x x' hb:=by rw[T.dD]at hb;cases hb
 dB a v ha:=⟨hC a v ha,λb x hb=>by rw[T.dD]at hb;cases hb⟩
 whole:=ZJ
theorem Yields.eq{N:Next}{x y:Value}(h:Yields N x)(k:Yields N y):x=y:=by
 rcases h with rfl|⟨rfl,rfl⟩<;>rcases k with k|⟨k,rfl⟩
 .simp only[Next.value.injEq]at k;exact k
 .cases k
 .cases k
 .rfl
theorem lH.abo{ρ ρ':Pos->Loc}{n n':Nat}{L:Loc}{w:World}{s:List Nat}{p:Nat}(h:lH ρ n C L w (.jq s p)):lH ρ' n' C L w (.jq s p):=h
theorem ZK(hT:bL P tt){o:Oper}{k:av}{xs:List dU}{cls:VJ}(hc:fL tt o.op=some (k,xs,cls)){n:Pos}{vs:List AV}{v:AV}{ax:AB}
  (hr:k.run (λ_=>none) n vs=some (.aH v none none (some ax))) {fr:Fr} (hx:dV fr xs=some vs) {a:Act} {w:World} {VZ:(Pos->Loc)->Prop} {ρ:Pos->Loc} (aS:VZ ρ)
  (hF:∀ρ',VZ ρ'->fo ρ' n.toNat C fr a.tmps) (hC:∀ad v,C ad=some v->w.cell? ad=some v) (ZJ:∀a v,C a=some v->∀o,C ⟨a.block,o,none⟩=none->w.cell? ⟨a.block,o,none⟩=none):
  ∃ N x w' L,(execOp a.eval o).run P w= .ok N w'/\Yields N x/\w.heap.size<=L.ax/\L.ax<w'.heap.size/\w'.os=w.os/\w'.tape=w.tape/\w'.output=w.output/\
    (∀k,k<w.heap.size->w'.heap[k]? =w.heap[k]?)/\∀ρ',VZ ρ'->ρ' n=L->aj ρ' n.succ.toNat C v x/\lH ρ' n.succ.toNat C L w' ax:=by
 have b6:k.run (λb=>T.get b (T.e:T AB)) n vs=some (.aH v none none (some ax)):=by
  have e:(λb=>T.get b (T.e:T AB))=λ_=>none:=by funext b;exact T.dD b
  rw[e];exact hr
 have H:=λρ' (hf:VZ ρ')=>J6 hT o.op ρ' C { heap:= .e,next:=n } w k xs cls fr a o vs _ rfl hc (yL hC ZJ) (hF ρ' hf) hx b6
 have key:∀ρ',VZ ρ'->∃N x w' dM,(execOp a.eval o).run P w= .ok N w'/\Yields N x/\(∀b:Pos,b.toNat<n.toNat->dM b=ρ' b)/\aj dM n.succ.toNat C v x/\
    lH dM n.succ.toNat C (dM n) w' ax/\w.heap.size<=(dM n).ax/\(dM n).ax<w'.heap.size/\w'.os=w.os/\w'.tape=w.tape/\w'.output=w.output/\
    (∀k,k<w.heap.size->w'.heap[k]? =w.heap[k]?):=by
  intro ρ' hf;obtain⟨N,x,w',dM,he,hy,h1,h2,h3,h4⟩:=H ρ' hf;have hg:(St.aH { heap:= .e,next:=n } none none (some ax)).heap.get n=some ax:=T.eH _ _ _;obtain⟨g1,g2,g3⟩:=h2.live n ax hg;refine⟨N,x,w',dM,he,hy,h1,h3,g3,?_,g2,h4.os,h4.tape,h4.output,λk hk=>h4.block k hk λb x hb=> ?_⟩
  . rcases h4.mW n ax hg with⟨b',x',jK,_⟩|h
    .   rw[T.dD]at jK;cases jK
    .   exact h
  .rw[T.dD]at hb;cases hb
 obtain⟨N,x,w',dM,he,hy,h1,h2,h3,h4,h5,h6,h7,h8,h9⟩:=key ρ aS;refine⟨N,x,w',dM n,he,hy,h4,h5,h6,h7,h8,h9,λρ' hf hL=> ?_⟩;obtain⟨N',x',w'',lJ,j9,QB,k1,k2,k3,_⟩:=key ρ' hf;rw[he]at j9;simp only[Result.ok.injEq]at j9;obtain⟨rfl,rfl⟩:=j9;have S0:=hy.eq QB;subst S0;have XP:n.toNat<n.succ.toNat:=by rw[Pos.az];omega
 have Am:(lJ n).ax=(dM n).ax->(lJ n).base=(dM n).base->((∃cs fz,ax= .cells cs fz)\/∃t cs,ax= .typed t cs)->aj ρ' n.succ.toNat C v x/\lH ρ' n.succ.toNat C (dM n) w' ax:=by
  intro e1 e2 sN;have e3:(lJ n).size=(dM n).size:=by
    rcases sN with⟨cs,fz,rfl⟩|⟨t,cs,rfl⟩
    .   obtain⟨c,e,fr,g1,g2,_⟩:=h3;obtain⟨c',e',aW,Bo,ZL,_⟩:=k3;rw[e1,g1]at Bo;simp only[H4,Obj.cells.injEq]at Bo;rw[<-g2, <-ZL,Bo.1]
    .   obtain⟨c,fr,g1,g2,_⟩:=h3;obtain⟨c',aW,Bo,ZL,_⟩:=k3;rw[e1,g1]at Bo;simp only[H4,Obj.cells.injEq]at Bo;rw[<-g2, <-ZL,Bo.1]
  have e4:lJ n=dM n:=by
    cases hh:lJ n;cases hh':dM n;rw[hh,hh']at e1 e2 e3;simp only at e1 e2 e3;rw[e1,e2,e3]
  have gL:∀b:Pos,b.toNat<n.succ.toNat->ρ' b=lJ b:=by
    intro b hb;rcases Zi0 b.toNat n.toNat with g|g
    .   exact(k1 b g).symm
    .   have:b=n:=Pos.toNat_inj (by rw[Pos.az]at hb;omega);subst this;rw[hL,e4]
  refine⟨k2.mono gL (Za6 _),?_⟩;rw[<-e4];exact k3.mono gL (Za6 _)
 cases adi hr with
 |ptr cs=>
  obtain⟨_,g1⟩:=h2.e9;obtain⟨_,g2⟩:=k2.e9;rw[g1]at g2;simp only[Value.pointer.injEq,H4,Addr.mk.injEq,Zh5,Zm2]at g2;exact Am g2.1.symm g2.2.symm (.inl ⟨cs,0,rfl⟩)
 |ptrT t cs=>
  obtain⟨_,g1⟩:=h2.e9;obtain⟨_,g2⟩:=k2.e9;rw[g1]at g2;simp only[Value.pointer.injEq,H4,Addr.mk.injEq,Zh5,Zm2]at g2;exact Am g2.1.symm g2.2.symm (.inr ⟨t,cs,rfl⟩)
 |ZG len t cs hl=>
  obtain⟨ad,aJ,g1,g2,g3,g4⟩:=h2.cK;obtain⟨ad',XQ,Bo,ZL,g3',g4'⟩:=k2.cK;rw[g1]at Bo;simp only[Value.slice.injEq,H4,true_and]at Bo;obtain⟨rfl,rfl⟩:=Bo;obtain⟨_,a1,_⟩:=g4 (by omega);obtain⟨_,a2,_⟩:=g4' (by omega);rw[a1]at a2;simp only[Addr.mk.injEq,Zh5,Zm2]at a2;exact Am a2.1.symm a2.2.symm (.inr ⟨t,cs,rfl⟩)
 |jq s=>
  obtain⟨_,g1⟩:=h2.e9;refine⟨?_,h3.abo⟩;rw[g1, <-hL];exact .ptr n 0 XP
 |slice len es cap cs fV=>
  obtain⟨ad,aJ,g1,g2,g3,g4⟩:=h2.cK;obtain⟨ad',XQ,Bo,ZL,g3',g4'⟩:=k2.cK;rw[g1]at Bo;simp only[Value.slice.injEq,H4,true_and]at Bo;obtain⟨rfl,rfl⟩:=Bo;by_cases h0:aJ=0
  . subst h0;have Zx:len=0:=(by omega);have hcs0:cs=[]:=fV Zx (by
        cases cap with
        |none=>exact .inl rfl
        |some c=>exact .inr (by rw[g3 c rfl]))
    subst hcs0;refine⟨?_,?_⟩
    .   rw[g1];exact .slice n 0 len cap es 0 ad g2 g3 (λh=>absurd rfl h) (λ_=>XP)
    .   obtain⟨c,e,fr,q1,q2,q3,q4,q5⟩:=h3;exact⟨c,e,fr,q1,q2,q3,au.nil,q5⟩
  .obtain⟨_,a1,_⟩:=g4 h0;obtain⟨_,a2,_⟩:=g4' h0;rw[a1]at a2;simp only[Addr.mk.injEq,Zh5,Zm2]at a2;exact Am a2.1.symm a2.2.symm (.inl ⟨cs,0,rfl⟩)
 |map=>
  obtain⟨_,g1⟩:=h2.uK;refine⟨?_,?_⟩
  .rw[g1, <-hL];exact .map n XP
  .obtain⟨es',q1,q2,q3⟩:=h3;exact⟨es',q1,q2,λi e e' he=>by simp at he⟩
end
section
variable{P:Program}{tt:TT}{C:Cells}{nt:Nat}{ops:Array Oper}{call:ai}{bP:Fr}{h0:T AB}{n0:Pos}{R:List Rec}
def tF(fr:Fr):List Pos->Fr
 |[]=>.e
 |p::l=>(tF fr l).put (fr.get p) p
theorem QC{fr:Fr}{p:Pos}:∀{l:List Pos},p∈l->(tF fr l).get p=fr.get p
 |[],h=>by cases h
 |q ::l,h=>by
  simp only[tF];by_cases e:q=p
  .subst e;exact T.eH _ _ _
  .rw[T.bw _ e];exact QC ((Zb1.1 h).resolve_left λh=>e h.symm)
theorem K3{fr:Fr}{p:Pos}{v:AV}:∀{l:List Pos},(tF fr l).get p=some v->p∈l/\fr.get p=some v
 |[],h=>by simp only[tF]at h;rw[T.dD]at h;cases h
 |q ::l,h=>by
  simp only[tF]at h;by_cases e:q=p
  .subst e;rw[T.eH]at h;exact⟨by simp,h⟩
  .rw[T.bw _ e]at h;obtain⟨h1,h2⟩:=K3 h;exact⟨by simp[h1],h2⟩
theorem QD{fr:Fr}{l:List Pos}:∀{xs:List dU},(∀p,dU.t p∈xs->p∈l)->dV (tF fr l) xs=dV fr xs
 |[],_=>rfl
 |x::xs,h=>by
  have h1:yE (tF fr l) x=yE fr x:=by
   cases x with
   |t p=>exact QC (h p (by simp))
   |c v=>rfl
  simp only[dV,h1,QD λp hp=>h p (Zb0 _ hp)]
theorem ZM{o:bh}{p:Pos}(h:dU.t p∈o.xs):p∈o.looks:=by
 unfold bh.looks;exact Zi6 _ (Zm6.2 ⟨_,h,rfl⟩)
theorem Vf{o:bh}{p:Pos}{q:Bool}(h:o.guard=some (p,q)):p∈o.looks:=by unfold bh.looks;rw[h];simp
theorem Yields.upon{K:Value->World->Prop}{N:Next}{x:Value}{w:World}(h:Yields N x)(hk:K x w):Reaches P K (.ok N w):=by rcases h with rfl|⟨rfl,rfl⟩<;>exact hk
theorem abp(hT:bL P tt)(bI:eO P C call)(G:vI tt nt ops call bP h0 n0 R){jW:Pos->Loc}{w0:World}{D:Nat->Prop}{A B:List Rec}{ρ:Pos->Loc}{a:Act}{w:World}
  (hI:Inv C nt ops bP h0 n0 R jW w0 D A B ρ a w) {i:Nat} (hi:i<ops.size) (hD:¬D i)
  (nK:∀o e,ops[i]? =some o->e∈o.after->Region.binds .any e=true->D e.on):
  Bf P ops i (λa' w'=>∃A' B' ρ',Inv C nt ops bP h0 n0 R jW w0 (λj=>D j\/j=i) A' B' ρ' a' w') a w:=by
 obtain⟨r,hr,rfl⟩:=G.all i hi;obtain⟨X,Y,hR⟩:=kH hr;obtain⟨o,ho,hrel,hB⟩:=G.rel r hr;have hp:=hI.1;have O7:∀b,r.o.bD.testBit b=true->D b:=λb hb=>G.ND hp.closed (hB.2 b hb) nK
 obtain⟨Z,hA,QE⟩:=around G hp hR hD;have FR:∀ρ',(∀b,Kept n0 R D b->ρ' b=ρ b)->∀p v,p∈r.o.looks->(lR bP Y).get p=some v->∃x,a.tmps[p.toNat - 1]? =some x/\aj ρ' (cY n0 Y).toNat C v x:=
  λρ' hf p v hl hv=>look G hp (hI.2 ρ' hf).t1 (hI.2 ρ' hf).t0 hR hD O7 hl hv
 have hFR:∀ρ',(∀b,Kept n0 R D b->ρ' b=ρ b)->fo ρ' (cY n0 Y).toNat C (tF (lR bP Y) r.o.looks) a.tmps:=λρ' hf p v hv=>
  let⟨h1,h2⟩:=K3 hv;FR ρ' hf p v h1 h2
 have FT:∀b,Kept n0 R D b->ρ b=ρ b:=λ_ _=>rfl
 have hw:∀b,bJ (lR bP Y) r.o.guard=some b->Region.wanted o (yielded ops a.tmps)=b:=λb hb=>
  Bh hrel.guard (λp v hv ⟨q,hq⟩=>FR ρ FT p v (Vf hq) hv) hb
 have hnZ:∀s∈Z,s.nx.toNat<=(cY n0 Y).toNat:=λs hs=>by obtain⟨Z1,Z2,rfl⟩:=kH hs;have:=G.An (X:=X) (r:=r) (Z:=Z1) (r':=s) (Y':=Z2++B) (by rw[hR,QE];simp);rw[QE];simp only[Zi2,Zf7];exact this
 have SW:(cY n0 B).toNat<=(cY n0 Y).toNat:=by rw[QE];exact G.yK (X:=X++[r]) (by rw[hR,QE];simp)
 have hs:=Good.at (hR ▸G.Mc);have hex:∀xs,dV (lR bP Y) r.o.xs=some xs->dV (tF (lR bP Y) r.o.looks) r.o.xs=some xs:=λxs hx=>by rw[QD λp hp=>ZM hp];exact hx
 unfold Bf;simp only[ho];generalize hrr:r=r0 at*
 cases hs with
 |skip i' o' _ hw'=>
  rw[Za5 (by rw[hw _ hw'];simp)];exact⟨A,B,ρ,QA G hI hR hD nK hrel rfl λρ' _=> .Qu⟩
 |pure i' o' v xs _ hw' hx Qy=>
  rw[Za7 (hw _ hw')];rw[QE]at Qy;obtain⟨h,Du,b6⟩:=Qy Z B rfl hp.bound λs hs he=>by
    cases hb:o'.bD.testBit s.idx with
    |false=>rfl
    |   true=>
        have h1:=hp.SV s (by rw[hA];simp[hs]) (O7 _ hb);rw[h1]at he;cases he
  rcases hrel.op with hc|⟨hk,_⟩
  . have H:∀ρ',(∀b,Kept n0 R D b->ρ' b=ρ b)->∃N x,(execOp a.eval o).run P w= .ok N w/\Yields N x/\aj ρ' (cY n0 Y).toNat C v x:=by
        intro ρ' hf;have hW:=XM G (hI.2 ρ' hf) hp.split (hp:=h) SW λb y hb=>(Du b y hb).imp (λh=>h) λ⟨s,h1,h2,h3⟩=>
          ⟨s,by rw[hA];simp[h1],O7 _ h3,h2,hnZ s h1⟩
        exact J6 hT o.op ρ' C _ w _ _ _ _ a o _ _ rfl hc hW (hFR ρ' hf) (hex xs hx) (abh b6 λ_ _ h=>h)
    obtain⟨N,x,he,hy,hv⟩:=H ρ FT;unfold O3;rw[he];refine hy.upon ⟨A,B,ρ,QA G hI hR hD nK hrel rfl λρ' hf=> ?_⟩;obtain⟨N',x',j9,QB,Ba⟩:=H ρ' hf;rw[he]at j9;simp only[Result.ok.injEq,Zm2]at j9;subst j9;rw[hy.eq QB];exact Ba
  .rw[hk]at b6;cases b6
 |new   i' o' v ax xs _ hw' hx b6=>
  rw[Za7 (hw _ hw')];rcases hrel.op with hc|⟨hk,_⟩
  . obtain⟨N,x,w',L,he,hy,h1,h2,h3,h4,h5,h6,h7⟩:=ZK hT hc b6 (hex xs hx) (VZ:=λρ'=>∀b,Kept n0 R D b->ρ' b=ρ b) FT hFR
        (λad v ha=>((hI.2 ρ FT).W.dB ad v ha).1) (hI.2 ρ FT).W.whole
    unfold O3;rw[he];exact hy.upon ⟨A,B,_,abk G hI hR hD nK hrel rfl h1 h2 h3 h4 h5 h6 h7⟩
  .rw[hk]at b6;cases b6
 |aH i' o' v st' xs _ abi hw' hx kf=>
  rw[Za7 (hw _ hw')];rcases hrel.op with hc|⟨hk,_⟩
  . have hY:∀s∈Y,D s.idx:=λs hs=>O7 _ (G.aH X _ Y hR abi s hs)
    have hZ:∀s∈Z,s.c.kU=false:=λs hs=>hp.SV s (by rw[hA];simp[hs]) (hY s (by rw[QE];simp[hs]))
    have hW:aV ρ C { heap:=iN h0 Y,next:=cY n0 Y } w:=XM G (hI.2 ρ FT) hp.split SW λb y hb=>by
        rw[QE]at hb;rcases vJ hZ hp.bound hb with hb|⟨s,h1,h2⟩
        .exact .inl hb
        .exact .inr ⟨s,by rw[hA];simp[h1],hY s (by rw[QE];simp[h1]),h2,hnZ s h1⟩
    have hre:=KW hT bI hc hW (hFR ρ FT) (hex xs hx) kf;(refine hre.mono λx w' XN=> ?_);obtain⟨lJ,h⟩:=abn G hI hR hD nK hrel hY rfl rfl XN;exact⟨_,_,lJ,h⟩
  .exact(Reaches.bad hk kf).elim
end
section
variable{P:Program}{tt:TT}{C:Cells}{nt:Nat}{ops:Array Oper}{call:ai}{bP:Fr}{h0:T AB}{n0:Pos}{R:List Rec}
theorem QF(G:vI tt nt ops call bP h0 n0 R){jW:Pos->Loc}{w0:World}{D:Nat->Prop}{A B:List Rec}{ρ:Pos->Loc}{a:Act}{w:World}
   (hI:Inv C nt ops bP h0 n0 R jW w0 D A B ρ a w) (gL:∀r∈R,D r.idx):fB nt jW C { heap:=h0,next:=n0 } w0 (lR bP R) { heap:=iN h0 R,next:=cY n0 R } a w:=by
 obtain⟨hp,hI⟩:=hI;have h:=hI ρ λ_ _=>rfl
 have hZ:∀s∈A,s.c.kU=false:=λs hs=>hp.SV s hs (gL s (by rw[hp.split];simp[hs]))
 have hnA:∀s∈A,s.nx.toNat<=(cY n0 R).toNat:=λs hs=>by obtain⟨Z1,Z2,hA⟩:=kH hs;have:=G.yK (X:=[]) (Y:=Z1) (Z:=s::(Z2++B)) (by rw[hp.split,hA];simp);have e:R=Z1++s::(Z2++B):=(by rw[hp.split,hA];simp);rw[<-e]at this;exact this
 have SW:(cY n0 B).toNat<=(cY n0 R).toNat:=by
   have:=G.yK (X:=[]) (Y:=A) (Z:=B) (by rw[hp.split];simp)
   rwa [<-hp.split]at this
 have Is:n0.toNat<=(cY n0 R).toNat:=G.XJ (X:=[]) rfl;have Du:∀b x,(iN h0 R).get b=some x->(iM h0 B).get b=some x\/∃s∈A,D s.idx/\s.c= .new b x/\s.nx.toNat<=(cY n0 R).toNat:=λb x hb=>by
   rw[hp.split]at hb;rcases vJ hZ hp.bound hb with hb|⟨s,h1,h2⟩
   .exact .inl hb
   .exact .inr ⟨s,h1,gL s (by rw[hp.split];simp[h1]),h2,hnA s h1⟩
 refine⟨ρ,⟨XM G h hp.split SW Du,?_,hp.size,hp.defers⟩,h.Am,Is,?_⟩
 . intro p v hv;rcases Iw R p v hv with⟨M,s,T,hM,h2,rfl,h3⟩|⟨h1,h2⟩
   . obtain⟨x,hx,Ix⟩:=h.t1 M s T p hM (gL s (by rw[hM];simp)) h2 λs' gK _=>h3 s' gK
     refine⟨x,hx,Ix.mono (λ_ _=>rfl) ?_⟩;have:=G.yK (X:=[]) (Y:=M) (Z:=s::T) (by rw[hM];simp);rw[<-hM]at this;exact this
   . obtain⟨x,hx,Ix⟩:=h.t0 p v h1 λs hs _=>h2 s hs
     exact⟨x,hx,Ix.mono (λ_ _=>rfl) Is⟩
 . refine⟨h.E.os,h.E.tape,h.E.output,h.E.size,h.E.block,λb x hb=> ?_⟩;rcases Du b x hb with hb|⟨s,h1,h2,h3,_⟩
   .exact h.E.mW b x hb
   .exact .inr (h.N s h1 h2 b x h3).2.2.1
def DL(listed:Array Bool)(j:Nat):Prop:=listed.getD j false=true
theorem ZN{listed:Array Bool}{i:Nat}(hi:i<listed.size):(λj=>DL listed j\/j=i)=DL (listed.setIfInBounds i true):=by
 funext j;apply propext;unfold DL;by_cases h:j=i
 .subst h;simp[hi]
 .rw[getD_set_ne false (Ne.symm h)];simp[h]
theorem S5{listed:Array Bool}{j:Nat}(h:listed.getD j true=false):¬DL listed j:=by
 unfold DL;intro h';rcases Zi0 j listed.size with hj|hj
 .simp[hj]at h h';rw[h]at h';cases h'
 .simp[Array.getElem?_eq_none hj]at h'
theorem adk{listed:Array Bool}{j:Nat}(hj:j<listed.size)(h:¬DL listed j):listed.getD j true=false:=by unfold DL at h;simp[hj]at h ⊢; exact h
theorem IA(G:vI tt nt ops call bP h0 n0 R){listed:Array Bool}(hs:listed.size=ops.size)(hr:Region.ready .any ops listed=[]):∀(Y X:List Rec),R=X++Y->∀r∈Y,DL listed r.idx
 |[],_,_,r,pz=>by cases pz
 |r ::Y  ,X,hR,r',pz=>by
  have ih:=IA G hs hr Y (X++[r]) (by rw[hR];simp);rcases Zb1.1 pz with rfl|pz
  . obtain⟨o,ho,_,hB⟩:=G.rel r' (by rw[hR];simp);have aT:r'.idx<ops.size:=(Zd2.1 ho).1;by_cases h:DL listed r'.idx
    .   exact h
    .   exfalso;have:r'.idx∈Region.ready .any ops listed:=mem_ready.2 ⟨adk (by omega) h,o,ho,λe he hb=>by obtain⟨s,h1,h2⟩:=G.bD X r' Y hR _ (hB.1 o ho e he hb);have:=ih s h1;rw[h2]at this;exact this⟩;rw[hr]at this;cases this
  .exact ih r' pz
theorem QG(hT:bL P tt)(bI:eO P C call)(G:vI tt nt ops call bP h0 n0 R){Q:Exit->Act->World->Prop}{jW:Pos->Loc}{w0:World}
  (hQ:∀a' w',fB nt jW C { heap:=h0,next:=n0 } w0 (lR bP R) { heap:=iN h0 R,next:=cY n0 R } a' w'->Q .normal a' w'):
  ∀ (fuel:Nat)(listed:Array Bool)(U:List Nat)(A B:List Rec)(ρ:Pos->Loc)(a:Act)(w:World),listed.size=ops.size->U.length<=fuel->U.Nodup->(∀j,j<ops.size->¬DL listed j->j∈U)->
    Inv C nt ops bP h0 n0 R jW w0 (DL listed) A B ρ a w->R1 P ops (Q .normal) fuel listed a w
 |0,listed,U,A,B,ρ,a,w,hs,hU,_,hm,hI=>by
  have hU0:U=[]:=Zb2 (by omega);subst hU0;have hr:Region.ready .any ops listed=[]:=by
    cases h:Region.ready .any ops listed with
    |nil=>rfl
    |   cons i l=>
        have hi:i∈Region.ready .any ops listed:=(by rw[h];simp);obtain⟨h1,o,ho,_⟩:=mem_ready.1 hi;have:=hm i (Zd2.1 ho).1 (S5 h1);cases this
  exact⟨hr,hQ a w (QF G hI (IA G hs hr R [] rfl))⟩
 |fuel+1,listed,U,A,B,ρ,a,w,hs,hU,Hs,hm,hI=>by
  refine⟨λhr=>hQ a w (QF G hI (IA G hs hr R [] rfl)),λi hi=> ?_⟩;obtain⟨h1,o,ho,h2⟩:=mem_ready.1 hi;have aT:i<ops.size:=(Zd2.1 ho).1;have kf:=abp hT bI G hI aT (S5 h1) λo' e CB he hb=>by rw[ho]at CB;simp only[H4]at CB;subst CB;exact h2 e he hb
  refine Qq (λa' w' hh=> ?_) kf;obtain⟨A',B',ρ',hI'⟩:=hh;rw[ZN (by omega)]at hI';have hiU:i∈U:=hm i aT (S5 h1);refine QG hT bI G hQ fuel _ (U.erase i) A' B' ρ' a' w' (by simp[hs]) ?_ (Hs.erase i) (λj hj hD=> ?_) hI'
  .rw[List.length_erase_of_mem hiU];omega
  . (rw[<-ZN (by omega)]at hD;have cF:j≠i:=λe=>hD (.inr e));exact(List.mem_erase_of_ne cF).2 (hm j hj λh=>hD (.inl h))
theorem FU(hm:P.follows .mixedOrders=true)(hT:bL P tt)(bI:eO P C call)(ae9:lQ call):pF P tt C call:=by
 intro nt id ops l Q fr aW st st' ρ a w hl dw h hS hQ;obtain⟨R,hG,hmap,VK,afa,CI⟩:=NC (call:=call) (bP:=fr) (h0:=st.heap) (n0:=st.next) _ [] fr aW st st' h trivial rfl rfl rfl;simp only[Zf0]at hG VK afa CI;have hst':st'={ heap:=iN st.heap R,next:=cY st.next R }:=by cases st';simp_all
 have hlen:l.length=ops.size:=by rw[(mZ hl).1,Zf6]
 have NF:=KZ _ 0 [] dw λb=>by simp
 have hL:ua (A0 0 l) []=(R.map λr=>(r.idx,r.o)).reverse:=by rw[hmap,List.reverse_reverse]
 have dec:∀{A B:List Rec}{r:Rec},R=A++r::B->ua (A0 0 l) []=(B.map λr=>(r.idx,r.o)).reverse++(r.idx,r.o)::(A.map λr=>(r.idx,r.o)).reverse:=λe=>by rw[hL,e];simp
 have Md:∀{B:List Rec}{i:Nat},i∈((B.map λr=>(r.idx,r.o)).reverse).map (·.1)↔ ∃r∈B,r.idx=i:=λ{B i}=>by simp
 have G:vI tt nt ops call fr st.heap st.next R:=by
   refine⟨hG,ae9,λA r B e r' pz hi=> ?_,λA r B e b hb=> ?_,λA r B e hc r' pz=> ?_,λA r B e r' pz=> ?_,λr hr=> ?_,λi hi=> ?_⟩
   .exact(NF.one _ _ _ _ (dec e)).2 (Md.2 ⟨r',pz,hi⟩)
   . rcases NF.bD _ _ _ _ (dec e) b hb with h|h
     .cases h
     .exact Md.1 h
   .exact NF.aH _ _ _ _ (dec e) hc _ (.inr (Md.2 ⟨r',pz,rfl⟩))
   .exact NF.apart _ _ _ _ (dec e) (r'.idx,r'.o) (by simp;exact⟨r',pz,rfl,rfl⟩)
   .obtain⟨A,B,e⟩:=kH hr;have hx:(r.idx,r.o)∈ua (A0 0 l) []:=(by rw[dec e];simp);have h1:=adj hx;obtain⟨o,h2,h3,h4⟩:=xR hl _ _ h1;refine⟨o,h2,h3,?_⟩;rw[h4];exact VU ops.toList [] rfl (Zj0 _) (λi hi=>by simp at hi) _ (Zd2.1 h2).1
   . rcases NF.all i (by rw[hlen];exact hi)with h|h
     .cases h
     .rw[hL]at h;exact Md.1 h
 refine⟨hm,?_⟩;rw[hst',VK]at hQ;have hkn:∀b:Pos,b.toNat<st.next.toNat->∀D,Kept st.next R D b:=λb hb D A r B e _=>.inl (Zd0 hb (G.XJ (X:=A++[r]) (by rw[e];simp)))
 refine QG (Q:=Q) (jW:=ρ) (w0:=w) hT bI G hQ ops.size _ (List.range ops.size) R [] ρ a _ (by simp) (by simp) List.nodup_range (λj hj _=>Zl4.2 hj) ?_;have kP:∀j,¬DL (Array.replicate ops.size false) j:=λj h=>by
   unfold DL at h;rcases Zi0 j ops.size with hj|hj
   .simp[hj]at h
   .simp[Nat.not_lt.2 hj]at h
 refine⟨⟨by simp,trivial,(λr hr=>by cases hr),λr _ hD=>absurd hD (kP _),λi _ _ hD=>absurd hD (kP _),hS.size,hS.defers⟩,λρ' xS=> ?_⟩;have ny:∀b:Pos,b.toNat<st.next.toNat->ρ' b=ρ b:=λb hb=>xS b (hkn b hb _)
 have hW:aV ρ' C st { w with drawn:=w.drawn+1 }:=(hS.W.congr ny).grow (Za6 _) λ_ _=>rfl
 refine⟨hW,λr _ hD=>absurd hD (kP _),λr _ hD=>absurd hD (kP _),λM s T p _ hD=>absurd hD (kP _),λp v hv _=> ?_,⟨rfl,rfl,rfl,Za6 _,λ_ _ _=>rfl,λb x hb=>.inl ⟨b,x,hb,?_⟩⟩,ny⟩
 .obtain⟨x,hx,Ix⟩:=hS.F p v hv;exact⟨x,hx,Ix.mono ny (Za6 _)⟩
 .rw[ny b (hS.W.live b x hb).1]
theorem Fm(hm:P.follows .mixedOrders=true)(hT:bL P tt){O:dZ}{G:T cI}(hO:oG P C O)(IB:ku O)(hG:MV P tt G)(m d:Nat):eO P C (ou O G m d):=
 KY hT hO hG m (λd bI=>FU hm hT bI (FM IB m d)) d
end
end
section
section
variable{R:Type}
theorem rP{α:Type}:∀(p:Pos)(t:T α),lK p t=t.get p
 |.h,.e=>rfl
 |.h,.n _ _ _=>rfl
 |.o _,.e=>rfl
 |.o p,.n l _ _=>rP p l
 |.i _,.e=>rfl
 |.i p,.n _ _ r=>rP p r
theorem iz{α:Type}(x:Option α):∀(p:Pos)(t:T α)(k:T α->R),mX x p t k=k (t.put x p)
 |.h,.e,_=>rfl
 |.h,.n _ _ _,_=>rfl
 |.o p,.e,k=>iz x p .e _
 |.o p,.n l _ _,k=>iz x p l _
 |.i p,.e,k=>iz x p .e _
 |.i p,.n _ _ r,k=>iz x p r _
theorem yq(n:Nat)(k:Nat->R):mY n k=k n:=by cases n<;>rfl
theorem Vg(n:Int)(k:Int->R):LX n k=k n:=by cases n<;>simp only[LX,yq]
theorem S6(b:Bool)(k:Bool->R):Qf b k=k b:=by cases b<;>rfl
theorem CJ{α:Type}:∀(l:List α)(k:List α->R),vD l k=k l
 |[],_=>rfl
 |a::l,k=>CJ l λt=>k (a::t)
theorem Dv:∀(p:Pos)(k:Pos->R),Fz p k=k p
 |.h,_=>rfl
 |.o p,k=>Dv p λq=>k (.o q)
 |.i p,k=>Dv p λq=>k (.i q)
theorem ZO(o:Option Nat)(k:Option Nat->R):Sn o k=k o:=by
 cases o with
 |none=>rfl
 |some n=>simp only[Sn,yq]
theorem QH(v:AV)(k:AV->R):Ij v k=k v:=by
 cases v<;>simp only[Ij,S6,Vg,CJ,Dv,yq,ZO]
theorem FV:∀(l:List AV)(k:List AV->R),J4 l k=k l
 |[],_=>rfl
 |a::l,k=>by
  show Ij a (λa=>J4 l λt=>k (a::t))=_;rw[QH,FV l]
theorem CL(v:AV)(k:AV->R):pg v k=k v:=by
 unfold pg;split
 .exact FV _ _
 .exact QH _ _
theorem FW(x:AB)(k:AB->R):AD x k=k x:=by
 cases x<;>simp only[AD,CJ,yq]
theorem FX:∀(p:Pos)(k:Pos->R),M8 p k=k p.succ
 |.h,_=>rfl
 |.o _,_=>rfl
 |.i p,k=>FX p λq=>k (.o q)
variable(z:R)
def m5{α:Type}(r:Option α)(k:α->R):R:=match r with
 |some x=>k x
 |none=>z
theorem IC(fr:Fr)(x:dU)(k:AV->R):Qg z fr x k=m5 z (yE fr x) k:=by
 cases x with
 |t p=>simp only[Qg,rP,yE,m5];cases T.get p fr<;>rfl
 |c v=>rfl
theorem J8(fr:Fr):∀(xs:List dU)(k:List AV->R),LY z fr xs k=m5 z (dV fr xs) k
 |[],k=>rfl
 |x::xs,k=>by
  show Qg z fr x (λv=>LY z fr xs λvs=>k (v::vs))=_;rw[IC];simp only[J8 fr xs];simp only[dV];cases yE fr x with
  |none=>rfl
  |some v=>simp only[m5];cases dV fr xs<;>rfl
theorem NG(fr:Fr)(g:Option (Pos×Bool))(yes no:R):AE z fr g yes no=match bJ fr g with
  |some true=>yes
  |some false=>no
  |none=>z:=by
 unfold AE bJ;cases g with
 |none=>rfl
 |some g=>
  obtain⟨p,want⟩:=g;simp only[rP];cases T.get p fr with
  |none=>rfl
  |some v=>
   (cases v<;>try rfl);rename_i b;cases b<;>cases want<;>rfl
theorem NH(fr:Fr)(d:Option Pos)(v:AV)(k:Fr->R):j6 fr d v k=k (cU fr d v):=by
 cases d with
 |none=>rfl
 |some p=>exact iz _ _ _ _
theorem adl(st:St)(del:Option Pos)(set:Option (Pos×AB))(new:Option AB)(k:St->R):aaX st del set new k=k (st.aH del set new):=by
 have hdel:∀(h:T AB)(k:T AB->R),delK del h k=k (Dk del h):=λh k=>by
  cases del with
  |none=>rfl
  |some b=>exact iz _ _ _ _
 have FF:∀(h:T AB)(k:T AB->R),aaW set h k=k (Fw set h):=λh k=>by
  cases set with
  |none=>rfl
  |some b=>simp only[aaW,FW,iz];rfl
 unfold aaX;rw[hdel,FF];cases new with
 |none=>rfl
 |some x=>simp only[FW,iz,FX];rfl
def CK(aY:iF R)(call:ai):Prop:=∀f args st k,aY f args st k=m5 z (call f args st) λx=>k x.1 x.2
variable{aY:iF R}{call:ai}
theorem FY(h:T AB):(λb=>lK b h)=λb=>h.get b:=funext λb=>rP b h
theorem S7(hc:CK z aY call)(op:av)(xs:List AV)(st:St)(k:AV->St->R):J5 z aY op xs st k=m5 z (bS call op xs st) λx=>k x.1 x.2:=by
 unfold J5 bS;rw[FY];cases op.run (λb=>st.heap.get b) st.next xs with
 |none=>rfl
 |some r=>
  cases r with
  |val v=>simp only[CL];rfl
  |aH v d s n=>simp only[CL,adl];rfl
  |call f args=>simp only[CJ];exact hc f args st k
theorem J9(hc:CK z aY call):∀(ops:List bh)(fr:Fr)(st:St)(k:Fr->St->R),OU z aY ops fr st k=m5 z (iX call ops fr st) λx=>k x.1 x.2
 |[],fr,st,k=>rfl
 |o::os,fr,st,k=>by
  show AE z fr o.guard (LY z fr o.xs λxs=>J5 z aY o.k xs st λv st=>j6 fr o.dst v λfr=>OU z aY os fr st k) (j6 fr o.dst .undef λfr=>OU z aY os fr st k)=_;rw[NG,J8];simp only[S7 z hc,NH,J9 hc os];simp only[iX];cases bJ fr o.guard with
  |none=>rfl
  |some b=>
   cases b with
   |false=>rfl
   |    true=>
        simp only[];cases dV fr o.xs with
        |none=>rfl
        |some xs=>
         simp only[m5];cases bS call o.k xs st with
         |none=>rfl
         |some x=>rfl
theorem Bp(bD:Nat)(h:T AB):∀(recs:List Rec)(k:T AB->R),FA bD h recs k=k (snap bD h recs)
 |[],k=>rfl
 |r::rs,k=>by
  show (match r.c with
   |    .new id ax=>match bD.testBit r.idx with
        |true=>FA bD h rs λh'=>mX (some ax) id h' k
        |false=>FA bD h rs k
   |.aH _ _=>k h
   |.pure=>FA bD h rs k)=_
  unfold snap;cases r.c with
  |pure=>exact Bp bD h rs k
  |aH _ _=>rfl
  |new id ax=>
   simp only[];cases bD.testBit r.idx with
   |true=>simp only[Bp bD h rs,iz]
   |false=>exact Bp bD h rs k
theorem QI(h:T AB):∀(l:List (Pos×AB))(k:T AB->R),So h l k=k (vu l h)
 |[],k=>rfl
 |(id,ax)::l,k=>by show So h l (λh'=>mX (some ax) id h' k)=_;rw[QI h l,iz];rfl
theorem vK(bD:Nat)(op:av)(xs:List AV)(v:AV):∀(recs:List Rec)(up:List (Pos×AB)),oc bD op xs v up recs=j5 bD op xs v up recs
 |[],up=>rfl
 |r::rs,up=>by
  unfold oc j5;cases r.c with
  |pure=>exact vK bD op xs v rs up
  |new id ax=>simp only[vK bD op xs v rs]<;>(cases bD.testBit r.idx<;>rfl)
  |aH base _=>
   simp only[vK bD op xs v rs,Bp,QI];unfold Sp pP;simp only[FY]<;>(cases bD.testBit r.idx<;>rfl)
theorem S8 (hc:CK z aY call):∀(ops:List (Nat×bh))(recs:List Rec)(base:T AB)(fr:Fr)(st:St)(k:Fr->St->R),
  FB z aY ops recs base fr st k=m5 z (cO call ops recs base fr st) λx=>k x.1 x.2
 |[],recs,base,fr,st,k=>rfl
 |(j,   o)::  os,recs,base,fr,st,k=>by
  show AE   z fr o.guard
    (LY   z fr o.xs λxs=>match o.cls with
        | .new=>match o.k.run (λ_=>none) st.next xs with
          |some (.aH v none none (some ax))=>pg v λv=>AD ax λax=>j6 fr o.dst v λfr=>M8 st.next λn=>mX (some ax) st.next st.heap λh=>
              FB z aY os ({ idx:=j,o:=o,v:=v,c:= .new st.next ax,nx:=n }::recs) base fr { heap:=h,next:=n } k
          |_=>z
        |.aH=>J5 z aY o.k xs st λv st'=>j6 fr o.dst v λfr=>FB z aY os ({ idx:=j,o:=o,v:=v,c:= .aH base st'.heap,nx:=st'.next }::recs) st'.heap fr st' k
        | _ =>match o.k.run (λ_=>none) .h xs with
          |some (.val v)=>pg v λv=>j6 fr o.dst v λfr=>FB z aY os ({ idx:=j,o:=o,v:=v,c:= .pure,nx:=st.next }::recs) base fr st k
          | _ =>FA o.bD base recs λh=>match o.k.run (λb=>lK b h) .h xs with
            | some (.val v)=>pg v λv=>match oc o.bD o.k xs v [] recs with
              |true=>j6 fr o.dst v λfr=>FB z aY os ({ idx:=j,o:=o,v:=v,c:= .pure,nx:=st.next }::recs) base fr st k
              |false=>z
            |_=>z)
    (j6 fr o.dst .undef λfr=>FB z aY os ({ idx:=j,o:=o,v:= .undef,c:= .pure,nx:=st.next }::recs) base fr st k)=_
  rw[NG,J8];simp only[S7 z hc,NH,CL,FW,FX,iz,Bp,vK,FY,S8 hc os];simp only[cO];cases bJ fr o.guard with
  |none=>rfl
  | some b=>
    cases b with
    |false=>rfl
    |   true=>
        simp only[];cases dV fr o.xs with
        |none=>rfl
        | some xs=>
          simp only[m5];cases o.cls with
          | new=>
            simp only[];split<;>simp_all
          | aH=>
            simp only[];cases bS call o.k xs st with
            |none=>rfl
            |some x=>rfl
          | pure=>
            simp only[];split
            .simp_all
            .split<;>simp_all;split<;>simp_all
          | read=>
            simp only[];split
            .simp_all
            .split<;>simp_all;split<;>simp_all
def S9(r:Option (js×Fr×St))(kn:Fr->St->R)(kx:Nat->Fr->St->R)(kr:Fr->St->R):R:=match r with
 |some (.normal,fr,st)=>kn fr st
 |some (.exit id,fr,st)=>kx id fr st
 |some (.ret,fr,st)=>kr fr st
 |none=>z
theorem Me(hc:CK z aY call):∀(m:Nat)(c:AC)(fr:Fr)(st:St)(kn:Fr->St->R)(kx:Nat->Fr->St->R)(kr:Fr->St->R),
  M9 z aY m c fr st kn kx kr=S9 z (exec call m c fr st) kn kx kr
 |0,c,fr,st,kn,kx,kr=>rfl
 |m+    1,c,fr,st,kn,kx,kr=>by
  have ih:=Me hc m;show od z aY (M9 z aY m) c fr st kn kx kr=S9 z (aX call (exec call m) c fr st) kn kx kr;cases c with
  |skip=>rfl
  |region ops=>
   simp only[od,aX,J9 z hc];cases iX call ops fr st with
   |none=>rfl
   |some x=>rfl
  |draw ops=>
   simp only[od,aX,S8 z hc];cases cO call ops [] st.heap fr st with
   |none=>rfl
   |some x=>rfl
  |seq a b=>
   simp only[od,aX,ih];cases exec call m a fr st with
   |none=>rfl
   |    some x=>
        obtain⟨e,bO,aN⟩:=x;cases e<;>rfl
  |cond x a b=>
   simp only[od,aX,IC];cases yE fr x with
   |none=>rfl
   |    some v=>
        simp only[m5];(cases v<;>try rfl);rename_i t;cases t<;>simp only[ih]
  |block id a=>
   simp only[od,aX,ih];cases exec call m a fr st with
   |none=>rfl
   |    some x=>
        obtain⟨e,bO,aN⟩:=x;(cases e<;>try rfl);rename_i qd;simp only[S9];cases Nat.beq qd id<;>rfl
  |loop a=>
   simp only[od,aX,ih];cases exec call m a fr st with
   |none=>rfl
   |    some x=>
        obtain⟨e,bO,aN⟩:=x;cases e<;>rfl
  |exit id=>rfl
  |ret=>rfl
theorem Ao:∀(vs:List AV)(i:Nat)(fr:Fr)(k:Fr->R),xO vs i fr k=k (params i vs fr)
 |[],i,fr,k=>rfl
 |v::vs,i,fr,k=>by show mX (some v) (key i) fr (λfr=>xO vs (i+1) fr k)=_;rw[iz,Ao vs];rfl
theorem Vh(st:St)(fr:Fr)(rs:List yD)(k:AV->R):xP z st fr rs k=m5 z (cG (λb=>st.heap.get b) fr rs) λvs=>k (gH vs):=by
 unfold xP;rw[FY];cases cG (λb=>st.heap.get b) fr rs with
 |none=>rfl
 |some vs=>
  simp only[FV,m5];cases vs with
  |nil=>rfl
  |cons v vs=>cases vs<;>rfl
theorem FZ (O:dZ)(G:T cI)(m:Nat):∀d,CK z (Cm z O G m d) (ou O G m d)
 |0=>λf args st k=>rfl
 |d+    1=>fun f args st k=>by
  have ih:=FZ O G m d;show( match O f with
   |    some s=>match s args st with
        |some (v,st')=>pg v λv=>k v st'
        |none=>z
   |    none=>match lK (key f) G with
        |some F=>match Nat.beq args.length F.nparams with
         |true=>xO args 0 .e λfr=>M9 z (Cm z O G m d) m F.code fr st
             (λfr st=>xP z st fr F.results λv=>k v st)
             (λ_ _ _=>z)
             (λfr st=>xP z st fr F.results λv=>k v st)
         |false=>z
        |none=>z)=_
  simp only[ou,CL,rP,Ao,Me z ih,Vh];cases O f with
  |some s=>
   simp only[];cases s args st with
   |none=>rfl
   |some x=>rfl
  |none=>
   simp only[];cases G.get (key f)with
   |none=>rfl
   |    some F=>
        simp only[];cases Nat.beq args.length F.nparams with
        |false=>rfl
        |true=>
         simp only[];cases exec (ou O G m d) m F.code (params 0 args .e) st with
         |none=>rfl
         |  some x=>
            obtain⟨e,bO,aN⟩:=x;cases e with
            |normal=>
             simp only[S9];cases cG (λb=>aN.heap.get b) bO F.results<;>rfl
            |exit id=>rfl
            |ret=>
             simp only[S9];cases cG (λb=>aN.heap.get b) bO F.results<;>rfl
end
end
section
open Go
def XT (P:Program)(t:Nat)(ti:TI):Bool:=
 match P.underlying t,P.info? t with
 |  some d,some i=>bE ti.k d&&Nat.beq i.size ti.size&&Nat.beq i.bytes ti.bytes&&
    (match ti.zero with
     |none=>true
     | some z=>match i.zero with
       |some v=>(match mG v.cells.toList with
           |some z'=>qD z' z
           |none=>false)&&Nat.beq z.length ti.size&&(match ti.k.isAgg,v with
           |true,.agg _=>true
           |true,_=>false
           |false,.agg _=>false
           |false,_=>true)
       |none=>false)&&(match ti.k with
     |.ptr e=>(P.info? e).isSome
     |_=>true)&&(!ti.tZ||(!P.stoodInHeld t&& !P.eqGuardType P.depth t))
 |_,_=>false
theorem abq{P:Program}{t:Nat}{ti:TI}(h:XT P t ti=true):Xp P t ti:=by
 unfold XT at h;split at h<;>first|(cases h;done)|skip
 rename_i d i hd hi;simp only[Za8,Zh3,Zh7]at h;obtain⟨⟨⟨⟨⟨h1,h2⟩,h3⟩,h4⟩,h6⟩,h5⟩:=h;refine⟨⟨d,hd,h1⟩,⟨i,hi,Za1 h2,Za1 h3,λz hz=> ?_⟩,λe he=> ?_,λhe=> ?_⟩
 . rw[hz]at h4;simp only at h4;(split at h4<;>first|(cases h4;done)|skip);rename_i v hv;simp only[Za8]at h4;obtain⟨⟨g1,g2⟩,g3⟩:=h4;(split at g1<;>first|(cases g1;done)|skip);rename_i z' xq;rw[yp g1]at xq;refine⟨v,hv,xq,Za1 g2,λha=> ?_,λha=> ?_⟩
   .rw[ha]at g3;cases v<;>first|exact⟨_,rfl⟩|cases g3
   .rw[ha]at g3;cases v<;>first|rfl|cases g3
 .rw[he]at h6;exact Option.isSome_iff_exists.1 h6
 . rcases h5 with h5|h5
   .rw[he]at h5;cases h5
   .exact h5
def Ax(P:Program):(Pos->Pos)->T TI->Bool
 |_,.e=>true
 |  f,.n l v r=>(match v with
    |some ti=>XT P ((f .h).toNat - 1) ti
    |none=>true)&&Ax P (λp=>f (.o p)) l&&Ax P (λp=>f (.i p)) r
theorem F0{P:Program}:∀{t:T TI}{f:Pos->Pos},Ax P f t=true->∀p ti,t.get p=some ti->Xp P ((f p).toNat - 1) ti
 |.e,f,_,p,ti,h=>by rw[T.dD]at h;cases h
 | .n l v r,f,hc,p,ti,h=>by
   simp only[Ax,Za8]at hc;cases p with
   |h=>simp only[T.get]at h;rw[h]at hc;exact abq hc.1.1
   |o p=>exact F0 hc.1.2 p ti h
   |i p=>exact F0 hc.2 p ti h
theorem ac6{P:Program}{tt:TT}(h:Ax P (λp=>p) tt=true):bL P tt:=λp ti hp=>F0 h p ti hp
end
noncomputable section
open Go
def Ej{α:Type}(g:Nat->Option α):Nat->Nat->Nat->T α
 |0,_,_=>.e
 |d+1,a,m=>.n (Ej g d a (2*m)) (g (a+m - 1)) (Ej g d (a+m) (2*m))
theorem F6{α:Type}{g:Nat->Option α}:∀{d a m:Nat}{p:Pos}{x:α},(Ej g d a m).get p=some x->g (a+m*p.toNat - 1)=some x
 |0,_,_,p,x,h=>by rw[Ej,T.dD]at h;cases h
 |d+1,a,m,.h,x,h=>by rw[Pos.toNat,Zl1];exact h
 |d+1,a,m,.o p,x,h=>by
  have:=F6 (d:=d) (a:=a) (m:=2*m) (p:=p) (x:=x) h;rw[Pos.toNat];have e:a+m*(2*p.toNat) - 1=a+2*m*p.toNat - 1:=by rw[<-Nat.mul_assoc,Nat.mul_comm m 2]
  rw[e];exact this
 |d+1,a,m,.i p,x,h=>by
  have:=F6 (d:=d) (a:=a+m) (m:=2*m) (p:=p) (x:=x) h;rw[Pos.toNat];have e:a+m*(2*p.toNat+1) - 1=a+m+2*m*p.toNat - 1:=by rw[Nat.mul_add,Zl1, <-Nat.mul_assoc,Nat.mul_comm m 2];omega
  rw[e];exact this
def acU(P:Program)(tt:TT)(i:Nat):Option cI:=match P.funcs[i]? with
 |some fn=>RX tt fn
 |none=>none
def ggOf(P:Program)(tt:TT):T cI:=Ej (acU P tt) 10 0 1
theorem ac7{P:Program}{tt:TT}(h:(P.funcs.toList.all λfn=> !(fn.name== "runtime.NumGoroutine"))=true):MV P tt (ggOf P tt):=λp F hp=>by
 have:=F6 hp;rw[Zd9,Zo4,acU]at this;split at this<;>first|(cases this;done)|skip
 rename_i fn zJ;refine⟨fn,zJ,?_,this⟩;have:=Zd3.1 h fn (by obtain⟨hi,e⟩:=Zd2.1 zJ;exact Zl2.2 (e ▸Array.getElem_mem hi));simpa using this
def tkOf(P:Program)(t:Nat):TK:=match P.underlying t with
 |some .bool=>.bool
 |some (.int k)=>.int k
 |some .string=>.string
 |some (.pointer e)=>.ptr e
 |some (.slice e)=>.slice e
 |some (.array n e)=>.array n e
 |some (.map k e)=>.map k e
 |some (.struct fs)=>.struct (fs.toList.map λf=>(f.offset,f.type,f.name != "_"))
 |some (.func _ _ _)=>.func
 |some (.interface _)=>.iface
 |some .unsafePointer=> .Y7
 |_=>.other
def zeroOf:Option Value->Option (List AV)
 |  some v=>match Nat.ble v.cells.size 64 with
    |true=>mG v.cells.toList
    |false=>none
 |none=>none
def memN(n:Nat):List Nat->Bool
 |[]=>false
 |  m::l=>match Nat.beq m n with
    |true=>true
    |false=>memN n l
def tiOf(P:Program)(eqs:List Nat)(t:Nat):Option TI:=match P.info? t with
 |none=>none
 |some i=>some { k:=tkOf P t,size:=i.size,bytes:=i.bytes,zero:=zeroOf i.zero,tZ:=memN t eqs }
def ttOf(P:Program)(eqs:List Nat):T TI:=Ej (tiOf P eqs) 10 0 1
def kS(p n c e:Nat):AV:= .slice (key p) 0 n (some c) e
end
section
open Go
structure lA(P:Program)(C:Cells)(f:FuncId)(s:List AV->St->Option (AV×St)):Prop where
 mono:∀args st v st',s args st=some (v,st')->st.next.toNat<=st'.next.toNat
 runs:∀(ρ:Pos->Loc)(st:St)(w:World)(args:List AV)(v:AV)(st':St)(bC:List Value),s args st=some (v,st')->
  aV ρ C st w->au ρ st.next.toNat C args bC->Reaches P (lO ρ C st w v st') ((callFunc f bC.toArray).run P w)
def vr:List (Nat×(List AV->St->Option (AV×St)))->dZ
 |[]=>λ_=>none
 |  (g,s)::l=>λf=>match Nat.beq f g with
    |true=>some s
    |false=>vr l f
theorem uj{P:Program}{C:Cells}:∀{l:List (Nat×(List AV->St->Option (AV×St)))},(∀x∈l,lA P C x.1 x.2)->oG P C (vr l)/\ku (vr l)
 |[],_=>⟨λf s h=>by simp[vr]at h,λf s h=>by simp[vr]at h⟩
 |(g,   s0)::l,hl=>by
  obtain⟨h1,h2⟩:=uj λx hx=>hl x (Zb0 _ hx)
  have h0:=hl _ (Zd8 ..);refine⟨λf s h=> ?_,λf s h=> ?_⟩
  . simp only[vr]at h;split at h
    .   rename_i he;simp only[H4]at h;subst h;have:=Za1 he;subst this;exact h0.runs
    .   exact h1 f s h
  . simp only[vr]at h;split at h
    .   simp only[H4]at h;subst h;exact h0.mono
    .   exact h2 f s h
def Ib:List AV->St->Option (AV×St)
 |  [.str a,.str b],st=>some (.int .i64 (match ay a b with
    |true=>.negSucc 0
    |false=>match ay b a with
     |true=>.ofNat 1
     |false=>.ofNat 0),st)
 |_,_=>none
theorem ID:∀(x y:List UInt8),Lib.compareBytes x y=match ay (x.map UInt8.toNat) (y.map UInt8.toNat)with
  |true=>.negSucc 0
  | false=>match ay (y.map UInt8.toNat) (x.map UInt8.toNat)with
    |true=>.ofNat 1
    |false=>.ofNat 0
 |[],[]=>rfl
 |[],_::_=>rfl
 |_::_,[]=>rfl
 |a ::x  ,b::y=>by
  rw[pQ,pQ];have ih:=ID x y;rw[pQ,pQ]at ih;simp only[Lib.compareBytes,Op.bytesLess];by_cases h:a<b
  .simp[h]
  . by_cases h':b<a
    .   have cF:(a==b)=false:=(by rw[Zo5];exact λe=>by subst e;exact h h');simp[h,h',cF]
    .   have he:a=b:=(by apply Zq1.1;rw[Zn7]at h h';omega);subst he;simp only[h,Zf9,ih];simp
theorem aaT{P:Program}{C:Cells}{f:FuncId}{fn:Func}(hf:P.funcs[f]? =some fn)(ji:(fn.name== "runtime.NumGoroutine")=false)(hb:fn.body.isNone=true)
  (hx:Extern.findNext fn=none) (he:Extern.find fn=some Extern.BytealgCompare.compare):lA P C f Ib where
 mono args st v st' h:=by unfold Ib at h;split at h<;>cases h;exact Za6 _
 runs ρ st w args v st' bC h hW hv:=by
  unfold Ib at h;split at h<;>cases h;rename_i a b;obtain⟨x,xs,rfl,h1,h2⟩:=hv.cons_inv;obtain⟨y,ys,rfl,h3,h4⟩:=h2.cons_inv;have:=h4.mB;subst this;obtain⟨s,rfl,hs⟩:=h1.dX;obtain⟨t,rfl,ht⟩:=h3.dX;have b6:(callFunc f [Value.string s,Value.string t].toArray).run P w= .ok (.value (.int .i64 (Lib.compareBytes s.data.toList t.data.toList))) w:=by rw[run_callFunc_extern hf ji hb hx he];show((Extern.BytealgCompare.compare #[.string s,.string t]).run P w).andThen _=_;rw[Lib.run_compareString];rfl
  rw[b6];refine⟨ρ,?_,λ_ _=>rfl,Za6 _,hW,jJ.refl _ _ _⟩;rw[ID,hs,ht];exact .int _ _
def yM:List AV->List AV->Bool
 |[],[]=>true
 |a::x,b::y=>fj a b&&yM x y
 |_,_=>false
theorem CM:∀{a b:List AV},yM a b=true->a=b
 |[],[],_=>rfl
 |[],_::_,h=>by simp[yM]at h
 |_::_,[],h=>by simp[yM]at h
 |a::x,b::y,h=>by
  simp only[yM,Za8]at h;rw[oI h.1,CM h.2]
def Ka:List (AV×AV×Nat)->List (AV×AV×Nat)->Bool
 |[],[]=>true
 |(a,b,n)::x,(a',b',n')::y=>fj a a'&&fj b b'&&Nat.beq n n'&&Ka x y
 |_,_=>false
theorem Ta:∀{a b:List (AV×AV×Nat)},Ka a b=true->a=b
 |[],[],_=>rfl
 |[],_::_,h=>by simp[Ka]at h
 |_::_,[],h=>by simp[Ka]at h
 |(a,b,n)::x,(a',b',n')::y,h=>by
  simp only[Ka,Za8]at h;obtain⟨⟨⟨h1,h2⟩,h3⟩,h4⟩:=h;rw[oI h1,oI h2,Za1 h3,Ta h4]
def CN:AB->AB->Bool
 |.cells cs fz,.cells lf fz'=>yM cs lf&&Nat.beq fz fz'
 |.map es c,.map es' c'=>Ka es es'&&Nat.beq c c'
 |.jq s p,.jq s' p'=>iJ s s'&&Nat.beq p p'
 |.typed t cs,.typed t' lf=>yM cs lf&&Nat.beq t t'
 |_,_=>false
theorem Mf{a b:AB}(h:CN a b=true):a=b:=by
 unfold CN at h;split at h<;>(try simp only[Za8]at h)
 .rw[CM h.1,Za1 h.2]
 .rw[Ta h.1,Za1 h.2]
 .rw[kj.1 h.1,Za1 h.2]
 .rw[CM h.1,Za1 h.2]
 .cases h
structure Lit where
 args:List AV
 n0:Pos
 L0:List (Pos×AB)
 v:AV
 n1:Pos
 L1:List (Pos×AB)
end
end Go.Ai
