/- Its calls answer as the model does. -/
import Derived.Test.YtgjikjcfjddloaaGreatDoorREvalC
import Derived.Lib.Bytealg
set_option linter.all false
namespace Go.Ai
section
open Go Go.RowKit
theorem Db{a b:AV}(h:gK a b=true):a=b:=by
 unfold gK at h;split at h<;>(try simp only[Zb0,Ze5]at h)<;>try rfl
 .rw[beq_iff_eq.1 h]
 .rename_i k i k' i';have h2:=h.2;rw[lC]at h2;rw[xF h.1,beq_iff_eq.1 h2]
 .rw[j3.1 h]
 .rw[Pos.beq_eq.1 h.1,Za2 h.2]
 .obtain⟨⟨⟨h1,h2⟩,h3⟩,h4⟩:=h;rw[Pos.beq_eq.1 h1,Za2 h2,Za2 h3,Za2 h4]
 .obtain⟨⟨⟨⟨h1,h2⟩,h3⟩,h4⟩,h5⟩:=h;rw[Pos.beq_eq.1 h1,Za2 h2,Za2 h3,Za2 h4,Za2 h5]
 .rw[Pos.beq_eq.1 h]
theorem Gp:∀{a b:List AV},wU a b=true->a=b
 |[],[],_=>rfl
 |[],_::_,h=>by simp[wU]at h
 |_::_,[],h=>by simp[wU]at h
 |a::x,b::y,h=>by
  simp only[wU,Zb0]at h;rw[Db h.1,Gp h.2]
theorem WO{f:AV->AV->Bool}(hf:∀{a b},f a b=true->a=b):∀{a b:List AV},Ff f a b=true->a=b
 |[],[],_=>rfl
 |[],_::_,h=>by simp[Ff]at h
 |_::_,[],h=>by simp[Ff]at h
 |a::x,b::y,h=>by
  simp only[Ff,Zb0]at h;rw[hf h.1,WO hf h.2]
theorem QU{f:AV->AV->Bool}(hf:∀{a b},f a b=true->a=b):∀{a b:List (List AV)},xE f a b=true->a=b
 |[],[],_=>rfl
 |[],_::_,h=>by simp[xE]at h
 |_::_,[],h=>by simp[xE]at h
 |a::x,b::y,h=>by
  simp only[xE,Zb0]at h;rw[WO hf h.1,QU hf h.2]
theorem WQ:∀{d:Nat}{a b:AV},Fg d a b=true->a=b
 |0,_,_,h=>by unfold Fg at h;exact Db h
 |d +1,a,b,h=>by
  unfold Fg at h;split at h
  .rename_i heq;cases heq;simp only[Zb0]at h;rw[QU (λh=>WQ h) h.1,Za2 h.2]
  .exact Db h
theorem QV{a b:AV}(h:lu a b=true):a=b:=by
 unfold lu at h;split at h
 .simp only[Zb0]at h;rw[Za2 h.1.1,Gp h.1.2,Gp h.2]
 .exact WQ h
 .exact Db h
theorem Ba:∀{a b:List AV},tW a b=true->a=b
 |[],[],_=>rfl
 |[],_::_,h=>by simp[tW]at h
 |_::_,[],h=>by simp[tW]at h
 |a::x,b::y,h=>by
  simp only[tW,Zb0]at h;rw[QV h.1,Ba h.2]
theorem qO{a b:AV}(h:fE a b=true):a=b:=by
 unfold fE at h;split at h
 .rw[Ba h]
 .rw[Ba h]
 .exact QV h
theorem aeV {k:av}{H H':Pos->Option AB}{n n':Pos}{xs:List AV}{v:AV}(h:k.run H n xs=some (.val v))(hm:∀b x,H b=some x->H' b=some x):
  k.run H' n' xs=some (.val v):=by
 cases k<;>simp only[av.run]at h ⊢ <;>try exact h
 case alloc z=>unfold Iw at h;split at h<;>cases h
 case box=>unfold Qr at h;split at h<;>cases h
 case buildSlice es len z p=>unfold rL at h;dsimp only at h;split at h<;>cases h
 case mkMap=>unfold Iz at h;cases h
 case mkSlice es b z=>
  unfold yp at h
  repeat' split at h
  all_goals cases h
 case rangeS=>
  unfold Fb at h
  repeat' split at h
  all_goals cases h
 case store m=>
  unfold Az at h
  repeat' split at h
  all_goals cases h
 case mapSet pk=>
  unfold xC at h
  repeat' split at h
  all_goals cases h
 case load m=>
  unfold uP at h ⊢;split at h<;>first|(cases h;done)|skip
  split at h<;>first|(cases h;done)|skip
  . split at h<;>first|(cases h;done)|skip
    .   rename_i cs fz hb;simp only[hm _ _ hb];exact h
    .   rename_i t0 cs hb;simp only[hm _ _ hb];exact h
  .exact h
 case conv c=>
  unfold xA at h ⊢;split at h<;>first|(cases h;done)|skip
  split at h<;>first|(cases h;done)|exact h|skip
  rename_i b off m _ _;cases hb:Nat.beq m 0 with
  |true=>simp only[hb]at h ⊢; exact h
  | false=>
    simp only[hb]at h ⊢;cases hH:H b with
    |none=>simp[hH]at h
    |some x=>simp only[hH]at h;simp only[hm _ _ hH];exact h
 case lookup pk z ok=>
  unfold xB at h ⊢;split at h<;>first|(cases h;done)|skip
  rename_i m k';cases m<;>try exact h
  rename_i b;cases hb:H b with
  |none=>simp[hb]at h
  | some x=>
    simp only[hb]at h;simp only[hm _ _ hb];exact h
 case lenB lk=>
  unfold G9 at h ⊢;split at h<;>first|(cases h;done)|skip
  split at h<;>first|(cases h;done)|exact h|skip
  split at h<;>first|(cases h;done)|skip
  rename_i es c hb;simp only[hm _ _ hb];exact h
 case nextS=>
  unfold IA at h ⊢;split at h<;>first|(cases h;done)|skip
  split at h<;>first|(cases h;done)|skip
  split at h<;>first|(cases h;done)|skip
  rename_i s pos hb;simp only[hm _ _ hb];split at h
  .rename_i aO;split at h<;>cases h
  .rename_i aO;exact h
 case allocT t z=>
  unfold Fe at h;split at h<;>cases h
 case appendT e bytes=>
  unfold oc at h ⊢;split at h<;>first|(cases h;done)|skip
  split at h<;>first|(cases h;done)|skip
  split at h<;>first|(cases h;done)|skip
  . (split at h<;>first|(cases h;done)|skip);split at h<;>first|(cases h;done)|exact h
  . (split at h<;>first|(cases h;done)|skip);split at h
    .   exact h
    .   repeat' split at h
        all_goals cases h
 case toU=>
  unfold K9 at h ⊢;split at h<;>first|(cases h;done)|skip
  split at h<;>first|(cases h;done)|exact h|skip
  split at h<;>first|(cases h;done)|skip
  rename_i t0 cs hb;simp only[hm _ _ hb];exact h
 case fromU u m=>
  unfold Dy at h ⊢;split at h<;>first|(cases h;done)|skip
  split at h<;>first|(cases h;done)|exact h|skip
  split at h<;>first|(cases h;done)|skip
  rename_i t0 cs hb;simp only[hm _ _ hb];exact h
 case unsafeStr e=>
  unfold lU at h ⊢;split at h<;>first|(cases h;done)|skip
  split at h<;>first|(cases h;done)|skip
  split at h
  .exact h
  . repeat' split at h
    all_goals cases h
 case clearS es z=>
  unfold xD at h ⊢;split at h<;>first|(cases h;done)|skip
  split at h<;>first|(cases h;done)|exact h|skip
  rename_i b off m _ _;cases hb:Nat.beq m 0 with
  |true=>simp only[hb]at h ⊢; exact h
  | false=>
    simp only[hb]at h
    repeat' split at h
    all_goals cases h
 case copyB es=>
  unfold mq at h ⊢;split at h<;>first|(cases h;done)|skip
  rename_i d x;cases hd:dD d with
  |none=>simp[hd]at h
  | some m1=>
    cases hx:dD x with
    |none=>simp[hd,hx]at h
    |   some m2=>
        simp only[hd,hx]at h ⊢;cases hb:Nat.beq (min m2 m1) 0 with
        |true=>simp only[hb]at h ⊢; exact h
        |false=>
         simp only[hb]at h;(split at h<;>first|(cases h;done)|skip);(split at h<;>first|(cases h;done)|skip);split at h<;>cases h
 case append es bytes=>
  unfold gO at h ⊢;split at h<;>first|(cases h;done)|skip
  rename_i s x;cases hd:dD s with
  |none=>simp[hd]at h
  | some m1  =>
    cases hx:dD x with
    |none=>simp[hd,hx]at h
    |   some m2=>
        simp only[hd,hx]at h ⊢;cases h1:Nat.ble ((2*(m1+m2)+768)*bytes) 281474976710656 with
        |false=>simp[h1]at h
        |true=>
         cases h2:Nat.ble (m1+m2) 9223372036854775807 with
         |false=>simp[h1,h2]at h
         |  true=>
            simp only[h1,h2]at h ⊢;cases hb:Nat.beq m2 0 with
            |true=>
             simp only[hb]at h ⊢;split at h<;>first|(cases h;done)|exact h|skip
             all_goals (simp_all;done)
            |false=>
             simp only[hb]at h
             repeat' split at h
             all_goals first
               |(rename_i e;cases e;done)
               |(rename_i e _;cases e;done)
               |(cases h;done)
               |simp_all
inductive wZ(n:Pos):AV->AB->Prop where
 |ptr (cs:List AV):wZ n (.ptr n 0) (.cells cs 0)
 |jW (s:List Nat):wZ n (.ptr n 0) (.jW s 0)
 |slice (len es:Nat) (cap:Option Nat) (cs:List AV) (h:len=0->cap=none\/cap=some 0->cs=[]):wZ n (.slice n 0 len cap es) (.cells cs 0)
 |map:wZ n (.map n) (.map [] 0)
 |ptrT (t:TypeId) (cs:List AV):wZ n (.ptr n 0) (.typed t cs)
 |acX (len:Nat) (t:TypeId) (cs:List AV) (h:len≠0):wZ n (.slice n 0 len none 1) (.typed t cs)
theorem Uf:∀{ps:List (Nat×Nat)}{xs cs:List AV},cW [] ps xs=some cs->cs=[]
 |[],[],cs,h=>by simp[cW]at h;exact h.symm ▸rfl
 |[],_::_,cs,h=>by simp[cW]at h
 |_::_,[],cs,h=>by simp[cW]at h
 |(off,size)::ps,v::vs,cs,h=>by
  unfold cW at h;split at h<;>first|(cases h;done)|skip
  rename_i h1 h2;have h1:=Za2 h1;have h2:=Za6 h2;have h3:v.cells=[]:=by apply Zb1;simp at h2;omega
  rw[h3]at h;have h4:aJ ([]:List AV) off []=[]:=by simp[aJ]
  rw[h4]at h;exact Uf h
theorem ag8 {k : av}{n:Pos}{xs:List AV}{v:AV}{az:AB}(h:k.run (λ_=>none) n xs=some (.aG v none none (some az))):wZ n v az:=by
 cases k<;>simp only[av.run]at h
 case alloc z=>unfold Iw at h;split at h<;>cases h;exact .ptr _
 case allocT t z=>unfold Fe at h;split at h<;>cases h;exact .ptrT _ _
 case appendT e bytes=>
  unfold oc at h;split at h<;>first|(cases h;done)|skip
  split at h<;>first|(cases h;done)|skip
  split at h<;>first|(cases h;done)|skip
  . (split at h<;>first|(cases h;done)|skip);split at h<;>cases h;rename_i hb;exact .acX _ _ _ (by have:=Zc2 hb;omega)
  . split at h<;>first|(cases h;done)|skip
    repeat' split at h
    all_goals cases h
 case toU=>   unfold K9 at h;repeat' split at h
              all_goals cases h
 case fromU=>   unfold Dy at h;repeat' split at h
                all_goals cases h
 case sliceData=>   unfold pQ at h;repeat' split at h
                    all_goals cases h
 case unsafeStr=>   unfold lU at h;repeat' split at h
                    all_goals cases h
 case box=>unfold Qr at h;split at h<;>cases h;exact .ptr _
 case buildSlice es len z p=>
  unfold rL at h;dsimp only at h;split at h<;>cases h;rename_i cs hc;refine .slice _ _ _ _ λh0 _=> ?_
  subst h0;exact Uf hc
 case mkMap=>unfold Iz at h;cases h;exact .map
 case mkSlice es b z=>
  unfold yp at h
  repeat' split at h
  all_goals cases h
  refine .slice _ _ _ _ λ_ h1=> ?_
  rcases h1 with h1|h1
  .cases h1
  .simp only[H0]at h1;subst h1;rfl
 case rangeS=>
  unfold Fb at h
  repeat' split at h
  all_goals cases h
  exact .jW _
 case conv c=>
  unfold xA at h
  repeat' split at h
  all_goals cases h
  rename_i s;refine .slice _ _ _ _ λh0 _=> ?_
  rw[Zb1 h0];rfl
 case append es bytes=>
  unfold gO at h
  repeat' split at h
  all_goals cases h
  all_goals refine .slice _ _ _ _ λh0 _=> ?_
  all_goals (exfalso;rename_i hb _ _;simp_all)
 case move=>unfold Nh at h;split at h<;>cases h
 case pick=>   unfold Sl at h;repeat' split at h
               all_goals cases h
 case build=>unfold Ix at h;dsimp only at h;split at h<;>cases h
 case load=>   unfold uP at h;repeat' split at h
               all_goals cases h
 case store=>   unfold Az at h;repeat' split at h
                all_goals cases h
 case nilCheck=>   unfold Gh at h;repeat' split at h
                   all_goals cases h
 case bin=>   unfold fQ at h;repeat' split at h
              all_goals cases h
 case un=>   unfold aaR at h;repeat' split at h
             all_goals cases h
 case mkIface=>   unfold Iy at h;repeat' split at h
                  all_goals cases h
 case mkFunc=>unfold Fa at h;dsimp only at h;cases h
 case lookup=>
  unfold xB at h;split at h<;>first|(cases h;done)|skip
  dsimp only at h;split at h<;>cases h
 case mapSet=>   unfold xC at h;repeat' split at h
                 all_goals cases h
 case sliceS=>
  unfold ql at h;split at h<;>first|(cases h;done)|skip
  split at h<;>first|(cases h;done)|skip
  dsimp only at h;split at h<;>cases h
 case sliceL=>   unfold lS at h;repeat' split at h
                 all_goals cases h
 case fieldA=>   unfold K8 at h;repeat' split at h
                 all_goals cases h
 case idxA=>   unfold mS at h;repeat' split at h
               all_goals cases h
 case field=>   unfold O5 at h;repeat' split at h
                all_goals cases h
 case idxS=>   unfold Ni at h;repeat' split at h
               all_goals cases h
 case extract=>   unfold C8 at h;repeat' split at h
                  all_goals cases h
 case callF=>unfold O6 at h;dsimp only at h;cases h
 case callV=>   unfold O7 at h;repeat' split at h
                all_goals cases h
 case lenB=>   unfold G9 at h;repeat' split at h
               all_goals cases h
 case copyB=>
  unfold mq at h;split at h<;>first|(cases h;done)|skip
  split at h<;>first|(cases h;done)|skip
  dsimp only at h
  repeat' split at h
  all_goals cases h
 case minB=>   unfold Dm at h;repeat' split at h
               all_goals cases h
 case maxB=>   unfold Dn at h;repeat' split at h
               all_goals cases h
 case clearS=>   unfold xD at h;repeat' split at h
                 all_goals cases h
 case nextS=>   unfold IA at h;repeat' split at h
                all_goals cases h
 case capB=>cases h
 case bad=>cases h
end
section
def nj(call:ai):Prop:=∀f args st v st',call f args st=some (v,st')->st.next.toNat<=st'.next.toNat
section
variable{call:ai}
theorem IV(hm:nj call){k:av}{xs:List AV}{st st':St}{v:AV}(h:bP call k xs st=some (v,st')):st.next.toNat<=st'.next.toNat:=by
 unfold bP at h;split at h
 .simp only[H0,Zb9]at h;rw[h.2];exact Za5 _
 .simp only[H0,Zb9]at h;rw[<-h.2];exact St.WH _ _ _ _
 .exact hm _ _ _ _ _ h
 .cases h
theorem Lj(hm:nj call):∀(os:List bw)(fr bh:Fr)(st st':St),jN call os fr st=some (bh,st')->st.next.toNat<=st'.next.toNat
 |[],fr,bh,st,st',h=>by simp only[jN,H0,Zb9]at h;rw[h.2];exact Za5 _
 |o ::os,fr,bh,st,st',h=>by
  unfold jN at h;split at h
  . (split at h<;>first|(cases h;done)|skip);(split at h<;>first|(cases h;done)|skip);rename_i hs;exact Zd4 (IV hm hs) (Lj hm os _ _ _ _ h)
  .exact Lj hm os _ _ _ _ h
  .cases h
theorem uT(hm:nj call):∀(os:List (Nat×bw))(recs:List Rec)(base:T AB)(fr bh:Fr)(st st':St),dN call os recs base fr st=some (bh,st')->st.next.toNat<=st'.next.toNat
 |[],recs,base,fr,bh,st,st',h=>by simp only[dN,H0,Zb9]at h;rw[h.2];exact Za5 _
 |(j,   o)::os,recs,base,fr,bh,st,st',h=>by
  have hs:st.next.toNat<=st.next.succ.toNat:=by rw[Pos.aB];omega
  unfold dN at h;split at h
  .exact uT hm os _ _ _ _ _ _ h
  . (split at h<;>first|(cases h;done)|skip);split at h
    .   (split at h<;>first|(cases h;done)|skip);exact Zd4 hs (uT hm os _ _ _ _ _ _ h)
    .   (split at h<;>first|(cases h;done)|skip);rename_i hs;exact Zd4 (IV hm hs) (uT hm os _ _ _ _ _ _ h)
    .   split at h
        .exact uT hm os _ _ _ _ _ _ h
        . (split at h<;>first|(cases h;done)|skip);(split at h<;>first|(cases h;done)|skip);exact uT hm os _ _ _ _ _ _ h
  .cases h
theorem Fq(hm:nj call):∀(m:Nat)(c:AC)(fr bh:Fr)(st st':St)(ex:jZ),exec call m c fr st=some (ex,bh,st')->st.next.toNat<=st'.next.toNat
 |0,c,fr,bh,st,st',ex,h=>by simp[exec]at h
 |m +   1,c,fr,bh,st,st',ex,h=>by
  have ih:=Fq hm m;simp only[exec]at h;unfold bk at h;split at h
  .simp only[H0,Zb9]at h;rw[h.2.2];exact Za5 _
  . (split at h<;>first|(cases h;done)|skip);rename_i hs;simp only[H0,Zb9]at h;rw[<-h.2.2];exact Lj hm _ _ _ _ _ hs
  . (split at h<;>first|(cases h;done)|skip);rename_i hs;simp only[H0,Zb9]at h;rw[<-h.2.2];exact uT hm _ _ _ _ _ _ _ hs
  . split at h
    .   rename_i hs;exact Zd4 (ih _ _ _ _ _ _ hs) (ih _ _ _ _ _ _ h)
    .   exact ih _ _ _ _ _ _ h
  .split at h<;>first|(cases h;done)|exact ih _ _ _ _ _ _ h
  . split at h
    .   rename_i hs;split at h<;>(simp only[H0,Zb9]at h;rw[<-h.2.2];exact ih _ _ _ _ _ _ hs)
    .   exact ih _ _ _ _ _ _ h
  . split at h
    .   rename_i hs;exact Zd4 (ih _ _ _ _ _ _ hs) (ih _ _ _ _ _ _ h)
    .   exact ih _ _ _ _ _ _ h
  .simp only[H0,Zb9]at h;rw[h.2.2];exact Za5 _
  .simp only[H0,Zb9]at h;rw[h.2.2];exact Za5 _
def lQ(O:fh):Prop:=∀f s,O f=some s->∀args st v st',s args st=some (v,st')->st.next.toNat<=st'.next.toNat
theorem IW{O:fh}{G:T dc}(hO:lQ O)(m:Nat):∀d,nj (qG O G m d)
 |0=>λf args st v st' h=>by simp[qG]at h
 |d +   1=>λf args st v st' h=>by
  have ih:=IW (G:=G) hO m d;unfold qG at h;split at h
  .rename_i s hs;exact hO f s hs args st v st' h
  . (split at h<;>first|(cases h;done)|skip);(split at h<;>first|(cases h;done)|skip);split at h<;>first|(cases h;done)|skip
    .   rename_i hs;(split at h<;>first|(cases h;done)|skip);simp only[H0,Zb9]at h;rw[<-h.2];exact Fq ih _ _ _ _ _ _ _ hs
    .   rename_i hs;(split at h<;>first|(cases h;done)|skip);simp only[H0,Zb9]at h;rw[<-h.2];exact Fq ih _ _ _ _ _ _ _ hs
end
def nk(cw:Fr):List Rec->Fr
 |[]=>cw
 |r::R=>dQ (nk cw R) r.o.dst r.v
def dU(n0:Pos):List Rec->Pos
 |[]=>n0
 |r::_=>r.nx
def RC.mH:RC->Bool
 |.aG _ _=>true
 |_=>false
def jz(h0:T AB):List Rec->T AB
 |[]=>h0
 |  r::R=>match r.c with
    |.aG _ h=>h
    |_=>jz h0 R
def jA(h0:T AB):List Rec->T AB
 |[]=>h0
 |  r::R=>match r.c with
    |.aG _ h=>h
    |.new id az=>(jA h0 R).put (some az) id
    |.pure=>jA h0 R
def Fs:List Rec->Prop
 |[]=>True
 |r::_=>r.c.mH=true
def WS(h0:T AB)(R:List Rec)(o:bw)(xs:List AV)(v:AV):Prop:=
 ∀  A B,R=A++B->Fs B->(∀r∈A,r.c.mH=true->o.bK.testBit r.idx=false)->
    ∃h:T AB,(∀b x,h.get b=some x->(jz h0 B).get b=some x\/∃r∈A,r.c= .new b x/\o.bK.testBit r.idx=true)/\o.k.run (λb=>h.get b) .h xs=some (.val v)
inductive pS(call:ai)(cw:Fr)(h0:T AB)(n0:Pos):Rec->List Rec->Prop where
 |skip (i:Nat) (o:bw) (R:List Rec) (hw:bW (nk cw R) o.guard=some false):
  pS call cw h0 n0 { idx:=i,o:=o,v:= .undef,c:= .pure,nx:=dU n0 R } R
 |pure (i:Nat) (o:bw) (v:AV) (xs:List AV) (R:List Rec) (hw:bW (nk cw R) o.guard=some true) (hx:e8 (nk cw R) o.xs=some xs) (hr:WS h0 R o xs v):
  pS call cw h0 n0 { idx:=i,o:=o,v:=v,c:= .pure,nx:=dU n0 R } R
 |new (i:Nat) (o:bw) (v:AV) (az:AB) (xs:List AV) (R:List Rec) (hw:bW (nk cw R) o.guard=some true) (hx:e8 (nk cw R) o.xs=some xs)
  (hr:o.k.run (λ_=>none) (dU n0 R) xs=some (.aG v none none (some az))):
  pS call cw h0 n0 { idx:=i,o:=o,v:=v,c:= .new (dU n0 R) az,nx:=(dU n0 R).succ } R
 |aG (i:Nat) (o:bw) (v:AV) (st':St) (xs:List AV) (R:List Rec) (hc:o.cls= .aG) (hw:bW (nk cw R) o.guard=some true) (hx:e8 (nk cw R) o.xs=some xs)
  (hr:bP call o.k xs { heap:=jA h0 R,next:=dU n0 R }=some (v,st')):
  pS call cw h0 n0 { idx:=i,o:=o,v:=v,c:= .aG (jz h0 R) st'.heap,nx:=st'.next } R
def Good(call:ai)(cw:Fr)(h0:T AB)(n0:Pos):List Rec->Prop
 |[]=>True
 |r::R=>pS call cw h0 n0 r R/\Good call cw h0 n0 R
section
variable{call:ai}{cw:Fr}{h0:T AB}{n0:Pos}
theorem Good.tail:∀{A B:List Rec},Good call cw h0 n0 (A++B)->Good call cw h0 n0 B
 |[],_,h=>h
 |_::_,_,h=>Good.tail h.2
theorem Good.at{A B:List Rec}{r:Rec}(h:Good call cw h0 n0 (A++r::B)):pS call cw h0 n0 r B:=(Good.tail h).1
theorem IX:∀{A B:List Rec},(∀r∈A,r.c.mH=false)->jz h0 (A++B)=jz h0 B
 |[],_,_=>rfl
 |r::A,B,h=>by
  have h1:=h r (Zd6 ..);have ih:=IX (A:=A) (B:=B) λr hr=>h r (Za4 _ hr)
  simp only[Zf2,jz];split
  .rename_i hc;rw[hc]at h1;cases h1
  .exact ih
theorem Pk{bK:Nat}:∀{A B:List Rec}{h:T AB}{b:Pos}{x:AB},(∀r∈A,r.c.mH=false)->Fs B->(snap bK h (A++B)).get b=some x->
  h.get b=some x\/∃r∈A,r.c= .new b x/\bK.testBit r.idx=true
 |[],B,h,b,x,_,hB,hs=>by
  cases B with
  |nil=>exact .inl hs
  | cons r B=>
    simp only[Fs]at hB;simp only[Zf0,snap]at hs;(cases hc:r.c<;>rw[hc]at hB<;>first|(cases hB;done)|skip);rw[hc]at hs;exact .inl hs
 |r ::A   ,B,h,b,x,hA,hB,hs=>by
  have ih:=@Pk bK A B h b x (λr hr=>hA r (Za4 _ hr)) hB;have up:(h.get b=some x\/∃r∈A,r.c= .new b x/\bK.testBit r.idx=true)->h.get b=some x\/∃r'∈r::A,r'.c= .new b x/\bK.testBit r'.idx=true:=λh1=>
    h1.imp id λ⟨r',h2,h3⟩=>⟨r',Za4 _ h2,h3⟩
  simp only[Zf2,snap]at hs;cases hc:r.c with
  |pure=>rw[hc]at hs;exact up (ih hs)
  |aG b1 h1=>have:=hA r (Zd6 ..);rw[hc]at this;cases this
  | new   id az=>
    rw[hc]at hs;cases ht:bK.testBit r.idx with
    |false=>simp only[ht]at hs;exact up (ih hs)
    |   true=>
        simp only[ht]at hs;by_cases QW:id=b
        .subst QW;rw[T.eO]at hs;simp only[H0]at hs;subst hs;exact .inr ⟨r,Zd6 ..,hc,ht⟩
        .rw[T.bG _ QW]at hs;exact up (ih hs)
theorem Ug:∀{up:List (Pos×AB)}{h:T AB}{b:Pos}{x:AB},(th up h).get b=some x->h.get b=some x\/(b,x)∈up
 |[],_,_,_,h=>.inl h
 |(id,az)::up,h,b,x,hs=>by
  unfold th at hs;by_cases QW:id=b
  .subst QW;rw[T.eO]at hs;simp only[H0]at hs;subst hs;exact .inr (Zd6 ..)
  .rw[T.bG _ QW]at hs;exact(Ug hs).imp (λh=>h) λh=>Za4 _ h
theorem IY:∀(A:List Rec),(∀r∈A,r.c.mH=false)\/∃r∈A,r.c.mH=true
 |[]=>.inl λr h=>by cases h
 |r::A=>by
  cases hr:r.c.mH with
  |true=>exact .inr ⟨r,Zd6 ..,hr⟩
  |false=>
   rcases IY A with h|⟨r',h1,h2⟩
   . exact .inl λr' rP=>by
      rcases Zb2.1 rP with rfl|h'
      .exact hr
      .exact h r' h'
   .exact .inr ⟨r',Za4 _ h1,h2⟩
theorem Kb{bK:Nat}{k:av}{xs:List AV}{v:AV}:∀(A B:List Rec)(up:List (Pos×AB)),lz bK k xs v up (A++B)=true->Good call cw h0 n0 (A++B)->Fs B->
  (∀r∈A,r.c.mH=true->bK.testBit r.idx=false)->(∃r∈A,r.c.mH=true)->
  ∃h:T AB,(∀b x,h.get b=some x->(jz h0 B).get b=some x\/(∃r∈A,r.c= .new b x/\bK.testBit r.idx=true)\/(b,x)∈up)/\k.run (λb=>h.get b) .h xs=some (.val v)
 |[],B,up,_,_,_,_,he=>by obtain⟨r,hr,_⟩:=he;cases hr
 |r::A    , B,up,Ft,hG,hB,hn,he=>by
  have QX:∀r∈A,r.c.mH=true->bK.testBit r.idx=false:=λr' rP=>hn r' (Za4 _ rP)
  have ih:=λup (h2:lz bK k xs v up (A++B)=true) h3=>Kb A B up h2 hG.2 hB QX h3
  simp only[Zf2,lz]at Ft;cases hc:r.c with
  |pure=>
   rw[hc]at Ft;have lK:∃r∈A,r.c.mH=true:=by
        obtain⟨r',h1,h2⟩:=he;rcases Zb2.1 h1 with rfl|h1
        .rw[hc]at h2;cases h2
        .exact⟨r',h1,h2⟩
   obtain⟨h,h1,h2⟩:=ih up Ft lK;exact⟨h,λb x hb=>(h1 b x hb).imp (λh=>h) (Or.imp (λ⟨r',h3,h4⟩=>⟨r',Za4 _ h3,h4⟩) λh=>h),h2⟩
  |new    id az=>
   rw[hc]at Ft;have lK:∃r∈A,r.c.mH=true:=by
        obtain⟨r',h1,h2⟩:=he;rcases Zb2.1 h1 with rfl|h1
        .rw[hc]at h2;cases h2
        .exact⟨r',h1,h2⟩
   cases ht:bK.testBit r.idx with
   |    false=>
        simp only[ht]at Ft;obtain⟨h,h1,h2⟩:=ih up Ft lK;exact⟨h,λb x hb=>(h1 b x hb).imp (λh=>h) (Or.imp (λ⟨r',h3,h4⟩=>⟨r',Za4 _ h3,h4⟩) λh=>h),h2⟩
   |    true=>
        simp only[ht]at Ft;obtain⟨h,h1,h2⟩:=ih _ Ft lK;refine⟨h,λb x hb=> ?_,h2⟩;rcases h1 b x hb with h3|⟨r',h3,h4⟩|h3
        .exact .inl h3
        .exact .inr (.inl ⟨r',Za4 _ h3,h4⟩)
        . rcases Zb2.1 h3 with h3|h3
          .simp only[Zb9]at h3;obtain⟨rfl,rfl⟩:=h3;exact .inr (.inl ⟨r,Zd6 ..,hc,ht⟩)
          .exact .inr (.inr h3)
  |aG base h=>
   rw[hc]at Ft;have ht:=hn r (Zd6 ..) (by rw[hc];rfl);simp only[ht,Zb0]at Ft;rcases IY A with hA|hA
   .    have VM:base=jz h0 B:=(by have hs:=hG.1;(cases hs<;>simp only at hc<;>first|(cases hc;done)|skip);simp only[RC.aG.injEq]at hc;rw[<-hc.1];exact IX hA);have hra:=Ft.1;unfold mT at hra;(split at hra<;>first|(cases hra;done)|skip);rename_i u hu;rw[qO hra]at hu;refine⟨_,λb x hb=> ?_,hu⟩;rcases Ug hb with hb|hb
        . rcases Pk hA hB hb with h3|⟨r',h3,h4⟩
          .rw[<-VM];exact .inl h3
          .exact .inr (.inl ⟨r',Za4 _ h3,h4⟩)
        .exact .inr (.inr hb)
   .    obtain⟨h,h1,h2⟩:=ih up Ft.2 hA;exact⟨h,λb x hb=>(h1 b x hb).imp (λh=>h) (Or.imp (λ⟨r',h3,h4⟩=>⟨r',Za4 _ h3,h4⟩) λh=>h),h2⟩
theorem QY:∀(L:List (Nat×bw))(R:List Rec)(fr bh:Fr)(st st':St),dN call L R (jz h0 R) fr st=some (bh,st')->Good call cw h0 n0 R->
  fr=nk cw R->st.heap=jA h0 R->st.next=dU n0 R->
  ∃R',Good call cw h0 n0 (R'++R)/\(R'.map λr=>(r.idx,r.o))=L.reverse/\bh=nk cw (R'++R)/\st'.heap=jA h0 (R'++R)/\st'.next=dU n0 (R'++R)
 |[],R,fr,bh,st,st',h,hG,h1,h2,h3=>by
  simp only[dN,H0,Zb9]at h;obtain⟨rfl,rfl⟩:=h;exact⟨[],hG,rfl,h1,h2,h3⟩
 |(j,   o)::  L,R,fr,bh,st,st',h,hG,h1,h2,h3=>by
  have fin:∀(r:Rec)(aQ:St)(cr:Fr),r.idx=j->r.o=o->pS call cw h0 n0 r R->cr=nk cw (r::R)->aQ.heap=jA h0 (r::R)->aQ.next=r.nx->
        dN call L (r::R) (jz h0 (r::R)) cr aQ=some (bh,st')->
        ∃R',Good call cw h0 n0 (R'++R)/\(R'.map λr=>(r.idx,r.o))=((j,o)::L).reverse/\bh=nk cw (R'++R)/\st'.heap=jA h0 (R'++R)/\st'.next=dU n0 (R'++R):=by
    intro r aQ cr hj ho hs k1 k2 k3 hd;obtain⟨R',g1,g2,g3,g4,g5⟩:=QY L (r::R) cr bh aQ st' hd ⟨hs,hG⟩ k1 k2 k3;have e:R'++r::R=(R'++[r])++R:=(by simp);rw[e]at g1 g3 g4 g5;exact⟨R'++[r],g1,by simp[g2,hj,ho],g3,g4,g5⟩
  unfold dN at h;subst h1;split at h
  .rename_i hw;exact fin _ _ _ rfl rfl (h3 ▸pS.skip j o R hw) rfl h2 rfl h
  . rename_i hw;(split at h<;>first|(cases h;done)|skip);rename_i xs hx;split at h
    .   (split at h<;>first|(cases h;done)|skip);rename_i v az hr;rw[h3]at hr;have hs:=pS.new (call:=call) (cw:=cw) (h0:=h0) (n0:=n0) j o v az xs R hw hx hr;rw[<-h3]at hs;refine fin _ _ _ rfl rfl hs rfl ?_ rfl h;simp only[jA,h2]
    .   rename_i aeW;(split at h<;>first|(cases h;done)|skip);rename_i v aQ hr;have jP:st={ heap:=jA h0 R,next:=dU n0 R }:=(by cases st;simp_all);rw[jP]at hr;exact fin _ aQ _ rfl rfl (pS.aG j o v aQ xs R aeW hw hx hr) rfl rfl rfl h
    .   split at h
        . rename_i v hr;have Uh:WS h0 R o xs v:=by
           intro A B _ _ _;refine⟨.e,λb x hb=> ?_,?_⟩
           .  rw[T.ei]at hb;cases hb
           .  have e:(λb=>T.get b (T.e:T AB))=λ_=>none:=(by funext b;exact T.ei b);rw[e];exact hr
          exact fin _ _ _ rfl rfl (h3 ▸pS.pure j o v xs R hw hx Uh) rfl h2 rfl h
        . (split at h<;>first|(cases h;done)|skip);rename_i v hr;(split at h<;>first|(cases h;done)|skip);rename_i Ft;have Uh:WS h0 R o xs v:=by
           intro A B hAB hB hn;subst hAB;rcases IY A with hA|hA
           .  refine⟨_,λb x hb=> ?_,hr⟩;have:=Pk hA hB hb;rw[IX hA]at this;exact this
           .  obtain⟨h,k1,k2⟩:=Kb A B [] Ft hG hB hn hA;exact⟨h,λb x hb=>(k1 b x hb).imp id λh=>h.resolve_right (by simp),k2⟩
          exact fin _ _ _ rfl rfl (h3 ▸pS.pure j o v xs R hw hx Uh) rfl h2 rfl h
  .cases h
end
end
section
open Go
structure Late(m:Nat)(pre:List Nat)(L:List (Nat×bw)):Prop where
 all:∀i,i<m->i∈pre\/i∈L.map (·.1)
 lt:∀x∈L,x.1<m
 one:∀A i o B,L=A++(i,o)::B->i∉pre/\i∉A.map (·.1)
 bK:∀A i o B,L=A++(i,o)::B->∀b,o.bK.testBit b=true->b∈pre\/b∈A.map (·.1)
 aG:∀A i o B,L=A++(i,o)::B->o.cls= .aG->∀b,(b∈pre\/b∈A.map (·.1))->o.bK.testBit b=true
 apart:∀A i o B,L=A++(i,o)::B->∀x∈B,x.2.bK.testBit i=true\/La o x.2=true
theorem Oq{m:Nat}:∀(L:List (Nat×bw))(seen:Nat)(pre:List Nat),Hg m seen L=true->(∀b,seen.testBit b=true↔b∈pre)->Late m pre L
 |[],seen,pre,h,hs=>by
  simp only[Hg]at h;have:=Za2 h;refine⟨λi hi=>.inl ((hs i).1 ?_),λx hx=>(by cases hx),λA i o B h=> ?_,λA i o B h=> ?_,λA i o B h=> ?_,λA i o B h=> ?_⟩
  .rw[this,Nat.testBit_two_pow_sub_one];simpa using hi
  all_goals (cases A<;>cases h)
 |(i,   o)::L,seen,pre,h,hs=>by
  simp only[Hg,Zb0]at h;obtain⟨⟨⟨⟨⟨h1,h2⟩,h3⟩,h4⟩,h5⟩,h6⟩:=h;have h1:i<m:=Za6 h1;have h2:i∉pre:=λhp=>by rw[(hs i).2 hp]at h2;cases h2
  have h3:=Za2 h3;have hb:∀b,o.bK.testBit b=true->b∈pre:=λb hb=>by rw[<-h3,Nat.testBit_and,Zb0]at hb;exact(hs b).1 hb.2
  have he:o.cls= .aG->∀b,b∈pre->o.bK.testBit b=true:=λhc b hp=>by rw[hc]at h4;rw[Za2 h4];exact(hs b).2 hp
  have ih:=Oq L (seen ||| 2 ^ i) (pre++[i]) h6 (λb=>by
    rw[Nat.testBit_or,Nat.testBit_two_pow,Zi2,hs b,Zd5];simp[eq_comm])
  rw[Zd9]at h5;have VO:∀{A:List (Nat×bw)}{j:Nat}{p:bw}{B:List (Nat×bw)},(i,o)::L=A++(j,p)::B->(A=[]/\i=j/\o=p/\L=B)\/∃A',A=(i,o)::A'/\L=A'++(j,p)::B:=by
    intro A j p B hA;cases A with
    |nil=>simp at hA;exact .inl ⟨rfl,hA.1.1,hA.1.2,hA.2⟩
    |cons x A=>simp at hA;exact .inr ⟨A,by rw[hA.1],hA.2⟩
  refine⟨λj hj=> ?_,λx hx=> ?_,λA j p B hA=> ?_,λA j p B hA=> ?_,λA j p B hA=> ?_,λA j p B hA=> ?_⟩
  . rcases ih.all j hj with h|h
    .   rcases Zd5.1 h with h|h
        .exact .inl h
        .simp at h;exact .inr (by simp[h])
    .   exact .inr (by simp only[Zb8,Zb2];exact .inr h)
  . rcases Zb2.1 hx with rfl|hx
    .   exact h1
    .   exact ih.lt x hx
  . rcases VO hA with⟨rfl,rfl,rfl,rfl⟩|⟨A',rfl,Kc⟩
    .   exact⟨h2,by simp⟩
    .   obtain⟨k1,k2⟩:=ih.one A' j p B Kc;simp only[Zd5,Zd7,not_or]at k1;exact⟨k1.1,by simp only[Zb8,Zb2,not_or];exact⟨k1.2,k2⟩⟩
  . rcases VO hA with⟨rfl,rfl,rfl,rfl⟩|⟨A',rfl,Kc⟩
    .   exact λb kR=>.inl (hb b kR)
    .   intro b kR;rcases ih.bK A' j p B Kc b kR with h|h
        . rcases Zd5.1 h with h|h
          .exact .inl h
          .simp at h;exact .inr (by simp[h])
        .exact .inr (by simp only[Zb8,Zb2];exact .inr h)
  . rcases VO hA with⟨rfl,rfl,rfl,rfl⟩|⟨A',rfl,Kc⟩
    .   intro hc b kR;rcases kR with h|h
        .exact he hc b h
        .simp at h
    .   intro hc b kR;refine ih.aG A' j p B Kc hc b ?_;rcases kR with h|h
        .exact .inl (Zd5.2 (.inl h))
        . simp only[Zb8,Zb2]at h;rcases h with rfl|h
          .exact .inl (by simp)
          .exact .inr h
  . rcases VO hA with⟨rfl,rfl,rfl,rfl⟩|⟨A',rfl,Kc⟩
    .   intro x hx;have:=h5 x hx
        rwa [Zi2]at this
    .   exact ih.apart A' j p B Kc
inductive Reach(ops:Array Oper):Nat->Nat->Prop where
 |edge (i:Nat) (o:Oper) (e:Edge) (ho:ops[i]? =some o) (he:e∈o.after) (hb:Region.binds .any e=true):Reach ops i e.on
 |trans (i:Nat) (o:Oper) (e:Edge) (b:Nat) (ho:ops[i]? =some o) (he:e∈o.after) (hb:Region.binds .any e=true) (h:Reach ops e.on b):Reach ops i b
def abd(ops:Array Oper)(i m:Nat):Prop:=
 (∀o,ops[i]? =some o->∀e∈o.after,Region.binds .any e=true->m.testBit e.on=true)/\∀b,m.testBit b=true->Reach ops i b
theorem Sx(acc:List Nat):∀(l:List Edge)(s b:Nat),(l.foldl (λs e=>match Region.binds .any e with
   |true=>s ||| 2 ^ e.on ||| (nth acc e.on).getD 0
   |false=>s) s).testBit b=true↔s.testBit b=true\/∃e∈l,Region.binds .any e=true/\(e.on=b\/((nth acc e.on).getD 0).testBit b=true)
 |[],s,b=>by simp
 |e::l,s,b=>by
  rw[Zp3,Sx acc l];cases he:Region.binds .any e with
  |false=>simp[he]
  |true=>
   simp only[Nat.testBit_or,Zi2,Nat.testBit_two_pow,Ze2,Zb2,exists_eq_or_imp,he,true_and];constructor
   .    rintro(((h|h)|h)|h)
        .exact .inl h
        .exact .inr (.inl (.inl h))
        .exact .inr (.inl (.inr h))
        .exact .inr (.inr h)
   .    rintro(h|(h|h)|h)
        .exact .inl (.inl (.inl h))
        .exact .inl (.inl (.inr h))
        .exact .inl (.inr h)
        .exact .inr h
theorem ZZ {ops:Array Oper}:∀(os:List Oper)(acc:List Nat),os=ops.toList.drop acc.length->acc.length<=ops.size->(∀i,i<acc.length->abd ops i (acc.getD i 0))->
  ∀i,i<ops.size->abd ops i ((Wg os acc).getD i 0)
 |[],acc,Z0,hl,abe,i,hi=>by
  have h1:(ops.toList.drop acc.length).length=0:=by rw[<-Z0];rfl
  have:ops.size<=acc.length:=by simp at h1;omega
  exact abe i (by omega)
 |o ::os,acc,Z0,hl,abe,i,hi=>by
  simp only[Wg];have ho:ops[acc.length]? =some o:=by have:(ops.toList.drop acc.length)[0]? =some o:=(by rw[<-Z0];rfl);simpa using this
  have aO:acc.length<ops.size:=(Zd8.1 ho).1;refine ZZ os _ ?_ (by simp;omega) (λj hj=> ?_) i hi
  .rw[Zc1,Zk6, <-Zm3, <-Z0];rfl
  . rcases Zj1 j acc.length with h|h
    .   rw[Za7,Zc6 h, <-Za7];exact abe j h
    .   have Bn:j=acc.length:=(by simp at hj;omega);subst Bn;rw[Za7,Zc8 (Za5 _)];simp only[Zp4,Za8,Zf5];refine⟨λo' Fp e he hb=> ?_,λb hb=> ?_⟩
        .rw[ho]at Fp;simp only[H0]at Fp;subst Fp;exact(Sx acc _ 0 e.on).2 (.inr ⟨e,by simpa using he,hb,.inl rfl⟩)
        . have hb:=(Sx acc _ 0 b).1 hb;rcases hb with hb|⟨e,he,kR,hb⟩
          .simp at hb
          . have lK:e∈o.after:=(by simpa using he);rcases hb with rfl|hb
            .exact .edge _ o e ho lK kR
            . refine .trans _ o e b ho lK kR ?_;rw[mC]at hb;rcases Zj1 e.on acc.length with h|h
              .exact(abe _ h).2 b (by rw[Za7];exact hb)
              .rw[Zb5 h]at hb;simp at hb
theorem Z3:∀(l:List bw)(k:Nat)(x:Nat×bw),x∈Dz k l->∃i,x.1=k+i/\l[i]? =some x.2
 |[],k,x,h=>by cases h
 |o ::l,k,x,h=>by
  simp only[Dz,Zb2]at h;rcases h with rfl|h
  .exact⟨0,rfl,rfl⟩
  .obtain⟨i,h1,h2⟩:=Z3 l (k+1) x h;exact⟨i+1,by omega,by simpa using h2⟩
theorem Ll:∀(l held:List (Nat×bw))(x:Nat×bw),x∈wP l held->x∈l\/x∈held
 |[],held,x,h=>.inr h
 |(i,   o)::l,held,x,h=>by
  unfold wP at h;split at h
  . rcases Zd5.1 h with h|h
    .   exact .inr (Zm0.1 h).1
    .   rcases Zb2.1 h with h|h
        .exact .inl (by rw[h];exact Zd6 ..)
        . rcases Ll l _ x h with h|h
          .exact .inl (Za4 _ h)
          .exact .inr (Zm0.1 h).1
  . rcases Ll l _ x h with h|h
    .   exact .inl (Za4 _ h)
    .   rcases Zd5.1 h with h|h
        .exact .inr h
        .simp at h;exact .inl (by rw[h];exact Zd6 ..)
theorem ag9{l:List bw}{x:Nat×bw}(h:x∈wP (Dz 0 l) []):l[x.1]? =some x.2:=by
 rcases Ll _ _ _ h with h|h
 .obtain⟨i,h1,h2⟩:=Z3 l 0 x h;rw[h1,Zd1];exact h2
 .cases h
theorem IZ{p:Pos}:∀{l:List Pos},Hf p l=true↔p∈l
 |[]=>by simp[Hf]
 |q::l=>by simp[Hf,IZ (l:=l),Pos.beq_eq]
theorem Gq{a b:bw}(h:La a b=true):
   (∀d,a.dst=some d->d∉b.looks/\b.dst≠some d)/\(∀d,b.dst=some d->d∉a.looks):=by
 unfold La at h;rw[Zb0]at h;obtain⟨h1,h2⟩:=h;constructor
 . intro d hd;rw[hd]at h1;simp only[Zb0,Zi6]at h1;refine⟨λhm=> ?_,λhb=> ?_⟩
   .rw[IZ.2 hm]at h1;exact absurd h1.1 (by simp)
   .rw[hb]at h1;have:Pos.beq d d=true:=Pos.beq_eq.2 rfl;simp[this]at h1
 .intro d hd hm;rw[hd]at h2;simp only[Zi6]at h2;rw[IZ.2 hm]at h2;cases h2
section
variable(P:Program)(tt:TT)(C:Cells)(nt:Nat)(ops:Array Oper)(call:ai)(cw:Fr)(h0:T AB)(n0:Pos)(R:List Rec)
structure yE:Prop where
 Pm:Good call cw h0 n0 R
 mono:nj call
 one:∀A r B,R=A++r::B->∀r'∈B,r'.idx≠r.idx
 bK:∀A r B,R=A++r::B->∀b,r.o.bK.testBit b=true->∃r'∈B,r'.idx=b
 aG:∀A r B,R=A++r::B->r.o.cls= .aG->∀r'∈B,r.o.bK.testBit r'.idx=true
 apart:∀A r B,R=A++r::B->∀r'∈A,r'.o.bK.testBit r.idx=true\/La r.o r'.o=true
 rel:∀r∈R,∃o,ops[r.idx]? =some o/\uS tt nt ops o r.o/\abd ops r.idx r.o.bK
 all:∀i,i<ops.size->∃r∈R,r.idx=i
def Kept(D:Nat->Prop)(b:Pos):Prop:=∀A r B,R=A++r::B->¬D r.idx->b.toNat<(dU n0 B).toNat\/r.nx.toNat<=b.toNat
def T1(D:Nat->Prop)(ρ:Pos->Loc)(tmps:Array Value):Prop:=
 ∀M s T p,R=M++s::T->D s.idx->s.o.dst=some p->(∀s'∈M,D s'.idx->s'.o.dst≠some p)->∃x,tmps[p.toNat - 1]? =some x/\aq ρ s.nx.toNat C s.v x
def T0(D:Nat->Prop)(ρ:Pos->Loc)(tmps:Array Value):Prop:=
 ∀p v,cw.get p=some v->(∀s∈R,D s.idx->s.o.dst≠some p)->∃x,tmps[p.toNat - 1]? =some x/\aq ρ n0.toNat C v x
structure Ui(D:Nat->Prop)(A B:List Rec)(a:Act):Prop where
 split:R=A++B
 bound:Fs B
 inB:∀r∈B,D r.idx
 WT:∀r∈A,D r.idx->r.c.mH=false
 closed:∀i o e,D i->ops[i]? =some o->e∈o.after->Region.binds .any e=true->D e.on
 size:a.tmps.size=nt
 defers:a.defers=[]
structure Inv0(kT:Pos->Loc)(w0:World)(D:Nat->Prop)(A B:List Rec)(ρ:Pos->Loc)(a:Act)(w:World):Prop where
 W:aZ ρ C { heap:=jz h0 B,next:=dU n0 B } w
 N:∀r∈A,D r.idx->∀id az,r.c= .new id az->m5 ρ r.nx.toNat C (ρ id) w az/\(ρ id).az<w.heap.size/\w0.heap.size<=(ρ id).az/\
  (∀b x,(jz h0 B).get b=some x->(ρ b).az≠(ρ id).az)/\(∀ad v,C ad=some v->(ρ id).az≠ad.block)
 N2:∀r∈A,D r.idx->∀id az,r.c= .new id az->∀r'∈A,D r'.idx->∀tj BX,r'.c= .new tj BX->id≠tj->(ρ id).az≠(ρ tj).az
 t1:T1 C R D ρ a.tmps
 t0:T0 C cw n0 R D ρ a.tmps
 E:j0 kT { heap:=h0,next:=n0 } w0 ρ { heap:=jz h0 B,next:=dU n0 B } w
 Dc:∀b:Pos,b.toNat<n0.toNat->ρ b=kT b
def Inv(kT:Pos->Loc)(w0:World)(D:Nat->Prop)(A B:List Rec)(ρ:Pos->Loc)(a:Act)(w:World):Prop:=
 Ui nt ops R D A B a/\∀ρ',(∀b,Kept n0 R D b->ρ' b=ρ b)->Inv0 C cw h0 n0 R kT w0 D A B ρ' a w
end
section
variable{P:Program}{tt:TT}{C:Cells}{nt:Nat}{ops:Array Oper}{call:ai}{cw:Fr}{h0:T AB}{n0:Pos}{R:List Rec}
theorem DT(h:∀A r B,R=A++r::B->∀r'∈B,r'.idx≠r.idx){X X' Y Y':List Rec}{r r':Rec}(h1:R=X++r::Y)(h2:R=X'++r'::Y')(hi:r.idx=r'.idx):
   X=X'/\r=r'/\Y=Y':=by
 have h3:X++r::Y=X'++r'::Y':=h1.symm.trans h2;rcases List.append_eq_append_iff.1 h3 with⟨Z,hX,hZ⟩|⟨Z,hX,hZ⟩
 . cases Z with
   |nil=>simp at hZ hX;exact⟨hX.symm,hZ.1,hZ.2⟩
   |cons z Z=>
    simp at hZ;exact absurd hi.symm (h X r Y h1 r' (by rw[hZ.2];simp))
 . cases Z with
   |nil=>simp at hZ hX;exact⟨hX,hZ.1.symm,hZ.2.symm⟩
   |cons z Z=>
    simp at hZ;exact absurd hi (h X' r' Y' h2 r (by rw[hZ.2];simp))
theorem mg{r:Rec}(h:r∈R):∃A B,R=A++r::B:=List.append_of_mem h
theorem Z4(hm:nj call){r:Rec}{B:List Rec}(h:pS call cw h0 n0 r B):(dU n0 B).toNat<=r.nx.toNat:=by
 cases h with
 |skip=>exact Za5 _
 |pure=>exact Za5 _
 |new=>simp only[Pos.aB];omega
 |aG i o v st' xs _ hc hw hx hr=>exact IV hm hr
theorem Sy(hm:nj call):∀{A B:List Rec},Good call cw h0 n0 (A++B)->(dU n0 B).toNat<=(dU n0 (A++B)).toNat
 |[],_,_=>Za5 _
 |r::A,B,h=>Zd4 (Sy hm (A:=A) h.2) (Z4 hm h.1)
namespace yE
variable(G:yE tt nt ops call cw h0 n0 R)
include G
theorem later{X Y:List Rec}{r r':Rec}(h:R=X++r::Y)(hr:r'∈X):r'.idx≠r.idx:=by
 obtain⟨A,B,rfl⟩:=mg hr;have h':R=A++r'::(B++r::Y):=by rw[h];simp
 exact λe=>G.one _ _ _ h' r (by simp) e.symm
theorem agK{X Y:List Rec}{r:Rec}(h:R=X++r::Y):(dU n0 Y).toNat<=r.nx.toNat:=Z4 G.mono (Good.at (h ▸G.Pm))
theorem Bs{X Y Z:List Rec}(h:R=X++(Y++Z)):(dU n0 Z).toNat<=(dU n0 (Y++Z)).toNat:=Sy G.mono (Good.tail (h ▸G.Pm))
theorem abf{X Y:List Rec}(h:R=X++Y):n0.toNat<=(dU n0 Y).toNat:=by have:=Sy (n0:=n0) G.mono (A:=Y) (B:=[]) (by rw[Zf7];exact Good.tail (h ▸G.Pm));rw[Zf7]at this;exact this
theorem QZ{D:Nat->Prop}(hc:∀i o e,D i->ops[i]? =some o->e∈o.after->Region.binds .any e=true->D e.on){i b:Nat}(h:Reach ops i b)
  (hi:∀o e,ops[i]? =some o->e∈o.after->Region.binds .any e=true->D e.on):D b:=by
 induction h with
 |edge i o e ho he hb=>exact hi o e ho he hb
 |trans i o e b ho he hb _ ih=>exact ih λo' e' Fp lK jO=>hc _ o' e' (hi o e ho he hb) Fp lK jO
theorem agL{D:Nat->Prop}{A B:List Rec}{a:Act}(hp:Ui nt ops R D A B a){s:Rec}(hs:s∈R)(hD:D s.idx){b:Nat}(hb:s.o.bK.testBit b=true):D b:=by obtain⟨o,ho,_,hB⟩:=G.rel s hs;exact G.QZ hp.closed (hB.2 b hb) λo' e Fp he kR=>hp.closed _ o' e hD Fp he kR
end yE
theorem Lm:∀(Y:List Rec)(p:Pos)(v:AV),(nk cw Y).get p=some v->
  (∃M s T,Y=M++s::T/\s.o.dst=some p/\s.v=v/\∀s'∈M,s'.o.dst≠some p)\/(cw.get p=some v/\∀s∈Y,s.o.dst≠some p)
 |[],p,v,h=>.inr ⟨h,λs hs=>by cases hs⟩
 |r ::Y   ,p,v,h=>by
  simp only[nk]at h;by_cases hr:r.o.dst=some p
  .rw[hr]at h;simp only[dQ,T.eO,H0]at h;exact .inl ⟨[],r,Y,rfl,hr,h,λs hs=>by cases hs⟩
  . have h':(nk cw Y).get p=some v:=by
        cases hd:r.o.dst with
        |none=>rw[hd]at h;exact h
        | some d=>
          rw[hd]at h;simp only[dQ]at h
          rwa [T.bG _ λe=>hr (by rw[hd,e])]at h
    rcases Lm Y p v h' with⟨M,s,T,rfl,h2,h3,h4⟩|⟨h2,h3⟩
    .   refine .inl ⟨r::M,s,T,rfl,h2,h3,λs' nc=> ?_⟩;rcases Zb2.1 nc with rfl|nc
        .exact hr
        .exact h4 s' nc
    .   refine .inr ⟨h2,λs hs=> ?_⟩;rcases Zb2.1 hs with rfl|hs
        .exact hr
        .exact h3 s hs
theorem look(G:yE tt nt ops call cw h0 n0 R){D:Nat->Prop}{A B:List Rec}{a:Act}(hp:Ui nt ops R D A B a){ρ:Pos->Loc}(h1:T1 C R D ρ a.tmps)(h2:T0 C cw n0 R D ρ a.tmps)
   {X Y:List Rec} {r:Rec} (hR:R=X++r::Y) (hD:¬D r.idx) (Sz:∀b,r.o.bK.testBit b=true->D b) {p:Pos} {v:AV} (hl:p∈r.o.looks) (hv:(nk cw Y).get p=some v):
   ∃x,a.tmps[p.toNat - 1]? =some x/\aq ρ (dU n0 Y).toNat C v x:=by
 have hX:∀s∈X,D s.idx->s.o.dst≠some p:=by
   intro s hs gD hd;rcases G.apart X r Y hR s hs with h|h
   .exact hD (G.agL hp (by rw[hR];simp[hs]) gD h)
   .exact(Gq h).2 p hd hl
 rcases Lm Y p v hv with⟨M,s,T,rfl,h3,rfl,h4⟩|⟨h3,h4⟩
 . have hR':R=(X++r::M)++s::T:=(by rw[hR];simp);have gD:D s.idx:=by
     rcases G.apart _ s T hR' r (by simp)with h|h
     .  exact Sz _ h
     .  exact absurd hl ((Gq h).1 p h3).1
   obtain⟨x,hx,Ln⟩:=h1 (X++r::M) s T p hR' gD h3 (λs' nc DU=>by
     rcases Zd5.1 nc with h|h
     .  exact hX s' h DU
     .  rcases Zb2.1 h with rfl|h
        .exact absurd DU hD
        .exact h4 s' h)
   refine⟨x,hx,Ln.mono (λ_ _=>rfl) ?_⟩;have:=G.Bs (X:=X++[r]) (Y:=M) (Z:=s::T) (by rw[hR];simp);exact this
 . obtain⟨x,hx,Ln⟩:=h2 p v h3 (λs hs gD=>by
     rw[hR]at hs;rcases Zd5.1 hs with h|h
     .  exact hX s h gD
     .  rcases Zb2.1 h with rfl|h
        .exact absurd gD hD
        .exact h4 s h)
   exact⟨x,hx,Ln.mono (λ_ _=>rfl) (G.abf (X:=X++[r]) (by rw[hR];simp))⟩
theorem Fu{a:Act}{d:Option Tmp}{x:Value}{p:Pos}(h:d.map key≠some p):(a.put d x).tmps[p.toNat - 1]? =a.tmps[p.toNat - 1]? :=by
 cases d with
 |none=>rfl
 |some e=>
  simp only[Act.put];rw[Ze7];intro he;apply h;simp only[Zf1,H0];apply Pos.toNat_inj;rw[fL];have:=p.toNat_pos;omega
theorem aeX{a:Act}{d:Option Tmp}{x:Value}{p:Pos}(h:d.map key=some p)(hs:a.tmps.size=nt)(hd:∀e,d=some e->e<nt):(a.put d x).tmps[p.toNat - 1]? =some x:=by
 cases d with
 |none=>cases h
 |some e=>
  simp only[Zf1,H0]at h;subst h;simp only[Act.put];rw[fL,Zf4,Zl9];simp[hs,hd e rfl]
theorem abg(G:yE tt nt ops call cw h0 n0 R){D:Nat->Prop}{A B:List Rec}{a:Act}(hp:Ui nt ops R D A B a){ρ:Pos->Loc}(h1:T1 C R D ρ a.tmps)(h2:T0 C cw n0 R D ρ a.tmps)
   {X Y:List Rec} {r:Rec} (hR:R=X++r::Y) (hD:¬D r.idx) {o:Oper} (hrel:uS tt nt ops o r.o) {x:Value} (hv:aq ρ r.nx.toNat C r.v x):
   T1 C R (λi=>D i\/i=r.idx) ρ (a.put o.dst x).tmps/\T0 C cw n0 R (λi=>D i\/i=r.idx) ρ (a.put o.dst x).tmps:=by
 constructor
 . intro  M s T p hM gD hd mE;by_cases hi:s.idx=r.idx
   .obtain⟨_,rfl,_⟩:=DT G.one hM hR hi;rw[hrel.dst]at hd;exact⟨x,aeX hd hp.size hrel.lt,hv⟩
   . have gD:=gD.resolve_right hi;by_cases Lo:r.o.dst=some p
     .  exfalso;have hs:s∈R:=(by rw[hM];simp);rw[hR]at hs;rcases Zd5.1 hs with h|h
        . rcases G.apart X r Y hR s h with k|k
          .exact hD (G.agL hp (by rw[hR];simp[h]) gD k)
          .exact((Gq k).1 p Lo).2 hd
        . rcases Zb2.1 h with rfl|h
          .exact hi rfl
          .obtain⟨Y1,Y2,rfl⟩:=mg h;have hR':R=(X++r::Y1)++s::Y2:=(by rw[hR];simp);obtain⟨hM',_,_⟩:=DT G.one hM hR' rfl;exact mE r (by rw[hM'];simp) (.inr rfl) Lo
     .  (rw[hrel.dst]at Lo;obtain⟨y,hy,DG⟩:=h1 M s T p hM gD hd λs' nc DU=>mE s' nc (.inl DU));exact⟨y,by rw[Fu Lo];exact hy,DG⟩
 . (intro p v hf mE;have hr:r.o.dst≠some p:=mE r (by rw[hR];simp) (.inr rfl);rw[hrel.dst]at hr;obtain⟨y,hy,DG⟩:=h2 p v hf λs hs gD=>mE s hs (.inl gD));exact⟨y,by rw[Fu hr];exact hy,DG⟩
end
section
variable{P:Program}{tt:TT}{C:Cells}{nt:Nat}{ops:Array Oper}{call:ai}{cw:Fr}{h0:T AB}{n0:Pos}{R:List Rec}
theorem aZ.congr{ρ ρ':Pos->Loc}{st:St}{w:World}(h:aZ ρ C st w)(aU:∀b:Pos,b.toNat<st.next.toNat->ρ' b=ρ b):aZ ρ' C st w where
 live b x hb:=by
  obtain⟨h1,h2,h3⟩:=h.live b x hb;rw[aU b h1];exact⟨h1,h2,h3.mono aU (Za5 _)⟩
 inj b b' x x' hb jO he:=by rw[aU b (h.live b x hb).1,aU b' (h.live b' x' jO).1]at he;exact h.inj b b' x x' hb jO he
 ej a v ha:=⟨(h.ej a v ha).1,λb x hb=>by rw[aU b (h.live b x hb).1];exact(h.ej a v ha).2 b x hb⟩
 whole:=h.whole
theorem j0.congr{ρ eH ρ':Pos->Loc}{st st':St}{w w':World}(h:j0 ρ st w eH st' w')(aU:∀b x,st'.heap.get b=some x->ρ' b=eH b):j0 ρ st w ρ' st' w' where
 os:=h.os
 tape:=h.tape
 output:=h.output
 size:=h.size
 block:=h.block
 oJ b x hb:=by rw[aU b x hb];exact h.oJ b x hb
namespace yE
variable(G:yE tt nt ops call cw h0 n0 R)
include G
theorem same{r r':Rec}(h:r∈R)(h':r'∈R)(hi:r.idx=r'.idx):r=r':=by obtain⟨A,B,hA⟩:=mg h;obtain⟨A',B',Kc⟩:=mg h';exact(DT G.one hA Kc hi).2.1
theorem cmp{X Y X' Y':List Rec}{r r':Rec}(h1:R=X++r::Y)(h2:R=X'++r'::Y')(hi:r'.idx≠r.idx):
   (∃Z,Y'=Z++r::Y)\/(∃Z,Y=Z++r'::Y'):=by
 have h3:X++r::Y=X'++r'::Y':=h1.symm.trans h2;rcases List.append_eq_append_iff.1 h3 with⟨Z,hX,hZ⟩|⟨Z,hX,hZ⟩
 . cases Z with
   |nil=>simp at hZ;exact absurd (by rw[hZ.1]) hi
   |cons z Z=>simp at hZ;exact .inr ⟨Z,hZ.2⟩
 . cases Z with
   |nil=>simp at hZ;exact absurd (by rw[hZ.1]) hi
   |cons z Z=>simp at hZ;exact .inl ⟨Z,hZ.2⟩
theorem I0{X Y X' Z:List Rec}{r r':Rec}(h1:R=X++r::Y)(h2:R=X'++r'::(Z++r::Y)):r.nx.toNat<=(dU n0 (Z++r::Y)).toNat:=by have:=G.Bs (X:=X'++[r']) (Y:=Z) (Z:=r::Y) (by rw[h2];simp);exact this
theorem Dd{X Y' Z:List Rec}{r r':Rec}(h1:R=X++r::(Z++r'::Y')):r'.nx.toNat<=(dU n0 (Z++r'::Y')).toNat:=by have:=G.Bs (X:=X++[r]) (Y:=Z) (Z:=r'::Y') (by rw[h1];simp);exact this
theorem Lp{X Y:List Rec}{r:Rec}(h:R=X++r::Y){id:Pos}{az:AB}(hc:r.c= .new id az):id=dU n0 Y/\r.nx=id.succ:=by
 have hs:=Good.at (h ▸G.Pm);cases hs<;>simp only at hc<;>first|(cases hc;done)|skip
 simp only[RC.new.injEq]at hc;obtain⟨rfl,_⟩:=hc;exact⟨rfl,rfl⟩
end yE
theorem Kept.up{D D':Nat->Prop}(h:∀i,D i->D' i){b:Pos}(hk:Kept n0 R D b):Kept n0 R D' b:=λA r B hR hD=>hk A r B hR λhd=>hD (h _ hd)
theorem Ui.next(G:yE tt nt ops call cw h0 n0 R){D:Nat->Prop}{A B:List Rec}{a:Act}(hp:Ui nt ops R D A B a){X Y:List Rec}{r:Rec}(hR:R=X++r::Y)
  (pT:∀o e,ops[r.idx]? =some o->e∈o.after->Region.binds .any e=true->D e.on) (hc:r.c.mH=false) (d:Option Tmp) (x:Value):
  Ui nt ops R (λi=>D i\/i=r.idx) A B (a.put d x) where
 split:=hp.split
 bound:=hp.bound
 inB s hs:= .inl (hp.inB s hs)
 WT s hs hD:=by
  rcases hD with hD|hD
  .exact hp.WT s hs hD
  .rw[G.same (by rw[hp.split];simp[hs]) (by rw[hR];simp) hD];exact hc
 closed i o e hD ho he hb:=by
  rcases hD with hD|rfl
  .exact .inl (hp.closed i o e hD ho he hb)
  .exact .inl (pT o e ho he hb)
 size:=by rw[Act.ja];exact hp.size
 defers:=by rw[Act.jT];exact hp.defers
theorem Uj(G:yE tt nt ops call cw h0 n0 R){kT:Pos->Loc}{w0:World}{D:Nat->Prop}{A B:List Rec}{ρ:Pos->Loc}{a:Act}{w:World}
  (hI:Inv C nt ops cw h0 n0 R kT w0 D A B ρ a w) {X Y:List Rec} {r:Rec} (hR:R=X++r::Y) (hD:¬D r.idx)
  (pT:∀o e,ops[r.idx]? =some o->e∈o.after->Region.binds .any e=true->D e.on) {o:Oper} (hrel:uS tt nt ops o r.o) (hc:r.c= .pure) {x:Value}
  (hv:∀ρ',(∀b,Kept n0 R D b->ρ' b=ρ b)->aq ρ' r.nx.toNat C r.v x):
  Inv C nt ops cw h0 n0 R kT w0 (λi=>D i\/i=r.idx) A B ρ (a.put o.dst x) w:=by
 obtain⟨hp,hI⟩:=hI;refine⟨hp.next G hR pT (by rw[hc];rfl) _ _,λρ' AH=> ?_⟩;have hf:∀b,Kept n0 R D b->ρ' b=ρ b:=λb hb=>AH b (hb.up λ_ h=>.inl h)
 have h:=hI ρ' hf;have hnr:∀s∈A,(D s.idx\/s.idx=r.idx)->∀id az,s.c= .new id az->D s.idx:=λs hs gD id az gy=>by
  rcases gD with gD|gD
  .exact gD
  .rw[G.same (by rw[hp.split];simp[hs]) (by rw[hR];simp) gD,hc]at gy;cases gy
 obtain⟨k1,k2⟩:=abg G hp h.t1 h.t0 hR hD hrel (hv ρ' hf);exact⟨h.W,λs hs gD id az gy=>h.N s hs (hnr s hs gD id az gy) id az gy,
  λs hs gD id az gy s' nc DU tj BX qP=>h.N2 s hs (hnr s hs gD id az gy) id az gy s' nc (hnr s' nc DU tj BX qP) tj BX qP,k1,k2,h.E,h.Dc⟩
theorem aZ.grow{ρ:Pos->Loc}{st:St}{w w':World}(h:aZ ρ C st w)(hs:w.heap.size<=w'.heap.size)(hb:∀k,k<w.heap.size->w'.heap[k]? =w.heap[k]?):aZ ρ C st w' where
 live b x hx:=let⟨h1,h2,h3⟩:=h.live b x hx;⟨h1,Zd3 h2 hs,h3.of_heap (hb _ h2)⟩
 inj:=h.inj
 ej a v ha:=by
  obtain⟨h1,h2⟩:=h.ej a v ha;exact⟨by rw[World.cell?_of_block (w:=w) (hb _ (World.block_lt_of_cell? _ _ h1))];exact h1,h2⟩
 whole a v ha o ho:=by have nK:a.block<w.heap.size:=World.block_lt_of_cell? _ _ (h.ej a v ha).1;rw[World.cell?_of_block (w:=w) (a:=⟨a.block,o,none⟩) (hb _ nK)];exact h.whole a v ha o ho
theorem aeY(G:yE tt nt ops call cw h0 n0 R){kT:Pos->Loc}{w0:World}{D:Nat->Prop}{A B:List Rec}{ρ:Pos->Loc}{a:Act}{w w':World}
   (hI:Inv C nt ops cw h0 n0 R kT w0 D A B ρ a w) {X Y:List Rec} {r:Rec} (hR:R=X++r::Y) (hD:¬D r.idx)
   (pT:∀o e,ops[r.idx]? =some o->e∈o.after->Region.binds .any e=true->D e.on) {o:Oper} (hrel:uS tt nt ops o r.o) {id:Pos} {az:AB} (hc:r.c= .new id az) {x:Value} {L:Loc}
   (hL:w.heap.size<=L.az) (hL':L.az<w'.heap.size) (Z0:w'.os=w.os) (aiV:w'.tape=w.tape) (SA:w'.output=w.output) (aeZ:∀k,k<w.heap.size->w'.heap[k]? =w.heap[k]?)
   (hv:∀ρ',(∀b,Kept n0 R D b->ρ' b=ρ b)->ρ' id=L->aq ρ' r.nx.toNat C r.v x/\m5 ρ' r.nx.toNat C L w' az):
   Inv C nt ops cw h0 n0 R kT w0 (λi=>D i\/i=r.idx) A B (λb=>if b=id then L else ρ b) (a.put o.dst x) w':=by
 obtain⟨hp,hI⟩:=hI;have hrA:r∈A:=by
   have:r∈R:=(by rw[hR];simp);rw[hp.split]at this;exact(Zd5.1 this).resolve_right λh=>hD (hp.inB r h)
 obtain⟨QW,Lq⟩:=G.Lp hR hc;have e9:w.heap.size<=w'.heap.size:=by omega
 refine⟨hp.next G hR pT (by rw[hc];rfl) _ _,λρ' AH=> ?_⟩;have hkid:Kept n0 R (λi=>D i\/i=r.idx) id:=by
   (intro A' r' B' Kc hD';have cL:r'.idx≠r.idx:=λe=>hD' (.inr e));rcases G.cmp hR Kc cL with⟨Z,rfl⟩|⟨Z,rfl⟩
   .left;have:=G.I0 hR Kc;rw[Lq,Pos.aB]at this;omega
   .right;have:=G.Dd hR;rw[QW];exact this
 have abh:ρ' id=L:=by rw[AH id hkid];simp
 have hf:∀b,Kept n0 R D b->ρ' b=ρ b:=λb hb=>by
   have cL:b≠id:=by
     rintro rfl;rcases hb X r Y hR hD with h|h
     .  rw[QW]at h;omega
     .  rw[Lq,Pos.aB]at h;omega
   rw[AH b (hb.up λ_ h=>.inl h)];exact Za3 cL
 have h:=hI ρ' hf;obtain⟨Oa,Hi⟩:=hv ρ' hf abh;obtain⟨k1,k2⟩:=abg G hp h.t1 h.t0 hR hD hrel Oa;have VP:∀s∈A,(D s.idx\/s.idx=r.idx)->D s.idx\/s=r:=λs hs gD=>gD.imp (λh=>h) λgD=>G.same (by rw[hp.split];simp[hs]) (by rw[hR];simp) gD
 refine⟨h.W.grow e9 aeZ,λs hs gD tj BX gy=> ?_,λs hs gD tj BX gy s' nc DU id'' agM qP cL=> ?_,k1,k2,?_,h.Dc⟩
 . rcases VP s hs gD with gD|rfl
   .obtain⟨g1,g2,g3,g4,g5⟩:=h.N s hs gD tj BX gy;exact⟨g1.of_heap (aeZ _ g2),by omega,g3,g4,g5⟩
   . rw[hc]at gy;simp only[RC.new.injEq]at gy;obtain⟨rfl,rfl⟩:=gy;rw[abh];refine⟨Hi,hL',Zd4 h.E.size hL,λb x hb e=> ?_,λad v ha e=> ?_⟩
     .  have:=(h.W.live b x hb).2.1;omega
     .  have:=World.block_lt_of_cell? _ _ (h.W.ej ad v ha).1;omega
 . rcases VP s hs gD with hDk|rfl
   . rcases VP s' nc DU with ae0|rfl
     .  exact h.N2 s hs hDk tj BX gy s' nc ae0 id'' agM qP cL
     .  rw[hc]at qP;simp only[RC.new.injEq]at qP;obtain⟨rfl,rfl⟩:=qP;have:=(h.N s hs hDk tj BX gy).2.1;rw[abh];omega
   . rw[hc]at gy;simp only[RC.new.injEq]at gy;obtain⟨rfl,rfl⟩:=gy;rcases VP s' nc DU with ae0|rfl
     .  have:=(h.N s' nc ae0 id'' agM qP).2.1;rw[abh];omega
     .  rw[hc]at qP;simp only[RC.new.injEq]at qP;exact absurd qP.1 cL
 .exact⟨Z0.trans h.E.os,aiV.trans h.E.tape,SA.trans h.E.output,Zd4 h.E.size e9,λk hk hn=>by rw[aeZ k (Zd3 hk h.E.size)];exact h.E.block k hk hn,h.E.oJ⟩
theorem abi(G:yE tt nt ops call cw h0 n0 R){kT:Pos->Loc}{w0:World}{D:Nat->Prop}{A B:List Rec}{ρ:Pos->Loc}{a:Act}{w:World}
  (h:Inv0 C cw h0 n0 R kT w0 D A B ρ a w) (ah6:R=A++B) {hp:T AB} {N:Pos} (hN:(dU n0 B).toNat<=N.toNat)
  (BZ:∀b x,hp.get b=some x->(jz h0 B).get b=some x\/∃s∈A,D s.idx/\s.c= .new b x/\s.nx.toNat<=N.toNat):aZ ρ C { heap:=hp,next:=N } w where
 live b x hb:=by
  rcases BZ b x hb with h1|⟨s,hs,hD,hc,hn⟩
  .  obtain⟨g1,g2,g3⟩:=h.W.live b x h1;exact⟨Zd3 g1 hN,g2,g3.mono (λ_ _=>rfl) hN⟩
  .  obtain⟨g1,g2,_⟩:=h.N s hs hD b x hc;obtain⟨M,T,hM⟩:=mg (r:=s) (R:=R) (by rw[ah6];simp[hs]);obtain⟨_,e⟩:=G.Lp hM hc;rw[e]at hn;refine⟨?_,g2,g1.mono (λ_ _=>rfl) (by rw[e];exact hn)⟩;rw[Pos.aB]at hn;exact hn
 inj b  b' x x' hb jO he:=by
  rcases BZ b x hb with h1|⟨s,hs,hD,hc,hn⟩
  .  rcases BZ b' x' jO with ZP|⟨s',nc,hD',vU,QX⟩
     .  exact h.W.inj b b' x x' h1 ZP he
     .  exact absurd he ((h.N s' nc hD' b' x' vU).2.2.2.1 b x h1)
  .  rcases BZ b' x' jO with ZP|⟨s',nc,hD',vU,QX⟩
     .  exact absurd he.symm ((h.N s hs hD b x hc).2.2.2.1 b' x' ZP)
     .  by_cases e:b=b'
        .exact e
        .exact absurd he (h.N2 s hs hD b x hc s' nc hD' b' x' vU e)
 ej ad v ha:=⟨(h.W.ej ad v ha).1,λb x hb=>by
  rcases BZ b x hb with h1|⟨s,hs,hD,hc,hn⟩
  .  exact(h.W.ej ad v ha).2 b x h1
  .  exact(h.N s hs hD b x hc).2.2.2.2 ad v ha⟩
 whole:=h.W.whole
theorem yF:∀{Z B:List Rec}{b:Pos}{x:AB},(∀r∈Z,r.c.mH=false)->Fs B->(jA h0 (Z++B)).get b=some x->
  (jz h0 B).get b=some x\/∃s∈Z,s.c= .new b x
 |[],B,b,x,_,hB,h=>by
  cases B with
  |nil=>exact .inl h
  | cons r B=>
    simp only[Fs]at hB;(cases hc:r.c<;>rw[hc]at hB<;>first|(cases hB;done)|skip);simp only[Zf0,jA,hc]at h;simp only[jz,hc];exact .inl h
 |r ::Z,B,b,x,hZ,hB,h=>by
  have ih:=@yF Z B b x (λs hs=>hZ s (Za4 _ hs)) hB;have hr:=hZ r (Zd6 ..);simp only[Zf2,jA]at h;cases hc:r.c with
  |pure=>rw[hc]at h;exact(ih h).imp (λh=>h) λ⟨s,h1,h2⟩=>⟨s,Za4 _ h1,h2⟩
  |aG _ _=>rw[hc]at hr;cases hr
  | new id az=>
    rw[hc]at h;by_cases e:id=b
    .   subst e;rw[T.eO]at h;simp only[H0]at h;subst h;exact .inr ⟨r,Zd6 ..,hc⟩
    .   rw[T.bG _ e]at h;exact(ih h).imp (λh=>h) λ⟨s,h1,h2⟩=>⟨s,Za4 _ h1,h2⟩
end
section
variable{P:Program}{tt:TT}{C:Cells}{nt:Nat}{ops:Array Oper}{call:ai}{cw:Fr}{h0:T AB}{n0:Pos}{R:List Rec}
theorem around(G:yE tt nt ops call cw h0 n0 R){D:Nat->Prop}{A B:List Rec}{a:Act}(hp:Ui nt ops R D A B a){X Y:List Rec}{r:Rec}(hR:R=X++r::Y)(hD:¬D r.idx):
  ∃Z,A=X++r::Z/\Y=Z++B:=by
 have hrA:r∈A:=by
  have:r∈R:=by rw[hR];simp
  rw[hp.split]at this;exact(Zd5.1 this).resolve_right λh=>hD (hp.inB r h)
 obtain⟨X',Z,hA⟩:=mg hrA;have h2:R=X'++r::(Z++B):=by rw[hp.split,hA];simp
 obtain⟨rfl,_,rfl⟩:=DT G.one hR h2 rfl;exact⟨Z,hA,rfl⟩
theorem ae1(G:yE tt nt ops call cw h0 n0 R){kT:Pos->Loc}{w0:World}{D:Nat->Prop}{A B:List Rec}{ρ:Pos->Loc}{a:Act}{w w':World}
   (hI:Inv C nt ops cw h0 n0 R kT w0 D A B ρ a w) {X Y:List Rec} {r:Rec} (hR:R=X++r::Y) (hD:¬D r.idx)
   (pT:∀o e,ops[r.idx]? =some o->e∈o.after->Region.binds .any e=true->D e.on) {o:Oper} (hrel:uS tt nt ops o r.o)
   (hY:∀s∈Y,D s.idx) {st':St} {b0:T AB} (hc:r.c= .aG b0 st'.heap) (Lq:r.nx=st'.next) {x:Value}
   (abj:ni ρ C { heap:=jA h0 Y,next:=dU n0 Y } w r.v st' x w'):
   ∃m7,Inv C nt ops cw h0 n0 R kT w0 (λi=>D i\/i=r.idx) X (r::Y) m7 (a.put o.dst x) w':=by
 obtain⟨hp,hI⟩:=hI;obtain⟨eH,hv,hρ1,hle,WJ,hE1⟩:=abj;simp only at hρ1 hle;obtain⟨Z,hA,rfl⟩:=around G hp hR hD;have hZ:∀s∈Z,s.c.mH=false:=λs hs=>hp.WT s (by rw[hA];simp[hs]) (hY s (by simp[hs]))
 have Z5:∀s∈X,s∈A:=λs hs=>by rw[hA];simp[hs]
 have hXD:∀s∈X,(D s.idx\/s.idx=r.idx)->D s.idx:=λs hs h=>h.resolve_right (G.later hR hs)
 have WU:(dU n0 B).toNat<=(dU n0 (Z++B)).toNat:=G.Bs (X:=X++[r]) (by rw[hR];simp)
 let m7:Pos->Loc:=λb=>if(dU n0 (Z++B)).toNat<=b.toNat/\b.toNat<r.nx.toNat then eH b else ρ b
 have WV:∀b:Pos,b.toNat<(dU n0 (Z++B)).toNat->Kept n0 R D b:=by
   intro b hb M s T hM gD;left;by_cases hi:s.idx=r.idx
   .obtain⟨_,_,rfl⟩:=DT G.one hM hR hi;exact hb
   . rcases G.cmp hR hM hi with⟨W,rfl⟩|⟨W,hW⟩
     .  have:=G.I0 hR hM;have:=G.agK hR;omega
     .  exact absurd (hY s (by rw[hW];simp)) gD
 refine⟨m7,⟨by rw[hR],by simp[Fs,hc,RC.mH],?_,?_,?_,by rw[Act.ja];exact hp.size,by rw[Act.jT];exact hp.defers⟩,λρ' AH=> ?_⟩
 . intro s hs;rcases Zb2.1 hs with rfl|hs
   .exact .inr rfl
   .exact .inl (hY s hs)
 .intro s hs gD;exact hp.WT s (Z5 s hs) (hXD s hs gD)
 . intro i o' e hDi ho he hb;rcases hDi with hDi|rfl
   .exact .inl (hp.closed i o' e hDi ho he hb)
   .exact .inl (pT o' e ho he hb)
 have aiW:∀b:Pos,b.toNat<r.nx.toNat->Kept n0 R (λi=>D i\/i=r.idx) b:=by
   (intro b hb M s T hM gD;left;have hi:s.idx≠r.idx:=λe=>gD (.inr e));rcases G.cmp hR hM hi with⟨W,rfl⟩|⟨W,hW⟩
   .exact Zd3 hb (G.I0 hR hM)
   .exact absurd (.inl (hY s (by rw[hW];simp))) gD
 have hf:∀b,Kept n0 R D b->ρ' b=ρ b:=λb hb=>by rw[AH b (hb.up λ_ h=>.inl h)];refine Za3 ?_;rintro⟨g1,g2⟩;rcases hb X r _ hR hD with h|h<;>omega
 have h:=hI ρ' hf;have WW:∀b:Pos,b.toNat<r.nx.toNat->ρ' b=eH b:=by
   intro b hb;rcases Zj1 b.toNat (dU n0 (Z++B)).toNat with g|g
   .rw[hf b (WV b g),hρ1 b g]
   .rw[AH b (aiW b hb)];exact Za9 ⟨g,hb⟩
 have DH:aq ρ' r.nx.toNat C r.v x:=by
   rw[Lq]at WW ⊢;exact hv.mono WW (Za5 _)
 have fB:aZ ρ' C { heap:=st'.heap,next:=r.nx } w':=by rw[Lq]at WW ⊢;exact WJ.congr WW
 have hold:∀s∈X,D s.idx->∀id az,s.c= .new id az->∀b y,(jA h0 (Z++B)).get b=some y->(ρ b).az≠(ρ' id).az:=by
   intro s hs gD id az gy b y hb;obtain⟨g1,g2,g3,g4,g5⟩:=h.N s (Z5 s hs) gD id az gy;obtain⟨M,T,hM⟩:=mg (r:=s) (R:=R) (by rw[hR];simp[hs]);rcases yF hZ hp.bound hb with hb|⟨s',nc,qP⟩
   .rw[<-hf b (WV b (Zd3 (h.W.live b y hb).1 WU))];exact g4 b y hb
   . obtain⟨Z1,Z2,rfl⟩:=mg nc;have hM':R=(X++r::Z1)++s'::(Z2++B):=(by rw[hR];simp);obtain⟨e1,e2⟩:=G.Lp hM' qP;obtain⟨e3,e4⟩:=G.Lp hM gy;have hbn:b.toNat<(dU n0 ((Z1++s'::Z2)++B)).toNat:=(by have:=G.Dd (X:=X) (r:=r) (Z:=Z1) (r':=s') (Y':=Z2++B) (by rw[hR];simp);rw[e2,Pos.aB]at this;simp only[Zg6,Zf2];omega);have hsr:s.idx≠r.idx:=G.later hR hs;have QW:r.nx.toNat<=id.toNat:=by
        rcases G.cmp hR hM hsr with⟨W,rfl⟩|⟨W,hW⟩
        .rw[e3];exact G.I0 hR hM
        .obtain⟨A1,A2,hX⟩:=mg hs;have hM2:R=A1++s::(A2++r::((Z1++s'::Z2)++B)):=(by rw[hR,hX];simp);have tr:s∈(Z1++s'::Z2)++B:=(by rw[hW];simp);exact absurd rfl (G.one A1 s _ hM2 s (Zd5.2 (.inr (Za4 _ tr))))
     have cL:b≠id:=(by rintro rfl;have:=G.agK hR;omega);rw[<-hf b (WV b hbn)];exact h.N2 s' (by rw[hA];simp) (hY s' (by simp)) b y qP s (Z5 s hs) gD id az gy cL
 have hEa:j0 kT { heap:=h0,next:=n0 } w0 ρ { heap:=jA h0 (Z++B),next:=dU n0 (Z++B) } w:=by
   refine⟨h.E.os,h.E.tape,h.E.output,h.E.size,h.E.block,λb y hb=> ?_⟩;rcases yF hZ hp.bound hb with hb|⟨s',nc,qP⟩
   .rw[<-hf b (WV b (Zd3 (h.W.live b y hb).1 WU))];exact h.E.oJ b y hb
   .obtain⟨Z1,Z2,rfl⟩:=mg nc;have hM':R=(X++r::Z1)++s'::(Z2++B):=(by rw[hR];simp);obtain⟨e1,e2⟩:=G.Lp hM' qP;have hbn:b.toNat<(dU n0 ((Z1++s'::Z2)++B)).toNat:=(by have:=G.Dd (X:=X) (r:=r) (Z:=Z1) (r':=s') (Y':=Z2++B) (by rw[hR];simp);rw[e2,Pos.aB]at this;simp only[Zg6,Zf2];omega);rw[<-hf b (WV b hbn)];exact .inr (h.N s' (by rw[hA];simp) (hY s' (by simp)) b y qP).2.2.1
 obtain⟨k1,k2⟩:=abg G hp h.t1 h.t0 hR hD hrel DH;refine⟨?_,λs hs gD id az gy=> ?_,λs hs gD id az gy s' nc DU tj BX qP cL=> ?_,k1,k2,?_,h.Dc⟩
 .simp only[jz,hc,dU];exact fB
 . have gD:=hXD s hs gD;obtain⟨g1,g2,g3,g4,g5⟩:=h.N s (Z5 s hs) gD id az gy;refine⟨g1.of_heap (hE1.block _ g2 (hold s hs gD id az gy)),Zd3 g2 hE1.size,g3,λb y hb=> ?_,g5⟩;simp only[jz,hc]at hb;rw[WW b (by rw[Lq];exact(WJ.live b y hb).1)];rcases hE1.oJ b y hb with⟨b',y',jO,e⟩|e
   .rw[<-e];exact hold s hs gD id az gy b' y' jO
   .omega
 .exact h.N2 s (Z5 s hs) (hXD s hs gD) id az gy s' (Z5 s' nc) (hXD s' nc DU) tj BX qP cL
 . have:=(hEa.trans hE1).congr (ρ':=ρ') λb y hb=>WW b (by rw[Lq];exact(WJ.live b y hb).1)
   simp only[jz,hc,dU];exact⟨this.os,this.tape,this.output,this.size,this.block,this.oJ⟩
end
section
variable{P:Program}{tt:TT}{C:Cells}{nt:Nat}{ops:Array Oper}{call:ai}{cw:Fr}{h0:T AB}{n0:Pos}{R:List Rec}
theorem Bt{ρ:Pos->Loc}{n:Pos}{w:World}(hC:∀ad v,C ad=some v->w.cell? ad=some v)(hC2:∀a v,C a=some v->∀o,C ⟨a.block,o,none⟩=none->w.cell? ⟨a.block,o,none⟩=none):aZ ρ C { heap:= .e,next:=n } w where
 live b x hb:=by rw[T.ei]at hb;cases hb
 inj b b' x x' hb:=by rw[T.ei]at hb;cases hb
 ej a v ha:=⟨hC a v ha,λb x hb=>by rw[T.ei]at hb;cases hb⟩
 whole:=hC2
theorem Yields.eq{N:Next}{x y:Value}(h:Yields N x)(k:Yields N y):x=y:=by
 rcases h with rfl|⟨rfl,rfl⟩<;>rcases k with k|⟨k,rfl⟩
 .simp only[Next.value.injEq]at k;exact k
 .cases k
 .cases k
 .rfl
theorem m5.ae2{ρ ρ':Pos->Loc}{n n':Nat}{L:Loc}{w:World}{s:List Nat}{p:Nat}(h:m5 ρ n C L w (.jW s p)):m5 ρ' n' C L w (.jW s p):=h
theorem acY(hT:bZ P tt){o:Oper}{k:av}{xs:List eZ}{cls:ZO}(hc:gP tt o.op=some (k,xs,cls)){n:Pos}{vs:List AV}{v:AV}{az:AB}
  (hr:k.run (λ_=>none) n vs=some (.aG v none none (some az))) {fr:Fr} (hx:e8 fr xs=some vs) {a:Act} {w:World} {Z6:(Pos->Loc)->Prop} {ρ:Pos->Loc} (aU:Z6 ρ)
  (hF:∀ρ',Z6 ρ'->fV ρ' n.toNat C fr a.tmps) (hC:∀ad v,C ad=some v->w.cell? ad=some v) (hC2:∀a v,C a=some v->∀o,C ⟨a.block,o,none⟩=none->w.cell? ⟨a.block,o,none⟩=none):
  ∃ N x w' L,(execOp a.eval o).run P w= .ok N w'/\Yields N x/\w.heap.size<=L.az/\L.az<w'.heap.size/\w'.os=w.os/\w'.tape=w.tape/\w'.output=w.output/\
    (∀k,k<w.heap.size->w'.heap[k]? =w.heap[k]?)/\∀ρ',Z6 ρ'->ρ' n=L->aq ρ' n.succ.toNat C v x/\m5 ρ' n.succ.toNat C L w' az:=by
 have cq:k.run (λb=>T.get b (T.e:T AB)) n vs=some (.aG v none none (some az)):=by
  have e:(λb=>T.get b (T.e:T AB))=λ_=>none:=by funext b;exact T.ei b
  rw[e];exact hr
 have H:=λρ' (hf:Z6 ρ')=>Nl hT o.op ρ' C { heap:= .e,next:=n } w k xs cls fr a o vs _ rfl hc (Bt hC hC2) (hF ρ' hf) hx cq
 have key:∀ρ',Z6 ρ'->∃N x w' eH,(execOp a.eval o).run P w= .ok N w'/\Yields N x/\(∀b:Pos,b.toNat<n.toNat->eH b=ρ' b)/\aq eH n.succ.toNat C v x/\
    m5 eH n.succ.toNat C (eH n) w' az/\w.heap.size<=(eH n).az/\(eH n).az<w'.heap.size/\w'.os=w.os/\w'.tape=w.tape/\w'.output=w.output/\
    (∀k,k<w.heap.size->w'.heap[k]? =w.heap[k]?):=by
  intro ρ' hf;obtain⟨N,x,w',eH,he,hy,h1,h2,h3,h4⟩:=H ρ' hf;have hg:(St.aG { heap:= .e,next:=n } none none (some az)).heap.get n=some az:=T.eO _ _ _;obtain⟨g1,g2,g3⟩:=h2.live n az hg;refine⟨N,x,w',eH,he,hy,h1,h3,g3,?_,g2,h4.os,h4.tape,h4.output,λk hk=>h4.block k hk λb x hb=> ?_⟩
  . rcases h4.oJ n az hg with⟨b',x',jO,_⟩|h
    .   rw[T.ei]at jO;cases jO
    .   exact h
  .rw[T.ei]at hb;cases hb
 obtain⟨N,x,w',eH,he,hy,h1,h2,h3,h4,h5,h6,h7,h8,h9⟩:=key ρ aU;refine⟨N,x,w',eH n,he,hy,h4,h5,h6,h7,h8,h9,λρ' hf hL=> ?_⟩;obtain⟨N',x',w'',m7,lK,Uk,k1,k2,k3,_⟩:=key ρ' hf;rw[he]at lK;simp only[Result.ok.injEq]at lK;obtain⟨rfl,rfl⟩:=lK;have Q0:=hy.eq Uk;subst Q0;have abk:n.toNat<n.succ.toNat:=by rw[Pos.aB];omega
 have Dc:(m7 n).az=(eH n).az->(m7 n).base=(eH n).base->((∃cs fz,az= .cells cs fz)\/∃t cs,az= .typed t cs)->aq ρ' n.succ.toNat C v x/\m5 ρ' n.succ.toNat C (eH n) w' az:=by
  intro e1 e2 vD;have e3:(m7 n).size=(eH n).size:=by
    rcases vD with⟨cs,fz,rfl⟩|⟨t,cs,rfl⟩
    .   obtain⟨c,e,fr,g1,g2,_⟩:=h3;obtain⟨c',e',bh,DV,g2',_⟩:=k3;rw[e1,g1]at DV;simp only[H0,Obj.cells.injEq]at DV;rw[<-g2, <-g2',DV.1]
    .   obtain⟨c,fr,g1,g2,_⟩:=h3;obtain⟨c',bh,DV,g2',_⟩:=k3;rw[e1,g1]at DV;simp only[H0,Obj.cells.injEq]at DV;rw[<-g2, <-g2',DV.1]
  have e4:m7 n=eH n:=by
    cases hh:m7 n;cases hh':eH n;rw[hh,hh']at e1 e2 e3;simp only at e1 e2 e3;rw[e1,e2,e3]
  have iE:∀b:Pos,b.toNat<n.succ.toNat->ρ' b=m7 b:=by
    intro b hb;rcases Zj1 b.toNat n.toNat with g|g
    .   exact(k1 b g).symm
    .   have:b=n:=Pos.toNat_inj (by rw[Pos.aB]at hb;omega);subst this;rw[hL,e4]
  refine⟨k2.mono iE (Za5 _),?_⟩;rw[<-e4];exact k3.mono iE (Za5 _)
 cases ag8 hr with
 |ptr cs=>
  obtain⟨_,g1⟩:=h2.fR;obtain⟨_,g2⟩:=k2.fR;rw[g1]at g2;simp only[Value.pointer.injEq,H0,Addr.mk.injEq,Zg7,Zm5]at g2;exact Dc g2.1.symm g2.2.symm (.inl ⟨cs,0,rfl⟩)
 |ptrT t cs=>
  obtain⟨_,g1⟩:=h2.fR;obtain⟨_,g2⟩:=k2.fR;rw[g1]at g2;simp only[Value.pointer.injEq,H0,Addr.mk.injEq,Zg7,Zm5]at g2;exact Dc g2.1.symm g2.2.symm (.inr ⟨t,cs,rfl⟩)
 |acX len t cs hl=>
  obtain⟨ad,aM,g1,g2,g3,g4⟩:=h2.dX;obtain⟨ad',abl,DV,g2',g3',g4'⟩:=k2.dX;rw[g1]at DV;simp only[Value.slice.injEq,H0,true_and]at DV;obtain⟨rfl,rfl⟩:=DV;obtain⟨_,a1,_⟩:=g4 (by omega);obtain⟨_,a2,_⟩:=g4' (by omega);rw[a1]at a2;simp only[Addr.mk.injEq,Zg7,Zm5]at a2;exact Dc a2.1.symm a2.2.symm (.inr ⟨t,cs,rfl⟩)
 |jW s=>
  obtain⟨_,g1⟩:=h2.fR;refine⟨?_,h3.ae2⟩;rw[g1, <-hL];exact .ptr n 0 abk
 |slice len es cap cs gy=>
  obtain⟨ad,aM,g1,g2,g3,g4⟩:=h2.dX;obtain⟨ad',abl,DV,g2',g3',g4'⟩:=k2.dX;rw[g1]at DV;simp only[Value.slice.injEq,H0,true_and]at DV;obtain⟨rfl,rfl⟩:=DV;by_cases h0:aM=0
  . subst h0;have T9:len=0:=(by omega);have hcs0:cs=[]:=gy T9 (by
        cases cap with
        |none=>exact .inl rfl
        |some c=>exact .inr (by rw[g3 c rfl]))
    subst hcs0;refine⟨?_,?_⟩
    .   rw[g1];exact .slice n 0 len cap es 0 ad g2 g3 (λh=>absurd rfl h) (λ_=>abk)
    .   obtain⟨c,e,fr,q1,q2,q3,q4,q5⟩:=h3;exact⟨c,e,fr,q1,q2,q3,ay.nil,q5⟩
  .obtain⟨_,a1,_⟩:=g4 h0;obtain⟨_,a2,_⟩:=g4' h0;rw[a1]at a2;simp only[Addr.mk.injEq,Zg7,Zm5]at a2;exact Dc a2.1.symm a2.2.symm (.inl ⟨cs,0,rfl⟩)
 |map=>
  obtain⟨_,g1⟩:=h2.xG;refine⟨?_,?_⟩
  .rw[g1, <-hL];exact .map n abk
  .obtain⟨es',q1,q2,q3⟩:=h3;exact⟨es',q1,q2,λi e e' he=>by simp at he⟩
end
section
variable{P:Program}{tt:TT}{C:Cells}{nt:Nat}{ops:Array Oper}{call:ai}{cw:Fr}{h0:T AB}{n0:Pos}{R:List Rec}
def vX(fr:Fr):List Pos->Fr
 |[]=>.e
 |p::l=>(vX fr l).put (fr.get p) p
theorem Ul{fr:Fr}{p:Pos}:∀{l:List Pos},p∈l->(vX fr l).get p=fr.get p
 |[],h=>by cases h
 |q ::l,h=>by
  simp only[vX];by_cases e:q=p
  .subst e;exact T.eO _ _ _
  .rw[T.bG _ e];exact Ul ((Zb2.1 h).resolve_left λh=>e h.symm)
theorem Ot{fr:Fr}{p:Pos}{v:AV}:∀{l:List Pos},(vX fr l).get p=some v->p∈l/\fr.get p=some v
 |[],h=>by simp only[vX]at h;rw[T.ei]at h;cases h
 |q ::l,h=>by
  simp only[vX]at h;by_cases e:q=p
  .subst e;rw[T.eO]at h;exact⟨by simp,h⟩
  .rw[T.bG _ e]at h;obtain⟨h1,h2⟩:=Ot h;exact⟨by simp[h1],h2⟩
theorem Um{fr:Fr}{l:List Pos}:∀{xs:List eZ},(∀p,eZ.t p∈xs->p∈l)->e8 (vX fr l) xs=e8 fr xs
 |[],_=>rfl
 |x::xs,h=>by
  have h1:Bm (vX fr l) x=Bm fr x:=by
   cases x with
   |t p=>exact Ul (h p (by simp))
   |c v=>rfl
  simp only[e8,h1,Um λp hp=>h p (Za4 _ hp)]
theorem acZ{o:bw}{p:Pos}(h:eZ.t p∈o.xs):p∈o.looks:=by
 unfold bw.looks;exact Zh8 _ (Zn5.2 ⟨_,h,rfl⟩)
theorem Zp{o:bw}{p:Pos}{q:Bool}(h:o.guard=some (p,q)):p∈o.looks:=by unfold bw.looks;rw[h];simp
theorem Yields.upon{K:Value->World->Prop}{N:Next}{x:Value}{w:World}(h:Yields N x)(hk:K x w):Reaches P K (.ok N w):=by rcases h with rfl|⟨rfl,rfl⟩<;>exact hk
theorem ae3(hT:bZ P tt)(bV:fO P C call)(G:yE tt nt ops call cw h0 n0 R){kT:Pos->Loc}{w0:World}{D:Nat->Prop}{A B:List Rec}{ρ:Pos->Loc}{a:Act}{w:World}
  (hI:Inv C nt ops cw h0 n0 R kT w0 D A B ρ a w) {i:Nat} (hi:i<ops.size) (hD:¬D i)
  (pT:∀o e,ops[i]? =some o->e∈o.after->Region.binds .any e=true->D e.on):
  DM P ops i (λa' w'=>∃A' B' ρ',Inv C nt ops cw h0 n0 R kT w0 (λj=>D j\/j=i) A' B' ρ' a' w') a w:=by
 obtain⟨r,hr,rfl⟩:=G.all i hi;obtain⟨X,Y,hR⟩:=mg hr;obtain⟨o,ho,hrel,hB⟩:=G.rel r hr;have hp:=hI.1;have Sz:∀b,r.o.bK.testBit b=true->D b:=λb hb=>G.QZ hp.closed (hB.2 b hb) pT
 obtain⟨Z,hA,Uo⟩:=around G hp hR hD;have I1:∀ρ',(∀b,Kept n0 R D b->ρ' b=ρ b)->∀p v,p∈r.o.looks->(nk cw Y).get p=some v->∃x,a.tmps[p.toNat - 1]? =some x/\aq ρ' (dU n0 Y).toNat C v x:=
  λρ' hf p v hl hv=>look G hp (hI.2 ρ' hf).t1 (hI.2 ρ' hf).t0 hR hD Sz hl hv
 have hFR:∀ρ',(∀b,Kept n0 R D b->ρ' b=ρ b)->fV ρ' (dU n0 Y).toNat C (vX (nk cw Y) r.o.looks) a.tmps:=λρ' hf p v hv=>
  let⟨h1,h2⟩:=Ot hv;I1 ρ' hf p v h1 h2
 have I2:∀b,Kept n0 R D b->ρ b=ρ b:=λ_ _=>rfl
 have hw:∀b,bW (nk cw Y) r.o.guard=some b->Region.wanted o (yielded ops a.tmps)=b:=λb hb=>
  DO hrel.guard (λp v hv ⟨q,hq⟩=>I1 ρ I2 p v (Zp hq) hv) hb
 have hnZ:∀s∈Z,s.nx.toNat<=(dU n0 Y).toNat:=λs hs=>by obtain⟨Z1,Z2,rfl⟩:=mg hs;have:=G.Dd (X:=X) (r:=r) (Z:=Z1) (r':=s) (Y':=Z2++B) (by rw[hR,Uo];simp);rw[Uo];simp only[Zg6,Zf2];exact this
 have WU:(dU n0 B).toNat<=(dU n0 Y).toNat:=by rw[Uo];exact G.Bs (X:=X++[r]) (by rw[hR,Uo];simp)
 have hs:=Good.at (hR ▸G.Pm);have hex:∀xs,e8 (nk cw Y) r.o.xs=some xs->e8 (vX (nk cw Y) r.o.looks) r.o.xs=some xs:=λxs hx=>by rw[Um λp hp=>acZ hp];exact hx
 unfold DM;simp only[ho];generalize hrr:r=r0 at*
 cases hs with
 |skip i' o' _ hw'=>
  rw[Za3 (by rw[hw _ hw'];simp)];exact⟨A,B,ρ,Uj G hI hR hD pT hrel rfl λρ' _=> .Ud⟩
 |pure i' o' v xs _ hw' hx Uh=>
  rw[Za9 (hw _ hw')];rw[Uo]at Uh;obtain⟨h,BZ,cq⟩:=Uh Z B rfl hp.bound λs hs he=>by
    cases hb:o'.bK.testBit s.idx with
    |false=>rfl
    |   true=>
        have h1:=hp.WT s (by rw[hA];simp[hs]) (Sz _ hb);rw[h1]at he;cases he
  rcases hrel.op with hc|⟨hk,_⟩
  . have H:∀ρ',(∀b,Kept n0 R D b->ρ' b=ρ b)->∃N x,(execOp a.eval o).run P w= .ok N w/\Yields N x/\aq ρ' (dU n0 Y).toNat C v x:=by
        intro ρ' hf;have hW:=abi G (hI.2 ρ' hf) hp.split (hp:=h) WU λb y hb=>(BZ b y hb).imp (λh=>h) λ⟨s,h1,h2,h3⟩=>
          ⟨s,by rw[hA];simp[h1],Sz _ h3,h2,hnZ s h1⟩
        exact Nl hT o.op ρ' C _ w _ _ _ _ a o _ _ rfl hc hW (hFR ρ' hf) (hex xs hx) (aeV cq λ_ _ h=>h)
    obtain⟨N,x,he,hy,hv⟩:=H ρ I2;unfold Sv;rw[he];refine hy.upon ⟨A,B,ρ,Uj G hI hR hD pT hrel rfl λρ' hf=> ?_⟩;obtain⟨N',x',lK,Uk,DH⟩:=H ρ' hf;rw[he]at lK;simp only[Result.ok.injEq,Zm5]at lK;subst lK;rw[hy.eq Uk];exact DH
  .rw[hk]at cq;cases cq
 |new   i' o' v az xs _ hw' hx cq=>
  rw[Za9 (hw _ hw')];rcases hrel.op with hc|⟨hk,_⟩
  . obtain⟨N,x,w',L,he,hy,h1,h2,h3,h4,h5,h6,h7⟩:=acY hT hc cq (hex xs hx) (Z6:=λρ'=>∀b,Kept n0 R D b->ρ' b=ρ b) I2 hFR
        (λad v ha=>((hI.2 ρ I2).W.ej ad v ha).1) (hI.2 ρ I2).W.whole
    unfold Sv;rw[he];exact hy.upon ⟨A,B,_,aeY G hI hR hD pT hrel rfl h1 h2 h3 h4 h5 h6 h7⟩
  .rw[hk]at cq;cases cq
 |aG i' o' v st' xs _ aeW hw' hx jP=>
  rw[Za9 (hw _ hw')];rcases hrel.op with hc|⟨hk,_⟩
  . have hY:∀s∈Y,D s.idx:=λs hs=>Sz _ (G.aG X _ Y hR aeW s hs)
    have hZ:∀s∈Z,s.c.mH=false:=λs hs=>hp.WT s (by rw[hA];simp[hs]) (hY s (by rw[Uo];simp[hs]))
    have hW:aZ ρ C { heap:=jA h0 Y,next:=dU n0 Y } w:=abi G (hI.2 ρ I2) hp.split WU λb y hb=>by
        rw[Uo]at hb;rcases yF hZ hp.bound hb with hb|⟨s,h1,h2⟩
        .exact .inl hb
        .exact .inr ⟨s,by rw[hA];simp[h1],hY s (by rw[Uo];simp[h1]),h2,hnZ s h1⟩
    have hre:=On hT bV hc hW (hFR ρ I2) (hex xs hx) jP;(refine hre.mono λx w' abj=> ?_);obtain⟨m7,h⟩:=ae1 G hI hR hD pT hrel hY rfl rfl abj;exact⟨_,_,m7,h⟩
  .exact(Reaches.bad hk jP).elim
end
section
variable{P:Program}{tt:TT}{C:Cells}{nt:Nat}{ops:Array Oper}{call:ai}{cw:Fr}{h0:T AB}{n0:Pos}{R:List Rec}
theorem Up(G:yE tt nt ops call cw h0 n0 R){kT:Pos->Loc}{w0:World}{D:Nat->Prop}{A B:List Rec}{ρ:Pos->Loc}{a:Act}{w:World}
   (hI:Inv C nt ops cw h0 n0 R kT w0 D A B ρ a w) (iE:∀r∈R,D r.idx):gh nt kT C { heap:=h0,next:=n0 } w0 (nk cw R) { heap:=jA h0 R,next:=dU n0 R } a w:=by
 obtain⟨hp,hI⟩:=hI;have h:=hI ρ λ_ _=>rfl
 have hZ:∀s∈A,s.c.mH=false:=λs hs=>hp.WT s hs (iE s (by rw[hp.split];simp[hs]))
 have hnA:∀s∈A,s.nx.toNat<=(dU n0 R).toNat:=λs hs=>by obtain⟨Z1,Z2,hA⟩:=mg hs;have:=G.Bs (X:=[]) (Y:=Z1) (Z:=s::(Z2++B)) (by rw[hp.split,hA];simp);have e:R=Z1++s::(Z2++B):=(by rw[hp.split,hA];simp);rw[<-e]at this;exact this
 have WU:(dU n0 B).toNat<=(dU n0 R).toNat:=by
   have:=G.Bs (X:=[]) (Y:=A) (Z:=B) (by rw[hp.split];simp)
   rwa [<-hp.split]at this
 have Om:n0.toNat<=(dU n0 R).toNat:=G.abf (X:=[]) rfl;have BZ:∀b x,(jA h0 R).get b=some x->(jz h0 B).get b=some x\/∃s∈A,D s.idx/\s.c= .new b x/\s.nx.toNat<=(dU n0 R).toNat:=λb x hb=>by
   rw[hp.split]at hb;rcases yF hZ hp.bound hb with hb|⟨s,h1,h2⟩
   .exact .inl hb
   .exact .inr ⟨s,h1,iE s (by rw[hp.split];simp[h1]),h2,hnA s h1⟩
 refine⟨ρ,⟨abi G h hp.split WU BZ,?_,hp.size,hp.defers⟩,h.Dc,Om,?_⟩
 . intro p v hv;rcases Lm R p v hv with⟨M,s,T,hM,h2,rfl,h3⟩|⟨h1,h2⟩
   . obtain⟨x,hx,Ln⟩:=h.t1 M s T p hM (iE s (by rw[hM];simp)) h2 λs' nc _=>h3 s' nc
     refine⟨x,hx,Ln.mono (λ_ _=>rfl) ?_⟩;have:=G.Bs (X:=[]) (Y:=M) (Z:=s::T) (by rw[hM];simp);rw[<-hM]at this;exact this
   . obtain⟨x,hx,Ln⟩:=h.t0 p v h1 λs hs _=>h2 s hs
     exact⟨x,hx,Ln.mono (λ_ _=>rfl) Om⟩
 . refine⟨h.E.os,h.E.tape,h.E.output,h.E.size,h.E.block,λb x hb=> ?_⟩;rcases BZ b x hb with hb|⟨s,h1,h2,h3,_⟩
   .exact h.E.oJ b x hb
   .exact .inr (h.N s h1 h2 b x h3).2.2.1
def DL(listed:Array Bool)(j:Nat):Prop:=listed.getD j false=true
theorem ac0{listed:Array Bool}{i:Nat}(hi:i<listed.size):(λj=>DL listed j\/j=i)=DL (listed.setIfInBounds i true):=by
 funext j;apply propext;unfold DL;by_cases h:j=i
 .subst h;simp[hi]
 .rw[getD_set_ne false (Ne.symm h)];simp[h]
theorem WY{listed:Array Bool}{j:Nat}(h:listed.getD j true=false):¬DL listed j:=by
 unfold DL;intro h';rcases Zj1 j listed.size with hj|hj
 .simp[hj]at h h';rw[h]at h';cases h'
 .simp[Array.getElem?_eq_none hj]at h'
theorem aha{listed:Array Bool}{j:Nat}(hj:j<listed.size)(h:¬DL listed j):listed.getD j true=false:=by unfold DL at h;simp[hj]at h ⊢; exact h
theorem Lr(G:yE tt nt ops call cw h0 n0 R){listed:Array Bool}(hs:listed.size=ops.size)(hr:Region.ready .any ops listed=[]):∀(Y X:List Rec),R=X++Y->∀r∈Y,DL listed r.idx
 |[],_,_,r,rP=>by cases rP
 |r ::Y  ,X,hR,r',rP=>by
  have ih:=Lr G hs hr Y (X++[r]) (by rw[hR];simp);rcases Zb2.1 rP with rfl|rP
  . obtain⟨o,ho,_,hB⟩:=G.rel r' (by rw[hR];simp);have aO:r'.idx<ops.size:=(Zd8.1 ho).1;by_cases h:DL listed r'.idx
    .   exact h
    .   exfalso;have:r'.idx∈Region.ready .any ops listed:=mem_ready.2 ⟨aha (by omega) h,o,ho,λe he hb=>by obtain⟨s,h1,h2⟩:=G.bK X r' Y hR _ (hB.1 o ho e he hb);have:=ih s h1;rw[h2]at this;exact this⟩;rw[hr]at this;cases this
  .exact ih r' rP
theorem Uq(hT:bZ P tt)(bV:fO P C call)(G:yE tt nt ops call cw h0 n0 R){Q:Exit->Act->World->Prop}{kT:Pos->Loc}{w0:World}
  (hQ:∀a' w',gh nt kT C { heap:=h0,next:=n0 } w0 (nk cw R) { heap:=jA h0 R,next:=dU n0 R } a' w'->Q .normal a' w'):
  ∀ (fuel:Nat)(listed:Array Bool)(U:List Nat)(A B:List Rec)(ρ:Pos->Loc)(a:Act)(w:World),listed.size=ops.size->U.length<=fuel->U.Nodup->(∀j,j<ops.size->¬DL listed j->j∈U)->
    Inv C nt ops cw h0 n0 R kT w0 (DL listed) A B ρ a w->VN P ops (Q .normal) fuel listed a w
 |0,listed,U,A,B,ρ,a,w,hs,hU,_,hm,hI=>by
  have hU0:U=[]:=Zb1 (by omega);subst hU0;have hr:Region.ready .any ops listed=[]:=by
    cases h:Region.ready .any ops listed with
    |nil=>rfl
    |   cons i l=>
        have hi:i∈Region.ready .any ops listed:=(by rw[h];simp);obtain⟨h1,o,ho,_⟩:=mem_ready.1 hi;have:=hm i (Zd8.1 ho).1 (WY h1);cases this
  exact⟨hr,hQ a w (Up G hI (Lr G hs hr R [] rfl))⟩
 |fuel+1,listed,U,A,B,ρ,a,w,hs,hU,E9,hm,hI=>by
  refine⟨λhr=>hQ a w (Up G hI (Lr G hs hr R [] rfl)),λi hi=> ?_⟩;obtain⟨h1,o,ho,h2⟩:=mem_ready.1 hi;have aO:i<ops.size:=(Zd8.1 ho).1;have jP:=ae3 hT bV G hI aO (WY h1) λo' e Fp he hb=>by rw[ho]at Fp;simp only[H0]at Fp;subst Fp;exact h2 e he hb
  refine Ua (λa' w' hh=> ?_) jP;obtain⟨A',B',ρ',hI'⟩:=hh;rw[ac0 (by omega)]at hI';have hiU:i∈U:=hm i aO (WY h1);refine Uq hT bV G hQ fuel _ (U.erase i) A' B' ρ' a' w' (by simp[hs]) ?_ (E9.erase i) (λj hj hD=> ?_) hI'
  .rw[List.length_erase_of_mem hiU];omega
  . (rw[<-ac0 (by omega)]at hD;have cL:j≠i:=λe=>hD (.inr e));exact(List.mem_erase_of_ne cL).2 (hm j hj λh=>hD (.inl h))
theorem I3(hm:P.follows .mixedOrders=true)(hT:bZ P tt)(bV:fO P C call)(aiX:nj call):rQ P tt C call:=by
 intro nt id ops l Q fr bh st st' ρ a w hl dP h hS hQ;obtain⟨R,hG,hmap,Ob,aiY,Lq⟩:=QY (call:=call) (cw:=fr) (h0:=st.heap) (n0:=st.next) _ [] fr bh st st' h trivial rfl rfl rfl;simp only[Zf7]at hG Ob aiY Lq;have hst':st'={ heap:=jA st.heap R,next:=dU st.next R }:=by cases st';simp_all
 have hlen:l.length=ops.size:=by rw[(oN hl).1,Zg3]
 have Q3:=Oq _ 0 [] dP λb=>by simp
 have hL:wP (Dz 0 l) []=(R.map λr=>(r.idx,r.o)).reverse:=by rw[hmap,List.reverse_reverse]
 have dec:∀{A B:List Rec}{r:Rec},R=A++r::B->wP (Dz 0 l) []=(B.map λr=>(r.idx,r.o)).reverse++(r.idx,r.o)::(A.map λr=>(r.idx,r.o)).reverse:=λe=>by rw[hL,e];simp
 have AI:∀{B:List Rec}{i:Nat},i∈((B.map λr=>(r.idx,r.o)).reverse).map (·.1)↔ ∃r∈B,r.idx=i:=λ{B i}=>by simp
 have G:yE tt nt ops call fr st.heap st.next R:=by
   refine⟨hG,aiX,λA r B e r' rP hi=> ?_,λA r B e b hb=> ?_,λA r B e hc r' rP=> ?_,λA r B e r' rP=> ?_,λr hr=> ?_,λi hi=> ?_⟩
   .exact(Q3.one _ _ _ _ (dec e)).2 (AI.2 ⟨r',rP,hi⟩)
   . rcases Q3.bK _ _ _ _ (dec e) b hb with h|h
     .cases h
     .exact AI.1 h
   .exact Q3.aG _ _ _ _ (dec e) hc _ (.inr (AI.2 ⟨r',rP,rfl⟩))
   .exact Q3.apart _ _ _ _ (dec e) (r'.idx,r'.o) (by simp;exact⟨r',rP,rfl,rfl⟩)
   .obtain⟨A,B,e⟩:=mg hr;have hx:(r.idx,r.o)∈wP (Dz 0 l) []:=(by rw[dec e];simp);have h1:=ag9 hx;obtain⟨o,h2,h3,h4⟩:=AG hl _ _ h1;refine⟨o,h2,h3,?_⟩;rw[h4];exact ZZ ops.toList [] rfl (Zi5 _) (λi hi=>by simp at hi) _ (Zd8.1 h2).1
   . rcases Q3.all i (by rw[hlen];exact hi)with h|h
     .cases h
     .rw[hL]at h;exact AI.1 h
 refine⟨hm,?_⟩;rw[hst',Ob]at hQ;have WZ:∀b:Pos,b.toNat<st.next.toNat->∀D,Kept st.next R D b:=λb hb D A r B e _=>.inl (Zd3 hb (G.abf (X:=A++[r]) (by rw[e];simp)))
 refine Uq (Q:=Q) (kT:=ρ) (w0:=w) hT bV G hQ ops.size _ (List.range ops.size) R [] ρ a _ (by simp) (by simp) List.nodup_range (λj hj _=>Zj2.2 hj) ?_;have mE:∀j,¬DL (Array.replicate ops.size false) j:=λj h=>by
   unfold DL at h;rcases Zj1 j ops.size with hj|hj
   .simp[hj]at h
   .simp[Nat.not_lt.2 hj]at h
 refine⟨⟨by simp,trivial,(λr hr=>by cases hr),λr _ hD=>absurd hD (mE _),λi _ _ hD=>absurd hD (mE _),hS.size,hS.defers⟩,λρ' AH=> ?_⟩;have pF:∀b:Pos,b.toNat<st.next.toNat->ρ' b=ρ b:=λb hb=>AH b (WZ b hb _)
 have hW:aZ ρ' C st { w with drawn:=w.drawn+1 }:=(hS.W.congr pF).grow (Za5 _) λ_ _=>rfl
 refine⟨hW,λr _ hD=>absurd hD (mE _),λr _ hD=>absurd hD (mE _),λM s T p _ hD=>absurd hD (mE _),λp v hv _=> ?_,⟨rfl,rfl,rfl,Za5 _,λ_ _ _=>rfl,λb x hb=>.inl ⟨b,x,hb,?_⟩⟩,pF⟩
 .obtain⟨x,hx,Ln⟩:=hS.F p v hv;exact⟨x,hx,Ln.mono pF (Za5 _)⟩
 .rw[pF b (hS.W.live b x hb).1]
theorem Iv(hm:P.follows .mixedOrders=true)(hT:bZ P tt){O:fh}{G:T dc}(hO:qE P C O)(Lt:lQ O)(hG:Qk P tt G)(m d:Nat):fO P C (qG O G m d):=
 Oo hT hO hG m (λd bV=>I3 hm hT bV (IW Lt m d)) d
end
end
section
section
variable{R:Type}
theorem uU{α:Type}:∀(p:Pos)(t:T α),m8 p t=t.get p
 |.h,.e=>rfl
 |.h,.n _ _ _=>rfl
 |.o _,.e=>rfl
 |.o p,.n l _ _=>uU p l
 |.i _,.e=>rfl
 |.i p,.n _ _ r=>uU p r
theorem jg{α:Type}(x:Option α):∀(p:Pos)(t:T α)(k:T α->R),oK x p t k=k (t.put x p)
 |.h,.e,_=>rfl
 |.h,.n _ _ _,_=>rfl
 |.o p,.e,k=>jg x p .e _
 |.o p,.n l _ _,k=>jg x p l _
 |.i p,.e,k=>jg x p .e _
 |.i p,.n _ _ r,k=>jg x p r _
theorem Bb(n:Nat)(k:Nat->R):oM n k=k n:=by cases n<;>rfl
theorem Zq(n:Int)(k:Int->R):O8 n k=k n:=by cases n<;>simp only[O8,Bb]
theorem W0(b:Bool)(k:Bool->R):TR b k=k b:=by cases b<;>rfl
theorem Fv{α:Type}:∀(l:List α)(k:List α->R),yx l k=k l
 |[],_=>rfl
 |a::l,k=>Fv l λt=>k (a::t)
theorem Gr:∀(p:Pos)(k:Pos->R),IE p k=k p
 |.h,_=>rfl
 |.o p,k=>Gr p λq=>k (.o q)
 |.i p,k=>Gr p λq=>k (.i q)
theorem ac1(o:Option Nat)(k:Option Nat->R):Wh o k=k o:=by
 cases o with
 |none=>rfl
 |some n=>simp only[Wh,Bb]
theorem Ur(v:AV)(k:AV->R):Lb v k=k v:=by
 cases v<;>simp only[Lb,W0,Zq,Fv,Gr,Bb,ac1]
theorem I4:∀(l:List AV)(k:List AV->R),Nj l k=k l
 |[],_=>rfl
 |a::l,k=>by
  show Lb a (λa=>Nj l λt=>k (a::t))=_;rw[Ur,I4 l]
theorem Fw(v:AV)(k:AV->R):rM v k=k v:=by
 unfold rM;split
 .exact I4 _ _
 .exact Ur _ _
theorem I5(x:AB)(k:AB->R):Dq x k=k x:=by
 cases x<;>simp only[Dq,Fv,Bb]
theorem I6:∀(p:Pos)(k:Pos->R),Qu p k=k p.succ
 |.h,_=>rfl
 |.o _,_=>rfl
 |.i p,k=>I6 p λq=>k (.o q)
variable(z:R)
def oO{α:Type}(r:Option α)(k:α->R):R:=match r with
 |some x=>k x
 |none=>z
theorem Lu(fr:Fr)(x:eZ)(k:AV->R):TU z fr x k=oO z (Bm fr x) k:=by
 cases x with
 |t p=>simp only[TU,uU,Bm,oO];cases T.get p fr<;>rfl
 |c v=>rfl
theorem Nn(fr:Fr):∀(xs:List eZ)(k:List AV->R),O9 z fr xs k=oO z (e8 fr xs) k
 |[],k=>rfl
 |x::xs,k=>by
  show TU z fr x (λv=>O9 z fr xs λvs=>k (v::vs))=_;rw[Lu];simp only[Nn fr xs];simp only[e8];cases Bm fr x with
  |none=>rfl
  |some v=>simp only[oO];cases e8 fr xs<;>rfl
theorem Q4(fr:Fr)(g:Option (Pos×Bool))(yes no:R):Dr z fr g yes no=match bW fr g with
  |some true=>yes
  |some false=>no
  |none=>z:=by
 unfold Dr bW;cases g with
 |none=>rfl
 |some g=>
  obtain⟨p,want⟩:=g;simp only[uU];cases T.get p fr with
  |none=>rfl
  |some v=>
   (cases v<;>try rfl);rename_i b;cases b<;>cases want<;>rfl
theorem Q5(fr:Fr)(d:Option Pos)(v:AV)(k:Fr->R):lA fr d v k=k (dQ fr d v):=by
 cases d with
 |none=>rfl
 |some p=>exact jg _ _ _ _
theorem ahb(st:St)(del:Option Pos)(set:Option (Pos×AB))(new:Option AB)(k:St->R):aeC st del set new k=k (st.aG del set new):=by
 have hdel:∀(h:T AB)(k:T AB->R),delK del h k=k (Gi del h):=λh k=>by
  cases del with
  |none=>rfl
  |some b=>exact jg _ _ _ _
 have IM:∀(h:T AB)(k:T AB->R),Wi set h k=k (IB set h):=λh k=>by
  cases set with
  |none=>rfl
  |some b=>simp only[Wi,I5,jg];rfl
 unfold aeC;rw[hdel,IM];cases new with
 |none=>rfl
 |some x=>simp only[I5,jg,I6];rfl
def CK(bn:js R)(call:ai):Prop:=∀f args st k,bn f args st k=oO z (call f args st) λx=>k x.1 x.2
variable{bn:js R}{call:ai}
theorem I7(h:T AB):(λb=>m8 b h)=λb=>h.get b:=funext λb=>uU b h
theorem W4(hc:CK z bn call)(op:av)(xs:List AV)(st:St)(k:AV->St->R):Nk z bn op xs st k=oO z (bP call op xs st) λx=>k x.1 x.2:=by
 unfold Nk bP;rw[I7];cases op.run (λb=>st.heap.get b) st.next xs with
 |none=>rfl
 |some r=>
  cases r with
  |val v=>simp only[Fw];rfl
  |aG v d s n=>simp only[Fw,ahb];rfl
  |call f args=>simp only[Fv];exact hc f args st k
theorem Np(hc:CK z bn call):∀(ops:List bw)(fr:Fr)(st:St)(k:Fr->St->R),Sn z bn ops fr st k=oO z (jN call ops fr st) λx=>k x.1 x.2
 |[],fr,st,k=>rfl
 |o::os,fr,st,k=>by
  show Dr z fr o.guard (O9 z fr o.xs λxs=>Nk z bn o.k xs st λv st=>lA fr o.dst v λfr=>Sn z bn os fr st k) (lA fr o.dst .undef λfr=>Sn z bn os fr st k)=_;rw[Q4,Nn];simp only[W4 z hc,Q5,Np hc os];simp only[jN];cases bW fr o.guard with
  |none=>rfl
  |some b=>
   cases b with
   |false=>rfl
   |    true=>
        simp only[];cases e8 fr o.xs with
        |none=>rfl
        |some xs=>
         simp only[oO];cases bP call o.k xs st with
         |none=>rfl
         |some x=>rfl
theorem DW(bK:Nat)(h:T AB):∀(recs:List Rec)(k:T AB->R),IF bK h recs k=k (snap bK h recs)
 |[],k=>rfl
 |r::rs,k=>by
  show (match r.c with
   |    .new id az=>match bK.testBit r.idx with
        |true=>IF bK h rs λh'=>oK (some az) id h' k
        |false=>IF bK h rs k
   |.aG _ _=>k h
   |.pure=>IF bK h rs k)=_
  unfold snap;cases r.c with
  |pure=>exact DW bK h rs k
  |aG _ _=>rfl
  |new id az=>
   simp only[];cases bK.testBit r.idx with
   |true=>simp only[DW bK h rs,jg]
   |false=>exact DW bK h rs k
theorem Us(h:T AB):∀(l:List (Pos×AB))(k:T AB->R),Wj h l k=k (th l h)
 |[],k=>rfl
 |(id,az)::l,k=>by show Wj h l (λh'=>oK (some az) id h' k)=_;rw[Us h l,jg];rfl
theorem yG(bK:Nat)(op:av)(xs:List AV)(v:AV):∀(recs:List Rec)(up:List (Pos×AB)),qm bK op xs v up recs=lz bK op xs v up recs
 |[],up=>rfl
 |r::rs,up=>by
  unfold qm lz;cases r.c with
  |pure=>exact yG bK op xs v rs up
  |new id az=>simp only[yG bK op xs v rs]<;>(cases bK.testBit r.idx<;>rfl)
  |aG base _=>
   simp only[yG bK op xs v rs,DW,Us];unfold Wk mT;simp only[I7]<;>(cases bK.testBit r.idx<;>rfl)
theorem W6 (hc:CK z bn call):∀(ops:List (Nat×bw))(recs:List Rec)(base:T AB)(fr:Fr)(st:St)(k:Fr->St->R),
  IG z bn ops recs base fr st k=oO z (dN call ops recs base fr st) λx=>k x.1 x.2
 |[],recs,base,fr,st,k=>rfl
 |(j,   o)::  os,recs,base,fr,st,k=>by
  show Dr   z fr o.guard
    (O9   z fr o.xs λxs=>match o.cls with
        | .new=>match o.k.run (λ_=>none) st.next xs with
          |some (.aG v none none (some az))=>rM v λv=>Dq az λaz=>lA fr o.dst v λfr=>Qu st.next λn=>oK (some az) st.next st.heap λh=>
              IG z bn os ({ idx:=j,o:=o,v:=v,c:= .new st.next az,nx:=n }::recs) base fr { heap:=h,next:=n } k
          |_=>z
        |.aG=>Nk z bn o.k xs st λv st'=>lA fr o.dst v λfr=>IG z bn os ({ idx:=j,o:=o,v:=v,c:= .aG base st'.heap,nx:=st'.next }::recs) st'.heap fr st' k
        | _ =>match o.k.run (λ_=>none) .h xs with
          |some (.val v)=>rM v λv=>lA fr o.dst v λfr=>IG z bn os ({ idx:=j,o:=o,v:=v,c:= .pure,nx:=st.next }::recs) base fr st k
          | _ =>IF o.bK base recs λh=>match o.k.run (λb=>m8 b h) .h xs with
            | some (.val v)=>rM v λv=>match qm o.bK o.k xs v [] recs with
              |true=>lA fr o.dst v λfr=>IG z bn os ({ idx:=j,o:=o,v:=v,c:= .pure,nx:=st.next }::recs) base fr st k
              |false=>z
            |_=>z)
    (lA fr o.dst .undef λfr=>IG z bn os ({ idx:=j,o:=o,v:= .undef,c:= .pure,nx:=st.next }::recs) base fr st k)=_
  rw[Q4,Nn];simp only[W4 z hc,Q5,Fw,I5,I6,jg,DW,yG,I7,W6 hc os];simp only[dN];cases bW fr o.guard with
  |none=>rfl
  | some b=>
    cases b with
    |false=>rfl
    |   true=>
        simp only[];cases e8 fr o.xs with
        |none=>rfl
        | some xs=>
          simp only[oO];cases o.cls with
          | new=>
            simp only[];split<;>simp_all
          | aG=>
            simp only[];cases bP call o.k xs st with
            |none=>rfl
            |some x=>rfl
          | pure=>
            simp only[];split
            .simp_all
            .split<;>simp_all;split<;>simp_all
          | read=>
            simp only[];split
            .simp_all
            .split<;>simp_all;split<;>simp_all
def W7(r:Option (jZ×Fr×St))(kn:Fr->St->R)(kx:Nat->Fr->St->R)(kr:Fr->St->R):R:=match r with
 |some (.normal,fr,st)=>kn fr st
 |some (.exit id,fr,st)=>kx id fr st
 |some (.ret,fr,st)=>kr fr st
 |none=>z
theorem Pn(hc:CK z bn call):∀(m:Nat)(c:AC)(fr:Fr)(st:St)(kn:Fr->St->R)(kx:Nat->Fr->St->R)(kr:Fr->St->R),
  Qv z bn m c fr st kn kx kr=W7 z (exec call m c fr st) kn kx kr
 |0,c,fr,st,kn,kx,kr=>rfl
 |m+    1,c,fr,st,kn,kx,kr=>by
  have ih:=Pn hc m;show qo z bn (Qv z bn m) c fr st kn kx kr=W7 z (bk call (exec call m) c fr st) kn kx kr;cases c with
  |skip=>rfl
  |region ops=>
   simp only[qo,bk,Np z hc];cases jN call ops fr st with
   |none=>rfl
   |some x=>rfl
  |draw ops=>
   simp only[qo,bk,W6 z hc];cases dN call ops [] st.heap fr st with
   |none=>rfl
   |some x=>rfl
  |seq a b=>
   simp only[qo,bk,ih];cases exec call m a fr st with
   |none=>rfl
   |    some x=>
        obtain⟨e,cr,aQ⟩:=x;cases e<;>rfl
  |cond x a b=>
   simp only[qo,bk,Lu];cases Bm fr x with
   |none=>rfl
   |    some v=>
        simp only[oO];(cases v<;>try rfl);rename_i t;cases t<;>simp only[ih]
  |block id a=>
   simp only[qo,bk,ih];cases exec call m a fr st with
   |none=>rfl
   |    some x=>
        obtain⟨e,cr,aQ⟩:=x;(cases e<;>try rfl);rename_i tj;simp only[W7];cases Nat.beq tj id<;>rfl
  |loop a=>
   simp only[qo,bk,ih];cases exec call m a fr st with
   |none=>rfl
   |    some x=>
        obtain⟨e,cr,aQ⟩:=x;cases e<;>rfl
  |exit id=>rfl
  |ret=>rfl
theorem De:∀(vs:List AV)(i:Nat)(fr:Fr)(k:Fr->R),AA vs i fr k=k (params i vs fr)
 |[],i,fr,k=>rfl
 |v::vs,i,fr,k=>by show oK (some v) (key i) fr (λfr=>AA vs (i+1) fr k)=_;rw[jg,De vs];rfl
theorem Zr(st:St)(fr:Fr)(rs:List Bl)(k:AV->R):AD z st fr rs k=oO z (c9 (λb=>st.heap.get b) fr rs) λvs=>k (iC vs):=by
 unfold AD;rw[I7];cases c9 (λb=>st.heap.get b) fr rs with
 |none=>rfl
 |some vs=>
  simp only[I4,oO];cases vs with
  |nil=>rfl
  |cons v vs=>cases vs<;>rfl
theorem I8 (O:fh)(G:T dc)(m:Nat):∀d,CK z (E7 z O G m d) (qG O G m d)
 |0=>λf args st k=>rfl
 |d+    1=>fun f args st k=>by
  have ih:=I8 O G m d;show( match O f with
   |    some s=>match s args st with
        |some (v,st')=>rM v λv=>k v st'
        |none=>z
   |    none=>match m8 (key f) G with
        |some F=>match Nat.beq args.length F.nparams with
         |true=>AA args 0 .e λfr=>Qv z (E7 z O G m d) m F.code fr st
             (λfr st=>AD z st fr F.results λv=>k v st)
             (λ_ _ _=>z)
             (λfr st=>AD z st fr F.results λv=>k v st)
         |false=>z
        |none=>z)=_
  simp only[qG,Fw,uU,De,Pn z ih,Zr];cases O f with
  |some s=>
   simp only[];cases s args st with
   |none=>rfl
   |some x=>rfl
  |none=>
   simp only[];cases G.get (key f)with
   |none=>rfl
   |    some F=>
        simp only[];cases Nat.beq args.length F.nparams with
        |false=>rfl
        |true=>
         simp only[];cases exec (qG O G m d) m F.code (params 0 args .e) st with
         |none=>rfl
         |  some x=>
            obtain⟨e,cr,aQ⟩:=x;cases e with
            |normal=>
             simp only[W7];cases c9 (λb=>aQ.heap.get b) cr F.results<;>rfl
            |exit id=>rfl
            |ret=>
             simp only[W7];cases c9 (λb=>aQ.heap.get b) cr F.results<;>rfl
end
end
section
open Go
def abm (P :Program)(t:Nat)(ti:TI):Bool:=
 match P.underlying t,P.info? t with
 |  some d,some i=>bL ti.k d&&Nat.beq i.size ti.size&&Nat.beq i.bytes ti.bytes&&
    (match ti.zero with
     |none=>true
     |some z=>match i.zero with
      |some v=>(match od v.cells.toList with
           |some z'=>tW z' z
           |none=>false)&&Nat.beq z.length ti.size&&(match ti.k.isAgg,v with
           |true,.agg _=>true
           |true,_=>false
           |false,.agg _=>false
           |false,_=>true)
      |none=>false)&&(match ti.k with
     |.ptr e=>(P.info? e).isSome
     |_=>true)&&(!ti.wO||(!P.stoodInHeld t&& !P.eqGuardType P.depth t))
 |_,_=>false
theorem ae4{P:Program}{t:Nat}{ti:TI}(h:abm P t ti=true):aaT P t ti:=by
 unfold abm at h;split at h<;>first|(cases h;done)|skip
 rename_i d i hd hi;simp only[Zb0,Zi2,Zi6]at h;obtain⟨⟨⟨⟨⟨h1,h2⟩,h3⟩,h4⟩,h6⟩,h5⟩:=h;refine⟨⟨d,hd,h1⟩,⟨i,hi,Za2 h2,Za2 h3,λz hz=> ?_⟩,λe he=> ?_,λhe=> ?_⟩
 . rw[hz]at h4;simp only at h4;(split at h4<;>first|(cases h4;done)|skip);rename_i v hv;simp only[Zb0]at h4;obtain⟨⟨g1,g2⟩,g3⟩:=h4;(split at g1<;>first|(cases g1;done)|skip);rename_i z' Ad;rw[Ba g1]at Ad;refine⟨v,hv,Ad,Za2 g2,λha=> ?_,λha=> ?_⟩
   .rw[ha]at g3;cases v<;>first|exact⟨_,rfl⟩|cases g3
   .rw[ha]at g3;cases v<;>first|rfl|cases g3
 .rw[he]at h6;exact Option.isSome_iff_exists.1 h6
 . rcases h5 with h5|h5
   .rw[he]at h5;cases h5
   .exact h5
def Dl(P:Program):(Pos->Pos)->T TI->Bool
 |_,.e=>true
 |  f,.n l v r=>(match v with
    |some ti=>abm P ((f .h).toNat - 1) ti
    |none=>true)&&Dl P (λp=>f (.o p)) l&&Dl P (λp=>f (.i p)) r
theorem I9{P:Program}:∀{t:T TI}{f:Pos->Pos},Dl P f t=true->∀p ti,t.get p=some ti->aaT P ((f p).toNat - 1) ti
 |.e,f,_,p,ti,h=>by rw[T.ei]at h;cases h
 | .n l v r,f,hc,p,ti,h=>by
   simp only[Dl,Zb0]at hc;cases p with
   |h=>simp only[T.get]at h;rw[h]at hc;exact ae4 hc.1.1
   |o p=>exact I9 hc.1.2 p ti h
   |i p=>exact I9 hc.2 p ti h
theorem agX{P:Program}{tt:TT}(h:Dl P (λp=>p) tt=true):bZ P tt:=λp ti hp=>I9 h p ti hp
end
noncomputable section
open Go
def Hx{α:Type}(g:Nat->Option α):Nat->Nat->Nat->T α
 |0,_,_=>.e
 |d+1,a,m=>.n (Hx g d a (2*m)) (g (a+m - 1)) (Hx g d (a+m) (2*m))
theorem Ja{α:Type}{g:Nat->Option α}:∀{d a m:Nat}{p:Pos}{x:α},(Hx g d a m).get p=some x->g (a+m*p.toNat - 1)=some x
 |0,_,_,p,x,h=>by rw[Hx,T.ei]at h;cases h
 |d+1,a,m,.h,x,h=>by rw[Pos.toNat,Zk4];exact h
 |d+1,a,m,.o p,x,h=>by
  have:=Ja (d:=d) (a:=a) (m:=2*m) (p:=p) (x:=x) h;rw[Pos.toNat];have e:a+m*(2*p.toNat) - 1=a+2*m*p.toNat - 1:=by rw[<-Nat.mul_assoc,Nat.mul_comm m 2]
  rw[e];exact this
 |d+1,a,m,.i p,x,h=>by
  have:=Ja (d:=d) (a:=a+m) (m:=2*m) (p:=p) (x:=x) h;rw[Pos.toNat];have e:a+m*(2*p.toNat+1) - 1=a+m+2*m*p.toNat - 1:=by rw[Nat.mul_add,Zk4, <-Nat.mul_assoc,Nat.mul_comm m 2];omega
  rw[e];exact this
def agN(P:Program)(tt:TT)(i:Nat):Option dc:=match P.funcs[i]? with
 |some fn=>VK tt fn
 |none=>none
def ggOf(P:Program)(tt:TT):T dc:=Hx (agN P tt) 10 0 1
theorem agY{P:Program}{tt:TT}(h:(P.funcs.toList.all λfn=> !(fn.name== "runtime.NumGoroutine"))=true):Qk P tt (ggOf P tt):=λp F hp=>by
 have:=Ja hp;rw[Zd1,Zp1,agN]at this;split at this<;>first|(cases this;done)|skip
 rename_i fn Cw;refine⟨fn,Cw,?_,this⟩;have:=Zd9.1 h fn (by obtain⟨hi,e⟩:=Zd8.1 Cw;exact Zm4.2 (e ▸Array.getElem_mem hi));simpa using this
def tkOf(P:Program)(t:Nat):TK:=match P.underlying t with
 |some .bool=>.bool
 |some (.int k)=>.int k
 |some .string=>.string
 |some (.pointer e)=>.ptr e
 |some (.slice e)=>.slice e
 |some (.array n e)=>.array n e
 |some (.map k e)=>.map k e
 |some (.struct fs)=>.struct (fs.toList.map λf=>(f.offset,f.type,f.name != "_"))
 |some (.func _ _ _)=>.func
 |some (.interface _)=>.iface
 |some .unsafePointer=>.upt
 |_=>.other
def zeroOf:Option Value->Option (List AV)
 |  some v=>match Nat.ble v.cells.size 64 with
    |true=>od v.cells.toList
    |false=>none
 |none=>none
def memN(n:Nat):List Nat->Bool
 |[]=>false
 |  m::l=>match Nat.beq m n with
    |true=>true
    |false=>memN n l
def tiOf(P:Program)(eqs:List Nat)(t:Nat):Option TI:=match P.info? t with
 |none=>none
 |some i=>some { k:=tkOf P t,size:=i.size,bytes:=i.bytes,zero:=zeroOf i.zero,wO:=memN t eqs }
def ttOf(P:Program)(eqs:List Nat):T TI:=Hx (tiOf P eqs) 10 0 1
def kS(p n c e:Nat):AV:= .slice (key p) 0 n (some c) e
end
section
open Go
structure lq(P:Program)(C:Cells)(f:FuncId)(s:List AV->St->Option (AV×St)):Prop where
 mono:∀args st v st',s args st=some (v,st')->st.next.toNat<=st'.next.toNat
 runs:∀(ρ:Pos->Loc)(st:St)(w:World)(args:List AV)(v:AV)(st':St)(bJ:List Value),s args st=some (v,st')->
  aZ ρ C st w->ay ρ st.next.toNat C args bJ->Reaches P (ni ρ C st w v st') ((callFunc f bJ.toArray).run P w)
def yl:List (Nat×(List AV->St->Option (AV×St)))->fh
 |[]=>λ_=>none
 |  (g,s)::l=>λf=>match Nat.beq f g with
    |true=>some s
    |false=>yl l f
theorem wT{P:Program}{C:Cells}:∀{l:List (Nat×(List AV->St->Option (AV×St)))},(∀x∈l,lq P C x.1 x.2)->qE P C (yl l)/\lQ (yl l)
 |[],_=>⟨λf s h=>by simp[yl]at h,λf s h=>by simp[yl]at h⟩
 |(g,   s0)::l,hl=>by
  obtain⟨h1,h2⟩:=wT λx hx=>hl x (Za4 _ hx)
  have h0:=hl _ (Zd6 ..);refine⟨λf s h=> ?_,λf s h=> ?_⟩
  . simp only[yl]at h;split at h
    .   rename_i he;simp only[H0]at h;subst h;have:=Za2 he;subst this;exact h0.runs
    .   exact h1 f s h
  . simp only[yl]at h;split at h
    .   simp only[H0]at h;subst h;exact h0.mono
    .   exact h2 f s h
def KZ:List AV->St->Option (AV×St)
 |  [.str a,.str b],st=>some (.int .i64 (match aC a b with
    |true=>.negSucc 0
    |false=>match aC b a with
     |true=>.ofNat 1
     |false=>.ofNat 0),st)
 |_,_=>none
theorem Lv:∀(x y:List UInt8),Lib.compareBytes x y=match aC (x.map UInt8.toNat) (y.map UInt8.toNat)with
  |true=>.negSucc 0
  | false=>match aC (y.map UInt8.toNat) (x.map UInt8.toNat)with
    |true=>.ofNat 1
    |false=>.ofNat 0
 |[],[]=>rfl
 |[],_::_=>rfl
 |_::_,[]=>rfl
 |a ::x  ,b::y=>by
  rw[sg,sg];have ih:=Lv x y;rw[sg,sg]at ih;simp only[Lib.compareBytes,Op.bytesLess];by_cases h:a<b
  .simp[h]
  . by_cases h':b<a
    .   have cL:(a==b)=false:=(by rw[Zj3];exact λe=>by subst e;exact h h');simp[h,h',cL]
    .   have he:a=b:=(by apply Zr0.1;rw[Zo4]at h h';omega);subst he;simp only[h,Zf9,ih];simp
theorem aes{P:Program}{C:Cells}{f:FuncId}{fn:Func}(hf:P.funcs[f]? =some fn)(gV:(fn.name== "runtime.NumGoroutine")=false)(hb:fn.body.isNone=true)
  (hx:Extern.findNext fn=none) (he:Extern.find fn=some Extern.BytealgCompare.compare):lq P C f KZ where
 mono args st v st' h:=by unfold KZ at h;split at h<;>cases h;exact Za5 _
 runs ρ st w args v st' bJ h hW hv:=by
  unfold KZ at h;split at h<;>cases h;rename_i a b;obtain⟨x,xs,rfl,h1,h2⟩:=hv.cons_inv;obtain⟨y,ys,rfl,h3,h4⟩:=h2.cons_inv;have:=h4.mU;subst this;obtain⟨s,rfl,hs⟩:=h1.eR;obtain⟨t,rfl,ht⟩:=h3.eR;have cq:(callFunc f [Value.string s,Value.string t].toArray).run P w= .ok (.value (.int .i64 (Lib.compareBytes s.data.toList t.data.toList))) w:=by rw[run_callFunc_extern hf gV hb hx he];show((Extern.BytealgCompare.compare #[.string s,.string t]).run P w).andThen _=_;rw[Lib.run_compareString];rfl
  rw[cq];refine⟨ρ,?_,λ_ _=>rfl,Za5 _,hW,j0.refl _ _ _⟩;rw[Lv,hs,ht];exact .int _ _
def Bu:List AV->List AV->Bool
 |[],[]=>true
 |a::x,b::y=>fE a b&&Bu x y
 |_,_=>false
theorem Fx:∀{a b:List AV},Bu a b=true->a=b
 |[],[],_=>rfl
 |[],_::_,h=>by simp[Bu]at h
 |_::_,[],h=>by simp[Bu]at h
 |a::x,b::y,h=>by
  simp only[Bu,Zb0]at h;rw[qO h.1,Fx h.2]
def Nq:List (AV×AV×Nat)->List (AV×AV×Nat)->Bool
 |[],[]=>true
 |(a,b,n)::x,(a',b',n')::y=>fE a a'&&fE b b'&&Nat.beq n n'&&Nq x y
 |_,_=>false
theorem W9:∀{a b:List (AV×AV×Nat)},Nq a b=true->a=b
 |[],[],_=>rfl
 |[],_::_,h=>by simp[Nq]at h
 |_::_,[],h=>by simp[Nq]at h
 |(a,b,n)::x,(a',b',n')::y,h=>by
  simp only[Nq,Zb0]at h;obtain⟨⟨⟨h1,h2⟩,h3⟩,h4⟩:=h;rw[qO h1,qO h2,Za2 h3,W9 h4]
def Fy:AB->AB->Bool
 |.cells cs fz,.cells mP fz'=>Bu cs mP&&Nat.beq fz fz'
 |.map es c,.map es' c'=>Nq es es'&&Nat.beq c c'
 |.jW s p,.jW s' p'=>jw s s'&&Nat.beq p p'
 |.typed t cs,.typed t' mP=>Bu cs mP&&Nat.beq t t'
 |_,_=>false
theorem Po{a b:AB}(h:Fy a b=true):a=b:=by
 unfold Fy at h;split at h<;>(try simp only[Zb0]at h)
 .rw[Fx h.1,Za2 h.2]
 .rw[W9 h.1,Za2 h.2]
 .rw[j3.1 h.1,Za2 h.2]
 .rw[Fx h.1,Za2 h.2]
 .cases h
structure Lit where
 args:List AV
 n0:Pos
 L0:List (Pos×AB)
 v:AV
 n1:Pos
 L1:List (Pos×AB)
end
end Go.Ai
