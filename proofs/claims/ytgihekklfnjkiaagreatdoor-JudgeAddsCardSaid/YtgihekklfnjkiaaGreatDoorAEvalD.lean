/- Its calls answer as the model does. -/
import Derived.Test.YtgihekklfnjkiaaGreatDoorAEvalC
import Derived.Lib.Bytealg
set_option linter.all false
namespace Go.Ai
section
open Go Go.RowKit
theorem Lt{a b:AV}(h:fy a b=true):a=b:=by
 unfold fy at h;split at h<;>(try simp only[Zb7,Ze7]at h)<;>try rfl
 .rw[beq_iff_eq.1 h]
 .rename_i k i k' i';have h2:=h.2;rw[mR]at h2;rw[Cx h.1,beq_iff_eq.1 h2]
 .rw[mS.1 h]
 .rw[Pos.beq_eq.1 h.1,Za8 h.2]
 .obtain⟨⟨⟨h1,h2⟩,h3⟩,h4⟩:=h;rw[Pos.beq_eq.1 h1,Za8 h2,Za8 h3,Za8 h4]
 .obtain⟨⟨⟨⟨h1,h2⟩,h3⟩,h4⟩,h5⟩:=h;rw[Pos.beq_eq.1 h1,Za8 h2,Za8 h3,Za8 h4,Za8 h5]
 .rw[Pos.beq_eq.1 h]
theorem Py:∀{a b:List AV},BT a b=true->a=b
 |[],[],_=>rfl
 |[],_::_,h=>by simp[BT]at h
 |_::_,[],h=>by simp[BT]at h
 |a::x,b::y,h=>by
  simp only[BT,Zb7]at h;rw[Lt h.1,Py h.2]
theorem ahZ{f:AV->AV->Bool}(hf:∀{a b},f a b=true->a=b):∀{a b:List AV},Om f a b=true->a=b
 |[],[],_=>rfl
 |[],_::_,h=>by simp[Om]at h
 |_::_,[],h=>by simp[Om]at h
 |a::x,b::y,h=>by
  simp only[Om,Zb7]at h;rw[hf h.1,ahZ hf h.2]
theorem adp{f:AV->AV->Bool}(hf:∀{a b},f a b=true->a=b):∀{a b:List (List AV)},Cv f a b=true->a=b
 |[],[],_=>rfl
 |[],_::_,h=>by simp[Cv]at h
 |_::_,[],h=>by simp[Cv]at h
 |a::x,b::y,h=>by
  simp only[Cv,Zb7]at h;rw[ahZ hf h.1,adp hf h.2]
theorem ah0:∀{d:Nat}{a b:AV},On d a b=true->a=b
 |0,_,_,h=>by unfold On at h;exact Lt h
 |d +1,a,b,h=>by
  unfold On at h;split at h
  .rename_i heq;cases heq;simp only[Zb7]at h;rw[adp (λh=>ah0 h) h.1,Za8 h.2]
  .exact Lt h
theorem adq{a b:AV}(h:jC a b=true):a=b:=by
 unfold jC at h;split at h
 .simp only[Zb7]at h;rw[Za8 h.1.1,Py h.1.2,Py h.2]
 .exact ah0 h
 .exact Lt h
theorem Hw:∀{a b:List AV},pQ a b=true->a=b
 |[],[],_=>rfl
 |[],_::_,h=>by simp[pQ]at h
 |_::_,[],h=>by simp[pQ]at h
 |a::x,b::y,h=>by
  simp only[pQ,Zb7]at h;rw[adq h.1,Hw h.2]
theorem yO{a b:AV}(h:eJ a b=true):a=b:=by
 unfold eJ at h;split at h
 .rw[Hw h]
 .rw[Hw h]
 .exact adq h
theorem aqH {k:aJ}{H H':Pos->Option AB}{n n':Pos}{xs:List AV}{v:AV}(h:k.run H n xs=some (.val v))(hm:∀b x,H b=some x->H' b=some x):
  k.run H' n' xs=some (.val v):=by
 cases k<;>simp only[aJ.run]at h ⊢ <;>try exact h
 case alloc z=>unfold Sn at h;split at h<;>cases h
 case box=>unfold ac8 at h;split at h<;>cases h
 case buildSlice es len z p=>unfold xj at h;dsimp only at h;split at h<;>cases h
 case mkMap=>unfold Sr at h;cases h
 case mkSlice es b z=>
  unfold Dh at h
  repeat' split at h
  all_goals cases h
 case store m=>
  unfold Mo at h
  repeat' split at h
  all_goals cases h
 case mapSet pk=>
  unfold yF at h
  repeat' split at h
  all_goals cases h
 case load m=>
  unfold zK at h ⊢;split at h<;>first|(cases h;done)|skip
  split at h<;>first|(cases h;done)|skip
  . (split at h<;>first|(cases h;done)|skip);rename_i cs fz hb;simp only[hm _ _ hb];exact h
  .exact h
 case conv c=>
  unfold Gb at h ⊢;split at h<;>first|(cases h;done)|skip
  split at h<;>first|(cases h;done)|exact h|skip
  rename_i b off m _ _;cases hb:Nat.beq m 0 with
  |true=>simp only[hb]at h ⊢; exact h
  | false=>
    simp only[hb]at h ⊢;cases hH:H b with
    |none=>simp[hH]at h
    |some x=>simp only[hH]at h;simp only[hm _ _ hH];exact h
 case lookup pk z ok=>
  unfold lU at h ⊢;split at h<;>first|(cases h;done)|skip
  rename_i m k';cases m<;>try exact h
  rename_i b;cases hb:H b with
  |none=>simp[hb]at h
  | some x=>
    simp only[hb]at h;simp only[hm _ _ hb];exact h
 case lenB lk=>
  unfold Qy at h ⊢;split at h<;>first|(cases h;done)|skip
  split at h<;>first|(cases h;done)|exact h|skip
  split at h<;>first|(cases h;done)|skip
  rename_i es c hb;simp only[hm _ _ hb];exact h
 case clearS es z=>
  unfold tj at h ⊢;split at h<;>first|(cases h;done)|skip
  split at h<;>first|(cases h;done)|exact h|skip
  rename_i b off m _ _;cases hb:Nat.beq m 0 with
  |true=>simp only[hb]at h ⊢; exact h
  | false=>
    simp only[hb]at h
    repeat' split at h
    all_goals cases h
 case copyB es=>
  unfold pP at h ⊢;split at h<;>first|(cases h;done)|skip
  rename_i d x;cases hd:fc d with
  |none=>simp[hd]at h
  | some m1=>
    cases hx:fc x with
    |none=>simp[hd,hx]at h
    |   some m2=>
        simp only[hd,hx]at h ⊢;cases hb:Nat.beq (min m2 m1) 0 with
        |true=>simp only[hb]at h ⊢; exact h
        |false=>
         simp only[hb]at h;(split at h<;>first|(cases h;done)|skip);(split at h<;>first|(cases h;done)|skip);split at h<;>cases h
 case append es bytes=>
  unfold lV at h ⊢;split at h<;>first|(cases h;done)|skip
  rename_i s x;cases hd:fc s with
  |none=>simp[hd]at h
  | some m1  =>
    cases hx:fc x with
    |none=>simp[hd,hx]at h
    |   some m2=>
        simp only[hd,hx]at h ⊢;cases h1:Nat.ble ((2*(m1+m2)+768)*bytes) 281474976710656 with
        |false=>simp[h1]at h
        |true=>
         cases h2:Nat.ble (m1+m2) 9223372036854775807 with
         |false=>simp[h1,h2]at h
         |  true=>
            simp only[h1,h2]at h ⊢;cases hb:Nat.beq m2 0 with
            |true=>
             simp only[hb]at h ⊢;split at h<;>first|(cases h;done)|exact h|skip
             all_goals (simp_all;done)
            |false=>
             simp only[hb]at h
             repeat' split at h
             all_goals first
               |(rename_i e;cases e;done)
               |(rename_i e _;cases e;done)
               |(cases h;done)
               |simp_all
inductive SP(n:Pos):AV->AB->Prop where
 |ptr (cs:List AV):SP n (.ptr n 0) (.cells cs 0)
 |slice (len es:Nat) (cap:Option Nat) (cs:List AV) (h:len=0->cap=none\/cap=some 0->cs=[]):SP n (.slice n 0 len cap es) (.cells cs 0)
 |map:SP n (.map n) (.map [] 0)
theorem afO:∀{ps:List (Nat×Nat)}{xs cs:List AV},cS [] ps xs=some cs->cs=[]
 |[],[],cs,h=>by simp[cS]at h;exact h.symm ▸rfl
 |[],_::_,cs,h=>by simp[cS]at h
 |_::_,[],cs,h=>by simp[cS]at h
 |(off,size)::ps,v::vs,cs,h=>by
  unfold cS at h;split at h<;>first|(cases h;done)|skip
  rename_i h1 h2;have h1:=Za8 h1;have h2:=Zb5 h2;have h3:v.cells=[]:=by apply Zc4;simp at h2;omega
  rw[h3]at h;have h4:bf ([]:List AV) off []=[]:=by simp[bf]
  rw[h4]at h;exact afO h
theorem atz {k : aJ}{n:Pos}{xs:List AV}{v:AV}{aT:AB}(h:k.run (λ_=>none) n xs=some (.br v none none (some aT))):SP n v aT:=by
 cases k<;>simp only[aJ.run]at h
 case alloc z=>unfold Sn at h;split at h<;>cases h;exact .ptr _
 case box=>unfold ac8 at h;split at h<;>cases h;exact .ptr _
 case buildSlice es len z p=>
  unfold xj at h;dsimp only at h;split at h<;>cases h;rename_i cs hc;refine .slice _ _ _ _ λh0 _=> ?_
  subst h0;exact afO hc
 case mkMap=>unfold Sr at h;cases h;exact .map
 case mkSlice es b z=>
  unfold Dh at h
  repeat' split at h
  all_goals cases h
  refine .slice _ _ _ _ λ_ h1=> ?_
  rcases h1 with h1|h1
  .cases h1
  .simp only[H5]at h1;subst h1;rfl
 case conv c=>
  unfold Gb at h
  repeat' split at h
  all_goals cases h
 case append es bytes=>
  unfold lV at h
  repeat' split at h
  all_goals cases h
  all_goals refine .slice _ _ _ _ λh0 _=> ?_
  all_goals (exfalso;rename_i hb _ _;simp_all)
 case move=>unfold ZO at h;split at h<;>cases h
 case pick=>   unfold aeC at h;repeat' split at h
               all_goals cases h
 case build=>unfold So at h;dsimp only at h;split at h<;>cases h
 case load=>   unfold zK at h;repeat' split at h
               all_goals cases h
 case store=>   unfold Mo at h;repeat' split at h
                all_goals cases h
 case nilCheck=>   unfold Pu at h;repeat' split at h
                   all_goals cases h
 case bin=>   unfold jH at h;repeat' split at h
              all_goals cases h
 case un=>   unfold alV at h;repeat' split at h
             all_goals cases h
 case mkIface=>   unfold Sq at h;repeat' split at h
                  all_goals cases h
 case mkFunc=>unfold HC at h;dsimp only at h;cases h
 case lookup=>
  unfold lU at h;split at h<;>first|(cases h;done)|skip
  dsimp only at h;split at h<;>cases h
 case mapSet=>   unfold yF at h;repeat' split at h
                 all_goals cases h
 case sliceS=>
  unfold Xj at h;split at h<;>first|(cases h;done)|skip
  split at h<;>first|(cases h;done)|skip
  dsimp only at h;split at h<;>cases h
 case sliceL=>   unfold iD at h;repeat' split at h
                 all_goals cases h
 case fieldA=>   unfold Xk at h;repeat' split at h
                 all_goals cases h
 case idxA=>   unfold sU at h;repeat' split at h
               all_goals cases h
 case field=>   unfold Ss at h;repeat' split at h
                all_goals cases h
 case idxS=>   unfold ZP at h;repeat' split at h
               all_goals cases h
 case extract=>   unfold Lq at h;repeat' split at h
                  all_goals cases h
 case callF=>unfold abT at h;dsimp only at h;cases h
 case callV=>   unfold abU at h;repeat' split at h
                all_goals cases h
 case lenB=>   unfold Qy at h;repeat' split at h
               all_goals cases h
 case copyB=>
  unfold pP at h;split at h<;>first|(cases h;done)|skip
  split at h<;>first|(cases h;done)|skip
  dsimp only at h
  repeat' split at h
  all_goals cases h
 case minB=>   unfold LP at h;repeat' split at h
               all_goals cases h
 case maxB=>   unfold LQ at h;repeat' split at h
               all_goals cases h
 case clearS=>   unfold tj at h;repeat' split at h
                 all_goals cases h
 case capB=>cases h
 case bad=>cases h
end
section
def pS(call:aj):Prop:=∀f args st v st',call f args st=some (v,st')->st.next.toNat<=st'.next.toNat
section
variable{call:aj}
theorem SQ(hm:pS call){k:aJ}{xs:List AV}{st st':St}{v:AV}(h:cW call k xs st=some (v,st')):st.next.toNat<=st'.next.toNat:=by
 unfold cW at h;split at h
 .simp only[H5,Zd3]at h;rw[h.2];exact Za5 _
 .simp only[H5,Zd3]at h;rw[<-h.2];exact St.SL _ _ _ _
 .exact hm _ _ _ _ _ h
 .cases h
theorem Xy(hm:pS call):∀(os:List b9)(fr bR:Fr)(st st':St),mO call os fr st=some (bR,st')->st.next.toNat<=st'.next.toNat
 |[],fr,bR,st,st',h=>by simp only[mO,H5,Zd3]at h;rw[h.2];exact Za5 _
 |o ::os,fr,bR,st,st',h=>by
  unfold mO at h;split at h
  . (split at h<;>first|(cases h;done)|skip);(split at h<;>first|(cases h;done)|skip);rename_i hs;exact Zb2 (SQ hm hs) (Xy hm os _ _ _ _ h)
  .exact Xy hm os _ _ _ _ h
  .cases h
theorem zN(hm:pS call):∀(os:List (Nat×b9))(recs:List Rec)(base:T AB)(fr bR:Fr)(st st':St),eM call os recs base fr st=some (bR,st')->st.next.toNat<=st'.next.toNat
 |[],recs,base,fr,bR,st,st',h=>by simp only[eM,H5,Zd3]at h;rw[h.2];exact Za5 _
 |(j,   o)::os,recs,base,fr,bR,st,st',h=>by
  have hs:st.next.toNat<=st.next.succ.toNat:=by rw[Pos.aH];omega
  unfold eM at h;split at h
  .exact zN hm os _ _ _ _ _ _ h
  . (split at h<;>first|(cases h;done)|skip);split at h
    .   (split at h<;>first|(cases h;done)|skip);exact Zb2 hs (zN hm os _ _ _ _ _ _ h)
    .   (split at h<;>first|(cases h;done)|skip);rename_i hs;exact Zb2 (SQ hm hs) (zN hm os _ _ _ _ _ _ h)
    .   split at h
        .exact zN hm os _ _ _ _ _ _ h
        . (split at h<;>first|(cases h;done)|skip);(split at h<;>first|(cases h;done)|skip);exact zN hm os _ _ _ _ _ _ h
  .cases h
theorem OC(hm:pS call):∀(m:Nat)(c:AC)(fr bR:Fr)(st st':St)(ex:oO),exec call m c fr st=some (ex,bR,st')->st.next.toNat<=st'.next.toNat
 |0,c,fr,bR,st,st',ex,h=>by simp[exec]at h
 |m +   1,c,fr,bR,st,st',ex,h=>by
  have ih:=OC hm m;simp only[exec]at h;unfold bJ at h;split at h
  .simp only[H5,Zd3]at h;rw[h.2.2];exact Za5 _
  . (split at h<;>first|(cases h;done)|skip);rename_i hs;simp only[H5,Zd3]at h;rw[<-h.2.2];exact Xy hm _ _ _ _ _ hs
  . (split at h<;>first|(cases h;done)|skip);rename_i hs;simp only[H5,Zd3]at h;rw[<-h.2.2];exact zN hm _ _ _ _ _ _ _ hs
  . split at h
    .   rename_i hs;exact Zb2 (ih _ _ _ _ _ _ hs) (ih _ _ _ _ _ _ h)
    .   exact ih _ _ _ _ _ _ h
  .split at h<;>first|(cases h;done)|exact ih _ _ _ _ _ _ h
  . split at h
    .   rename_i hs;split at h<;>(simp only[H5,Zd3]at h;rw[<-h.2.2];exact ih _ _ _ _ _ _ hs)
    .   exact ih _ _ _ _ _ _ h
  . split at h
    .   rename_i hs;exact Zb2 (ih _ _ _ _ _ _ hs) (ih _ _ _ _ _ _ h)
    .   exact ih _ _ _ _ _ _ h
  .simp only[H5,Zd3]at h;rw[h.2.2];exact Za5 _
  .simp only[H5,Zd3]at h;rw[h.2.2];exact Za5 _
def oP(O:fk):Prop:=∀f s,O f=some s->∀args st v st',s args st=some (v,st')->st.next.toNat<=st'.next.toNat
theorem Dt{O:fk}{G:T dY}(hO:oP O)(m:Nat):∀d,pS (uE O G m d)
 |0=>λf args st v st' h=>by simp[uE]at h
 |d +   1=>λf args st v st' h=>by
  have ih:=Dt (G:=G) hO m d;unfold uE at h;split at h
  .rename_i s hs;exact hO f s hs args st v st' h
  . (split at h<;>first|(cases h;done)|skip);(split at h<;>first|(cases h;done)|skip);split at h<;>first|(cases h;done)|skip
    .   rename_i hs;(split at h<;>first|(cases h;done)|skip);simp only[H5,Zd3]at h;rw[<-h.2];exact OC ih _ _ _ _ _ _ _ hs
    .   rename_i hs;(split at h<;>first|(cases h;done)|skip);simp only[H5,Zd3]at h;rw[<-h.2];exact OC ih _ _ _ _ _ _ _ hs
end
def rj(dI:Fr):List Rec->Fr
 |[]=>dI
 |r::R=>eR (rj dI R) r.o.dst r.v
def fe(n0:Pos):List Rec->Pos
 |[]=>n0
 |r::_=>r.nx
def RC.qw:RC->Bool
 |.br _ _=>true
 |_=>false
def lZ(h0:T AB):List Rec->T AB
 |[]=>h0
 |  r::R=>match r.c with
    |.br _ h=>h
    |_=>lZ h0 R
def l9(h0:T AB):List Rec->T AB
 |[]=>h0
 |  r::R=>match r.c with
    |.br _ h=>h
    |.new id aT=>(l9 h0 R).put (some aT) id
    |.pure=>l9 h0 R
def OD:List Rec->Prop
 |[]=>True
 |r::_=>r.c.qw=true
def ah1(h0:T AB)(R:List Rec)(o:b9)(xs:List AV)(v:AV):Prop:=
 ∀  A B,R=A++B->OD B->(∀r∈A,r.c.qw=true->o.cK.testBit r.idx=false)->
    ∃h:T AB,(∀b x,h.get b=some x->(lZ h0 B).get b=some x\/∃r∈A,r.c= .new b x/\o.cK.testBit r.idx=true)/\o.k.run (λb=>h.get b) .h xs=some (.val v)
inductive uP(call:aj)(dI:Fr)(h0:T AB)(n0:Pos):Rec->List Rec->Prop where
 |skip (i:Nat) (o:b9) (R:List Rec) (hw:cX (rj dI R) o.guard=some false):
  uP call dI h0 n0 { idx:=i,o:=o,v:= .undef,c:= .pure,nx:=fe n0 R } R
 |pure (i:Nat) (o:b9) (v:AV) (xs:List AV) (R:List Rec) (hw:cX (rj dI R) o.guard=some true) (hx:gu (rj dI R) o.xs=some xs) (hr:ah1 h0 R o xs v):
  uP call dI h0 n0 { idx:=i,o:=o,v:=v,c:= .pure,nx:=fe n0 R } R
 |new (i:Nat) (o:b9) (v:AV) (aT:AB) (xs:List AV) (R:List Rec) (hw:cX (rj dI R) o.guard=some true) (hx:gu (rj dI R) o.xs=some xs)
  (hr:o.k.run (λ_=>none) (fe n0 R) xs=some (.br v none none (some aT))):
  uP call dI h0 n0 { idx:=i,o:=o,v:=v,c:= .new (fe n0 R) aT,nx:=(fe n0 R).succ } R
 |br (i:Nat) (o:b9) (v:AV) (st':St) (xs:List AV) (R:List Rec) (hc:o.cls= .br) (hw:cX (rj dI R) o.guard=some true) (hx:gu (rj dI R) o.xs=some xs)
  (hr:cW call o.k xs { heap:=l9 h0 R,next:=fe n0 R }=some (v,st')):
  uP call dI h0 n0 { idx:=i,o:=o,v:=v,c:= .br (lZ h0 R) st'.heap,nx:=st'.next } R
def Good(call:aj)(dI:Fr)(h0:T AB)(n0:Pos):List Rec->Prop
 |[]=>True
 |r::R=>uP call dI h0 n0 r R/\Good call dI h0 n0 R
section
variable{call:aj}{dI:Fr}{h0:T AB}{n0:Pos}
theorem Good.tail:∀{A B:List Rec},Good call dI h0 n0 (A++B)->Good call dI h0 n0 B
 |[],_,h=>h
 |_::_,_,h=>Good.tail h.2
theorem Good.at{A B:List Rec}{r:Rec}(h:Good call dI h0 n0 (A++r::B)):uP call dI h0 n0 r B:=(Good.tail h).1
theorem SS:∀{A B:List Rec},(∀r∈A,r.c.qw=false)->lZ h0 (A++B)=lZ h0 B
 |[],_,_=>rfl
 |r::A,B,h=>by
  have h1:=h r (Zd6 ..);have ih:=SS (A:=A) (B:=B) λr hr=>h r (Zb0 _ hr)
  simp only[Zd8,lZ];split
  .rename_i hc;rw[hc]at h1;cases h1
  .exact ih
theorem ab1{cK:Nat}:∀{A B:List Rec}{h:T AB}{b:Pos}{x:AB},(∀r∈A,r.c.qw=false)->OD B->(snap cK h (A++B)).get b=some x->
  h.get b=some x\/∃r∈A,r.c= .new b x/\cK.testBit r.idx=true
 |[],B,h,b,x,_,hB,hs=>by
  cases B with
  |nil=>exact .inl hs
  | cons r B=>
    simp only[OD]at hB;simp only[Ze2,snap]at hs;(cases hc:r.c<;>rw[hc]at hB<;>first|(cases hB;done)|skip);rw[hc]at hs;exact .inl hs
 |r ::A   ,B,h,b,x,hA,hB,hs=>by
  have ih:=@ab1 cK A B h b x (λr hr=>hA r (Zb0 _ hr)) hB;have up:(h.get b=some x\/∃r∈A,r.c= .new b x/\cK.testBit r.idx=true)->h.get b=some x\/∃r'∈r::A,r'.c= .new b x/\cK.testBit r'.idx=true:=λh1=>
    h1.imp id λ⟨r',h2,h3⟩=>⟨r',Zb0 _ h2,h3⟩
  simp only[Zd8,snap]at hs;cases hc:r.c with
  |pure=>rw[hc]at hs;exact up (ih hs)
  |br b1 h1=>have:=hA r (Zd6 ..);rw[hc]at this;cases this
  | new   id aT=>
    rw[hc]at hs;cases ht:cK.testBit r.idx with
    |false=>simp only[ht]at hs;exact up (ih hs)
    |   true=>
        simp only[ht]at hs;by_cases hid:id=b
        .subst hid;rw[T.gQ]at hs;simp only[H5]at hs;subst hs;exact .inr ⟨r,Zd6 ..,hc,ht⟩
        .rw[T.cJ _ hid]at hs;exact up (ih hs)
theorem afP:∀{up:List (Pos×AB)}{h:T AB}{b:Pos}{x:AB},(nW up h).get b=some x->h.get b=some x\/(b,x)∈up
 |[],_,_,_,h=>.inl h
 |(id,aT)::up,h,b,x,hs=>by
  unfold nW at hs;by_cases hid:id=b
  .subst hid;rw[T.gQ]at hs;simp only[H5]at hs;subst hs;exact .inr (Zd6 ..)
  .rw[T.cJ _ hid]at hs;exact(afP hs).imp (λh=>h) λh=>Zb0 _ h
theorem SU:∀(A:List Rec),(∀r∈A,r.c.qw=false)\/∃r∈A,r.c.qw=true
 |[]=>.inl λr h=>by cases h
 |r::A=>by
  cases hr:r.c.qw with
  |true=>exact .inr ⟨r,Zd6 ..,hr⟩
  |false=>
   rcases SU A with h|⟨r',h1,h2⟩
   . exact .inl λr' oa=>by
      rcases Za9.1 oa with rfl|h'
      .exact hr
      .exact h r' h'
   .exact .inr ⟨r',Zb0 _ h1,h2⟩
theorem Vi{cK:Nat}{k:aJ}{xs:List AV}{v:AV}:∀(A B:List Rec)(up:List (Pos×AB)),oC cK k xs v up (A++B)=true->Good call dI h0 n0 (A++B)->OD B->
  (∀r∈A,r.c.qw=true->cK.testBit r.idx=false)->(∃r∈A,r.c.qw=true)->
  ∃h:T AB,(∀b x,h.get b=some x->(lZ h0 B).get b=some x\/(∃r∈A,r.c= .new b x/\cK.testBit r.idx=true)\/(b,x)∈up)/\k.run (λb=>h.get b) .h xs=some (.val v)
 |[],B,up,_,_,_,_,he=>by obtain⟨r,hr,_⟩:=he;cases hr
 |r::A    , B,up,OE,hG,hB,hn,he=>by
  have hn':∀r∈A,r.c.qw=true->cK.testBit r.idx=false:=λr' oa=>hn r' (Zb0 _ oa)
  have ih:=λup (h2:oC cK k xs v up (A++B)=true) h3=>Vi A B up h2 hG.2 hB hn' h3
  simp only[Zd8,oC]at OE;cases hc:r.c with
  |pure=>
   rw[hc]at OE;have sw:∃r∈A,r.c.qw=true:=by
        obtain⟨r',h1,h2⟩:=he;rcases Za9.1 h1 with rfl|h1
        .rw[hc]at h2;cases h2
        .exact⟨r',h1,h2⟩
   obtain⟨h,h1,h2⟩:=ih up OE sw;exact⟨h,λb x hb=>(h1 b x hb).imp (λh=>h) (Or.imp (λ⟨r',h3,h4⟩=>⟨r',Zb0 _ h3,h4⟩) λh=>h),h2⟩
  |new    id aT=>
   rw[hc]at OE;have sw:∃r∈A,r.c.qw=true:=by
        obtain⟨r',h1,h2⟩:=he;rcases Za9.1 h1 with rfl|h1
        .rw[hc]at h2;cases h2
        .exact⟨r',h1,h2⟩
   cases ht:cK.testBit r.idx with
   |    false=>
        simp only[ht]at OE;obtain⟨h,h1,h2⟩:=ih up OE sw;exact⟨h,λb x hb=>(h1 b x hb).imp (λh=>h) (Or.imp (λ⟨r',h3,h4⟩=>⟨r',Zb0 _ h3,h4⟩) λh=>h),h2⟩
   |    true=>
        simp only[ht]at OE;obtain⟨h,h1,h2⟩:=ih _ OE sw;refine⟨h,λb x hb=> ?_,h2⟩;rcases h1 b x hb with h3|⟨r',h3,h4⟩|h3
        .exact .inl h3
        .exact .inr (.inl ⟨r',Zb0 _ h3,h4⟩)
        . rcases Za9.1 h3 with h3|h3
          .simp only[Zd3]at h3;obtain⟨rfl,rfl⟩:=h3;exact .inr (.inl ⟨r,Zd6 ..,hc,ht⟩)
          .exact .inr (.inr h3)
  |br base h=>
   rw[hc]at OE;have ht:=hn r (Zd6 ..) (by rw[hc];rfl);simp only[ht,Zb7]at OE;rcases SU A with hA|hA
   .    have awj:base=lZ h0 B:=(by have hs:=hG.1;(cases hs<;>simp only at hc<;>first|(cases hc;done)|skip);simp only[RC.br.injEq]at hc;rw[<-hc.1];exact SS hA);have hra:=OE.1;unfold pE at hra;(split at hra<;>first|(cases hra;done)|skip);rename_i u hu;rw[yO hra]at hu;refine⟨_,λb x hb=> ?_,hu⟩;rcases afP hb with hb|hb
        . rcases ab1 hA hB hb with h3|⟨r',h3,h4⟩
          .rw[<-awj];exact .inl h3
          .exact .inr (.inl ⟨r',Zb0 _ h3,h4⟩)
        .exact .inr (.inr hb)
   .    obtain⟨h,h1,h2⟩:=ih up OE.2 hA;exact⟨h,λb x hb=>(h1 b x hb).imp (λh=>h) (Or.imp (λ⟨r',h3,h4⟩=>⟨r',Zb0 _ h3,h4⟩) λh=>h),h2⟩
theorem adr:  ∀(L:List (Nat×b9))(R:List Rec)(fr bR:Fr)(st st':St),eM call L R (lZ h0 R) fr st=some (bR,st')->Good call dI h0 n0 R->
  fr=rj dI R->st.heap=l9 h0 R->st.next=fe n0 R->
  ∃R',Good call dI h0 n0 (R'++R)/\(R'.map λr=>(r.idx,r.o))=L.reverse/\bR=rj dI (R'++R)/\st'.heap=l9 h0 (R'++R)/\st'.next=fe n0 (R'++R)
 |[],R,fr,bR,st,st',h,hG,h1,h2,h3=>by
  simp only[eM,H5,Zd3]at h;obtain⟨rfl,rfl⟩:=h;exact⟨[],hG,rfl,h1,h2,h3⟩
 |(j,   o)::  L,R,fr,bR,st,st',h,hG,h1,h2,h3=>by
  have fin:∀(r:Rec)(bK:St)(fC:Fr),r.idx=j->r.o=o->uP call dI h0 n0 r R->fC=rj dI (r::R)->bK.heap=l9 h0 (r::R)->bK.next=r.nx->
        eM call L (r::R) (lZ h0 (r::R)) fC bK=some (bR,st')->
        ∃R',Good call dI h0 n0 (R'++R)/\(R'.map λr=>(r.idx,r.o))=((j,o)::L).reverse/\bR=rj dI (R'++R)/\st'.heap=l9 h0 (R'++R)/\st'.next=fe n0 (R'++R):=by
    intro r bK fC hj ho hs k1 k2 k3 hd;obtain⟨R',g1,g2,g3,g4,g5⟩:=adr L (r::R) fC bR bK st' hd ⟨hs,hG⟩ k1 k2 k3;have e:R'++r::R=(R'++[r])++R:=(by simp);rw[e]at g1 g3 g4 g5;exact⟨R'++[r],g1,by simp[g2,hj,ho],g3,g4,g5⟩
  unfold eM at h;subst h1;split at h
  .rename_i hw;exact fin _ _ _ rfl rfl (h3 ▸uP.skip j o R hw) rfl h2 rfl h
  . rename_i hw;(split at h<;>first|(cases h;done)|skip);rename_i xs hx;split at h
    .   (split at h<;>first|(cases h;done)|skip);rename_i v aT hr;rw[h3]at hr;have hs:=uP.new (call:=call) (dI:=dI) (h0:=h0) (n0:=n0) j o v aT xs R hw hx hr;rw[<-h3]at hs;refine fin _ _ _ rfl rfl hs rfl ?_ rfl h;simp only[l9,h2]
    .   rename_i aqI;(split at h<;>first|(cases h;done)|skip);rename_i v bK hr;have iQ:st={ heap:=l9 h0 R,next:=fe n0 R }:=(by cases st;simp_all);rw[iQ]at hr;exact fin _ bK _ rfl rfl (uP.br j o v bK xs R aqI hw hx hr) rfl rfl rfl h
    .   split at h
        . rename_i v hr;have hro:ah1 h0 R o xs v:=by
           intro A B _ _ _;refine⟨.e,λb x hb=> ?_,?_⟩
           .  rw[T.dZ]at hb;cases hb
           .  have e:(λb=>T.get b (T.e:T AB))=λ_=>none:=(by funext b;exact T.dZ b);rw[e];exact hr
          exact fin _ _ _ rfl rfl (h3 ▸uP.pure j o v xs R hw hx hro) rfl h2 rfl h
        . (split at h<;>first|(cases h;done)|skip);rename_i v hr;(split at h<;>first|(cases h;done)|skip);rename_i OE;have hro:ah1 h0 R o xs v:=by
           intro A B hAB hB hn;subst hAB;rcases SU A with hA|hA
           .  refine⟨_,λb x hb=> ?_,hr⟩;have:=ab1 hA hB hb;rw[SS hA]at this;exact this
           .  obtain⟨h,k1,k2⟩:=Vi A B [] OE hG hB hn hA;exact⟨h,λb x hb=>(k1 b x hb).imp id λh=>h.resolve_right (by simp),k2⟩
          exact fin _ _ _ rfl rfl (h3 ▸uP.pure j o v xs R hw hx hro) rfl h2 rfl h
  .cases h
end
end
section
open Go
structure Late(m:Nat)(pre:List Nat)(L:List (Nat×b9)):Prop where
 all:∀i,i<m->i∈pre\/i∈L.map (·.1)
 lt:∀x∈L,x.1<m
 one:∀A i o B,L=A++(i,o)::B->i∉pre/\i∉A.map (·.1)
 cK:∀A i o B,L=A++(i,o)::B->∀b,o.cK.testBit b=true->b∈pre\/b∈A.map (·.1)
 br:∀A i o B,L=A++(i,o)::B->o.cls= .br->∀b,(b∈pre\/b∈A.map (·.1))->o.cK.testBit b=true
 apart:∀A i o B,L=A++(i,o)::B->∀x∈B,x.2.cK.testBit i=true\/Xl o x.2=true
theorem abb{m:Nat}:∀(L:List (Nat×b9))(seen:Nat)(pre:List Nat),QE m seen L=true->(∀b,seen.testBit b=true↔b∈pre)->Late m pre L
 |[],seen,pre,h,hs=>by
  simp only[QE]at h;have:=Za8 h;refine⟨λi hi=>.inl ((hs i).1 ?_),λx hx=>(by cases hx),λA i o B h=> ?_,λA i o B h=> ?_,λA i o B h=> ?_,λA i o B h=> ?_⟩
  .rw[this,Nat.testBit_two_pow_sub_one];simpa using hi
  all_goals (cases A<;>cases h)
 |(i,   o)::L,seen,pre,h,hs=>by
  simp only[QE,Zb7]at h;obtain⟨⟨⟨⟨⟨h1,h2⟩,h3⟩,h4⟩,h5⟩,h6⟩:=h;have h1:i<m:=Zb5 h1;have h2:i∉pre:=λhp=>by rw[(hs i).2 hp]at h2;cases h2
  have h3:=Za8 h3;have hb:∀b,o.cK.testBit b=true->b∈pre:=λb hb=>by rw[<-h3,Nat.testBit_and,Zb7]at hb;exact(hs b).1 hb.2
  have he:o.cls= .br->∀b,b∈pre->o.cK.testBit b=true:=λhc b hp=>by rw[hc]at h4;rw[Za8 h4];exact(hs b).2 hp
  have ih:=abb L (seen ||| 2 ^ i) (pre++[i]) h6 (λb=>by
    rw[Nat.testBit_or,Nat.testBit_two_pow,Zj7,hs b,Ze0];simp[eq_comm])
  rw[Zh4]at h5;have ahp:∀{A:List (Nat×b9)}{j:Nat}{p:b9}{B:List (Nat×b9)},(i,o)::L=A++(j,p)::B->(A=[]/\i=j/\o=p/\L=B)\/∃A',A=(i,o)::A'/\L=A'++(j,p)::B:=by
    intro A j p B hA;cases A with
    |nil=>simp at hA;exact .inl ⟨rfl,hA.1.1,hA.1.2,hA.2⟩
    |cons x A=>simp at hA;exact .inr ⟨A,by rw[hA.1],hA.2⟩
  refine⟨λj hj=> ?_,λx hx=> ?_,λA j p B hA=> ?_,λA j p B hA=> ?_,λA j p B hA=> ?_,λA j p B hA=> ?_⟩
  . rcases ih.all j hj with h|h
    .   rcases Ze0.1 h with h|h
        .exact .inl h
        .simp at h;exact .inr (by simp[h])
    .   exact .inr (by simp only[Zd1,Za9];exact .inr h)
  . rcases Za9.1 hx with rfl|hx
    .   exact h1
    .   exact ih.lt x hx
  . rcases ahp hA with⟨rfl,rfl,rfl,rfl⟩|⟨A',rfl,Vj⟩
    .   exact⟨h2,by simp⟩
    .   obtain⟨k1,k2⟩:=ih.one A' j p B Vj;simp only[Ze0,Zg8,not_or]at k1;exact⟨k1.1,by simp only[Zd1,Za9,not_or];exact⟨k1.2,k2⟩⟩
  . rcases ahp hA with⟨rfl,rfl,rfl,rfl⟩|⟨A',rfl,Vj⟩
    .   exact λb vK=>.inl (hb b vK)
    .   intro b vK;rcases ih.cK A' j p B Vj b vK with h|h
        . rcases Ze0.1 h with h|h
          .exact .inl h
          .simp at h;exact .inr (by simp[h])
        .exact .inr (by simp only[Zd1,Za9];exact .inr h)
  . rcases ahp hA with⟨rfl,rfl,rfl,rfl⟩|⟨A',rfl,Vj⟩
    .   intro hc b vK;rcases vK with h|h
        .exact he hc b h
        .simp at h
    .   intro hc b vK;refine ih.br A' j p B Vj hc b ?_;rcases vK with h|h
        .exact .inl (Ze0.2 (.inl h))
        . simp only[Zd1,Za9]at h;rcases h with rfl|h
          .exact .inl (by simp)
          .exact .inr h
  . rcases ahp hA with⟨rfl,rfl,rfl,rfl⟩|⟨A',rfl,Vj⟩
    .   intro x hx;have:=h5 x hx
        rwa [Zj7]at this
    .   exact ih.apart A' j p B Vj
inductive Reach(ops:Array Oper):Nat->Nat->Prop where
 |edge (i:Nat) (o:Oper) (e:Edge) (ho:ops[i]? =some o) (he:e∈o.after) (hb:Region.binds .any e=true):Reach ops i e.on
 |trans (i:Nat) (o:Oper) (e:Edge) (b:Nat) (ho:ops[i]? =some o) (he:e∈o.after) (hb:Region.binds .any e=true) (h:Reach ops e.on b):Reach ops i b
def amj(ops:Array Oper)(i m:Nat):Prop:=
 (∀o,ops[i]? =some o->∀e∈o.after,Region.binds .any e=true->m.testBit e.on=true)/\∀b,m.testBit b=true->Reach ops i b
theorem aeL(acc:List Nat):∀(l:List Edge)(s b:Nat),(l.foldl (λs e=>match Region.binds .any e with
   |true=>s ||| 2 ^ e.on ||| (nth acc e.on).getD 0
   |false=>s) s).testBit b=true↔s.testBit b=true\/∃e∈l,Region.binds .any e=true/\(e.on=b\/((nth acc e.on).getD 0).testBit b=true)
 |[],s,b=>by simp
 |e::l,s,b=>by
  rw[Zs1,aeL acc l];cases he:Region.binds .any e with
  |false=>simp[he]
  |true=>
   simp only[Nat.testBit_or,Zj7,Nat.testBit_two_pow,Ze8,Za9,exists_eq_or_imp,he,Zs6];constructor
   .    rintro(((h|h)|h)|h)
        .exact .inl h
        .exact .inr (.inl (.inl h))
        .exact .inr (.inl (.inr h))
        .exact .inr (.inr h)
   .    rintro(h|(h|h)|h)
        .exact .inl (.inl (.inl h))
        .exact .inl (.inl (.inr h))
        .exact .inl (.inr h)
        .exact .inr h
theorem ak3 {ops:Array Oper}:∀(os:List Oper)(acc:List Nat),os=ops.toList.drop acc.length->acc.length<=ops.size->(∀i,i<acc.length->amj ops i (acc.getD i 0))->
  ∀i,i<ops.size->amj ops i ((ahH os acc).getD i 0)
 |[],acc,hos,hl,amk,i,hi=>by
  have h1:(ops.toList.drop acc.length).length=0:=by rw[<-hos];rfl
  have:ops.size<=acc.length:=by simp at h1;omega
  exact amk i (by omega)
 |o ::os,acc,hos,hl,amk,i,hi=>by
  simp only[ahH];have ho:ops[acc.length]? =some o:=by have:(ops.toList.drop acc.length)[0]? =some o:=(by rw[<-hos];rfl);simpa using this
  have aW:acc.length<ops.size:=(Zd5.1 ho).1;refine ak3 os _ ?_ (by simp;omega) (λj hj=> ?_) i hi
  .rw[Zd9,Zm2, <-Zl0, <-hos];rfl
  . rcases Zj3 j acc.length with h|h
    .   rw[Zb9,Zc3 h, <-Zb9];exact amk j h
    .   have Ms:j=acc.length:=(by simp at hj;omega);subst Ms;rw[Zb9,Zc1 (Za5 _)];simp only[Zk7,Za4,Ze6];refine⟨λo' OB e he hb=> ?_,λb hb=> ?_⟩
        .rw[ho]at OB;simp only[H5]at OB;subst OB;exact(aeL acc _ 0 e.on).2 (.inr ⟨e,by simpa using he,hb,.inl rfl⟩)
        . have hb:=(aeL acc _ 0 b).1 hb;rcases hb with hb|⟨e,he,vK,hb⟩
          .simp at hb
          . have sw:e∈o.after:=(by simpa using he);rcases hb with rfl|hb
            .exact .edge _ o e ho sw vK
            . refine .trans _ o e b ho sw vK ?_;rw[qZ]at hb;rcases Zj3 e.on acc.length with h|h
              .exact(amk _ h).2 b (by rw[Zb9];exact hb)
              .rw[Zc0 h]at hb;simp at hb
theorem ak4:∀(l:List b9)(k:Nat)(x:Nat×b9),x∈Mq k l->∃i,x.1=k+i/\l[i]? =some x.2
 |[],k,x,h=>by cases h
 |o ::l,k,x,h=>by
  simp only[Mq,Za9]at h;rcases h with rfl|h
  .exact⟨0,rfl,rfl⟩
  .obtain⟨i,h1,h2⟩:=ak4 l (k+1) x h;exact⟨i+1,by omega,by simpa using h2⟩
theorem Xz:∀(l held:List (Nat×b9))(x:Nat×b9),x∈BF l held->x∈l\/x∈held
 |[],held,x,h=>.inr h
 |(i,   o)::l,held,x,h=>by
  unfold BF at h;split at h
  . rcases Ze0.1 h with h|h
    .   exact .inr (Zl8.1 h).1
    .   rcases Za9.1 h with h|h
        .exact .inl (by rw[h];exact Zd6 ..)
        . rcases Xz l _ x h with h|h
          .exact .inl (Zb0 _ h)
          .exact .inr (Zl8.1 h).1
  . rcases Xz l _ x h with h|h
    .   exact .inl (Zb0 _ h)
    .   rcases Ze0.1 h with h|h
        .exact .inr h
        .simp at h;exact .inl (by rw[h];exact Zd6 ..)
theorem atA{l:List b9}{x:Nat×b9}(h:x∈BF (Mq 0 l) []):l[x.1]? =some x.2:=by
 rcases Xz _ _ _ h with h|h
 .obtain⟨i,h1,h2⟩:=ak4 l 0 x h;rw[h1,Zb1];exact h2
 .cases h
theorem SV{p:Pos}:∀{l:List Pos},QD p l=true↔p∈l
 |[]=>by simp[QD]
 |q::l=>by simp[QD,SV (l:=l),Pos.beq_eq]
theorem Pz{a b:b9}(h:Xl a b=true):
   (∀d,a.dst=some d->d∉b.looks/\b.dst≠some d)/\(∀d,b.dst=some d->d∉a.looks):=by
 unfold Xl at h;rw[Zb7]at h;obtain⟨h1,h2⟩:=h;constructor
 . intro d hd;rw[hd]at h1;simp only[Zb7,Zk5]at h1;refine⟨λhm=> ?_,λhb=> ?_⟩
   .rw[SV.2 hm]at h1;exact absurd h1.1 (by simp)
   .rw[hb]at h1;have:Pos.beq d d=true:=Pos.beq_eq.2 rfl;simp[this]at h1
 .intro d hd hm;rw[hd]at h2;simp only[Zk5]at h2;rw[SV.2 hm]at h2;cases h2
section
variable(P:Program)(tt:TT)(C:Cells)(nt:Nat)(ops:Array Oper)(call:aj)(dI:Fr)(h0:T AB)(n0:Pos)(R:List Rec)
structure Du:Prop where
 ab2:Good call dI h0 n0 R
 mono:pS call
 one:∀A r B,R=A++r::B->∀r'∈B,r'.idx≠r.idx
 cK:∀A r B,R=A++r::B->∀b,r.o.cK.testBit b=true->∃r'∈B,r'.idx=b
 br:∀A r B,R=A++r::B->r.o.cls= .br->∀r'∈B,r.o.cK.testBit r'.idx=true
 apart:∀A r B,R=A++r::B->∀r'∈A,r'.o.cK.testBit r.idx=true\/Xl r.o r'.o=true
 rel:∀r∈R,∃o,ops[r.idx]? =some o/\zM tt nt ops o r.o/\amj ops r.idx r.o.cK
 all:∀i,i<ops.size->∃r∈R,r.idx=i
def Kept(D:Nat->Prop)(b:Pos):Prop:=∀A r B,R=A++r::B->¬D r.idx->b.toNat<(fe n0 B).toNat\/r.nx.toNat<=b.toNat
def T1(D:Nat->Prop)(ρ:Pos->Loc)(tmps:Array Value):Prop:=
 ∀M s T p,R=M++s::T->D s.idx->s.o.dst=some p->(∀s'∈M,D s'.idx->s'.o.dst≠some p)->∃x,tmps[p.toNat - 1]? =some x/\aG ρ s.nx.toNat C s.v x
def T0(D:Nat->Prop)(ρ:Pos->Loc)(tmps:Array Value):Prop:=
 ∀p v,dI.get p=some v->(∀s∈R,D s.idx->s.o.dst≠some p)->∃x,tmps[p.toNat - 1]? =some x/\aG ρ n0.toNat C v x
structure Pre(D:Nat->Prop)(A B:List Rec)(a:Act):Prop where
 split:R=A++B
 bound:OD B
 inB:∀r∈B,D r.idx
 inA:∀r∈A,D r.idx->r.c.qw=false
 closed:∀i o e,D i->ops[i]? =some o->e∈o.after->Region.binds .any e=true->D e.on
 size:a.tmps.size=nt
 defers:a.defers=[]
structure Inv0(oc:Pos->Loc)(w0:World)(D:Nat->Prop)(A B:List Rec)(ρ:Pos->Loc)(a:Act)(w:World):Prop where
 W:cN ρ C { heap:=lZ h0 B,next:=fe n0 B } w
 N:∀r∈A,D r.idx->∀id aT,r.c= .new id aT->ud ρ r.nx.toNat C (ρ id) w aT/\(ρ id).aT<w.heap.size/\w0.heap.size<=(ρ id).aT/\
  (∀b x,(lZ h0 B).get b=some x->(ρ b).aT≠(ρ id).aT)/\(∀ad v,C ad=some v->(ρ id).aT≠ad.block)
 N2:∀r∈A,D r.idx->∀id aT,r.c= .new id aT->∀r'∈A,D r'.idx->∀ye Jo,r'.c= .new ye Jo->id≠ye->(ρ id).aT≠(ρ ye).aT
 t1:T1 C R D ρ a.tmps
 t0:T0 C dI n0 R D ρ a.tmps
 E:qJ oc { heap:=h0,next:=n0 } w0 ρ { heap:=lZ h0 B,next:=fe n0 B } w
 agree:∀b:Pos,b.toNat<n0.toNat->ρ b=oc b
def Inv(oc:Pos->Loc)(w0:World)(D:Nat->Prop)(A B:List Rec)(ρ:Pos->Loc)(a:Act)(w:World):Prop:=
 Pre nt ops R D A B a/\∀ρ',(∀b,Kept n0 R D b->ρ' b=ρ b)->Inv0 C dI h0 n0 R oc w0 D A B ρ' a w
end
section
variable{P:Program}{tt:TT}{C:Cells}{nt:Nat}{ops:Array Oper}{call:aj}{dI:Fr}{h0:T AB}{n0:Pos}{R:List Rec}
theorem MC(h:∀A r B,R=A++r::B->∀r'∈B,r'.idx≠r.idx){X X' Y Y':List Rec}{r r':Rec}(h1:R=X++r::Y)(h2:R=X'++r'::Y')(hi:r.idx=r'.idx):
   X=X'/\r=r'/\Y=Y':=by
 have h3:X++r::Y=X'++r'::Y':=h1.symm.trans h2;rcases List.append_eq_append_iff.1 h3 with⟨Z,hX,hZ⟩|⟨Z,hX,hZ⟩
 . cases Z with
   |nil=>simp at hZ hX;exact⟨hX.symm,hZ.1,hZ.2⟩
   |cons z Z=>
    simp at hZ;exact absurd hi.symm (h X r Y h1 r' (by rw[hZ.2];simp))
 . cases Z with
   |nil=>simp at hZ hX;exact⟨hX,hZ.1.symm,hZ.2.symm⟩
   |cons z Z=>
    simp at hZ;exact absurd hi (h X' r' Y' h2 r (by rw[hZ.2];simp))
theorem pH{r:Rec}(h:r∈R):∃A B,R=A++r::B:=List.append_of_mem h
theorem ak5(hm:pS call){r:Rec}{B:List Rec}(h:uP call dI h0 n0 r B):(fe n0 B).toNat<=r.nx.toNat:=by
 cases h with
 |skip=>exact Za5 _
 |pure=>exact Za5 _
 |new=>simp only[Pos.aH];omega
 |br i o v st' xs _ hc hw hx hr=>exact SQ hm hr
theorem aeM(hm:pS call):∀{A B:List Rec},Good call dI h0 n0 (A++B)->(fe n0 B).toNat<=(fe n0 (A++B)).toNat
 |[],_,_=>Za5 _
 |r::A,B,h=>Zb2 (aeM hm (A:=A) h.2) (ak5 hm h.1)
namespace Du
variable(G:Du tt nt ops call dI h0 n0 R)
include G
theorem later{X Y:List Rec}{r r':Rec}(h:R=X++r::Y)(hr:r'∈X):r'.idx≠r.idx:=by
 obtain⟨A,B,rfl⟩:=pH hr;have h':R=A++r'::(B++r::Y):=by rw[h];simp
 exact λe=>G.one _ _ _ h' r (by simp) e.symm
theorem as4{X Y:List Rec}{r:Rec}(h:R=X++r::Y):(fe n0 Y).toNat<=r.nx.toNat:=ak5 G.mono (Good.at (h ▸G.ab2))
theorem HP{X Y Z:List Rec}(h:R=X++(Y++Z)):(fe n0 Z).toNat<=(fe n0 (Y++Z)).toNat:=aeM G.mono (Good.tail (h ▸G.ab2))
theorem aml{X Y:List Rec}(h:R=X++Y):n0.toNat<=(fe n0 Y).toNat:=by have:=aeM (n0:=n0) G.mono (A:=Y) (B:=[]) (by rw[Zd7];exact Good.tail (h ▸G.ab2));rw[Zd7]at this;exact this
theorem ads{D:Nat->Prop}(hc:∀i o e,D i->ops[i]? =some o->e∈o.after->Region.binds .any e=true->D e.on){i b:Nat}(h:Reach ops i b)
  (hi:∀o e,ops[i]? =some o->e∈o.after->Region.binds .any e=true->D e.on):D b:=by
 induction h with
 |edge i o e ho he hb=>exact hi o e ho he hb
 |trans i o e b ho he hb _ ih=>exact ih λo' e' OB sw eO=>hc _ o' e' (hi o e ho he hb) OB sw eO
theorem as5{D:Nat->Prop}{A B:List Rec}{a:Act}(hp:Pre nt ops R D A B a){s:Rec}(hs:s∈R)(hD:D s.idx){b:Nat}(hb:s.o.cK.testBit b=true):D b:=by obtain⟨o,ho,_,hB⟩:=G.rel s hs;exact G.ads hp.closed (hB.2 b hb) λo' e OB he vK=>hp.closed _ o' e hD OB he vK
end Du
theorem XA:∀(Y:List Rec)(p:Pos)(v:AV),(rj dI Y).get p=some v->
  (∃M s T,Y=M++s::T/\s.o.dst=some p/\s.v=v/\∀s'∈M,s'.o.dst≠some p)\/(dI.get p=some v/\∀s∈Y,s.o.dst≠some p)
 |[],p,v,h=>.inr ⟨h,λs hs=>by cases hs⟩
 |r ::Y   ,p,v,h=>by
  simp only[rj]at h;by_cases hr:r.o.dst=some p
  .rw[hr]at h;simp only[eR,T.gQ,H5]at h;exact .inl ⟨[],r,Y,rfl,hr,h,λs hs=>by cases hs⟩
  . have h':(rj dI Y).get p=some v:=by
        cases hd:r.o.dst with
        |none=>rw[hd]at h;exact h
        | some d=>
          rw[hd]at h;simp only[eR]at h
          rwa [T.cJ _ λe=>hr (by rw[hd,e])]at h
    rcases XA Y p v h' with⟨M,s,T,rfl,h2,h3,h4⟩|⟨h2,h3⟩
    .   refine .inl ⟨r::M,s,T,rfl,h2,h3,λs' rf=> ?_⟩;rcases Za9.1 rf with rfl|rf
        .exact hr
        .exact h4 s' rf
    .   refine .inr ⟨h2,λs hs=> ?_⟩;rcases Za9.1 hs with rfl|hs
        .exact hr
        .exact h3 s hs
theorem look(G:Du tt nt ops call dI h0 n0 R){D:Nat->Prop}{A B:List Rec}{a:Act}(hp:Pre nt ops R D A B a){ρ:Pos->Loc}(h1:T1 C R D ρ a.tmps)(h2:T0 C dI n0 R D ρ a.tmps)
   {X Y:List Rec} {r:Rec} (hR:R=X++r::Y) (hD:¬D r.idx) (aeN:∀b,r.o.cK.testBit b=true->D b) {p:Pos} {v:AV} (hl:p∈r.o.looks) (hv:(rj dI Y).get p=some v):
   ∃x,a.tmps[p.toNat - 1]? =some x/\aG ρ (fe n0 Y).toNat C v x:=by
 have hX:∀s∈X,D s.idx->s.o.dst≠some p:=by
   intro s hs iR hd;rcases G.apart X r Y hR s hs with h|h
   .exact hD (G.as5 hp (by rw[hR];simp[hs]) iR h)
   .exact(Pz h).2 p hd hl
 rcases XA Y p v hv with⟨M,s,T,rfl,h3,rfl,h4⟩|⟨h3,h4⟩
 . have hR':R=(X++r::M)++s::T:=(by rw[hR];simp);have iR:D s.idx:=by
     rcases G.apart _ s T hR' r (by simp)with h|h
     .  exact aeN _ h
     .  exact absurd hl ((Pz h).1 p h3).1
   obtain⟨x,hx,XB⟩:=h1 (X++r::M) s T p hR' iR h3 (λs' rf MD=>by
     rcases Ze0.1 rf with h|h
     .  exact hX s' h MD
     .  rcases Za9.1 h with rfl|h
        .exact absurd MD hD
        .exact h4 s' h)
   refine⟨x,hx,XB.mono (λ_ _=>rfl) ?_⟩;have:=G.HP (X:=X++[r]) (Y:=M) (Z:=s::T) (by rw[hR];simp);exact this
 . obtain⟨x,hx,XB⟩:=h2 p v h3 (λs hs iR=>by
     rw[hR]at hs;rcases Ze0.1 hs with h|h
     .  exact hX s h iR
     .  rcases Za9.1 h with rfl|h
        .exact absurd iR hD
        .exact h4 s h)
   exact⟨x,hx,XB.mono (λ_ _=>rfl) (G.aml (X:=X++[r]) (by rw[hR];simp))⟩
theorem OG{a:Act}{d:Option Tmp}{x:Value}{p:Pos}(h:d.map key≠some p):(a.put d x).tmps[p.toNat - 1]? =a.tmps[p.toNat - 1]? :=by
 cases d with
 |none=>rfl
 |some e=>
  simp only[Act.put];rw[Zj9];intro he;apply h;simp only[Ze5,H5];apply Pos.toNat_inj;rw[iX];have:=p.toNat_pos;omega
theorem aqJ{a:Act}{d:Option Tmp}{x:Value}{p:Pos}(h:d.map key=some p)(hs:a.tmps.size=nt)(hd:∀e,d=some e->e<nt):(a.put d x).tmps[p.toNat - 1]? =some x:=by
 cases d with
 |none=>cases h
 |some e=>
  simp only[Ze5,H5]at h;subst h;simp only[Act.put];rw[iX,Zh8,Zp8];simp[hs,hd e rfl]
theorem amm(G:Du tt nt ops call dI h0 n0 R){D:Nat->Prop}{A B:List Rec}{a:Act}(hp:Pre nt ops R D A B a){ρ:Pos->Loc}(h1:T1 C R D ρ a.tmps)(h2:T0 C dI n0 R D ρ a.tmps)
   {X Y:List Rec} {r:Rec} (hR:R=X++r::Y) (hD:¬D r.idx) {o:Oper} (hrel:zM tt nt ops o r.o) {x:Value} (hv:aG ρ r.nx.toNat C r.v x):
   T1 C R (λi=>D i\/i=r.idx) ρ (a.put o.dst x).tmps/\T0 C dI n0 R (λi=>D i\/i=r.idx) ρ (a.put o.dst x).tmps:=by
 constructor
 . intro  M s T p hM iR hd n9;by_cases hi:s.idx=r.idx
   .obtain⟨_,rfl,_⟩:=MC G.one hM hR hi;rw[hrel.dst]at hd;exact⟨x,aqJ hd hp.size hrel.lt,hv⟩
   . have iR:=iR.resolve_right hi;by_cases XC:r.o.dst=some p
     .  exfalso;have hs:s∈R:=(by rw[hM];simp);rw[hR]at hs;rcases Ze0.1 hs with h|h
        . rcases G.apart X r Y hR s h with k|k
          .exact hD (G.as5 hp (by rw[hR];simp[h]) iR k)
          .exact((Pz k).1 p XC).2 hd
        . rcases Za9.1 h with rfl|h
          .exact hi rfl
          .obtain⟨Y1,Y2,rfl⟩:=pH h;have hR':R=(X++r::Y1)++s::Y2:=(by rw[hR];simp);obtain⟨hM',_,_⟩:=MC G.one hM hR' rfl;exact n9 r (by rw[hM'];simp) (.inr rfl) XC
     .  (rw[hrel.dst]at XC;obtain⟨y,hy,Xt⟩:=h1 M s T p hM iR hd λs' rf MD=>n9 s' rf (.inl MD));exact⟨y,by rw[OG XC];exact hy,Xt⟩
 . (intro p v hf n9;have hr:r.o.dst≠some p:=n9 r (by rw[hR];simp) (.inr rfl);rw[hrel.dst]at hr;obtain⟨y,hy,Xt⟩:=h2 p v hf λs hs iR=>n9 s hs (.inl iR));exact⟨y,by rw[OG hr];exact hy,Xt⟩
end
section
variable{P:Program}{tt:TT}{C:Cells}{nt:Nat}{ops:Array Oper}{call:aj}{dI:Fr}{h0:T AB}{n0:Pos}{R:List Rec}
theorem cN.congr{ρ ρ':Pos->Loc}{st:St}{w:World}(h:cN ρ C st w)(bM:∀b:Pos,b.toNat<st.next.toNat->ρ' b=ρ b):cN ρ' C st w where
 live b x hb:=by
  obtain⟨h1,h2,h3⟩:=h.live b x hb;rw[bM b h1];exact⟨h1,h2,h3.mono bM (Za5 _)⟩
 inj b b' x x' hb eO he:=by rw[bM b (h.live b x hb).1,bM b' (h.live b' x' eO).1]at he;exact h.inj b b' x x' hb eO he
 eP a v ha:=⟨(h.eP a v ha).1,λb x hb=>by rw[bM b (h.live b x hb).1];exact(h.eP a v ha).2 b x hb⟩
 whole:=h.whole
theorem qJ.congr{ρ kj ρ':Pos->Loc}{st st':St}{w w':World}(h:qJ ρ st w kj st' w')(bM:∀b x,st'.heap.get b=some x->ρ' b=kj b):qJ ρ st w ρ' st' w' where
 os:=h.os
 tape:=h.tape
 output:=h.output
 size:=h.size
 block:=h.block
 yH b x hb:=by rw[bM b x hb];exact h.yH b x hb
namespace Du
variable(G:Du tt nt ops call dI h0 n0 R)
include G
theorem same{r r':Rec}(h:r∈R)(h':r'∈R)(hi:r.idx=r'.idx):r=r':=by obtain⟨A,B,hA⟩:=pH h;obtain⟨A',B',Vj⟩:=pH h';exact(MC G.one hA Vj hi).2.1
theorem cmp{X Y X' Y':List Rec}{r r':Rec}(h1:R=X++r::Y)(h2:R=X'++r'::Y')(hi:r'.idx≠r.idx):
   (∃Z,Y'=Z++r::Y)\/(∃Z,Y=Z++r'::Y'):=by
 have h3:X++r::Y=X'++r'::Y':=h1.symm.trans h2;rcases List.append_eq_append_iff.1 h3 with⟨Z,hX,hZ⟩|⟨Z,hX,hZ⟩
 . cases Z with
   |nil=>simp at hZ;exact absurd (by rw[hZ.1]) hi
   |cons z Z=>simp at hZ;exact .inr ⟨Z,hZ.2⟩
 . cases Z with
   |nil=>simp at hZ;exact absurd (by rw[hZ.1]) hi
   |cons z Z=>simp at hZ;exact .inl ⟨Z,hZ.2⟩
theorem SX{X Y X' Z:List Rec}{r r':Rec}(h1:R=X++r::Y)(h2:R=X'++r'::(Z++r::Y)):r.nx.toNat<=(fe n0 (Z++r::Y)).toNat:=by have:=G.HP (X:=X'++[r']) (Y:=Z) (Z:=r::Y) (by rw[h2];simp);exact this
theorem Lu{X Y' Z:List Rec}{r r':Rec}(h1:R=X++r::(Z++r'::Y')):r'.nx.toNat<=(fe n0 (Z++r'::Y')).toNat:=by have:=G.HP (X:=X++[r]) (Y:=Z) (Z:=r'::Y') (by rw[h1];simp);exact this
theorem XD{X Y:List Rec}{r:Rec}(h:R=X++r::Y){id:Pos}{aT:AB}(hc:r.c= .new id aT):id=fe n0 Y/\r.nx=id.succ:=by
 have hs:=Good.at (h ▸G.ab2);cases hs<;>simp only at hc<;>first|(cases hc;done)|skip
 simp only[RC.new.injEq]at hc;obtain⟨rfl,_⟩:=hc;exact⟨rfl,rfl⟩
end Du
theorem Kept.up{D D':Nat->Prop}(h:∀i,D i->D' i){b:Pos}(hk:Kept n0 R D b):Kept n0 R D' b:=λA r B hR hD=>hk A r B hR λhd=>hD (h _ hd)
theorem Pre.next(G:Du tt nt ops call dI h0 n0 R){D:Nat->Prop}{A B:List Rec}{a:Act}(hp:Pre nt ops R D A B a){X Y:List Rec}{r:Rec}(hR:R=X++r::Y)
  (uQ:∀o e,ops[r.idx]? =some o->e∈o.after->Region.binds .any e=true->D e.on) (hc:r.c.qw=false) (d:Option Tmp) (x:Value):
  Pre nt ops R (λi=>D i\/i=r.idx) A B (a.put d x) where
 split:=hp.split
 bound:=hp.bound
 inB s hs:= .inl (hp.inB s hs)
 inA s hs hD:=by
  rcases hD with hD|hD
  .exact hp.inA s hs hD
  .rw[G.same (by rw[hp.split];simp[hs]) (by rw[hR];simp) hD];exact hc
 closed i o e hD ho he hb:=by
  rcases hD with hD|rfl
  .exact .inl (hp.closed i o e hD ho he hb)
  .exact .inl (uQ o e ho he hb)
 size:=by rw[Act.kB];exact hp.size
 defers:=by rw[Act.mM];exact hp.defers
theorem afQ(G:Du tt nt ops call dI h0 n0 R){oc:Pos->Loc}{w0:World}{D:Nat->Prop}{A B:List Rec}{ρ:Pos->Loc}{a:Act}{w:World}
  (hI:Inv C nt ops dI h0 n0 R oc w0 D A B ρ a w) {X Y:List Rec} {r:Rec} (hR:R=X++r::Y) (hD:¬D r.idx)
  (uQ:∀o e,ops[r.idx]? =some o->e∈o.after->Region.binds .any e=true->D e.on) {o:Oper} (hrel:zM tt nt ops o r.o) (hc:r.c= .pure) {x:Value}
  (hv:∀ρ',(∀b,Kept n0 R D b->ρ' b=ρ b)->aG ρ' r.nx.toNat C r.v x):
  Inv C nt ops dI h0 n0 R oc w0 (λi=>D i\/i=r.idx) A B ρ (a.put o.dst x) w:=by
 obtain⟨hp,hI⟩:=hI;refine⟨hp.next G hR uQ (by rw[hc];rfl) _ _,λρ' Gj=> ?_⟩;have hf:∀b,Kept n0 R D b->ρ' b=ρ b:=λb hb=>Gj b (hb.up λ_ h=>.inl h)
 have h:=hI ρ' hf;have hnr:∀s∈A,(D s.idx\/s.idx=r.idx)->∀id aT,s.c= .new id aT->D s.idx:=λs hs iR id aT fB=>by
  rcases iR with iR|iR
  .exact iR
  .rw[G.same (by rw[hp.split];simp[hs]) (by rw[hR];simp) iR,hc]at fB;cases fB
 obtain⟨k1,k2⟩:=amm G hp h.t1 h.t0 hR hD hrel (hv ρ' hf);exact⟨h.W,λs hs iR id aT fB=>h.N s hs (hnr s hs iR id aT fB) id aT fB,
  λs hs iR id aT fB s' rf MD ye Jo uf=>h.N2 s hs (hnr s hs iR id aT fB) id aT fB s' rf (hnr s' rf MD ye Jo uf) ye Jo uf,k1,k2,h.E,h.agree⟩
theorem cN.grow{ρ:Pos->Loc}{st:St}{w w':World}(h:cN ρ C st w)(hs:w.heap.size<=w'.heap.size)(hb:∀k,k<w.heap.size->w'.heap[k]? =w.heap[k]?):cN ρ C st w' where
 live b x hx:=let⟨h1,h2,h3⟩:=h.live b x hx;⟨h1,Zd0 h2 hs,h3.of_heap (hb _ h2)⟩
 inj:=h.inj
 eP a v ha:=by
  obtain⟨h1,h2⟩:=h.eP a v ha;exact⟨by rw[World.cell?_of_block (w:=w) (hb _ (World.block_lt_of_cell? _ _ h1))];exact h1,h2⟩
 whole a v ha o ho:=by have vH:a.block<w.heap.size:=World.block_lt_of_cell? _ _ (h.eP a v ha).1;rw[World.cell?_of_block (w:=w) (a:=⟨a.block,o,none⟩) (hb _ vH)];exact h.whole a v ha o ho
theorem aqK(G:Du tt nt ops call dI h0 n0 R){oc:Pos->Loc}{w0:World}{D:Nat->Prop}{A B:List Rec}{ρ:Pos->Loc}{a:Act}{w w':World}
   (hI:Inv C nt ops dI h0 n0 R oc w0 D A B ρ a w) {X Y:List Rec} {r:Rec} (hR:R=X++r::Y) (hD:¬D r.idx)
   (uQ:∀o e,ops[r.idx]? =some o->e∈o.after->Region.binds .any e=true->D e.on) {o:Oper} (hrel:zM tt nt ops o r.o) {id:Pos} {aT:AB} (hc:r.c= .new id aT) {x:Value} {L:Loc}
   (hL:w.heap.size<=L.aT) (hL':L.aT<w'.heap.size) (hos:w'.os=w.os) (awk:w'.tape=w.tape) (hout:w'.output=w.output) (aqL:∀k,k<w.heap.size->w'.heap[k]? =w.heap[k]?)
   (hv:∀ρ',(∀b,Kept n0 R D b->ρ' b=ρ b)->ρ' id=L->aG ρ' r.nx.toNat C r.v x/\ud ρ' r.nx.toNat C L w' aT):
   Inv C nt ops dI h0 n0 R oc w0 (λi=>D i\/i=r.idx) A B (λb=>if b=id then L else ρ b) (a.put o.dst x) w':=by
 obtain⟨hp,hI⟩:=hI;have hrA:r∈A:=by
   have:r∈R:=(by rw[hR];simp);rw[hp.split]at this;exact(Ze0.1 this).resolve_right λh=>hD (hp.inB r h)
 obtain⟨hid,XE⟩:=G.XD hR hc;have ic:w.heap.size<=w'.heap.size:=by omega
 refine⟨hp.next G hR uQ (by rw[hc];rfl) _ _,λρ' Gj=> ?_⟩;have hkid:Kept n0 R (λi=>D i\/i=r.idx) id:=by
   (intro A' r' B' Vj hD';have dP:r'.idx≠r.idx:=λe=>hD' (.inr e));rcases G.cmp hR Vj dP with⟨Z,rfl⟩|⟨Z,rfl⟩
   .left;have:=G.SX hR Vj;rw[XE,Pos.aH]at this;omega
   .right;have:=G.Lu hR;rw[hid];exact this
 have amn:ρ' id=L:=by rw[Gj id hkid];simp
 have hf:∀b,Kept n0 R D b->ρ' b=ρ b:=λb hb=>by
   have dP:b≠id:=by
     rintro rfl;rcases hb X r Y hR hD with h|h
     .  rw[hid]at h;omega
     .  rw[XE,Pos.aH]at h;omega
   rw[Gj b (hb.up λ_ h=>.inl h)];exact Za7 dP
 have h:=hI ρ' hf;obtain⟨hv1,QH⟩:=hv ρ' hf amn;obtain⟨k1,k2⟩:=amm G hp h.t1 h.t0 hR hD hrel hv1;have ahq:∀s∈A,(D s.idx\/s.idx=r.idx)->D s.idx\/s=r:=λs hs iR=>iR.imp (λh=>h) λiR=>G.same (by rw[hp.split];simp[hs]) (by rw[hR];simp) iR
 refine⟨h.W.grow ic aqL,λs hs iR ye Jo fB=> ?_,λs hs iR ye Jo fB s' rf MD id'' as6 uf dP=> ?_,k1,k2,?_,h.agree⟩
 . rcases ahq s hs iR with iR|rfl
   .obtain⟨g1,g2,g3,g4,g5⟩:=h.N s hs iR ye Jo fB;exact⟨g1.of_heap (aqL _ g2),by omega,g3,g4,g5⟩
   . rw[hc]at fB;simp only[RC.new.injEq]at fB;obtain⟨rfl,rfl⟩:=fB;rw[amn];refine⟨QH,hL',Zb2 h.E.size hL,λb x hb e=> ?_,λad v ha e=> ?_⟩
     .  have:=(h.W.live b x hb).2.1;omega
     .  have:=World.block_lt_of_cell? _ _ (h.W.eP ad v ha).1;omega
 . rcases ahq s hs iR with hDk|rfl
   . rcases ahq s' rf MD with aqM|rfl
     .  exact h.N2 s hs hDk ye Jo fB s' rf aqM id'' as6 uf dP
     .  rw[hc]at uf;simp only[RC.new.injEq]at uf;obtain⟨rfl,rfl⟩:=uf;have:=(h.N s hs hDk ye Jo fB).2.1;rw[amn];omega
   . rw[hc]at fB;simp only[RC.new.injEq]at fB;obtain⟨rfl,rfl⟩:=fB;rcases ahq s' rf MD with aqM|rfl
     .  have:=(h.N s' rf aqM id'' as6 uf).2.1;rw[amn];omega
     .  rw[hc]at uf;simp only[RC.new.injEq]at uf;exact absurd uf.1 dP
 .exact⟨hos.trans h.E.os,awk.trans h.E.tape,hout.trans h.E.output,Zb2 h.E.size ic,λk hk hn=>by rw[aqL k (Zd0 hk h.E.size)];exact h.E.block k hk hn,h.E.yH⟩
theorem amo(G:Du tt nt ops call dI h0 n0 R){oc:Pos->Loc}{w0:World}{D:Nat->Prop}{A B:List Rec}{ρ:Pos->Loc}{a:Act}{w:World}
  (h:Inv0 C dI h0 n0 R oc w0 D A B ρ a w) (avn:R=A++B) {hp:T AB} {N:Pos} (hN:(fe n0 B).toNat<=N.toNat)
  (yP:∀b x,hp.get b=some x->(lZ h0 B).get b=some x\/∃s∈A,D s.idx/\s.c= .new b x/\s.nx.toNat<=N.toNat):cN ρ C { heap:=hp,next:=N } w where
 live b x hb:=by
  rcases yP b x hb with h1|⟨s,hs,hD,hc,hn⟩
  .  obtain⟨g1,g2,g3⟩:=h.W.live b x h1;exact⟨Zd0 g1 hN,g2,g3.mono (λ_ _=>rfl) hN⟩
  .  obtain⟨g1,g2,_⟩:=h.N s hs hD b x hc;obtain⟨M,T,hM⟩:=pH (r:=s) (R:=R) (by rw[avn];simp[hs]);obtain⟨_,e⟩:=G.XD hM hc;rw[e]at hn;refine⟨?_,g2,g1.mono (λ_ _=>rfl) (by rw[e];exact hn)⟩;rw[Pos.aH]at hn;exact hn
 inj b  b' x x' hb eO he:=by
  rcases yP b x hb with h1|⟨s,hs,hD,hc,hn⟩
  .  rcases yP b' x' eO with h1'|⟨s',rf,hD',hc',hn'⟩
     .  exact h.W.inj b b' x x' h1 h1' he
     .  exact absurd he ((h.N s' rf hD' b' x' hc').2.2.2.1 b x h1)
  .  rcases yP b' x' eO with h1'|⟨s',rf,hD',hc',hn'⟩
     .  exact absurd he.symm ((h.N s hs hD b x hc).2.2.2.1 b' x' h1')
     .  by_cases e:b=b'
        .exact e
        .exact absurd he (h.N2 s hs hD b x hc s' rf hD' b' x' hc' e)
 eP ad v ha:=⟨(h.W.eP ad v ha).1,λb x hb=>by
  rcases yP b x hb with h1|⟨s,hs,hD,hc,hn⟩
  .  exact(h.W.eP ad v ha).2 b x h1
  .  exact(h.N s hs hD b x hc).2.2.2.2 ad v ha⟩
 whole:=h.W.whole
theorem Dv:∀{Z B:List Rec}{b:Pos}{x:AB},(∀r∈Z,r.c.qw=false)->OD B->(l9 h0 (Z++B)).get b=some x->
  (lZ h0 B).get b=some x\/∃s∈Z,s.c= .new b x
 |[],B,b,x,_,hB,h=>by
  cases B with
  |nil=>exact .inl h
  | cons r B=>
    simp only[OD]at hB;(cases hc:r.c<;>rw[hc]at hB<;>first|(cases hB;done)|skip);simp only[Ze2,l9,hc]at h;simp only[lZ,hc];exact .inl h
 |r ::Z,B,b,x,hZ,hB,h=>by
  have ih:=@Dv Z B b x (λs hs=>hZ s (Zb0 _ hs)) hB;have hr:=hZ r (Zd6 ..);simp only[Zd8,l9]at h;cases hc:r.c with
  |pure=>rw[hc]at h;exact(ih h).imp (λh=>h) λ⟨s,h1,h2⟩=>⟨s,Zb0 _ h1,h2⟩
  |br _ _=>rw[hc]at hr;cases hr
  | new id aT=>
    rw[hc]at h;by_cases e:id=b
    .   subst e;rw[T.gQ]at h;simp only[H5]at h;subst h;exact .inr ⟨r,Zd6 ..,hc⟩
    .   rw[T.cJ _ e]at h;exact(ih h).imp (λh=>h) λ⟨s,h1,h2⟩=>⟨s,Zb0 _ h1,h2⟩
end
section
variable{P:Program}{tt:TT}{C:Cells}{nt:Nat}{ops:Array Oper}{call:aj}{dI:Fr}{h0:T AB}{n0:Pos}{R:List Rec}
theorem around(G:Du tt nt ops call dI h0 n0 R){D:Nat->Prop}{A B:List Rec}{a:Act}(hp:Pre nt ops R D A B a){X Y:List Rec}{r:Rec}(hR:R=X++r::Y)(hD:¬D r.idx):
  ∃Z,A=X++r::Z/\Y=Z++B:=by
 have hrA:r∈A:=by
  have:r∈R:=by rw[hR];simp
  rw[hp.split]at this;exact(Ze0.1 this).resolve_right λh=>hD (hp.inB r h)
 obtain⟨X',Z,hA⟩:=pH hrA;have h2:R=X'++r::(Z++B):=by rw[hp.split,hA];simp
 obtain⟨rfl,_,rfl⟩:=MC G.one hR h2 rfl;exact⟨Z,hA,rfl⟩
theorem aqN(G:Du tt nt ops call dI h0 n0 R){oc:Pos->Loc}{w0:World}{D:Nat->Prop}{A B:List Rec}{ρ:Pos->Loc}{a:Act}{w w':World}
   (hI:Inv C nt ops dI h0 n0 R oc w0 D A B ρ a w) {X Y:List Rec} {r:Rec} (hR:R=X++r::Y) (hD:¬D r.idx)
   (uQ:∀o e,ops[r.idx]? =some o->e∈o.after->Region.binds .any e=true->D e.on) {o:Oper} (hrel:zM tt nt ops o r.o)
   (hY:∀s∈Y,D s.idx) {st':St} {b0:T AB} (hc:r.c= .br b0 st'.heap) (XE:r.nx=st'.next) {x:Value}
   (amq:oE ρ C { heap:=l9 h0 Y,next:=fe n0 Y } w r.v st' x w'):
   ∃vD,Inv C nt ops dI h0 n0 R oc w0 (λi=>D i\/i=r.idx) X (r::Y) vD (a.put o.dst x) w':=by
 obtain⟨hp,hI⟩:=hI;obtain⟨kj,hv,hρ1,hle,hW1,hE1⟩:=amq;simp only at hρ1 hle;obtain⟨Z,hA,rfl⟩:=around G hp hR hD;have hZ:∀s∈Z,s.c.qw=false:=λs hs=>hp.inA s (by rw[hA];simp[hs]) (hY s (by simp[hs]))
 have hXA:∀s∈X,s∈A:=λs hs=>by rw[hA];simp[hs]
 have hXD:∀s∈X,(D s.idx\/s.idx=r.idx)->D s.idx:=λs hs h=>h.resolve_right (G.later hR hs)
 have hnB:(fe n0 B).toNat<=(fe n0 (Z++B)).toNat:=G.HP (X:=X++[r]) (by rw[hR];simp)
 let vD:Pos->Loc:=λb=>if(fe n0 (Z++B)).toNat<=b.toNat/\b.toNat<r.nx.toNat then kj b else ρ b
 have ah2:∀b:Pos,b.toNat<(fe n0 (Z++B)).toNat->Kept n0 R D b:=by
   intro b hb M s T hM iR;left;by_cases hi:s.idx=r.idx
   .obtain⟨_,_,rfl⟩:=MC G.one hM hR hi;exact hb
   . rcases G.cmp hR hM hi with⟨W,rfl⟩|⟨W,hW⟩
     .  have:=G.SX hR hM;have:=G.as4 hR;omega
     .  exact absurd (hY s (by rw[hW];simp)) iR
 refine⟨vD,⟨by rw[hR],by simp[OD,hc,RC.qw],?_,?_,?_,by rw[Act.kB];exact hp.size,by rw[Act.mM];exact hp.defers⟩,λρ' Gj=> ?_⟩
 . intro s hs;rcases Za9.1 hs with rfl|hs
   .exact .inr rfl
   .exact .inl (hY s hs)
 .intro s hs iR;exact hp.inA s (hXA s hs) (hXD s hs iR)
 . intro i o' e hDi ho he hb;rcases hDi with hDi|rfl
   .exact .inl (hp.closed i o' e hDi ho he hb)
   .exact .inl (uQ o' e ho he hb)
 have awl:∀b:Pos,b.toNat<r.nx.toNat->Kept n0 R (λi=>D i\/i=r.idx) b:=by
   (intro b hb M s T hM iR;left;have hi:s.idx≠r.idx:=λe=>iR (.inr e));rcases G.cmp hR hM hi with⟨W,rfl⟩|⟨W,hW⟩
   .exact Zd0 hb (G.SX hR hM)
   .exact absurd (.inl (hY s (by rw[hW];simp))) iR
 have hf:∀b,Kept n0 R D b->ρ' b=ρ b:=λb hb=>by rw[Gj b (hb.up λ_ h=>.inl h)];refine Za7 ?_;rintro⟨g1,g2⟩;rcases hb X r _ hR hD with h|h<;>omega
 have h:=hI ρ' hf;have h12:∀b:Pos,b.toNat<r.nx.toNat->ρ' b=kj b:=by
   intro b hb;rcases Zj3 b.toNat (fe n0 (Z++B)).toNat with g|g
   .rw[hf b (ah2 b g),hρ1 b g]
   .rw[Gj b (awl b hb)];exact Zb4 ⟨g,hb⟩
 have QL:aG ρ' r.nx.toNat C r.v x:=by
   rw[XE]at h12 ⊢;exact hv.mono h12 (Za5 _)
 have jD:cN ρ' C { heap:=st'.heap,next:=r.nx } w':=by rw[XE]at h12 ⊢;exact hW1.congr h12
 have hold:∀s∈X,D s.idx->∀id aT,s.c= .new id aT->∀b y,(l9 h0 (Z++B)).get b=some y->(ρ b).aT≠(ρ' id).aT:=by
   intro s hs iR id aT fB b y hb;obtain⟨g1,g2,g3,g4,g5⟩:=h.N s (hXA s hs) iR id aT fB;obtain⟨M,T,hM⟩:=pH (r:=s) (R:=R) (by rw[hR];simp[hs]);rcases Dv hZ hp.bound hb with hb|⟨s',rf,uf⟩
   .rw[<-hf b (ah2 b (Zd0 (h.W.live b y hb).1 hnB))];exact g4 b y hb
   . obtain⟨Z1,Z2,rfl⟩:=pH rf;have hM':R=(X++r::Z1)++s'::(Z2++B):=(by rw[hR];simp);obtain⟨e1,e2⟩:=G.XD hM' uf;obtain⟨e3,e4⟩:=G.XD hM fB;have hbn:b.toNat<(fe n0 ((Z1++s'::Z2)++B)).toNat:=(by have:=G.Lu (X:=X) (r:=r) (Z:=Z1) (r':=s') (Y':=Z2++B) (by rw[hR];simp);rw[e2,Pos.aH]at this;simp only[Zf0,Zd8];omega);have hsr:s.idx≠r.idx:=G.later hR hs;have hid:r.nx.toNat<=id.toNat:=by
        rcases G.cmp hR hM hsr with⟨W,rfl⟩|⟨W,hW⟩
        .rw[e3];exact G.SX hR hM
        .obtain⟨A1,A2,hX⟩:=pH hs;have hM2:R=A1++s::(A2++r::((Z1++s'::Z2)++B)):=(by rw[hR,hX];simp);have yL:s∈(Z1++s'::Z2)++B:=(by rw[hW];simp);exact absurd rfl (G.one A1 s _ hM2 s (Ze0.2 (.inr (Zb0 _ yL))))
     have dP:b≠id:=(by rintro rfl;have:=G.as4 hR;omega);rw[<-hf b (ah2 b hbn)];exact h.N2 s' (by rw[hA];simp) (hY s' (by simp)) b y uf s (hXA s hs) iR id aT fB dP
 have hEa:qJ oc { heap:=h0,next:=n0 } w0 ρ { heap:=l9 h0 (Z++B),next:=fe n0 (Z++B) } w:=by
   refine⟨h.E.os,h.E.tape,h.E.output,h.E.size,h.E.block,λb y hb=> ?_⟩;rcases Dv hZ hp.bound hb with hb|⟨s',rf,uf⟩
   .rw[<-hf b (ah2 b (Zd0 (h.W.live b y hb).1 hnB))];exact h.E.yH b y hb
   .obtain⟨Z1,Z2,rfl⟩:=pH rf;have hM':R=(X++r::Z1)++s'::(Z2++B):=(by rw[hR];simp);obtain⟨e1,e2⟩:=G.XD hM' uf;have hbn:b.toNat<(fe n0 ((Z1++s'::Z2)++B)).toNat:=(by have:=G.Lu (X:=X) (r:=r) (Z:=Z1) (r':=s') (Y':=Z2++B) (by rw[hR];simp);rw[e2,Pos.aH]at this;simp only[Zf0,Zd8];omega);rw[<-hf b (ah2 b hbn)];exact .inr (h.N s' (by rw[hA];simp) (hY s' (by simp)) b y uf).2.2.1
 obtain⟨k1,k2⟩:=amm G hp h.t1 h.t0 hR hD hrel QL;refine⟨?_,λs hs iR id aT fB=> ?_,λs hs iR id aT fB s' rf MD ye Jo uf dP=> ?_,k1,k2,?_,h.agree⟩
 .simp only[lZ,hc,fe];exact jD
 . have iR:=hXD s hs iR;obtain⟨g1,g2,g3,g4,g5⟩:=h.N s (hXA s hs) iR id aT fB;refine⟨g1.of_heap (hE1.block _ g2 (hold s hs iR id aT fB)),Zd0 g2 hE1.size,g3,λb y hb=> ?_,g5⟩;simp only[lZ,hc]at hb;rw[h12 b (by rw[XE];exact(hW1.live b y hb).1)];rcases hE1.yH b y hb with⟨b',y',eO,e⟩|e
   .rw[<-e];exact hold s hs iR id aT fB b' y' eO
   .omega
 .exact h.N2 s (hXA s hs) (hXD s hs iR) id aT fB s' (hXA s' rf) (hXD s' rf MD) ye Jo uf dP
 . have:=(hEa.trans hE1).congr (ρ':=ρ') λb y hb=>h12 b (by rw[XE];exact(hW1.live b y hb).1)
   simp only[lZ,hc,fe];exact⟨this.os,this.tape,this.output,this.size,this.block,this.yH⟩
end
section
variable{P:Program}{tt:TT}{C:Cells}{nt:Nat}{ops:Array Oper}{call:aj}{dI:Fr}{h0:T AB}{n0:Pos}{R:List Rec}
theorem HQ{ρ:Pos->Loc}{n:Pos}{w:World}(hC:∀ad v,C ad=some v->w.cell? ad=some v)(hC2:∀a v,C a=some v->∀o,C ⟨a.block,o,none⟩=none->w.cell? ⟨a.block,o,none⟩=none):cN ρ C { heap:= .e,next:=n } w where
 live b x hb:=by rw[T.dZ]at hb;cases hb
 inj b b' x x' hb:=by rw[T.dZ]at hb;cases hb
 eP a v ha:=⟨hC a v ha,λb x hb=>by rw[T.dZ]at hb;cases hb⟩
 whole:=hC2
theorem Yields.eq{N:Next}{x y:Value}(h:Yields N x)(k:Yields N y):x=y:=by
 rcases h with rfl|⟨rfl,rfl⟩<;>rcases k with k|⟨k,rfl⟩
 .simp only[Next.value.injEq]at k;exact k
 .cases k
 .cases k
 .rfl
theorem aod(hT:dK P tt){o:Oper}{k:aJ}{xs:List iy}{cls:Cls}(hc:kD tt o.op=some (k,xs,cls)){n:Pos}{vs:List AV}{v:AV}{aT:AB}
  (hr:k.run (λ_=>none) n vs=some (.br v none none (some aT))) {fr:Fr} (hx:gu fr xs=some vs) {a:Act} {w:World} {Fam:(Pos->Loc)->Prop} {ρ:Pos->Loc} (bM:Fam ρ)
  (hF:∀ρ',Fam ρ'->lz ρ' n.toNat C fr a.tmps) (hC:∀ad v,C ad=some v->w.cell? ad=some v) (hC2:∀a v,C a=some v->∀o,C ⟨a.block,o,none⟩=none->w.cell? ⟨a.block,o,none⟩=none):
  ∃ N x w' L,(execOp a.eval o).run P w= .ok N w'/\Yields N x/\w.heap.size<=L.aT/\L.aT<w'.heap.size/\w'.os=w.os/\w'.tape=w.tape/\w'.output=w.output/\
    (∀k,k<w.heap.size->w'.heap[k]? =w.heap[k]?)/\∀ρ',Fam ρ'->ρ' n=L->aG ρ' n.succ.toNat C v x/\ud ρ' n.succ.toNat C L w' aT:=by
 have eu:k.run (λb=>T.get b (T.e:T AB)) n vs=some (.br v none none (some aT)):=by
  have e:(λb=>T.get b (T.e:T AB))=λ_=>none:=by funext b;exact T.dZ b
  rw[e];exact hr
 have H:=λρ' (hf:Fam ρ')=>ZS hT o.op ρ' C { heap:= .e,next:=n } w k xs cls fr a o vs _ rfl hc (HQ hC hC2) (hF ρ' hf) hx eu
 have key:∀ρ',Fam ρ'->∃N x w' kj,(execOp a.eval o).run P w= .ok N w'/\Yields N x/\(∀b:Pos,b.toNat<n.toNat->kj b=ρ' b)/\aG kj n.succ.toNat C v x/\
    ud kj n.succ.toNat C (kj n) w' aT/\w.heap.size<=(kj n).aT/\(kj n).aT<w'.heap.size/\w'.os=w.os/\w'.tape=w.tape/\w'.output=w.output/\
    (∀k,k<w.heap.size->w'.heap[k]? =w.heap[k]?):=by
  intro ρ' hf;obtain⟨N,x,w',kj,he,hy,h1,h2,h3,h4⟩:=H ρ' hf;have hg:(St.br { heap:= .e,next:=n } none none (some aT)).heap.get n=some aT:=T.gQ _ _ _;obtain⟨g1,g2,g3⟩:=h2.live n aT hg;refine⟨N,x,w',kj,he,hy,h1,h3,g3,?_,g2,h4.os,h4.tape,h4.output,λk hk=>h4.block k hk λb x hb=> ?_⟩
  . rcases h4.yH n aT hg with⟨b',x',eO,_⟩|h
    .   rw[T.dZ]at eO;cases eO
    .   exact h
  .rw[T.dZ]at hb;cases hb
 obtain⟨N,x,w',kj,he,hy,h1,h2,h3,h4,h5,h6,h7,h8,h9⟩:=key ρ bM;refine⟨N,x,w',kj n,he,hy,h4,h5,h6,h7,h8,h9,λρ' hf hL=> ?_⟩;obtain⟨N',x',w'',vD,sw,hy',k1,k2,k3,_⟩:=key ρ' hf;rw[he]at sw;simp only[Result.ok.injEq]at sw;obtain⟨rfl,rfl⟩:=sw;have hxx:=hy.eq hy';subst hxx;have as7:n.toNat<n.succ.toNat:=by rw[Pos.aH];omega
 have agree:(vD n).aT=(kj n).aT->(vD n).base=(kj n).base->(∃cs fz,aT= .cells cs fz)->aG ρ' n.succ.toNat C v x/\ud ρ' n.succ.toNat C (kj n) w' aT:=by
  intro e1 e2 Xq;have e3:(vD n).size=(kj n).size:=by
    obtain⟨cs,fz,rfl⟩:=Xq;obtain⟨c,e,fr,g1,g2,_⟩:=h3;obtain⟨c',e',bR,g1',g2',_⟩:=k3;rw[e1,g1]at g1';simp only[H5,Obj.cells.injEq]at g1';rw[<-g2, <-g2',g1'.1]
  have e4:vD n=kj n:=by
    cases hh:vD n;cases hh':kj n;rw[hh,hh']at e1 e2 e3;simp only at e1 e2 e3;rw[e1,e2,e3]
  have pR:∀b:Pos,b.toNat<n.succ.toNat->ρ' b=vD b:=by
    intro b hb;rcases Zj3 b.toNat n.toNat with g|g
    .   exact(k1 b g).symm
    .   have:b=n:=Pos.toNat_inj (by rw[Pos.aH]at hb;omega);subst this;rw[hL,e4]
  refine⟨k2.mono pR (Za5 _),?_⟩;rw[<-e4];exact k3.mono pR (Za5 _)
 cases atz hr with
 |ptr cs=>
  obtain⟨_,g1⟩:=h2.qR;obtain⟨_,g2⟩:=k2.qR;rw[g1]at g2;simp only[Value.pointer.injEq,H5,Addr.mk.injEq,Zg2,Zo0]at g2;exact agree g2.1.symm g2.2.symm ⟨cs,0,rfl⟩
 |slice len es cap cs fB=>
  obtain⟨ad,bG,g1,g2,g3,g4⟩:=h2.gU;obtain⟨ad',as8,g1',g2',g3',g4'⟩:=k2.gU;rw[g1]at g1';simp only[Value.slice.injEq,H5,Zs6]at g1';obtain⟨rfl,rfl⟩:=g1';by_cases h0:bG=0
  . subst h0;have hl0:len=0:=(by omega);have hcs0:cs=[]:=fB hl0 (by
        cases cap with
        |none=>exact .inl rfl
        |some c=>exact .inr (by rw[g3 c rfl]))
    subst hcs0;refine⟨?_,?_⟩
    .   rw[g1];exact .slice n 0 len cap es 0 ad g2 g3 (λh=>absurd rfl h) (λ_=>as7)
    .   obtain⟨c,e,fr,q1,q2,q3,q4,q5⟩:=h3;exact⟨c,e,fr,q1,q2,q3,aN.nil,q5⟩
  .obtain⟨_,a1,_⟩:=g4 h0;obtain⟨_,a2,_⟩:=g4' h0;rw[a1]at a2;simp only[Addr.mk.injEq,Zg2,Zo0]at a2;exact agree a2.1.symm a2.2.symm ⟨cs,0,rfl⟩
 |map=>
  obtain⟨_,g1⟩:=h2.Cy;refine⟨?_,?_⟩
  .rw[g1, <-hL];exact .map n as7
  .obtain⟨es',q1,q2,q3⟩:=h3;exact⟨es',q1,q2,λi e e' he=>by simp at he⟩
end
section
variable{P:Program}{tt:TT}{C:Cells}{nt:Nat}{ops:Array Oper}{call:aj}{dI:Fr}{h0:T AB}{n0:Pos}{R:List Rec}
def A5(fr:Fr):List Pos->Fr
 |[]=>.e
 |p::l=>(A5 fr l).put (fr.get p) p
theorem afR{fr:Fr}{p:Pos}:∀{l:List Pos},p∈l->(A5 fr l).get p=fr.get p
 |[],h=>by cases h
 |q ::l,h=>by
  simp only[A5];by_cases e:q=p
  .subst e;exact T.gQ _ _ _
  .rw[T.cJ _ e];exact afR ((Za9.1 h).resolve_left λh=>e h.symm)
theorem abc{fr:Fr}{p:Pos}{v:AV}:∀{l:List Pos},(A5 fr l).get p=some v->p∈l/\fr.get p=some v
 |[],h=>by simp only[A5]at h;rw[T.dZ]at h;cases h
 |q ::l,h=>by
  simp only[A5]at h;by_cases e:q=p
  .subst e;rw[T.gQ]at h;exact⟨by simp,h⟩
  .rw[T.cJ _ e]at h;obtain⟨h1,h2⟩:=abc h;exact⟨by simp[h1],h2⟩
theorem afS{fr:Fr}{l:List Pos}:∀{xs:List iy},(∀p,iy.t p∈xs->p∈l)->gu (A5 fr l) xs=gu fr xs
 |[],_=>rfl
 |x::xs,h=>by
  have h1:HD (A5 fr l) x=HD fr x:=by
   cases x with
   |t p=>exact afR (h p (by simp))
   |c v=>rfl
  simp only[gu,h1,afS λp hp=>h p (Zb0 _ hp)]
theorem aoe{o:b9}{p:Pos}(h:iy.t p∈o.xs):p∈o.looks:=by
 unfold b9.looks;exact List.mem_append_right _ (List.mem_filterMap.2 ⟨_,h,rfl⟩)
theorem akq{o:b9}{p:Pos}{q:Bool}(h:o.guard=some (p,q)):p∈o.looks:=by unfold b9.looks;rw[h];simp
theorem Yields.upon{o:Oper}{a:Act}{K:Act->World->Prop}{Q:Exit->Act->World->Prop}{N:Next}{x:Value}{w:World}(h:Yields N x)(hk:K (a.put o.dst x) w):o.upon P a K Q (.ok N w):=by rcases h with rfl|⟨rfl,rfl⟩<;>exact hk
theorem aqO(hT:dK P tt)(dF:jq P C call)(G:Du tt nt ops call dI h0 n0 R){Q:Exit->Act->World->Prop}{oc:Pos->Loc}{w0:World}{D:Nat->Prop}{A B:List Rec}{ρ:Pos->Loc}{a:Act}{w:World}
  (hI:Inv C nt ops dI h0 n0 R oc w0 D A B ρ a w) {i:Nat} (hi:i<ops.size) (hD:¬D i)
  (uQ:∀o e,ops[i]? =some o->e∈o.after->Region.binds .any e=true->D e.on):
  wpOp P ops Q i (λa' w'=>∃A' B' ρ',Inv C nt ops dI h0 n0 R oc w0 (λj=>D j\/j=i) A' B' ρ' a' w') a w:=by
 obtain⟨r,hr,rfl⟩:=G.all i hi;obtain⟨X,Y,hR⟩:=pH hr;obtain⟨o,ho,hrel,hB⟩:=G.rel r hr;have hp:=hI.1;have aeN:∀b,r.o.cK.testBit b=true->D b:=λb hb=>G.ads hp.closed (hB.2 b hb) uQ
 obtain⟨Z,hA,hYZ⟩:=around G hp hR hD;have SY:∀ρ',(∀b,Kept n0 R D b->ρ' b=ρ b)->∀p v,p∈r.o.looks->(rj dI Y).get p=some v->∃x,a.tmps[p.toNat - 1]? =some x/\aG ρ' (fe n0 Y).toNat C v x:=
  λρ' hf p v hl hv=>look G hp (hI.2 ρ' hf).t1 (hI.2 ρ' hf).t0 hR hD aeN hl hv
 have hFR:∀ρ',(∀b,Kept n0 R D b->ρ' b=ρ b)->lz ρ' (fe n0 Y).toNat C (A5 (rj dI Y) r.o.looks) a.tmps:=λρ' hf p v hv=>
  let⟨h1,h2⟩:=abc hv;SY ρ' hf p v h1 h2
 have S6:∀b,Kept n0 R D b->ρ b=ρ b:=λ_ _=>rfl
 have hw:∀b,cX (rj dI Y) r.o.guard=some b->Region.wanted o (yielded ops a.tmps)=b:=λb hb=>
  Mz hrel.guard (λp v hv ⟨q,hq⟩=>SY ρ S6 p v (akq hq) hv) hb
 have hnZ:∀s∈Z,s.nx.toNat<=(fe n0 Y).toNat:=λs hs=>by obtain⟨Z1,Z2,rfl⟩:=pH hs;have:=G.Lu (X:=X) (r:=r) (Z:=Z1) (r':=s) (Y':=Z2++B) (by rw[hR,hYZ];simp);rw[hYZ];simp only[Zf0,Zd8];exact this
 have hnB:(fe n0 B).toNat<=(fe n0 Y).toNat:=by rw[hYZ];exact G.HP (X:=X++[r]) (by rw[hR,hYZ];simp)
 have hs:=Good.at (hR ▸G.ab2);have hex:∀xs,gu (rj dI Y) r.o.xs=some xs->gu (A5 (rj dI Y) r.o.looks) r.o.xs=some xs:=λxs hx=>by rw[afS λp hp=>aoe hp];exact hx
 unfold wpOp;simp only[ho];generalize hrr:r=r0 at*
 cases hs with
 |skip i' o' _ hw'=>
  rw[Za7 (by rw[hw _ hw'];simp)];exact⟨A,B,ρ,afQ G hI hR hD uQ hrel rfl λρ' _=>.afM⟩
 |pure i' o' v xs _ hw' hx hro=>
  rw[Zb4 (hw _ hw')];refine .inl ?_;rw[hYZ]at hro;obtain⟨h,yP,eu⟩:=hro Z B rfl hp.bound λs hs he=>by
    cases hb:o'.cK.testBit s.idx with
    |false=>rfl
    |   true=>
        have h1:=hp.inA s (by rw[hA];simp[hs]) (aeN _ hb);rw[h1]at he;cases he
  rcases hrel.op with hc|⟨hk,_⟩
  . have H:∀ρ',(∀b,Kept n0 R D b->ρ' b=ρ b)->∃N x,(execOp a.eval o).run P w= .ok N w/\Yields N x/\aG ρ' (fe n0 Y).toNat C v x:=by
        intro ρ' hf;have hW:=amo G (hI.2 ρ' hf) hp.split (hp:=h) hnB λb y hb=>(yP b y hb).imp (λh=>h) λ⟨s,h1,h2,h3⟩=>
          ⟨s,by rw[hA];simp[h1],aeN _ h3,h2,hnZ s h1⟩
        exact ZS hT o.op ρ' C _ w _ _ _ _ a o _ _ rfl hc hW (hFR ρ' hf) (hex xs hx) (aqH eu λ_ _ h=>h)
    obtain⟨N,x,he,hy,hv⟩:=H ρ S6;unfold Oper.wp;rw[he];refine hy.upon ⟨A,B,ρ,afQ G hI hR hD uQ hrel rfl λρ' hf=> ?_⟩;obtain⟨N',x',sw,hy',QL⟩:=H ρ' hf;rw[he]at sw;simp only[Result.ok.injEq,Zo0]at sw;subst sw;rw[hy.eq hy'];exact QL
  .rw[hk]at eu;cases eu
 |new   i' o' v aT xs _ hw' hx eu=>
  rw[Zb4 (hw _ hw')];refine .inl ?_;rcases hrel.op with hc|⟨hk,_⟩
  . obtain⟨N,x,w',L,he,hy,h1,h2,h3,h4,h5,h6,h7⟩:=aod hT hc eu (hex xs hx) (Fam:=λρ'=>∀b,Kept n0 R D b->ρ' b=ρ b) S6 hFR
        (λad v ha=>((hI.2 ρ S6).W.eP ad v ha).1) (hI.2 ρ S6).W.whole
    unfold Oper.wp;rw[he];exact hy.upon ⟨A,B,_,aqK G hI hR hD uQ hrel rfl h1 h2 h3 h4 h5 h6 h7⟩
  .rw[hk]at eu;cases eu
 |br i' o' v st' xs _ aqI hw' hx iQ=>
  rw[Zb4 (hw _ hw')];refine .inl ?_;rcases hrel.op with hc|⟨hk,_⟩
  . have hY:∀s∈Y,D s.idx:=λs hs=>aeN _ (G.br X _ Y hR aqI s hs)
    have hZ:∀s∈Z,s.c.qw=false:=λs hs=>hp.inA s (by rw[hA];simp[hs]) (hY s (by rw[hYZ];simp[hs]))
    have hW:cN ρ C { heap:=l9 h0 Y,next:=fe n0 Y } w:=amo G (hI.2 ρ S6) hp.split hnB λb y hb=>by
        rw[hYZ]at hb;rcases Dv hZ hp.bound hb with hb|⟨s,h1,h2⟩
        .exact .inl hb
        .exact .inr ⟨s,by rw[hA];simp[h1],hY s (by rw[hYZ];simp[h1]),h2,hnZ s h1⟩
    have hre:=aa9 hT dF hc hW (hFR ρ S6) (hex xs hx) iQ;(refine hre.upon λx w' amq=> ?_);obtain⟨vD,h⟩:=aqN G hI hR hD uQ hrel hY rfl rfl amq;exact⟨_,_,vD,h⟩
  .exact(Reaches.bad hk iQ).elim
end
section
variable{P:Program}{tt:TT}{C:Cells}{nt:Nat}{ops:Array Oper}{call:aj}{dI:Fr}{h0:T AB}{n0:Pos}{R:List Rec}
theorem afT(G:Du tt nt ops call dI h0 n0 R){oc:Pos->Loc}{w0:World}{D:Nat->Prop}{A B:List Rec}{ρ:Pos->Loc}{a:Act}{w:World}
   (hI:Inv C nt ops dI h0 n0 R oc w0 D A B ρ a w) (pR:∀r∈R,D r.idx):kY nt oc C { heap:=h0,next:=n0 } w0 (rj dI R) { heap:=l9 h0 R,next:=fe n0 R } a w:=by
 obtain⟨hp,hI⟩:=hI;have h:=hI ρ λ_ _=>rfl
 have hZ:∀s∈A,s.c.qw=false:=λs hs=>hp.inA s hs (pR s (by rw[hp.split];simp[hs]))
 have hnA:∀s∈A,s.nx.toNat<=(fe n0 R).toNat:=λs hs=>by obtain⟨Z1,Z2,hA⟩:=pH hs;have:=G.HP (X:=[]) (Y:=Z1) (Z:=s::(Z2++B)) (by rw[hp.split,hA];simp);have e:R=Z1++s::(Z2++B):=(by rw[hp.split,hA];simp);rw[<-e]at this;exact this
 have hnB:(fe n0 B).toNat<=(fe n0 R).toNat:=by
   have:=G.HP (X:=[]) (Y:=A) (Z:=B) (by rw[hp.split];simp)
   rwa [<-hp.split]at this
 have QV:n0.toNat<=(fe n0 R).toNat:=G.aml (X:=[]) rfl;have yP:∀b x,(l9 h0 R).get b=some x->(lZ h0 B).get b=some x\/∃s∈A,D s.idx/\s.c= .new b x/\s.nx.toNat<=(fe n0 R).toNat:=λb x hb=>by
   rw[hp.split]at hb;rcases Dv hZ hp.bound hb with hb|⟨s,h1,h2⟩
   .exact .inl hb
   .exact .inr ⟨s,h1,pR s (by rw[hp.split];simp[h1]),h2,hnA s h1⟩
 refine⟨ρ,⟨amo G h hp.split hnB yP,?_,hp.size,hp.defers⟩,h.agree,QV,?_⟩
 . intro p v hv;rcases XA R p v hv with⟨M,s,T,hM,h2,rfl,h3⟩|⟨h1,h2⟩
   . obtain⟨x,hx,XB⟩:=h.t1 M s T p hM (pR s (by rw[hM];simp)) h2 λs' rf _=>h3 s' rf
     refine⟨x,hx,XB.mono (λ_ _=>rfl) ?_⟩;have:=G.HP (X:=[]) (Y:=M) (Z:=s::T) (by rw[hM];simp);rw[<-hM]at this;exact this
   . obtain⟨x,hx,XB⟩:=h.t0 p v h1 λs hs _=>h2 s hs
     exact⟨x,hx,XB.mono (λ_ _=>rfl) QV⟩
 . refine⟨h.E.os,h.E.tape,h.E.output,h.E.size,h.E.block,λb x hb=> ?_⟩;rcases yP b x hb with hb|⟨s,h1,h2,h3,_⟩
   .exact h.E.yH b x hb
   .exact .inr (h.N s h1 h2 b x h3).2.2.1
def DL(listed:Array Bool)(j:Nat):Prop:=listed.getD j false=true
theorem aof{listed:Array Bool}{i:Nat}(hi:i<listed.size):(λj=>DL listed j\/j=i)=DL (listed.setIfInBounds i true):=by
 funext j;apply propext;unfold DL;by_cases h:j=i
 .subst h;simp[hi]
 .rw[getD_set_ne false (Ne.symm h)];simp[h]
theorem ah3{listed:Array Bool}{j:Nat}(h:listed.getD j true=false):¬DL listed j:=by
 unfold DL;intro h';rcases Zj3 j listed.size with hj|hj
 .simp[hj]at h h';rw[h]at h';cases h'
 .simp[Array.getElem?_eq_none hj]at h'
theorem atB{listed:Array Bool}{j:Nat}(hj:j<listed.size)(h:¬DL listed j):listed.getD j true=false:=by unfold DL at h;simp[hj]at h ⊢; exact h
theorem XF(G:Du tt nt ops call dI h0 n0 R){listed:Array Bool}(hs:listed.size=ops.size)(hr:Region.ready .any ops listed=[]):∀(Y X:List Rec),R=X++Y->∀r∈Y,DL listed r.idx
 |[],_,_,r,oa=>by cases oa
 |r ::Y  ,X,hR,r',oa=>by
  have ih:=XF G hs hr Y (X++[r]) (by rw[hR];simp);rcases Za9.1 oa with rfl|oa
  . obtain⟨o,ho,_,hB⟩:=G.rel r' (by rw[hR];simp);have aW:r'.idx<ops.size:=(Zd5.1 ho).1;by_cases h:DL listed r'.idx
    .   exact h
    .   exfalso;have:r'.idx∈Region.ready .any ops listed:=mem_ready.2 ⟨atB (by omega) h,o,ho,λe he hb=>by obtain⟨s,h1,h2⟩:=G.cK X r' Y hR _ (hB.1 o ho e he hb);have:=ih s h1;rw[h2]at this;exact this⟩;rw[hr]at this;cases this
  .exact ih r' oa
theorem afU(hT:dK P tt)(dF:jq P C call)(G:Du tt nt ops call dI h0 n0 R){Q:Exit->Act->World->Prop}{oc:Pos->Loc}{w0:World}
  (hQ:∀a' w',kY nt oc C { heap:=h0,next:=n0 } w0 (rj dI R) { heap:=l9 h0 R,next:=fe n0 R } a' w'->Q .normal a' w'):
  ∀ (fuel:Nat)(listed:Array Bool)(U:List Nat)(A B:List Rec)(ρ:Pos->Loc)(a:Act)(w:World),listed.size=ops.size->U.length<=fuel->U.Nodup->(∀j,j<ops.size->¬DL listed j->j∈U)->
    Inv C nt ops dI h0 n0 R oc w0 (DL listed) A B ρ a w->wpAny P .any ops Q fuel listed a w
 |0,listed,U,A,B,ρ,a,w,hs,hU,_,hm,hI=>by
  have hU0:U=[]:=Zc4 (by omega);subst hU0;have hr:Region.ready .any ops listed=[]:=by
    cases h:Region.ready .any ops listed with
    |nil=>rfl
    |   cons i l=>
        have hi:i∈Region.ready .any ops listed:=(by rw[h];simp);obtain⟨h1,o,ho,_⟩:=mem_ready.1 hi;have:=hm i (Zd5.1 ho).1 (ah3 h1);cases this
  exact⟨hr,hQ a w (afT G hI (XF G hs hr R [] rfl))⟩
 |fuel+1,listed,U,A,B,ρ,a,w,hs,hU,hnd,hm,hI=>by
  refine⟨λhr=>hQ a w (afT G hI (XF G hs hr R [] rfl)),λi hi=> ?_⟩;obtain⟨h1,o,ho,h2⟩:=mem_ready.1 hi;have aW:i<ops.size:=(Zd5.1 ho).1;have iQ:=aqO (Q:=Q) hT dF G hI aW (ah3 h1) λo' e OB he hb=>by rw[ho]at OB;simp only[H5]at OB;subst OB;exact h2 e he hb
  refine wpOp_mono (λa' w' hh=> ?_) iQ;obtain⟨A',B',ρ',hI'⟩:=hh;rw[aof (by omega)]at hI';have hiU:i∈U:=hm i aW (ah3 h1);refine afU hT dF G hQ fuel _ (U.erase i) A' B' ρ' a' w' (by simp[hs]) ?_ (hnd.erase i) (λj hj hD=> ?_) hI'
  .rw[List.length_erase_of_mem hiU];omega
  . (rw[<-aof (by omega)]at hD;have dP:j≠i:=λe=>hD (.inr e));exact(List.mem_erase_of_ne dP).2 (hm j hj λh=>hD (.inl h))
theorem S7(hm:P.follows .mixedOrders=true)(hT:dK P tt)(dF:jq P C call)(amr:pS call):yN P tt C call:=by
 intro nt id ops l Q fr bR st st' ρ a w hl cF h hS hQ;obtain⟨R,hG,hmap,Ft,awm,XE⟩:=adr (call:=call) (dI:=fr) (h0:=st.heap) (n0:=st.next) _ [] fr bR st st' h trivial rfl rfl rfl;simp only[Zd7]at hG Ft awm XE;have hst':st'={ heap:=l9 st.heap R,next:=fe st.next R }:=by cases st';simp_all
 have hlen:l.length=ops.size:=by rw[(xE hl).1,Zj1]
 have adt:=abb _ 0 [] cF λb=>by simp
 have hL:BF (Mq 0 l) []=(R.map λr=>(r.idx,r.o)).reverse:=by rw[hmap,List.reverse_reverse]
 have dec:∀{A B:List Rec}{r:Rec},R=A++r::B->BF (Mq 0 l) []=(B.map λr=>(r.idx,r.o)).reverse++(r.idx,r.o)::(A.map λr=>(r.idx,r.o)).reverse:=λe=>by rw[hL,e];simp
 have yQ:∀{B:List Rec}{i:Nat},i∈((B.map λr=>(r.idx,r.o)).reverse).map (·.1)↔ ∃r∈B,r.idx=i:=λ{B i}=>by simp
 have G:Du tt nt ops call fr st.heap st.next R:=by
   refine⟨hG,amr,λA r B e r' oa hi=> ?_,λA r B e b hb=> ?_,λA r B e hc r' oa=> ?_,λA r B e r' oa=> ?_,λr hr=> ?_,λi hi=> ?_⟩
   .exact(adt.one _ _ _ _ (dec e)).2 (yQ.2 ⟨r',oa,hi⟩)
   . rcases adt.cK _ _ _ _ (dec e) b hb with h|h
     .cases h
     .exact yQ.1 h
   .exact adt.br _ _ _ _ (dec e) hc _ (.inr (yQ.2 ⟨r',oa,rfl⟩))
   .exact adt.apart _ _ _ _ (dec e) (r'.idx,r'.o) (by simp;exact⟨r',oa,rfl,rfl⟩)
   .obtain⟨A,B,e⟩:=pH hr;have hx:(r.idx,r.o)∈BF (Mq 0 l) []:=(by rw[dec e];simp);have h1:=atA hx;obtain⟨o,h2,h3,h4⟩:=SM hl _ _ h1;refine⟨o,h2,h3,?_⟩;rw[h4];exact ak3 ops.toList [] rfl (Zi6 _) (λi hi=>by simp at hi) _ (Zd5.1 h2).1
   . rcases adt.all i (by rw[hlen];exact hi)with h|h
     .cases h
     .rw[hL]at h;exact yQ.1 h
 refine wp_region_any hm ?_;rw[hst',Ft]at hQ;have hkn:∀b:Pos,b.toNat<st.next.toNat->∀D,Kept st.next R D b:=λb hb D A r B e _=>.inl (Zd0 hb (G.aml (X:=A++[r]) (by rw[e];simp)))
 refine afU (Q:=Q) (oc:=ρ) (w0:=w) hT dF G hQ ops.size _ (List.range ops.size) R [] ρ a _ (by simp) (by simp) List.nodup_range (λj hj _=>Zi0.2 hj) ?_;have n9:∀j,¬DL (Array.replicate ops.size false) j:=λj h=>by
   unfold DL at h;rcases Zj3 j ops.size with hj|hj
   .simp[hj]at h
   .simp[Nat.not_lt.2 hj]at h
 refine⟨⟨by simp,trivial,(λr hr=>by cases hr),λr _ hD=>absurd hD (n9 _),λi _ _ hD=>absurd hD (n9 _),hS.size,hS.defers⟩,λρ' Gj=> ?_⟩;have yf:∀b:Pos,b.toNat<st.next.toNat->ρ' b=ρ b:=λb hb=>Gj b (hkn b hb _)
 have hW:cN ρ' C st { w with drawn:=w.drawn+1 }:=(hS.W.congr yf).grow (Za5 _) λ_ _=>rfl
 refine⟨hW,λr _ hD=>absurd hD (n9 _),λr _ hD=>absurd hD (n9 _),λM s T p _ hD=>absurd hD (n9 _),λp v hv _=> ?_,⟨rfl,rfl,rfl,Za5 _,λ_ _ _=>rfl,λb x hb=>.inl ⟨b,x,hb,?_⟩⟩,yf⟩
 .obtain⟨x,hx,XB⟩:=hS.F p v hv;exact⟨x,hx,XB.mono yf (Za5 _)⟩
 .rw[yf b (hS.W.live b x hb).1]
theorem Dw(hm:P.follows .mixedOrders=true)(hT:dK P tt){O:fk}{G:T dY}(hO:vY P C O)(XG:oP O)(hG:GOk P tt G)(m d:Nat):jq P C (uE O G m d):=
 aba hT hO hG m (λd dF=>S7 hm hT dF (Dt XG m d)) d
end
end
section
section
variable{R:Type}
theorem CA{α:Type}:∀(p:Pos)(t:T α),BU p t=t.get p
 |.h,.e=>rfl
 |.h,.n _ _ _=>rfl
 |.o _,.e=>rfl
 |.o p,.n l _ _=>CA p l
 |.i _,.e=>rfl
 |.i p,.n _ _ r=>CA p r
theorem oF{α:Type}(x:Option α):∀(p:Pos)(t:T α)(k:T α->R),xK x p t k=k (t.put x p)
 |.h,.e,_=>rfl
 |.h,.n _ _ _,_=>rfl
 |.o p,.e,k=>oF x p .e _
 |.o p,.n l _ _,k=>oF x p l _
 |.i p,.e,k=>oF x p .e _
 |.i p,.n _ _ r,k=>oF x p r _
theorem Hx(n:Nat)(k:Nat->R):vW n k=k n:=by cases n<;>rfl
theorem akr(n:Int)(k:Int->R):abV n k=k n:=by cases n<;>simp only[abV,Hx]
theorem ah4(b:Bool)(k:Bool->R):afH b k=k b:=by cases b<;>rfl
theorem OH{α:Type}:∀(l:List α)(k:List α->R),HE l k=k l
 |[],_=>rfl
 |a::l,k=>OH l λt=>k (a::t)
theorem PC:∀(p:Pos)(k:Pos->R),Sx p k=k p
 |.h,_=>rfl
 |.o p,k=>PC p λq=>k (.o q)
 |.i p,k=>PC p λq=>k (.i q)
theorem aog(o:Option Nat)(k:Option Nat->R):ahI o k=k o:=by
 cases o with
 |none=>rfl
 |some n=>simp only[ahI,Hx]
theorem afV(v:AV)(k:AV->R):Xn v k=k v:=by
 cases v<;>simp only[Xn,ah4,akr,OH,PC,Hx,aog]
theorem S8:∀(l:List AV)(k:List AV->R),ZQ l k=k l
 |[],_=>rfl
 |a::l,k=>by
  show Xn a (λa=>ZQ l λt=>k (a::t))=_;rw[afV,S8 l]
theorem OI(v:AV)(k:AV->R):xk v k=k v:=by
 unfold xk;split
 .exact S8 _ _
 .exact afV _ _
theorem S9(x:AB)(k:AB->R):LR x k=k x:=by
 cases x<;>simp only[LR,OH,Hx]
theorem Ta:∀(p:Pos)(k:Pos->R),ada p k=k p.succ
 |.h,_=>rfl
 |.o _,_=>rfl
 |.i p,k=>Ta p λq=>k (.o q)
variable(z:R)
def uR{α:Type}(r:Option α)(k:α->R):R:=match r with
 |some x=>k x
 |none=>z
theorem ah5(fr:Fr)(x:iy)(k:AV->R):evK z fr x k=uR z (HD fr x) k:=by
 cases x with
 |t p=>simp only[evK,CA,HD,uR];cases T.get p fr<;>rfl
 |c v=>rfl
theorem aeO(fr:Fr):∀(xs:List iy)(k:List AV->R),aeE z fr xs k=uR z (gu fr xs) k
 |[],k=>rfl
 |x::xs,k=>by
  show evK z fr x (λv=>aeE z fr xs λvs=>k (v::vs))=_;rw[ah5];simp only[aeO fr xs];simp only[gu];cases HD fr x with
  |none=>rfl
  |some v=>simp only[uR];cases gu fr xs<;>rfl
theorem adu(fr:Fr)(g:Option (Pos×Bool))(yes no:R):LS z fr g yes no=match cX fr g with
  |some true=>yes
  |some false=>no
  |none=>z:=by
 unfold LS cX;cases g with
 |none=>rfl
 |some g=>
  obtain⟨p,want⟩:=g;simp only[CA];cases T.get p fr with
  |none=>rfl
  |some v=>
   (cases v<;>try rfl);rename_i b;cases b<;>cases want<;>rfl
theorem adv(fr:Fr)(d:Option Pos)(v:AV)(k:Fr->R):oD fr d v k=k (eR fr d v):=by
 cases d with
 |none=>rfl
 |some p=>exact oF _ _ _ _
theorem atC(st:St)(del:Option Pos)(set:Option (Pos×AB))(new:Option AB)(k:St->R):aqq st del set new k=k (st.br del set new):=by
 have hdel:∀(h:T AB)(k:T AB->R),delK del h k=k (Mp del h):=λh k=>by
  cases del with
  |none=>rfl
  |some b=>exact oF _ _ _ _
 have Jp:∀(h:T AB)(k:T AB->R),aqp set h k=k (Pv set h):=λh k=>by
  cases set with
  |none=>rfl
  |some b=>simp only[aqp,S9,oF];rfl
 unfold aqq;rw[hdel,Jp];cases new with
 |none=>rfl
 |some x=>simp only[S9,oF,Ta];rfl
def CK(cw:tr R)(call:aj):Prop:=∀f args st k,cw f args st k=uR z (call f args st) λx=>k x.1 x.2
variable{cw:tr R}{call:aj}
theorem Tb(h:T AB):(λb=>BU b h)=λb=>h.get b:=funext λb=>CA b h
theorem ah6(hc:CK z cw call)(op:aJ)(xs:List AV)(st:St)(k:AV->St->R):ZR z cw op xs st k=uR z (cW call op xs st) λx=>k x.1 x.2:=by
 unfold ZR cW;rw[Tb];cases op.run (λb=>st.heap.get b) st.next xs with
 |none=>rfl
 |some r=>
  cases r with
  |val v=>simp only[OI];rfl
  |br v d s n=>simp only[OI,atC];rfl
  |call f args=>simp only[OH];exact hc f args st k
theorem ZU(hc:CK z cw call):∀(ops:List b9)(fr:Fr)(st:St)(k:Fr->St->R),aeF z cw ops fr st k=uR z (mO call ops fr st) λx=>k x.1 x.2
 |[],fr,st,k=>rfl
 |o::os,fr,st,k=>by
  show LS z fr o.guard (aeE z fr o.xs λxs=>ZR z cw o.k xs st λv st=>oD fr o.dst v λfr=>aeF z cw os fr st k) (oD fr o.dst .undef λfr=>aeF z cw os fr st k)=_;rw[adu,aeO];simp only[ah6 z hc,adv,ZU hc os];simp only[mO];cases cX fr o.guard with
  |none=>rfl
  |some b=>
   cases b with
   |false=>rfl
   |    true=>
        simp only[];cases gu fr o.xs with
        |none=>rfl
        |some xs=>
         simp only[uR];cases cW call o.k xs st with
         |none=>rfl
         |some x=>rfl
theorem ME(cK:Nat)(h:T AB):∀(recs:List Rec)(k:T AB->R),Sy cK h recs k=k (snap cK h recs)
 |[],k=>rfl
 |r::rs,k=>by
  show (match r.c with
   |    .new id aT=>match cK.testBit r.idx with
        |true=>Sy cK h rs λh'=>xK (some aT) id h' k
        |false=>Sy cK h rs k
   |.br _ _=>k h
   |.pure=>Sy cK h rs k)=_
  unfold snap;cases r.c with
  |pure=>exact ME cK h rs k
  |br _ _=>rfl
  |new id aT=>
   simp only[];cases cK.testBit r.idx with
   |true=>simp only[ME cK h rs,oF]
   |false=>exact ME cK h rs k
theorem afW(h:T AB):∀(l:List (Pos×AB))(k:T AB->R),ahJ h l k=k (nW l h)
 |[],k=>rfl
 |(id,aT)::l,k=>by show ahJ h l (λh'=>xK (some aT) id h' k)=_;rw[afW h l,oF];rfl
theorem Dx(cK:Nat)(op:aJ)(xs:List AV)(v:AV):∀(recs:List Rec)(up:List (Pos×AB)),vE cK op xs v up recs=oC cK op xs v up recs
 |[],up=>rfl
 |r::rs,up=>by
  unfold vE oC;cases r.c with
  |pure=>exact Dx cK op xs v rs up
  |new id aT=>simp only[Dx cK op xs v rs]<;>(cases cK.testBit r.idx<;>rfl)
  |br base _=>
   simp only[Dx cK op xs v rs,ME,afW];unfold ahK pE;simp only[Tb]<;>(cases cK.testBit r.idx<;>rfl)
theorem ah7 (hc:CK z cw call):∀(ops:List (Nat×b9))(recs:List Rec)(base:T AB)(fr:Fr)(st:St)(k:Fr->St->R),
  Sz z cw ops recs base fr st k=uR z (eM call ops recs base fr st) λx=>k x.1 x.2
 |[],recs,base,fr,st,k=>rfl
 |(j,   o)::  os,recs,base,fr,st,k=>by
  show LS   z fr o.guard
    (aeE z fr o.xs λxs=>match o.cls with
        | .new=>match o.k.run (λ_=>none) st.next xs with
          |some (.br v none none (some aT))=>xk v λv=>LR aT λaT=>oD fr o.dst v λfr=>ada st.next λn=>xK (some aT) st.next st.heap λh=>
              Sz z cw os ({ idx:=j,o:=o,v:=v,c:= .new st.next aT,nx:=n }::recs) base fr { heap:=h,next:=n } k
          |_=>z
        |.br=>ZR z cw o.k xs st λv st'=>oD fr o.dst v λfr=>Sz z cw os ({ idx:=j,o:=o,v:=v,c:= .br base st'.heap,nx:=st'.next }::recs) st'.heap fr st' k
        | _ =>match o.k.run (λ_=>none) .h xs with
          |some (.val v)=>xk v λv=>oD fr o.dst v λfr=>Sz z cw os ({ idx:=j,o:=o,v:=v,c:= .pure,nx:=st.next }::recs) base fr st k
          | _ =>Sy o.cK base recs λh=>match o.k.run (λb=>BU b h) .h xs with
            | some (.val v)=>xk v λv=>match vE o.cK o.k xs v [] recs with
              |true=>oD fr o.dst v λfr=>Sz z cw os ({ idx:=j,o:=o,v:=v,c:= .pure,nx:=st.next }::recs) base fr st k
              |false=>z
            |_=>z)
    (oD fr o.dst .undef λfr=>Sz z cw os ({ idx:=j,o:=o,v:= .undef,c:= .pure,nx:=st.next }::recs) base fr st k)=_
  rw[adu,aeO];simp only[ah6 z hc,adv,OI,S9,Ta,oF,ME,Dx,Tb,ah7 hc os];simp only[eM];cases cX fr o.guard with
  |none=>rfl
  | some b=>
    cases b with
    |false=>rfl
    |   true=>
        simp only[];cases gu fr o.xs with
        |none=>rfl
        | some xs=>
          simp only[uR];cases o.cls with
          | new=>
            simp only[];split<;>simp_all
          | br=>
            simp only[];cases cW call o.k xs st with
            |none=>rfl
            |some x=>rfl
          | pure=>
            simp only[];split
            .simp_all
            .split<;>simp_all;split<;>simp_all
          | read=>
            simp only[];split
            .simp_all
            .split<;>simp_all;split<;>simp_all
def ah8(r:Option (oO×Fr×St))(kn:Fr->St->R)(kx:Nat->Fr->St->R)(kr:Fr->St->R):R:=match r with
 |some (.normal,fr,st)=>kn fr st
 |some (.exit id,fr,st)=>kx id fr st
 |some (.ret,fr,st)=>kr fr st
 |none=>z
theorem ab3(hc:CK z cw call):∀(m:Nat)(c:AC)(fr:Fr)(st:St)(kn:Fr->St->R)(kx:Nat->Fr->St->R)(kr:Fr->St->R),
  adb z cw m c fr st kn kx kr=ah8 z (exec call m c fr st) kn kx kr
 |0,c,fr,st,kn,kx,kr=>rfl
 |m+    1,c,fr,st,kn,kx,kr=>by
  have ih:=ab3 hc m;show vF z cw (adb z cw m) c fr st kn kx kr=ah8 z (bJ call (exec call m) c fr st) kn kx kr;cases c with
  |skip=>rfl
  |region ops=>
   simp only[vF,bJ,ZU z hc];cases mO call ops fr st with
   |none=>rfl
   |some x=>rfl
  |draw ops=>
   simp only[vF,bJ,ah7 z hc];cases eM call ops [] st.heap fr st with
   |none=>rfl
   |some x=>rfl
  |seq a b=>
   simp only[vF,bJ,ih];cases exec call m a fr st with
   |none=>rfl
   |    some x=>
        obtain⟨e,fC,bK⟩:=x;cases e<;>rfl
  |cond x a b=>
   simp only[vF,bJ,ah5];cases HD fr x with
   |none=>rfl
   |    some v=>
        simp only[uR];(cases v<;>try rfl);rename_i t;cases t<;>simp only[ih]
  |block id a=>
   simp only[vF,bJ,ih];cases exec call m a fr st with
   |none=>rfl
   |    some x=>
        obtain⟨e,fC,bK⟩:=x;(cases e<;>try rfl);rename_i ye;simp only[ah8];cases Nat.beq ye id<;>rfl
  |loop a=>
   simp only[vF,bJ,ih];cases exec call m a fr st with
   |none=>rfl
   |    some x=>
        obtain⟨e,fC,bK⟩:=x;cases e<;>rfl
  |exit id=>rfl
  |ret=>rfl
theorem Tc:∀(vs:List AV)(i:Nat)(fr:Fr)(k:Fr->R),QG vs i fr k=k (params i vs fr)
 |[],i,fr,k=>rfl
 |v::vs,i,fr,k=>by show xK (some v) (key i) fr (λfr=>QG vs (i+1) fr k)=_;rw[oF,Tc vs];rfl
theorem aks(st:St)(fr:Fr)(rs:List Qz)(k:AV->R):Gd z st fr rs k=uR z (ia (λb=>st.heap.get b) fr rs) λvs=>k (zL vs):=by
 unfold Gd;rw[Tb];cases ia (λb=>st.heap.get b) fr rs with
 |none=>rfl
 |some vs=>
  simp only[S8,uR];cases vs with
  |nil=>rfl
  |cons v vs=>cases vs<;>rfl
theorem Gk (O:fk)(G:T dY)(m:Nat):∀d,CK z (Oo z O G m d) (uE O G m d)
 |0=>λf args st k=>rfl
 |d+    1=>fun f args st k=>by
  have ih:=Gk O G m d;show( match O f with
   |    some s=>match s args st with
        |some (v,st')=>xk v λv=>k v st'
        |none=>z
   |    none=>match BU (key f) G with
        |some F=>match Nat.beq args.length F.nparams with
         |true=>QG args 0 .e λfr=>adb z (Oo z O G m d) m F.code fr st
             (λfr st=>Gd z st fr F.results λv=>k v st)
             (λ_ _ _=>z)
             (λfr st=>Gd z st fr F.results λv=>k v st)
         |false=>z
        |none=>z)=_
  simp only[uE,OI,CA,Tc,ab3 z ih,aks];cases O f with
  |some s=>
   simp only[];cases s args st with
   |none=>rfl
   |some x=>rfl
  |none=>
   simp only[];cases G.get (key f)with
   |none=>rfl
   |    some F=>
        simp only[];cases Nat.beq args.length F.nparams with
        |false=>rfl
        |true=>
         simp only[];cases exec (uE O G m d) m F.code (params 0 args .e) st with
         |none=>rfl
         |  some x=>
            obtain⟨e,fC,bK⟩:=x;cases e with
            |normal=>
             simp only[ah8];cases ia (λb=>bK.heap.get b) fC F.results<;>rfl
            |exit id=>rfl
            |ret=>
             simp only[ah8];cases ia (λb=>bK.heap.get b) fC F.results<;>rfl
end
end
section
open Go
def ams (P :Program)(t:Nat)(ti:TI):Bool:=
 match P.underlying t,P.info? t with
 |  some d,some i=>cL ti.k d&&Nat.beq i.size ti.size&&Nat.beq i.bytes ti.bytes&&
    (match ti.zero with
     |none=>true
     |some z=>match i.zero with
      |some v=>(match tq v.cells.toList with
           |some z'=>pQ z' z
           |none=>false)&&Nat.beq z.length ti.size&&(match ti.k.isAgg,v with
           |true,.agg _=>true
           |true,_=>false
           |false,.agg _=>false
           |false,_=>true)
      |none=>false)&&(match ti.k with
     |.ptr e=>(P.info? e).isSome
     |_=>true)&&(!ti.BE||(!P.stoodInHeld t&& !P.eqGuardType P.depth t))
 |_,_=>false
theorem aqP{P:Program}{t:Nat}{ti:TI}(h:ams P t ti=true):alY P t ti:=by
 unfold ams at h;split at h<;>first|(cases h;done)|skip
 rename_i d i hd hi;simp only[Zb7,Zj7,Zk5]at h;obtain⟨⟨⟨⟨⟨h1,h2⟩,h3⟩,h4⟩,h6⟩,h5⟩:=h;refine⟨⟨d,hd,h1⟩,⟨i,hi,Za8 h2,Za8 h3,λz hz=> ?_⟩,λe he=> ?_,λhe=> ?_⟩
 . rw[hz]at h4;simp only at h4;(split at h4<;>first|(cases h4;done)|skip);rename_i v hv;simp only[Zb7]at h4;obtain⟨⟨g1,g2⟩,g3⟩:=h4;(split at g1<;>first|(cases g1;done)|skip);rename_i z' Oy;rw[Hw g1]at Oy;refine⟨v,hv,Oy,Za8 g2,λha=> ?_,λha=> ?_⟩
   .rw[ha]at g3;cases v<;>first|exact⟨_,rfl⟩|cases g3
   .rw[ha]at g3;cases v<;>first|rfl|cases g3
 .rw[he]at h6;exact Zn0.1 h6
 . rcases h5 with h5|h5
   .rw[he]at h5;cases h5
   .exact h5
def LU(P:Program):(Pos->Pos)->T TI->Bool
 |_,.e=>true
 |  f,.n l v r=>(match v with
    |some ti=>ams P ((f .h).toNat - 1) ti
    |none=>true)&&LU P (λp=>f (.o p)) l&&LU P (λp=>f (.i p)) r
theorem Td{P:Program}:∀{t:T TI}{f:Pos->Pos},LU P f t=true->∀p ti,t.get p=some ti->alY P ((f p).toNat - 1) ti
 |.e,f,_,p,ti,h=>by rw[T.dZ]at h;cases h
 | .n l v r,f,hc,p,ti,h=>by
   simp only[LU,Zb7]at hc;cases p with
   |h=>simp only[T.get]at h;rw[h]at hc;exact aqP hc.1.1
   |o p=>exact Td hc.1.2 p ti h
   |i p=>exact Td hc.2 p ti h
theorem atD{P:Program}{tt:TT}(h:LU P (λp=>p) tt=true):dK P tt:=λp ti hp=>Td h p ti hp
end
noncomputable section
open Go
def QY{α:Type}(g:Nat->Option α):Nat->Nat->Nat->T α
 |0,_,_=>.e
 |d+1,a,m=>.n (QY g d a (2*m)) (g (a+m - 1)) (QY g d (a+m) (2*m))
theorem Te{α:Type}{g:Nat->Option α}:∀{d a m:Nat}{p:Pos}{x:α},(QY g d a m).get p=some x->g (a+m*p.toNat - 1)=some x
 |0,_,_,p,x,h=>by rw[QY,T.dZ]at h;cases h
 |d+1,a,m,.h,x,h=>by rw[Pos.toNat,Zn4];exact h
 |d+1,a,m,.o p,x,h=>by
  have:=Te (d:=d) (a:=a) (m:=2*m) (p:=p) (x:=x) h;rw[Pos.toNat];have e:a+m*(2*p.toNat) - 1=a+2*m*p.toNat - 1:=by rw[<-Nat.mul_assoc,Nat.mul_comm m 2]
  rw[e];exact this
 |d+1,a,m,.i p,x,h=>by
  have:=Te (d:=d) (a:=a+m) (m:=2*m) (p:=p) (x:=x) h;rw[Pos.toNat];have e:a+m*(2*p.toNat+1) - 1=a+m+2*m*p.toNat - 1:=by rw[Nat.mul_add,Zn4, <-Nat.mul_assoc,Nat.mul_comm m 2];omega
  rw[e];exact this
def as9(P:Program)(tt:TT)(i:Nat):Option dY:=match P.funcs[i]? with
 |some fn=>alX tt fn
 |none=>none
def ggOf(P:Program)(tt:TT):T dY:=QY (as9 P tt) 10 0 1
theorem atE{P:Program}{tt:TT}(h:(P.funcs.toList.all λfn=> !(fn.name== "runtime.NumGoroutine"))=true):GOk P tt (ggOf P tt):=λp F hp=>by
 have:=Te hp;rw[Zb1,Zp7,as9]at this;split at this<;>first|(cases this;done)|skip
 rename_i fn HO;refine⟨fn,HO,?_,this⟩;have:=Zh4.1 h fn (by obtain⟨hi,e⟩:=Zd5.1 HO;exact Array.mem_toList_iff.2 (e ▸Array.getElem_mem hi));simpa using this
def tkOf(P:Program)(t:Nat):TK:=match P.underlying t with
 |some .bool=>.bool
 |some (.int k)=>.int k
 |some .string=>.string
 |some (.pointer e)=>.ptr e
 |some (.slice e)=>.slice e
 |some (.array n e)=>.array n e
 |some (.map k e)=>.map k e
 |some (.struct fs)=>.struct (fs.toList.map λf=>(f.offset,f.type,f.name != "_"))
 |some (.func _ _ _)=>.func
 |some (.interface _)=>.iface
 |some .unsafePointer=>.upt
 |_=>.other
def zeroOf:Option Value->Option (List AV)
 |  some v=>match Nat.ble v.cells.size 64 with
    |true=>tq v.cells.toList
    |false=>none
 |none=>none
def memN(n:Nat):List Nat->Bool
 |[]=>false
 |  m::l=>match Nat.beq m n with
    |true=>true
    |false=>memN n l
def tiOf(P:Program)(eqs:List Nat)(t:Nat):Option TI:=match P.info? t with
 |none=>none
 |some i=>some { k:=tkOf P t,size:=i.size,bytes:=i.bytes,zero:=zeroOf i.zero,BE:=memN t eqs }
def ttOf(P:Program)(eqs:List Nat):T TI:=QY (tiOf P eqs) 10 0 1
def kI(n:Nat):AV:= .int .i64 (.ofNat n)
def kU(n:Nat):AV:= .int .u8 (.ofNat n)
def kN(p n e:Nat):AV:= .slice (key p) 0 n none e
def kS(p n c e:Nat):AV:= .slice (key p) 0 n (some c) e
end
section
open Go
structure ug(P:Program)(C:Cells)(f:FuncId)(s:List AV->St->Option (AV×St)):Prop where
 mono:∀args st v st',s args st=some (v,st')->st.next.toNat<=st'.next.toNat
 runs:∀(ρ:Pos->Loc)(st:St)(w:World)(args:List AV)(v:AV)(st':St)(cZ:List Value),s args st=some (v,st')->
  cN ρ C st w->aN ρ st.next.toNat C args cZ->Reaches P (oE ρ C st w v st') ((callFunc f cZ.toArray).run P w)
def vZ:List (Nat×(List AV->St->Option (AV×St)))->fk
 |[]=>λ_=>none
 |  (g,s)::l=>λf=>match Nat.beq f g with
    |true=>some s
    |false=>vZ l f
theorem yR{P:Program}{C:Cells}:∀{l:List (Nat×(List AV->St->Option (AV×St)))},(∀x∈l,ug P C x.1 x.2)->vY P C (vZ l)/\oP (vZ l)
 |[],_=>⟨λf s h=>by simp[vZ]at h,λf s h=>by simp[vZ]at h⟩
 |(g,   s0)::l,hl=>by
  obtain⟨h1,h2⟩:=yR λx hx=>hl x (Zb0 _ hx)
  have h0:=hl _ (Zd6 ..);refine⟨λf s h=> ?_,λf s h=> ?_⟩
  . simp only[vZ]at h;split at h
    .   rename_i he;simp only[H5]at h;subst h;have:=Za8 he;subst this;exact h0.runs
    .   exact h1 f s h
  . simp only[vZ]at h;split at h
    .   simp only[H5]at h;subst h;exact h0.mono
    .   exact h2 f s h
def Gl:List AV->St->Option (AV×St)
 |  [.str a,.str b],st=>some (.int .i64 (match aU a b with
    |true=>.negSucc 0
    |false=>match aU b a with
     |true=>.ofNat 1
     |false=>.ofNat 0),st)
 |_,_=>none
theorem XH:∀(x y:List UInt8),Lib.compareBytes x y=match aU (x.map UInt8.toNat) (y.map UInt8.toNat)with
  |true=>.negSucc 0
  | false=>match aU (y.map UInt8.toNat) (x.map UInt8.toNat)with
    |true=>.ofNat 1
    |false=>.ofNat 0
 |[],[]=>rfl
 |[],_::_=>rfl
 |_::_,[]=>rfl
 |a ::x  ,b::y=>by
  rw[xD,xD];have ih:=XH x y;rw[xD,xD]at ih;simp only[Lib.compareBytes,Op.bytesLess];by_cases h:a<b
  .simp[h]
  . by_cases h':b<a
    .   have dP:(a==b)=false:=(by rw[Zm8];exact λe=>by subst e;exact h h');simp[h,h',dP]
    .   have he:a=b:=(by apply Zr9.1;rw[Zo8]at h h';omega);subst he;simp only[h,Zg7,ih];simp
theorem aqQ{P:Program}{C:Cells}{f:FuncId}{fn:Func}(hf:P.funcs[f]? =some fn)(qu:(fn.name== "runtime.NumGoroutine")=false)(hb:fn.body.isNone=true)
  (hx:Extern.findNext fn=none) (he:Extern.find fn=some Extern.BytealgCompare.compare):ug P C f Gl where
 mono args st v st' h:=by unfold Gl at h;split at h<;>cases h;exact Za5 _
 runs ρ st w args v st' cZ h hW hv:=by
  unfold Gl at h;split at h<;>cases h;rename_i a b;obtain⟨x,xs,rfl,h1,h2⟩:=hv.cons_inv;obtain⟨y,ys,rfl,h3,h4⟩:=h2.cons_inv;have:=h4.qQ;subst this;obtain⟨s,rfl,hs⟩:=h1.fM;obtain⟨t,rfl,ht⟩:=h3.fM;have eu:(callFunc f [Value.string s,Value.string t].toArray).run P w= .ok (.value (.int .i64 (Lib.compareBytes s.data.toList t.data.toList))) w:=by rw[run_callFunc_extern hf qu hb hx he];show((Extern.BytealgCompare.compare #[.string s,.string t]).run P w).andThen _=_;rw[Lib.run_compareString];rfl
  rw[eu];refine⟨ρ,?_,λ_ _=>rfl,Za5 _,hW,qJ.refl _ _ _⟩;rw[XH,hs,ht];exact .int _ _
theorem cN.sub{ρ:Pos->Loc}{C:Cells}{st:St}{w:World}(h:cN ρ C st w){h2:T AB}(hs:∀b x,h2.get b=some x->st.heap.get b=some x):cN ρ C { heap:=h2,next:=st.next } w where
 live b x hb:=h.live b x (hs b x hb)
 inj b b' x x' hb eO he:=h.inj b b' x x' (hs b x hb) (hs b' x' eO) he
 eP a v ha:=⟨(h.eP a v ha).1,λb x hb=>(h.eP a v ha).2 b x (hs b x hb)⟩
 whole:=h.whole
theorem oE.frame{ρ:Pos->Loc}{C:Cells}{st st':St}{w w':World}{v:AV}{x:Value}{h0 h2:T AB}(hW:cN ρ C st w)(yP:∀b y,h0.get b=some y->st.heap.get b=some y)
   (h:oE ρ C { heap:=h0,next:=st.next } w v st' x w')
   (h2s:∀b y,h2.get b=some y->st'.heap.get b=some y\/(st.heap.get b=some y/\h0.get b=none)):
   oE ρ C st w v { heap:=h2,next:=st'.next } x w':=by
 obtain⟨ρ',hv,bM,hn,jD,hE⟩:=h;have hold:∀b y,st.heap.get b=some y->h0.get b=none->∀b' y',h0.get b'=some y'->(ρ b').aT≠(ρ b).aT:=λb y hb yI b' y' eO e=>by have:=hW.inj b' b y' y (yP b' y' eO) hb e;subst this;rw[yI]at eO;cases eO
 have aoh:∀b y b' y',st'.heap.get b=some y->st.heap.get b'=some y'->h0.get b'=none->(ρ' b).aT≠(ρ' b').aT:=λb y b' y' hb eO yI e=>by
   rw[bM b' (hW.live b' y' eO).1]at e;rcases hE.yH b y hb with⟨b2,y2,g1,g2⟩|g1
   .exact hold b' y' eO yI b2 y2 g1 (g2.trans e)
   .have:=(hW.live b' y' eO).2.1;omega
 refine⟨ρ',hv,bM,hn,⟨λb y hb=> ?_,λb b' y y' hb eO he=> ?_,λa u ha=>⟨(jD.eP a u ha).1,λb y hb=> ?_⟩,jD.whole⟩,⟨hE.os,hE.tape,hE.output,hE.size,λk hk n9=> ?_,λb y hb=> ?_⟩⟩
 . rcases h2s b y hb with hb|⟨hb,yI⟩
   .exact jD.live b y hb
   . obtain⟨g1,g2,g3⟩:=hW.live b y hb;refine⟨Zd0 g1 hn,?_,?_⟩
     .  rw[bM b g1];exact Zd0 g2 hE.size
     .  rw[bM b g1];exact(g3.mono bM hn).of_heap (hE.block _ g2 λb' y' eO=>hold b y hb yI b' y' eO)
 . rcases h2s b y hb with hb|⟨hb,yI⟩<;>rcases h2s b' y' eO with eO|⟨eO,hb0'⟩
   .exact jD.inj b b' y y' hb eO he
   .exact absurd he (aoh b y b' y' hb eO hb0')
   .exact absurd he.symm (aoh b' y' b y eO hb yI)
   .rw[bM b (hW.live b y hb).1,bM b' (hW.live b' y' eO).1]at he;exact hW.inj b b' y y' hb eO he
 . rcases h2s b y hb with hb|⟨hb,yI⟩
   .exact(jD.eP a u ha).2 b y hb
   .rw[bM b (hW.live b y hb).1];exact(hW.eP a u ha).2 b y hb
 .exact hE.block k hk λb y hb=>n9 b y (yP b y hb)
 . rcases h2s b y hb with hb|⟨hb,yI⟩
   . rcases hE.yH b y hb with⟨b',y',g1,g2⟩|g1
     .  exact .inl ⟨b',y',yP b' y' g1,g2⟩
     .  exact .inr g1
   .exact .inl ⟨b,y,hb,by rw[bM b (hW.live b y hb).1]⟩
def MG:List AV->List AV->Bool
 |[],[]=>true
 |a::x,b::y=>eJ a b&&MG x y
 |_,_=>false
theorem XI:∀{a b:List AV},MG a b=true->a=b
 |[],[],_=>rfl
 |[],_::_,h=>by simp[MG]at h
 |_::_,[],h=>by simp[MG]at h
 |a::x,b::y,h=>by
  simp only[MG,Zb7]at h;rw[yO h.1,XI h.2]
def ZV:List (AV×AV×Nat)->List (AV×AV×Nat)->Bool
 |[],[]=>true
 |(a,b,n)::x,(a',b',n')::y=>eJ a a'&&eJ b b'&&Nat.beq n n'&&ZV x y
 |_,_=>false
theorem ah9:∀{a b:List (AV×AV×Nat)},ZV a b=true->a=b
 |[],[],_=>rfl
 |[],_::_,h=>by simp[ZV]at h
 |_::_,[],h=>by simp[ZV]at h
 |(a,b,n)::x,(a',b',n')::y,h=>by
  simp only[ZV,Zb7]at h;obtain⟨⟨⟨h1,h2⟩,h3⟩,h4⟩:=h;rw[yO h1,yO h2,Za8 h3,ah9 h4]
def adw:AB->AB->Bool
 |.cells cs fz,.cells nK fz'=>MG cs nK&&Nat.beq fz fz'
 |.map es c,.map es' c'=>ZV es es'&&Nat.beq c c'
 |_,_=>false
theorem ab4{a b:AB}(h:adw a b=true):a=b:=by
 unfold adw at h;split at h<;>(try simp only[Zb7]at h)
 .rw[XI h.1,Za8 h.2]
 .rw[ah9 h.1,Za8 h.2]
 .cases h
def hasAll(h:T AB):List (Pos×AB)->Bool
 |[]=>true
 |  (b,x)::l=>(match h.get b with
    |some y=>adw y x
    |none=>false)&&hasAll h l
theorem XJ{h:T AB}:∀{l:List (Pos×AB)},hasAll h l=true->∀b x,(b,x)∈l->h.get b=some x
 |[],_,b,x,hm=>by cases hm
 |(b0,x0)::l,hh,b,x,hm=>by
  simp only[hasAll,Zb7]at hh;rcases Za9.1 hm with hm|hm
  .cases hm;have h1:=hh.1;(split at h1<;>first|(cases h1;done)|skip);rename_i y hy;rw[hy,ab4 h1]
  .exact XJ hh.2 b x hm
theorem OJ:∀{l:List (Pos×AB)}{h:T AB}{b:Pos}{x:AB},(nW l h).get b=some x->(b,x)∈l\/(h.get b=some x/\∀y∈l,y.1≠b)
 |[],h,b,x,hb=>.inr ⟨hb,λy hy=>by cases hy⟩
 |(b0,x0)::l,h,b,x,hb=>by
  unfold nW at hb;by_cases e:b0=b
  .subst e;rw[T.gQ]at hb;simp only[H5]at hb;subst hb;exact .inl (Zd6 ..)
  . rw[T.cJ _ e]at hb;rcases OJ hb with h1|⟨h1,h2⟩
    .   exact .inl (Zb0 _ h1)
    .   refine .inr ⟨h1,λy hy=> ?_⟩;rcases Za9.1 hy with rfl|hy
        .exact e
        .exact h2 y hy
structure Lit where
 args:List AV
 n0:Pos
 L0:List (Pos×AB)
 v:AV
 n1:Pos
 L1:List (Pos×AB)
def adx(l m:List (Pos×AB)):Bool:=l.all λx=>m.any λy=>Pos.beq x.1 y.1
def Tf(t:Lit):List AV->St->Option (AV×St):=λargs st=>
 match MG args t.args&&Pos.beq st.next t.n0&&hasAll st.heap t.L0 with
 |true=>some (t.v,{ heap:=nW t.L1 st.heap,next:=t.n1 })
 |false=>none
noncomputable def ady(t:Lit)(O:fk)(G:T dY)(m d f:Nat):Bool:=
 Oo (R:=Bool) false O G m d f t.args { heap:=nW t.L0 .e,next:=t.n0 } λv st=>eJ v t.v&&Pos.beq st.next t.n1&&hasAll st.heap t.L1
theorem aia{P:Program}{C:Cells}{t:Lit}{O:fk}{G:T dY}{m d f:Nat}(dF:jq P C (uE O G m d))(amr:pS (uE O G m d))
   (hk:adx t.L0 t.L1=true) (h:ady t O G m d f=true):ug P C f (Tf t):=by
 unfold ady at h;rw[Gk false O G m d]at h;unfold uR at h;split at h<;>first|(cases h;done)|skip
 rename_i x hx;obtain⟨v,bK⟩:=x;simp only[Zb7]at h;obtain⟨⟨h1,h2⟩,h3⟩:=h;have h1:=yO h1;have h2:=Pos.beq_eq.1 h2;subst h1;have unf:∀args st v' st',Tf t args st=some (v',st')->args=t.args/\st.next=t.n0/\hasAll st.heap t.L0=true/\v'=t.v/\st'={ heap:=nW t.L1 st.heap,next:=t.n1 }:=by
   intro args st v' st' hs;unfold Tf at hs;(split at hs<;>first|(cases hs;done)|skip);rename_i hc;simp only[Zb7]at hc;simp only[H5,Zd3]at hs;exact⟨XI hc.1.1,Pos.beq_eq.1 hc.1.2,hc.2,hs.1.symm,hs.2.symm⟩
 refine⟨λargs st v' st' hs=> ?_,λρ st w args v' st' cZ hs hW hv=> ?_⟩
 .obtain⟨rfl,g2,g3,rfl,rfl⟩:=unf _ _ _ _ hs;have:=amr _ _ _ _ _ hx;rw[g2, <-h2];exact this
 . obtain⟨ rfl,g2,g3,rfl,rfl⟩:=unf _ _ _ _ hs;have yP:∀b y,(nW t.L0 T.e).get b=some y->st.heap.get b=some y:=λb y hb=>by
    rcases OJ hb with hb|⟨hb,_⟩
    .   exact XJ g3 b y hb
    .   rw[T.dZ]at hb;cases hb
   have xq:uE O G m d f t.args { heap:=nW t.L0 .e,next:=st.next }=some (t.v,bK):=(by rw[g2];exact hx);refine Reaches.mono (λx w' hp=> ?_) (dF ρ _ w f t.args t.v bK cZ xq (hW.sub yP) hv);have:=   hp.frame hW yP (h2:=nW t.L1 st.heap) λb y hb=>by
    rcases OJ hb with hb|⟨hb,n9⟩
    .   exact .inl (XJ h3 b y hb)
    .   refine .inr ⟨hb,?_⟩;cases hg:(nW t.L0 T.e).get b with
        |none=>rfl
        |some u=>
         exfalso;rcases OJ hg with hg|⟨hg,_⟩
         .  unfold adx at hk;rw[Zh4]at hk;have:=hk _ hg;rw[List.any_eq_true]at this;obtain⟨y',hy',he⟩:=this;exact n9 y' hy' (Pos.beq_eq.1 he).symm
         .  rw[T.dZ]at hg;cases hg
   rw[h2]at this;exact this
def orS(s t:List AV->St->Option (AV×St)):List AV->St->Option (AV×St):=λargs st=>match s args st with
 |some r=>some r
 |none=>t args st
theorem aib{P:Program}{C:Cells}{f:FuncId}{s t:List AV->St->Option (AV×St)}(hs:ug P C f s)(ht:ug P C f t):ug P C f (orS s t) where
 mono args st v st' h:=by
  unfold orS at h;split at h
  .rename_i r hr;simp only[H5]at h;subst h;exact hs.mono _ _ _ _ hr
  .exact ht.mono _ _ _ _ h
 runs ρ st w args v st' cZ h hW hv:=by
  unfold orS at h;split at h
  .rename_i r hr;simp only[H5]at h;subst h;exact hs.runs ρ st w args v st' cZ hr hW hv
  .exact ht.runs ρ st w args v st' cZ h hW hv
end
end Go.Ai
