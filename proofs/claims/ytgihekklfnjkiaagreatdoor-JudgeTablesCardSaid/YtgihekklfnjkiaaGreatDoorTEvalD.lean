/- Its calls answer as the model does. -/
import Derived.Test.YtgihekklfnjkiaaGreatDoorTEvalC
import Derived.Lib.Bytealg
set_option linter.all false
set_option linter.unusedSectionVars false
set_option linter.deprecated false
namespace Go.Ai
section
open Go Go.RowKit
theorem KH{a b:AV}(h:fP a b=true):a=b:=by
 unfold fP at h;split at h<;>(try simp only[Zb6,Zf4]at h)<;>try rfl
 . rw[beq_iff_eq.1 h]
 . rename_i k i k' i';have h2:=h.2;rw[mG]at h2;rw[Cu h.1,beq_iff_eq.1 h2]
 . rw[mH.1 h]
 . rw[Pos.beq_eq.1 h.1,Za6 h.2]
 . obtain⟨⟨⟨h1,h2⟩,h3⟩,h4⟩:=h;rw[Pos.beq_eq.1 h1,Za6 h2,Za6 h3,Za6 h4]
 . obtain⟨⟨⟨⟨h1,h2⟩,h3⟩,h4⟩,h5⟩:=h;rw[Pos.beq_eq.1 h1,Za6 h2,Za6 h3,Za6 h4,Za6 h5]
 . rw[Pos.beq_eq.1 h]
theorem OP:∀{a b:List AV},BX a b=true->a=b
 |[],[],_=>rfl
 |[],_::_,h=>by simp[BX]at h
 |_::_,[],h=>by simp[BX]at h
 |a::x,b::y,h=>by
  simp only[BX,Zb6]at h;rw[KH h.1,OP h.2]
theorem agN{f:AV->AV->Bool}(hf:∀{a b},f a b=true->a=b):∀{a b:List AV},NF f a b=true->a=b
 |[],[],_=>rfl
 |[],_::_,h=>by simp[NF]at h
 |_::_,[],h=>by simp[NF]at h
 |a::x,b::y,h=>by
  simp only[NF,Zb6]at h;rw[hf h.1,agN hf h.2]
theorem abY{f:AV->AV->Bool}(hf:∀{a b},f a b=true->a=b):∀{a b:List (List AV)},Cs f a b=true->a=b
 |[],[],_=>rfl
 |[],_::_,h=>by simp[Cs]at h
 |_::_,[],h=>by simp[Cs]at h
 |a::x,b::y,h=>by
  simp only[Cs,Zb6]at h;rw[agN hf h.1,abY hf h.2]
theorem agO:∀{d:Nat}{a b:AV},NG d a b=true->a=b
 |0,_,_,h=>by unfold NG at h;exact KH h
 |d +1,a,b,h=>by
  unfold NG at h;split at h
  . rename_i heq;cases heq;simp only[Zb6]at h;rw[abY (λh=>agO h) h.1,Za6 h.2]
  . exact KH h
theorem abZ{a b:AV}(h:mV a b=true):a=b:=by
 unfold mV at h;split at h
 . simp only[Zb6]at h;rw[Za6 h.1.1,OP h.1.2,OP h.2]
 . exact agO h
 . exact KH h
theorem GO:∀{a b:List AV},tM a b=true->a=b
 |[],[],_=>rfl
 |[],_::_,h=>by simp[tM]at h
 |_::_,[],h=>by simp[tM]at h
 |a::x,b::y,h=>by
  simp only[tM,Zb6]at h;rw[abZ h.1,GO h.2]
theorem yQ{a b:AV}(h:eo a b=true):a=b:=by
 unfold eo at h;split at h
 . rw[GO h]
 . rw[GO h]
 . exact abZ h
theorem apg {k:aF}{H H':Pos->Option AB}{n n':Pos}{xs:List AV}{v:AV}(h:k.run H n xs=some (.val v))(hm:∀b x,H b=some x->H' b=some x):
  k.run H' n' xs=some (.val v):=by
 cases k<;>simp only[aF.run]at h ⊢ <;>try exact h
 case alloc z=>unfold Rz at h;split at h<;>cases h
 case box=>unfold abJ at h;split at h<;>cases h
 case buildSlice es len z p=>unfold wZ at h;dsimp only at h;split at h<;>cases h
 case mkMap=>unfold RD at h;cases h
 case mkSlice es b z=>
  unfold Dc at h
  repeat' split at h
  all_goals cases h
 case store m=>
  unfold Lw at h
  repeat' split at h
  all_goals cases h
 case mapSet pk=>
  unfold yG at h
  repeat' split at h
  all_goals cases h
 case load m=>
  unfold zP at h ⊢;split at h<;>first|(cases h;done)|skip
  split at h<;>first|(cases h;done)|skip
  . (split at h<;>first|(cases h;done)|skip);rename_i cs fz hb;simp only[hm _ _ hb];exact h
  . exact h
 case conv c=>
  unfold FP at h ⊢;split at h<;>first|(cases h;done)|skip
  split at h<;>first|(cases h;done)|exact h|skip
  rename_i b off m _ _;cases hb:Nat.beq m 0 with
  |true=>simp only[hb]at h ⊢; exact h
  | false=>
    simp only[hb]at h ⊢;cases hH:H b with
    |none=>simp[hH]at h
    |some x=>simp only[hH]at h;simp only[hm _ _ hH];exact h
 case lookup pk z ok=>
  unfold kq at h ⊢;split at h<;>first|(cases h;done)|skip
  rename_i m k';cases m<;>try exact h
  rename_i b;cases hb:H b with
  |none=>simp[hb]at h
  | some x=>
    simp only[hb]at h;simp only[hm _ _ hb];exact h
 case lenB lk=>
  unfold PO at h ⊢;split at h<;>first|(cases h;done)|skip
  split at h<;>first|(cases h;done)|exact h|skip
  split at h<;>first|(cases h;done)|skip
  rename_i es c hb;simp only[hm _ _ hb];exact h
 case clearS es z=>
  unfold sP at h ⊢;split at h<;>first|(cases h;done)|skip
  split at h<;>first|(cases h;done)|exact h|skip
  rename_i b off m _ _;cases hb:Nat.beq m 0 with
  |true=>simp only[hb]at h ⊢; exact h
  | false=>
    simp only[hb]at h
    repeat' split at h
    all_goals cases h
 case copyB es=>
  unfold oX at h ⊢;split at h<;>first|(cases h;done)|skip
  rename_i d x;cases hd:eJ d with
  |none=>simp[hd]at h
  | some m1=>
    cases hx:eJ x with
    |none=>simp[hd,hx]at h
    |   some m2=>
        simp only[hd,hx]at h ⊢;cases hb:Nat.beq (min m2 m1) 0 with
        |true=>simp only[hb]at h ⊢; exact h
        |false=>
         simp only[hb]at h;(split at h<;>first|(cases h;done)|skip);(split at h<;>first|(cases h;done)|skip);split at h<;>cases h
 case append es bytes=>
  unfold lK at h ⊢;split at h<;>first|(cases h;done)|skip
  rename_i s x;cases hd:eJ s with
  |none=>simp[hd]at h
  | some m1  =>
    cases hx:eJ x with
    |none=>simp[hd,hx]at h
    |   some m2=>
        simp only[hd,hx]at h ⊢;cases h1:Nat.ble ((2*(m1+m2)+768)*bytes) 281474976710656 with
        |false=>simp[h1]at h
        |true=>
         cases h2:Nat.ble (m1+m2) 9223372036854775807 with
         |false=>simp[h1,h2]at h
         |  true=>
            simp only[h1,h2]at h ⊢;cases hb:Nat.beq m2 0 with
            |true=>
             simp only[hb]at h ⊢;split at h<;>first|(cases h;done)|exact h|skip
             all_goals (simp_all;done)
            |false=>
             simp only[hb]at h
             repeat' split at h
             all_goals first
               |(rename_i e;cases e;done)
               |(rename_i e _;cases e;done)
               |(cases h;done)
               |simp_all
inductive R7(n:Pos):AV->AB->Prop where
 |ptr (cs:List AV):R7 n (.ptr n 0) (.cells cs 0)
 |slice (len es:Nat) (cap:Option Nat) (cs:List AV) (h:len=0->cap=none\/cap=some 0->cs=[]):R7 n (.slice n 0 len cap es) (.cells cs 0)
 |map:R7 n (.map n) (.map [] 0)
theorem aez:∀{ps:List (Nat×Nat)}{xs cs:List AV},bY [] ps xs=some cs->cs=[]
 |[],[],cs,h=>by simp[bY]at h;exact h.symm ▸rfl
 |[],_::_,cs,h=>by simp[bY]at h
 |_::_,[],cs,h=>by simp[bY]at h
 |(off,size)::ps,v::vs,cs,h=>by
  unfold bY at h;split at h<;>first|(cases h;done)|skip
  rename_i h1 h2;have h1:=Za6 h1;have h2:=Zb2 h2;have h3:v.cells=[]:=by apply Zc5;simp at h2;omega
  rw[h3]at h;have h4:aU ([]:List AV) off []=[]:=by simp[aU]
  rw[h4]at h;exact aez h
theorem arZ {k : aF}{n:Pos}{xs:List AV}{v:AV}{aN:AB}(h:k.run (λ_=>none) n xs=some (.bh v none none (some aN))):R7 n v aN:=by
 cases k<;>simp only[aF.run]at h
 case alloc z=>unfold Rz at h;split at h<;>cases h;exact .ptr _
 case box=>unfold abJ at h;split at h<;>cases h;exact .ptr _
 case buildSlice es len z p=>
  unfold wZ at h;dsimp only at h;split at h<;>cases h;rename_i cs hc;refine .slice _ _ _ _ λh0 _=> ?_
  subst h0;exact aez hc
 case mkMap=>unfold RD at h;cases h;exact .map
 case mkSlice es b z=>
  unfold Dc at h
  repeat' split at h
  all_goals cases h
  refine .slice _ _ _ _ λ_ h1=> ?_
  rcases h1 with h1|h1
  . cases h1
  . simp only[H5]at h1;subst h1;rfl
 case conv c=>
  unfold FP at h
  repeat' split at h
  all_goals cases h
 case append es bytes=>
  unfold lK at h
  repeat' split at h
  all_goals cases h
  all_goals refine .slice _ _ _ _ λh0 _=> ?_
  all_goals (exfalso;rename_i hb _ _;simp_all)
 case move=>unfold YJ at h;split at h<;>cases h
 case pick=>   unfold adl at h;repeat' split at h
               all_goals cases h
 case build=>unfold RA at h;dsimp only at h;split at h<;>cases h
 case load=>   unfold zP at h;repeat' split at h
               all_goals cases h
 case store=>   unfold Lw at h;repeat' split at h
                all_goals cases h
 case nilCheck=>   unfold OM at h;repeat' split at h
                   all_goals cases h
 case bin=>   unfold jv at h;repeat' split at h
              all_goals cases h
 case un=>   unfold akG at h;repeat' split at h
             all_goals cases h
 case mkIface=>   unfold RB at h;repeat' split at h
                  all_goals cases h
 case mkFunc=>unfold G8 at h;dsimp only at h;cases h
 case lookup=>
  unfold kq at h;split at h<;>first|(cases h;done)|skip
  dsimp only at h;split at h<;>cases h
 case mapSet=>   unfold yG at h;repeat' split at h
                 all_goals cases h
 case sliceS=>
  unfold VS at h;split at h<;>first|(cases h;done)|skip
  split at h<;>first|(cases h;done)|skip
  dsimp only at h;split at h<;>cases h
 case sliceL=>   unfold iP at h;repeat' split at h
                 all_goals cases h
 case fieldA=>   unfold VT at h;repeat' split at h
                 all_goals cases h
 case idxA=>   unfold sH at h;repeat' split at h
               all_goals cases h
 case field=>   unfold RE at h;repeat' split at h
                all_goals cases h
 case idxS=>   unfold YK at h;repeat' split at h
               all_goals cases h
 case extract=>   unfold KE at h;repeat' split at h
                  all_goals cases h
 case callF=>unfold aaK at h;dsimp only at h;cases h
 case callV=>   unfold aaL at h;repeat' split at h
                all_goals cases h
 case lenB=>   unfold PO at h;repeat' split at h
               all_goals cases h
 case copyB=>
  unfold oX at h;split at h<;>first|(cases h;done)|skip
  split at h<;>first|(cases h;done)|skip
  dsimp only at h
  repeat' split at h
  all_goals cases h
 case minB=>   unfold La at h;repeat' split at h
               all_goals cases h
 case maxB=>   unfold Lb at h;repeat' split at h
               all_goals cases h
 case clearS=>   unfold sP at h;repeat' split at h
                 all_goals cases h
 case capB=>cases h
 case bad=>cases h
end
section
def oZ(call:au):Prop:=∀f args st v st',call f args st=some (v,st')->st.next.toNat<=st'.next.toNat
section
variable{call : au}
theorem R8(hm:oZ call){k:aF}{xs:List AV}{st st':St}{v:AV}(h:cG call k xs st=some (v,st')):st.next.toNat<=st'.next.toNat:=by
 unfold cG at h;split at h
 . simp only[H5,Zd1]at h;rw[h.2];exact Za3 _
 . simp only[H5,Zd1]at h;rw[<-h.2];exact St.R4 _ _ _ _
 . exact hm _ _ _ _ _ h
 . cases h
theorem Wk(hm:oZ call):∀(os:List bS)(fr bG:Fr)(st st':St),mD call os fr st=some (bG,st')->st.next.toNat<=st'.next.toNat
 |[],fr,bG,st,st',h=>by simp only[mD,H5,Zd1]at h;rw[h.2];exact Za3 _
 |o ::os,fr,bG,st,st',h=>by
  unfold mD at h;split at h
  . (split at h<;>first|(cases h;done)|skip);(split at h<;>first|(cases h;done)|skip);rename_i hs;exact Zb0 (R8 hm hs) (Wk hm os _ _ _ _ h)
  . exact Wk hm os _ _ _ _ h
  . cases h
theorem zV(hm:oZ call):∀(os:List (Nat×bS))(recs:List Rec)(base:T AB)(fr bG:Fr)(st st':St),ep call os recs base fr st=some (bG,st')->st.next.toNat<=st'.next.toNat
 |[],recs,base,fr,bG,st,st',h=>by simp only[ep,H5,Zd1]at h;rw[h.2];exact Za3 _
 |(j,   o)::os,recs,base,fr,bG,st,st',h=>by
  have hs:st.next.toNat<=st.next.succ.toNat:=by rw[Pos.aC];omega
  unfold ep at h;split at h
  . exact zV hm os _ _ _ _ _ _ h
  . (split at h<;>first|(cases h;done)|skip);split at h
    .   (split at h<;>first|(cases h;done)|skip);exact Zb0 hs (zV hm os _ _ _ _ _ _ h)
    .   (split at h<;>first|(cases h;done)|skip);rename_i hs;exact Zb0 (R8 hm hs) (zV hm os _ _ _ _ _ _ h)
    .   split at h
        . exact zV hm os _ _ _ _ _ _ h
        . (split at h<;>first|(cases h;done)|skip);(split at h<;>first|(cases h;done)|skip);exact zV hm os _ _ _ _ _ _ h
  . cases h
theorem NR(hm:oZ call):∀(m:Nat)(c:AC)(fr bG:Fr)(st st':St)(ex:oe),exec call m c fr st=some (ex,bG,st')->st.next.toNat<=st'.next.toNat
 |0,c,fr,bG,st,st',ex,h=>by simp[exec]at h
 |m +   1,c,fr,bG,st,st',ex,h=>by
  have ih:=NR hm m;simp only[exec]at h;unfold bE at h;split at h
  . simp only[H5,Zd1]at h;rw[h.2.2];exact Za3 _
  . (split at h<;>first|(cases h;done)|skip);rename_i hs;simp only[H5,Zd1]at h;rw[<-h.2.2];exact Wk hm _ _ _ _ _ hs
  . (split at h<;>first|(cases h;done)|skip);rename_i hs;simp only[H5,Zd1]at h;rw[<-h.2.2];exact zV hm _ _ _ _ _ _ _ hs
  . split at h
    .   rename_i hs;exact Zb0 (ih _ _ _ _ _ _ hs) (ih _ _ _ _ _ _ h)
    .   exact ih _ _ _ _ _ _ h
  . split at h<;>first|(cases h;done)|exact ih _ _ _ _ _ _ h
  . split at h
    .   rename_i hs;split at h<;>(simp only[H5,Zd1]at h;rw[<-h.2.2];exact ih _ _ _ _ _ _ hs)
    .   exact ih _ _ _ _ _ _ h
  . split at h
    .   rename_i hs;exact Zb0 (ih _ _ _ _ _ _ hs) (ih _ _ _ _ _ _ h)
    .   exact ih _ _ _ _ _ _ h
  . simp only[H5,Zd1]at h;rw[h.2.2];exact Za3 _
  . simp only[H5,Zd1]at h;rw[h.2.2];exact Za3 _
def oh(O:eV):Prop:=∀f s,O f=some s->∀args st v st',s args st=some (v,st')->st.next.toNat<=st'.next.toNat
theorem Dl{O:eV}{G:T dO}(hO:oh O)(m:Nat):∀d,oZ (uz O G m d)
 |0=>λf args st v st' h=>by simp[uz]at h
 |d +   1=>λf args st v st' h=>by
  have ih:=Dl (G:=G) hO m d;unfold uz at h;split at h
  . rename_i s hs;exact hO f s hs args st v st' h
  . (split at h<;>first|(cases h;done)|skip);(split at h<;>first|(cases h;done)|skip);split at h<;>first|(cases h;done)|skip
    .   rename_i hs;(split at h<;>first|(cases h;done)|skip);simp only[H5,Zd1]at h;rw[<-h.2];exact NR ih _ _ _ _ _ _ _ hs
    .   rename_i hs;(split at h<;>first|(cases h;done)|skip);simp only[H5,Zd1]at h;rw[<-h.2];exact NR ih _ _ _ _ _ _ _ hs
end
def qJ(cX:Fr):List Rec->Fr
 |[]=>cX
 |r::R=>eE (qJ cX R) r.o.dst r.v
def eM(n0:Pos):List Rec->Pos
 |[]=>n0
 |r::_=>r.nx
def RC.pY:RC->Bool
 | .bh _ _=>true
 |_=>false
def lQ(h0:T AB):List Rec->T AB
 |[]=>h0
 |  r::R=>match r.c with
    | .bh _ h=>h
    |_=>lQ h0 R
def lR(h0:T AB):List Rec->T AB
 |[]=>h0
 |  r::R=>match r.c with
    | .bh _ h=>h
    | .new id aN=>(lR h0 R).put (some aN) id
    | .pure=>lR h0 R
def NS:List Rec->Prop
 |[]=>True
 |r::_=>r.c.pY=true
def agP(h0:T AB)(R:List Rec)(o:bS)(xs:List AV)(v:AV):Prop:=
 ∀  A B,R=A++B->NS B->(∀r∈A,r.c.pY=true->o.bZ.testBit r.idx=false)->
    ∃h:T AB,(∀b x,h.get b=some x->(lQ h0 B).get b=some x\/∃r∈A,r.c= .new b x/\o.bZ.testBit r.idx=true)/\o.k.run (λb=>h.get b) .h xs=some (.val v)
inductive uG(call:au)(cX:Fr)(h0:T AB)(n0:Pos):Rec->List Rec->Prop where
 |skip (i:Nat) (o:bS) (R:List Rec) (hw:cH (qJ cX R) o.guard=some false):
  uG call cX h0 n0 { idx:=i,o:=o,v:= .undef,c:= .pure,nx:=eM n0 R } R
 |pure (i:Nat) (o:bS) (v:AV) (xs:List AV) (R:List Rec) (hw:cH (qJ cX R) o.guard=some true) (hx:fU (qJ cX R) o.xs=some xs) (hr:agP h0 R o xs v):
  uG call cX h0 n0 { idx:=i,o:=o,v:=v,c:= .pure,nx:=eM n0 R } R
 |new (i:Nat) (o:bS) (v:AV) (aN:AB) (xs:List AV) (R:List Rec) (hw:cH (qJ cX R) o.guard=some true) (hx:fU (qJ cX R) o.xs=some xs)
  (hr:o.k.run (λ_=>none) (eM n0 R) xs=some (.bh v none none (some aN))):
  uG call cX h0 n0 { idx:=i,o:=o,v:=v,c:= .new (eM n0 R) aN,nx:=(eM n0 R).succ } R
 |bh (i:Nat) (o:bS) (v:AV) (st':St) (xs:List AV) (R:List Rec) (hc:o.cls= .bh) (hw:cH (qJ cX R) o.guard=some true) (hx:fU (qJ cX R) o.xs=some xs)
  (hr:cG call o.k xs { heap:=lR h0 R,next:=eM n0 R }=some (v,st')):
  uG call cX h0 n0 { idx:=i,o:=o,v:=v,c:= .bh (lQ h0 R) st'.heap,nx:=st'.next } R
def Good(call:au)(cX:Fr)(h0:T AB)(n0:Pos):List Rec->Prop
 |[]=>True
 |r::R=>uG call cX h0 n0 r R/\Good call cX h0 n0 R
section
variable{call : au}{cX : Fr}{h0 : T AB}{n0 : Pos}
theorem Good.tail:∀{A B:List Rec},Good call cX h0 n0 (A++B)->Good call cX h0 n0 B
 |[],_,h=>h
 |_::_,_,h=>Good.tail h.2
theorem Good.at{A B:List Rec}{r:Rec}(h:Good call cX h0 n0 (A++r::B)):uG call cX h0 n0 r B:=(Good.tail h).1
theorem R9:∀{A B:List Rec},(∀r∈A,r.c.pY=false)->lQ h0 (A++B)=lQ h0 B
 |[],_,_=>rfl
 |r::A,B,h=>by
  have h1:=h r (Zd6 ..);have ih:=R9 (A:=A) (B:=B) λr hr=>h r (Za9 _ hr)
  simp only[Zd7,lQ];split
  . rename_i hc;rw[hc]at h1;cases h1
  . exact ih
theorem aaR{bZ:Nat}:∀{A B:List Rec}{h:T AB}{b:Pos}{x:AB},(∀r∈A,r.c.pY=false)->NS B->(snap bZ h (A++B)).get b=some x->
  h.get b=some x\/∃r∈A,r.c= .new b x/\bZ.testBit r.idx=true
 |[],B,h,b,x,_,hB,hs=>by
  cases B with
  |nil=>exact .inl hs
  | cons r B=>
    simp only[NS]at hB;simp only[Ze1,snap]at hs;(cases hc:r.c<;>rw[hc]at hB<;>first|(cases hB;done)|skip);rw[hc]at hs;exact .inl hs
 |r ::A   ,B,h,b,x,hA,hB,hs=>by
  have ih:=@aaR bZ A B h b x (λr hr=>hA r (Za9 _ hr)) hB;have up:(h.get b=some x\/∃r∈A,r.c= .new b x/\bZ.testBit r.idx=true)->h.get b=some x\/∃r'∈r::A,r'.c= .new b x/\bZ.testBit r'.idx=true:=λh1=>
    h1.imp id λ⟨r',h2,h3⟩=>⟨r',Za9 _ h2,h3⟩
  simp only[Zd7,snap]at hs;cases hc:r.c with
  |pure=>rw[hc]at hs;exact up (ih hs)
  |bh b1 h1=>have:=hA r (Zd6 ..);rw[hc]at this;cases this
  | new   id aN=>
    rw[hc]at hs;cases ht:bZ.testBit r.idx with
    |false=>simp only[ht]at hs;exact up (ih hs)
    |   true=>
        simp only[ht]at hs;by_cases hid:id=b
        . subst hid;rw[T.gH]at hs;simp only[H5]at hs;subst hs;exact .inr ⟨r,Zd6 ..,hc,ht⟩
        . rw[T.bX _ hid]at hs;exact up (ih hs)
theorem aeA:∀{up:List (Pos×AB)}{h:T AB}{b:Pos}{x:AB},(nE up h).get b=some x->h.get b=some x\/(b,x)∈up
 |[],_,_,_,h=> .inl h
 |(id,aN)::up,h,b,x,hs=>by
  unfold nE at hs;by_cases hid:id=b
  . subst hid;rw[T.gH]at hs;simp only[H5]at hs;subst hs;exact .inr (Zd6 ..)
  . rw[T.bX _ hid]at hs;exact(aeA hs).imp (λh=>h) λh=>Za9 _ h
theorem Sa:∀(A:List Rec),(∀r∈A,r.c.pY=false)\/∃r∈A,r.c.pY=true
 |[]=> .inl λr h=>by cases h
 |r::A=>by
  cases hr:r.c.pY with
  |true=>exact .inr ⟨r,Zd6 ..,hr⟩
  |false=>
   rcases Sa A with h|⟨r',h1,h2⟩
   . exact .inl λr' oC=>by
      rcases Za8.1 oC with rfl|h'
      . exact hr
      . exact h r' h'
   . exact .inr ⟨r',Za9 _ h1,h2⟩
theorem Uj{bZ:Nat}{k:aF}{xs:List AV}{v:AV}:∀(A B:List Rec)(up:List (Pos×AB)),nQ bZ k xs v up (A++B)=true->Good call cX h0 n0 (A++B)->NS B->
  (∀r∈A,r.c.pY=true->bZ.testBit r.idx=false)->(∃r∈A,r.c.pY=true)->
  ∃h:T AB,(∀b x,h.get b=some x->(lQ h0 B).get b=some x\/(∃r∈A,r.c= .new b x/\bZ.testBit r.idx=true)\/(b,x)∈up)/\k.run (λb=>h.get b) .h xs=some (.val v)
 |[],B,up,_,_,_,_,he=>by obtain⟨r,hr,_⟩:=he;cases hr
 |r::A    , B,up,NT,hG,hB,hn,he=>by
  have hn':∀r∈A,r.c.pY=true->bZ.testBit r.idx=false:=λr' oC=>hn r' (Za9 _ oC)
  have ih:=λup (h2:nQ bZ k xs v up (A++B)=true) h3=>Uj A B up h2 hG.2 hB hn' h3
  simp only[Zd7,nQ]at NT;cases hc:r.c with
  |pure=>
   rw[hc]at NT;have rH:∃r∈A,r.c.pY=true:=by
        obtain⟨r',h1,h2⟩:=he;rcases Za8.1 h1 with rfl|h1
        . rw[hc]at h2;cases h2
        . exact⟨r',h1,h2⟩
   obtain⟨h,h1,h2⟩:=ih up NT rH;exact⟨h,λb x hb=>(h1 b x hb).imp (λh=>h) (Or.imp (λ⟨r',h3,h4⟩=>⟨r',Za9 _ h3,h4⟩) λh=>h),h2⟩
  |new    id aN=>
   rw[hc]at NT;have rH:∃r∈A,r.c.pY=true:=by
        obtain⟨r',h1,h2⟩:=he;rcases Za8.1 h1 with rfl|h1
        . rw[hc]at h2;cases h2
        . exact⟨r',h1,h2⟩
   cases ht:bZ.testBit r.idx with
   |    false=>
        simp only[ht]at NT;obtain⟨h,h1,h2⟩:=ih up NT rH;exact⟨h,λb x hb=>(h1 b x hb).imp (λh=>h) (Or.imp (λ⟨r',h3,h4⟩=>⟨r',Za9 _ h3,h4⟩) λh=>h),h2⟩
   |    true=>
        simp only[ht]at NT;obtain⟨h,h1,h2⟩:=ih _ NT rH;refine⟨h,λb x hb=> ?_,h2⟩;rcases h1 b x hb with h3|⟨r',h3,h4⟩|h3
        . exact .inl h3
        . exact .inr (.inl ⟨r',Za9 _ h3,h4⟩)
        . rcases Za8.1 h3 with h3|h3
          . simp only[Zd1]at h3;obtain⟨rfl,rfl⟩:=h3;exact .inr (.inl ⟨r,Zd6 ..,hc,ht⟩)
          . exact .inr (.inr h3)
  |bh base h=>
   rw[hc]at NT;have ht:=hn r (Zd6 ..) (by rw[hc];rfl);simp only[ht,Zb6]at NT;rcases Sa A with hA|hA
   .    have auH:base=lQ h0 B:=(by have hs:=hG.1;(cases hs<;>simp only at hc<;>first|(cases hc;done)|skip);simp only[RC.bh.injEq]at hc;rw[<-hc.1];exact R9 hA);have hra:=NT.1;unfold oJ at hra;(split at hra<;>first|(cases hra;done)|skip);rename_i u hu;rw[yQ hra]at hu;refine⟨_,λb x hb=> ?_,hu⟩;rcases aeA hb with hb|hb
        . rcases aaR hA hB hb with h3|⟨r',h3,h4⟩
          . rw[<-auH];exact .inl h3
          . exact .inr (.inl ⟨r',Za9 _ h3,h4⟩)
        . exact .inr (.inr hb)
   .    obtain⟨h,h1,h2⟩:=ih up NT.2 hA;exact⟨h,λb x hb=>(h1 b x hb).imp (λh=>h) (Or.imp (λ⟨r',h3,h4⟩=>⟨r',Za9 _ h3,h4⟩) λh=>h),h2⟩
theorem ab0:  ∀(L:List (Nat×bS))(R:List Rec)(fr bG:Fr)(st st':St),ep call L R (lQ h0 R) fr st=some (bG,st')->Good call cX h0 n0 R->
  fr=qJ cX R->st.heap=lR h0 R->st.next=eM n0 R->
  ∃R',Good call cX h0 n0 (R'++R)/\(R'.map λr=>(r.idx,r.o))=L.reverse/\bG=qJ cX (R'++R)/\st'.heap=lR h0 (R'++R)/\st'.next=eM n0 (R'++R)
 |[],R,fr,bG,st,st',h,hG,h1,h2,h3=>by
  simp only[ep,H5,Zd1]at h;obtain⟨rfl,rfl⟩:=h;exact⟨[],hG,rfl,h1,h2,h3⟩
 |(j,   o)::  L,R,fr,bG,st,st',h,hG,h1,h2,h3=>by
  have fin:∀(r:Rec)(bw:St)(ff:Fr),r.idx=j->r.o=o->uG call cX h0 n0 r R->ff=qJ cX (r::R)->bw.heap=lR h0 (r::R)->bw.next=r.nx->
        ep call L (r::R) (lQ h0 (r::R)) ff bw=some (bG,st')->
        ∃R',Good call cX h0 n0 (R'++R)/\(R'.map λr=>(r.idx,r.o))=((j,o)::L).reverse/\bG=qJ cX (R'++R)/\st'.heap=lR h0 (R'++R)/\st'.next=eM n0 (R'++R):=by
    intro r bw ff hj ho hs k1 k2 k3 hd;obtain⟨R',g1,g2,g3,g4,g5⟩:=ab0 L (r::R) ff bG bw st' hd ⟨hs,hG⟩ k1 k2 k3;have e:R'++r::R=(R'++[r])++R:=(by simp);rw[e]at g1 g3 g4 g5;exact⟨R'++[r],g1,by simp[g2,hj,ho],g3,g4,g5⟩
  unfold ep at h;subst h1;split at h
  . rename_i hw;exact fin _ _ _ rfl rfl (h3 ▸uG.skip j o R hw) rfl h2 rfl h
  . rename_i hw;(split at h<;>first|(cases h;done)|skip);rename_i xs hx;split at h
    .   (split at h<;>first|(cases h;done)|skip);rename_i v aN hr;rw[h3]at hr;have hs:=uG.new (call:=call) (cX:=cX) (h0:=h0) (n0:=n0) j o v aN xs R hw hx hr;rw[<-h3]at hs;refine fin _ _ _ rfl rfl hs rfl ?_ rfl h;simp only[lR,h2]
    .   rename_i aph;(split at h<;>first|(cases h;done)|skip);rename_i v bw hr;have gJ:st={ heap:=lR h0 R,next:=eM n0 R }:=(by cases st;simp_all);rw[gJ]at hr;exact fin _ bw _ rfl rfl (uG.bh j o v bw xs R aph hw hx hr) rfl rfl rfl h
    .   split at h
        . rename_i v hr;have Z3:agP h0 R o xs v:=by
           intro A B _ _ _;refine⟨.e,λb x hb=> ?_,?_⟩
           .  rw[T.dP]at hb;cases hb
           .  have e:(λb=>T.get b (T.e:T AB))=λ_=>none:=(by funext b;exact T.dP b);rw[e];exact hr
          exact fin _ _ _ rfl rfl (h3 ▸uG.pure j o v xs R hw hx Z3) rfl h2 rfl h
        . (split at h<;>first|(cases h;done)|skip);rename_i v hr;(split at h<;>first|(cases h;done)|skip);rename_i NT;have Z3:agP h0 R o xs v:=by
           intro A B hAB hB hn;subst hAB;rcases Sa A with hA|hA
           .  refine⟨_,λb x hb=> ?_,hr⟩;have:=aaR hA hB hb;rw[R9 hA]at this;exact this
           .  obtain⟨h,k1,k2⟩:=Uj A B [] NT hG hB hn hA;exact⟨h,λb x hb=>(k1 b x hb).imp id λh=>h.resolve_right (by simp),k2⟩
          exact fin _ _ _ rfl rfl (h3 ▸uG.pure j o v xs R hw hx Z3) rfl h2 rfl h
  . cases h
end
end
section
open Go
structure Late(m:Nat)(pre:List Nat)(L:List (Nat×bS)):Prop where
 all:∀i,i<m->i∈pre\/i∈L.map (·.1)
 lt:∀x∈L,x.1<m
 one:∀A i o B,L=A++(i,o)::B->i∉pre/\i∉A.map (·.1)
 bZ:∀A i o B,L=A++(i,o)::B->∀b,o.bZ.testBit b=true->b∈pre\/b∈A.map (·.1)
 bh:∀A i o B,L=A++(i,o)::B->o.cls= .bh->∀b,(b∈pre\/b∈A.map (·.1))->o.bZ.testBit b=true
 apart:∀A i o B,L=A++(i,o)::B->∀x∈B,x.2.bZ.testBit i=true\/VU o x.2=true
theorem Z4{m:Nat}:∀(L:List (Nat×bS))(seen:Nat)(pre:List Nat),PW m seen L=true->(∀b,seen.testBit b=true↔b∈pre)->Late m pre L
 |[],seen,pre,h,hs=>by
  simp only[PW]at h;have:=Za6 h;refine⟨λi hi=> .inl ((hs i).1 ?_),λx hx=>(by cases hx),λA i o B h=> ?_,λA i o B h=> ?_,λA i o B h=> ?_,λA i o B h=> ?_⟩
  . rw[this,Nat.testBit_two_pow_sub_one];simpa using hi
  all_goals (cases A<;>cases h)
 |(i,   o)::L,seen,pre,h,hs=>by
  simp only[PW,Zb6]at h;obtain⟨⟨⟨⟨⟨h1,h2⟩,h3⟩,h4⟩,h5⟩,h6⟩:=h;have h1:i<m:=Zb2 h1;have h2:i∉pre:=λhp=>by rw[(hs i).2 hp]at h2;cases h2
  have h3:=Za6 h3;have hb:∀b,o.bZ.testBit b=true->b∈pre:=λb hb=>by rw[<-h3,Nat.testBit_and,Zb6]at hb;exact(hs b).1 hb.2
  have he:o.cls= .bh->∀b,b∈pre->o.bZ.testBit b=true:=λhc b hp=>by rw[hc]at h4;rw[Za6 h4];exact(hs b).2 hp
  have ih:=Z4 L (seen ||| 2 ^ i) (pre++[i]) h6 (λb=>by
    rw[Nat.testBit_or,Nat.testBit_two_pow,Zj4,hs b,Zd8];simp[eq_comm])
  rw[Zg7]at h5;have af8:∀{A:List (Nat×bS)}{j:Nat}{p:bS}{B:List (Nat×bS)},(i,o)::L=A++(j,p)::B->(A=[]/\i=j/\o=p/\L=B)\/∃A',A=(i,o)::A'/\L=A'++(j,p)::B:=by
    intro A j p B hA;cases A with
    |nil=>simp at hA;exact .inl ⟨rfl,hA.1.1,hA.1.2,hA.2⟩
    |cons x A=>simp at hA;exact .inr ⟨A,by rw[hA.1],hA.2⟩
  refine⟨λj hj=> ?_,λx hx=> ?_,λA j p B hA=> ?_,λA j p B hA=> ?_,λA j p B hA=> ?_,λA j p B hA=> ?_⟩
  . rcases ih.all j hj with h|h
    .   rcases Zd8.1 h with h|h
        . exact .inl h
        . simp at h;exact .inr (by simp[h])
    .   exact .inr (by simp only[Zd2,Za8];exact .inr h)
  . rcases Za8.1 hx with rfl|hx
    .   exact h1
    .   exact ih.lt x hx
  . rcases af8 hA with⟨rfl,rfl,rfl,rfl⟩|⟨A',rfl,Uk⟩
    .   exact⟨h2,by simp⟩
    .   obtain⟨k1,k2⟩:=ih.one A' j p B Uk;simp only[Zd8,Zh8,not_or]at k1;exact⟨k1.1,by simp only[Zd2,Za8,not_or];exact⟨k1.2,k2⟩⟩
  . rcases af8 hA with⟨rfl,rfl,rfl,rfl⟩|⟨A',rfl,Uk⟩
    .   exact λb vC=> .inl (hb b vC)
    .   intro b vC;rcases ih.bZ A' j p B Uk b vC with h|h
        . rcases Zd8.1 h with h|h
          . exact .inl h
          . simp at h;exact .inr (by simp[h])
        . exact .inr (by simp only[Zd2,Za8];exact .inr h)
  . rcases af8 hA with⟨rfl,rfl,rfl,rfl⟩|⟨A',rfl,Uk⟩
    .   intro hc b vC;rcases vC with h|h
        . exact he hc b h
        . simp at h
    .   intro hc b vC;refine ih.bh A' j p B Uk hc b ?_;rcases vC with h|h
        . exact .inl (Zd8.2 (.inl h))
        . simp only[Zd2,Za8]at h;rcases h with rfl|h
          . exact .inl (by simp)
          . exact .inr h
  . rcases af8 hA with⟨rfl,rfl,rfl,rfl⟩|⟨A',rfl,Uk⟩
    .   intro x hx;have:=h5 x hx
        rwa [Zj4]at this
    .   exact ih.apart A' j p B Uk
inductive Reach(ops:Array Oper):Nat->Nat->Prop where
 |edge (i:Nat) (o:Oper) (e:Edge) (ho:ops[i]? =some o) (he:e∈o.after) (hb:Region.binds .any e=true):Reach ops i e.on
 |trans (i:Nat) (o:Oper) (e:Edge) (b:Nat) (ho:ops[i]? =some o) (he:e∈o.after) (hb:Region.binds .any e=true) (h:Reach ops e.on b):Reach ops i b
def ak2(ops:Array Oper)(i m:Nat):Prop:=
 (∀o,ops[i]? =some o->∀e∈o.after,Region.binds .any e=true->m.testBit e.on=true)/\∀b,m.testBit b=true->Reach ops i b
theorem adu(acc:List Nat):∀(l:List Edge)(s b:Nat),(l.foldl (λs e=>match Region.binds .any e with
   |true=>s ||| 2 ^ e.on ||| (nth acc e.on).getD 0
   |false=>s) s).testBit b=true↔s.testBit b=true\/∃e∈l,Region.binds .any e=true/\(e.on=b\/((nth acc e.on).getD 0).testBit b=true)
 |[],s,b=>by simp
 |e::l,s,b=>by
  rw[Zq8,adu acc l];cases he:Region.binds .any e with
  |false=>simp[he]
  |true=>
   simp only[Nat.testBit_or,Zj4,Nat.testBit_two_pow,Ze7,Za8,exists_eq_or_imp,he,Zr2];constructor
   .    rintro(((h|h)|h)|h)
        . exact .inl h
        . exact .inr (.inl (.inl h))
        . exact .inr (.inl (.inr h))
        . exact .inr (.inr h)
   .    rintro(h|(h|h)|h)
        . exact .inl (.inl (.inl h))
        . exact .inl (.inl (.inr h))
        . exact .inl (.inr h)
        . exact .inr h
theorem ajQ {ops:Array Oper}:∀(os:List Oper)(acc:List Nat),os=ops.toList.drop acc.length->acc.length<=ops.size->(∀i,i<acc.length->ak2 ops i (acc.getD i 0))->
  ∀i,i<ops.size->ak2 ops i ((agu os acc).getD i 0)
 |[],acc,hos,hl,ak3,i,hi=>by
  have h1:(ops.toList.drop acc.length).length=0:=by rw[<-hos];rfl
  have:ops.size<=acc.length:=by simp at h1;omega
  exact ak3 i (by omega)
 |o ::os,acc,hos,hl,ak3,i,hi=>by
  simp only[agu];have ho:ops[acc.length]? =some o:=by have:(ops.toList.drop acc.length)[0]? =some o:=(by rw[<-hos];rfl);simpa using this
  have aV:acc.length<ops.size:=(Zd3.1 ho).1;refine ajQ os _ ?_ (by simp;omega) (λj hj=> ?_) i hi
  . rw[Ze6,List.length_singleton, <-Zl1, <-hos];rfl
  . rcases Zi4 j acc.length with h|h
    .   rw[Zb5,Zc1 h, <-Zb5];exact ak3 j h
    .   have LA:j=acc.length:=(by simp at hj;omega);subst LA;rw[Zb5,Zb9 (Za3 _)];simp only[Zk3,Za4,Ze9];refine⟨λo' NQ e he hb=> ?_,λb hb=> ?_⟩
        . rw[ho]at NQ;simp only[H5]at NQ;subst NQ;exact(adu acc _ 0 e.on).2 (.inr ⟨e,by simpa using he,hb,.inl rfl⟩)
        . have hb:=(adu acc _ 0 b).1 hb;rcases hb with hb|⟨e,he,vC,hb⟩
          . simp at hb
          . have rH:e∈o.after:=(by simpa using he);rcases hb with rfl|hb
            . exact .edge _ o e ho rH vC
            . refine .trans _ o e b ho rH vC ?_;rw[qH]at hb;rcases Zi4 e.on acc.length with h|h
              . exact(ak3 _ h).2 b (by rw[Zb5];exact hb)
              . rw[Zc4 h]at hb;simp at hb
theorem ajR:∀(l:List bS)(k:Nat)(x:Nat×bS),x∈Ly k l->∃i,x.1=k+i/\l[i]? =some x.2
 |[],k,x,h=>by cases h
 |o ::l,k,x,h=>by
  simp only[Ly,Za8]at h;rcases h with rfl|h
  . exact⟨0,rfl,rfl⟩
  . obtain⟨i,h1,h2⟩:=ajR l (k+1) x h;exact⟨i+1,by omega,by simpa using h2⟩
theorem Wl:∀(l held:List (Nat×bS))(x:Nat×bS),x∈BL l held->x∈l\/x∈held
 |[],held,x,h=> .inr h
 |(i,   o)::l,held,x,h=>by
  unfold BL at h;split at h
  . rcases Zd8.1 h with h|h
    .   exact .inr (Zl3.1 h).1
    .   rcases Za8.1 h with h|h
        . exact .inl (by rw[h];exact Zd6 ..)
        . rcases Wl l _ x h with h|h
          . exact .inl (Za9 _ h)
          . exact .inr (Zl3.1 h).1
  . rcases Wl l _ x h with h|h
    .   exact .inl (Za9 _ h)
    .   rcases Zd8.1 h with h|h
        . exact .inr h
        . simp at h;exact .inl (by rw[h];exact Zd6 ..)
theorem ar0{l:List bS}{x:Nat×bS}(h:x∈BL (Ly 0 l) []):l[x.1]? =some x.2:=by
 rcases Wl _ _ _ h with h|h
 . obtain⟨i,h1,h2⟩:=ajR l 0 x h;rw[h1,Zc3];exact h2
 . cases h
theorem Sb{p:Pos}:∀{l:List Pos},PV p l=true↔p∈l
 |[]=>by simp[PV]
 |q::l=>by simp[PV,Sb (l:=l),Pos.beq_eq]
theorem OQ{a b:bS}(h:VU a b=true):
   (∀d,a.dst=some d->d∉b.looks/\b.dst≠some d)/\(∀d,b.dst=some d->d∉a.looks):=by
 unfold VU at h;rw[Zb6]at h;obtain⟨h1,h2⟩:=h;constructor
 . intro d hd;rw[hd]at h1;simp only[Zb6,Zk2]at h1;refine⟨λhm=> ?_,λhb=> ?_⟩
   . rw[Sb.2 hm]at h1;exact absurd h1.1 (by simp)
   . rw[hb]at h1;have:Pos.beq d d=true:=Pos.beq_eq.2 rfl;simp[this]at h1
 . intro d hd hm;rw[hd]at h2;simp only[Zk2]at h2;rw[Sb.2 hm]at h2;cases h2
section
variable(P : Program)(tt : TT)(C : Cells)(nt : Nat)(ops : Array Oper)(call : au)(cX : Fr)(h0 : T AB)(n0 : Pos)(R : List Rec)
structure Dm:Prop where
 aaS:Good call cX h0 n0 R
 mono:oZ call
 one:∀A r B,R=A++r::B->∀r'∈B,r'.idx≠r.idx
 bZ:∀A r B,R=A++r::B->∀b,r.o.bZ.testBit b=true->∃r'∈B,r'.idx=b
 bh:∀A r B,R=A++r::B->r.o.cls= .bh->∀r'∈B,r.o.bZ.testBit r'.idx=true
 apart:∀A r B,R=A++r::B->∀r'∈A,r'.o.bZ.testBit r.idx=true\/VU r.o r'.o=true
 rel:∀r∈R,∃o,ops[r.idx]? =some o/\zU tt nt ops o r.o/\ak2 ops r.idx r.o.bZ
 all:∀i,i<ops.size->∃r∈R,r.idx=i
def Kept(D:Nat->Prop)(b:Pos):Prop:=∀A r B,R=A++r::B->¬D r.idx->b.toNat<(eM n0 B).toNat\/r.nx.toNat<=b.toNat
def T1(D:Nat->Prop)(ρ:Pos->Loc)(tmps:Array Value):Prop:=
 ∀M s T p,R=M++s::T->D s.idx->s.o.dst=some p->(∀s'∈M,D s'.idx->s'.o.dst≠some p)->∃x,tmps[p.toNat - 1]? =some x/\aD ρ s.nx.toNat C s.v x
def T0(D:Nat->Prop)(ρ:Pos->Loc)(tmps:Array Value):Prop:=
 ∀p v,cX.get p=some v->(∀s∈R,D s.idx->s.o.dst≠some p)->∃x,tmps[p.toNat - 1]? =some x/\aD ρ n0.toNat C v x
structure Pre(D:Nat->Prop)(A B:List Rec)(a:Act):Prop where
 split:R=A++B
 bound:NS B
 inB:∀r∈B,D r.idx
 inA:∀r∈A,D r.idx->r.c.pY=false
 closed:∀i o e,D i->ops[i]? =some o->e∈o.after->Region.binds .any e=true->D e.on
 size:a.tmps.size=nt
 defers:a.defers=[]
structure Inv0(nH:Pos->Loc)(w0:World)(D:Nat->Prop)(A B:List Rec)(ρ:Pos->Loc)(a:Act)(w:World):Prop where
 W:cq ρ C { heap:=lQ h0 B,next:=eM n0 B } w
 N:∀r∈A,D r.idx->∀id aN,r.c= .new id aN->tO ρ r.nx.toNat C (ρ id) w aN/\(ρ id).aN<w.heap.size/\w0.heap.size<=(ρ id).aN/\
  (∀b x,(lQ h0 B).get b=some x->(ρ b).aN≠(ρ id).aN)/\(∀ad v,C ad=some v->(ρ id).aN≠ad.block)
 N2:∀r∈A,D r.idx->∀id aN,r.c= .new id aN->∀r'∈A,D r'.idx->∀yd IF,r'.c= .new yd IF->id≠yd->(ρ id).aN≠(ρ yd).aN
 t1:T1 C R D ρ a.tmps
 t0:T0 C cX n0 R D ρ a.tmps
 E:qi nH { heap:=h0,next:=n0 } w0 ρ { heap:=lQ h0 B,next:=eM n0 B } w
 agree:∀b:Pos,b.toNat<n0.toNat->ρ b=nH b
def Inv(nH:Pos->Loc)(w0:World)(D:Nat->Prop)(A B:List Rec)(ρ:Pos->Loc)(a:Act)(w:World):Prop:=
 Pre nt ops R D A B a/\∀ρ',(∀b,Kept n0 R D b->ρ' b=ρ b)->Inv0 C cX h0 n0 R nH w0 D A B ρ' a w
end
section
variable{P : Program}{tt : TT}{C : Cells}{nt : Nat}{ops : Array Oper}{call : au}{cX : Fr}{h0 : T AB}{n0 : Pos}{R : List Rec}
theorem LM(h:∀A r B,R=A++r::B->∀r'∈B,r'.idx≠r.idx){X X' Y Y':List Rec}{r r':Rec}(h1:R=X++r::Y)(h2:R=X'++r'::Y')(hi:r.idx=r'.idx):
   X=X'/\r=r'/\Y=Y':=by
 have h3:X++r::Y=X'++r'::Y':=h1.symm.trans h2;rcases List.append_eq_append_iff.1 h3 with⟨Z,hX,hZ⟩|⟨Z,hX,hZ⟩
 . cases Z with
   |nil=>simp at hZ hX;exact⟨hX.symm,hZ.1,hZ.2⟩
   |cons z Z=>
    simp at hZ;exact absurd hi.symm (h X r Y h1 r' (by rw[hZ.2];simp))
 . cases Z with
   |nil=>simp at hZ hX;exact⟨hX,hZ.1.symm,hZ.2.symm⟩
   |cons z Z=>
    simp at hZ;exact absurd hi (h X' r' Y' h2 r (by rw[hZ.2];simp))
theorem oN{r:Rec}(h:r∈R):∃A B,R=A++r::B:=List.append_of_mem h
theorem ajS(hm:oZ call){r:Rec}{B:List Rec}(h:uG call cX h0 n0 r B):(eM n0 B).toNat<=r.nx.toNat:=by
 cases h with
 |skip=>exact Za3 _
 |pure=>exact Za3 _
 |new=>simp only[Pos.aC];omega
 |bh i o v st' xs _ hc hw hx hr=>exact R8 hm hr
theorem adv(hm:oZ call):∀{A B:List Rec},Good call cX h0 n0 (A++B)->(eM n0 B).toNat<=(eM n0 (A++B)).toNat
 |[],_,_=>Za3 _
 |r::A,B,h=>Zb0 (adv hm (A:=A) h.2) (ajS hm h.1)
namespace Dm
variable(G : Dm tt nt ops call cX h0 n0 R)
include G
theorem later{X Y:List Rec}{r r':Rec}(h:R=X++r::Y)(hr:r'∈X):r'.idx≠r.idx:=by
 obtain⟨A,B,rfl⟩:=oN hr;have h':R=A++r'::(B++r::Y):=by rw[h];simp
 exact λe=>G.one _ _ _ h' r (by simp) e.symm
theorem aru{X Y:List Rec}{r:Rec}(h:R=X++r::Y):(eM n0 Y).toNat<=r.nx.toNat:=ajS G.mono (Good.at (h ▸G.aaS))
theorem Hl{X Y Z:List Rec}(h:R=X++(Y++Z)):(eM n0 Z).toNat<=(eM n0 (Y++Z)).toNat:=adv G.mono (Good.tail (h ▸G.aaS))
theorem ak4{X Y:List Rec}(h:R=X++Y):n0.toNat<=(eM n0 Y).toNat:=by have:=adv (n0:=n0) G.mono (A:=Y) (B:=[]) (by rw[Ze0];exact Good.tail (h ▸G.aaS));rw[Ze0]at this;exact this
theorem ab1{D:Nat->Prop}(hc:∀i o e,D i->ops[i]? =some o->e∈o.after->Region.binds .any e=true->D e.on){i b:Nat}(h:Reach ops i b)
  (hi:∀o e,ops[i]? =some o->e∈o.after->Region.binds .any e=true->D e.on):D b:=by
 induction h with
 |edge i o e ho he hb=>exact hi o e ho he hb
 |trans i o e b ho he hb _ ih=>exact ih λo' e' NQ rH dZ=>hc _ o' e' (hi o e ho he hb) NQ rH dZ
theorem arv{D:Nat->Prop}{A B:List Rec}{a:Act}(hp:Pre nt ops R D A B a){s:Rec}(hs:s∈R)(hD:D s.idx){b:Nat}(hb:s.o.bZ.testBit b=true):D b:=by obtain⟨o,ho,_,hB⟩:=G.rel s hs;exact G.ab1 hp.closed (hB.2 b hb) λo' e NQ he vC=>hp.closed _ o' e hD NQ he vC
end Dm
theorem Wm:∀(Y:List Rec)(p:Pos)(v:AV),(qJ cX Y).get p=some v->
  (∃M s T,Y=M++s::T/\s.o.dst=some p/\s.v=v/\∀s'∈M,s'.o.dst≠some p)\/(cX.get p=some v/\∀s∈Y,s.o.dst≠some p)
 |[],p,v,h=> .inr ⟨h,λs hs=>by cases hs⟩
 |r ::Y   ,p,v,h=>by
  simp only[qJ]at h;by_cases hr:r.o.dst=some p
  . rw[hr]at h;simp only[eE,T.gH,H5]at h;exact .inl ⟨[],r,Y,rfl,hr,h,λs hs=>by cases hs⟩
  . have h':(qJ cX Y).get p=some v:=by
        cases hd:r.o.dst with
        |none=>rw[hd]at h;exact h
        | some d=>
          rw[hd]at h;simp only[eE]at h
          rwa [T.bX _ λe=>hr (by rw[hd,e])]at h
    rcases Wm Y p v h' with⟨M,s,T,rfl,h2,h3,h4⟩|⟨h2,h3⟩
    .   refine .inl ⟨r::M,s,T,rfl,h2,h3,λs' qI=> ?_⟩;rcases Za8.1 qI with rfl|qI
        . exact hr
        . exact h4 s' qI
    .   refine .inr ⟨h2,λs hs=> ?_⟩;rcases Za8.1 hs with rfl|hs
        . exact hr
        . exact h3 s hs
theorem look(G:Dm tt nt ops call cX h0 n0 R){D:Nat->Prop}{A B:List Rec}{a:Act}(hp:Pre nt ops R D A B a){ρ:Pos->Loc}(h1:T1 C R D ρ a.tmps)(h2:T0 C cX n0 R D ρ a.tmps)
   {X Y:List Rec} {r:Rec} (hR:R=X++r::Y) (hD:¬D r.idx) (adw:∀b,r.o.bZ.testBit b=true->D b) {p:Pos} {v:AV} (hl:p∈r.o.looks) (hv:(qJ cX Y).get p=some v):
   ∃x,a.tmps[p.toNat - 1]? =some x/\aD ρ (eM n0 Y).toNat C v x:=by
 have hX:∀s∈X,D s.idx->s.o.dst≠some p:=by
   intro s hs iJ hd;rcases G.apart X r Y hR s hs with h|h
   . exact hD (G.arv hp (by rw[hR];simp[hs]) iJ h)
   . exact(OQ h).2 p hd hl
 rcases Wm Y p v hv with⟨M,s,T,rfl,h3,rfl,h4⟩|⟨h3,h4⟩
 . have hR':R=(X++r::M)++s::T:=(by rw[hR];simp);have iJ:D s.idx:=by
     rcases G.apart _ s T hR' r (by simp)with h|h
     .  exact adw _ h
     .  exact absurd hl ((OQ h).1 p h3).1
   obtain⟨x,hx,Wn⟩:=h1 (X++r::M) s T p hR' iJ h3 (λs' qI LN=>by
     rcases Zd8.1 qI with h|h
     .  exact hX s' h LN
     .  rcases Za8.1 h with rfl|h
        . exact absurd LN hD
        . exact h4 s' h)
   refine⟨x,hx,Wn.mono (λ_ _=>rfl) ?_⟩;have:=G.Hl (X:=X++[r]) (Y:=M) (Z:=s::T) (by rw[hR];simp);exact this
 . obtain⟨x,hx,Wn⟩:=h2 p v h3 (λs hs iJ=>by
     rw[hR]at hs;rcases Zd8.1 hs with h|h
     .  exact hX s h iJ
     .  rcases Za8.1 h with rfl|h
        . exact absurd iJ hD
        . exact h4 s h)
   exact⟨x,hx,Wn.mono (λ_ _=>rfl) (G.ak4 (X:=X++[r]) (by rw[hR];simp))⟩
theorem NU{a:Act}{d:Option Tmp}{x:Value}{p:Pos}(h:d.map key≠some p):(a.put d x).tmps[p.toNat - 1]? =a.tmps[p.toNat - 1]? :=by
 cases d with
 |none=>rfl
 |some e=>
  simp only[Act.put];rw[Zj6];intro he;apply h;simp only[Ze2,H5];apply Pos.toNat_inj;rw[iQ];have:=p.toNat_pos;omega
theorem api{a:Act}{d:Option Tmp}{x:Value}{p:Pos}(h:d.map key=some p)(hs:a.tmps.size=nt)(hd:∀e,d=some e->e<nt):(a.put d x).tmps[p.toNat - 1]? =some x:=by
 cases d with
 |none=>cases h
 |some e=>
  simp only[Ze2,H5]at h;subst h;simp only[Act.put];rw[iQ,Zh3,Zp0];simp[hs,hd e rfl]
theorem ak5(G:Dm tt nt ops call cX h0 n0 R){D:Nat->Prop}{A B:List Rec}{a:Act}(hp:Pre nt ops R D A B a){ρ:Pos->Loc}(h1:T1 C R D ρ a.tmps)(h2:T0 C cX n0 R D ρ a.tmps)
   {X Y:List Rec} {r:Rec} (hR:R=X++r::Y) (hD:¬D r.idx) {o:Oper} (hrel:zU tt nt ops o r.o) {x:Value} (hv:aD ρ r.nx.toNat C r.v x):
   T1 C R (λi=>D i\/i=r.idx) ρ (a.put o.dst x).tmps/\T0 C cX n0 R (λi=>D i\/i=r.idx) ρ (a.put o.dst x).tmps:=by
 constructor
 . intro  M s T p hM iJ hd nG;by_cases hi:s.idx=r.idx
   . obtain⟨_,rfl,_⟩:=LM G.one hM hR hi;rw[hrel.dst]at hd;exact⟨x,api hd hp.size hrel.lt,hv⟩
   . have iJ:=iJ.resolve_right hi;by_cases Wo:r.o.dst=some p
     .  exfalso;have hs:s∈R:=(by rw[hM];simp);rw[hR]at hs;rcases Zd8.1 hs with h|h
        . rcases G.apart X r Y hR s h with k|k
          . exact hD (G.arv hp (by rw[hR];simp[h]) iJ k)
          . exact((OQ k).1 p Wo).2 hd
        . rcases Za8.1 h with rfl|h
          . exact hi rfl
          . obtain⟨Y1,Y2,rfl⟩:=oN h;have hR':R=(X++r::Y1)++s::Y2:=(by rw[hR];simp);obtain⟨hM',_,_⟩:=LM G.one hM hR' rfl;exact nG r (by rw[hM'];simp) (.inr rfl) Wo
     .  (rw[hrel.dst]at Wo;obtain⟨y,hy,Wc⟩:=h1 M s T p hM iJ hd λs' qI LN=>nG s' qI (.inl LN));exact⟨y,by rw[NU Wo];exact hy,Wc⟩
 . (intro p v hf nG;have hr:r.o.dst≠some p:=nG r (by rw[hR];simp) (.inr rfl);rw[hrel.dst]at hr;obtain⟨y,hy,Wc⟩:=h2 p v hf λs hs iJ=>nG s hs (.inl iJ));exact⟨y,by rw[NU hr];exact hy,Wc⟩
end
section
variable{P : Program}{tt : TT}{C : Cells}{nt : Nat}{ops : Array Oper}{call : au}{cX : Fr}{h0 : T AB}{n0 : Pos}{R : List Rec}
theorem cq.congr{ρ ρ':Pos->Loc}{st:St}{w:World}(h:cq ρ C st w)(bF:∀b:Pos,b.toNat<st.next.toNat->ρ' b=ρ b):cq ρ' C st w where
 live b x hb:=by
  obtain⟨h1,h2,h3⟩:=h.live b x hb;rw[bF b h1];exact⟨h1,h2,h3.mono bF (Za3 _)⟩
 inj b b' x x' hb dZ he:=by rw[bF b (h.live b x hb).1,bF b' (h.live b' x' dZ).1]at he;exact h.inj b b' x x' hb dZ he
 eD a v ha:=⟨(h.eD a v ha).1,λb x hb=>by rw[bF b (h.live b x hb).1];exact(h.eD a v ha).2 b x hb⟩
 whole:=h.whole
theorem qi.congr{ρ jY ρ':Pos->Loc}{st st':St}{w w':World}(h:qi ρ st w jY st' w')(bF:∀b x,st'.heap.get b=some x->ρ' b=jY b):qi ρ st w ρ' st' w' where
 os:=h.os
 tape:=h.tape
 output:=h.output
 size:=h.size
 block:=h.block
 yI b x hb:=by rw[bF b x hb];exact h.yI b x hb
namespace Dm
variable(G : Dm tt nt ops call cX h0 n0 R)
include G
theorem same{r r':Rec}(h:r∈R)(h':r'∈R)(hi:r.idx=r'.idx):r=r':=by obtain⟨A,B,hA⟩:=oN h;obtain⟨A',B',Uk⟩:=oN h';exact(LM G.one hA Uk hi).2.1
theorem cmp{X Y X' Y':List Rec}{r r':Rec}(h1:R=X++r::Y)(h2:R=X'++r'::Y')(hi:r'.idx≠r.idx):
   (∃Z,Y'=Z++r::Y)\/(∃Z,Y=Z++r'::Y'):=by
 have h3:X++r::Y=X'++r'::Y':=h1.symm.trans h2;rcases List.append_eq_append_iff.1 h3 with⟨Z,hX,hZ⟩|⟨Z,hX,hZ⟩
 . cases Z with
   |nil=>simp at hZ;exact absurd (by rw[hZ.1]) hi
   |cons z Z=>simp at hZ;exact .inr ⟨Z,hZ.2⟩
 . cases Z with
   |nil=>simp at hZ;exact absurd (by rw[hZ.1]) hi
   |cons z Z=>simp at hZ;exact .inl ⟨Z,hZ.2⟩
theorem Sc{X Y X' Z:List Rec}{r r':Rec}(h1:R=X++r::Y)(h2:R=X'++r'::(Z++r::Y)):r.nx.toNat<=(eM n0 (Z++r::Y)).toNat:=by have:=G.Hl (X:=X'++[r']) (Y:=Z) (Z:=r::Y) (by rw[h2];simp);exact this
theorem KI{X Y' Z:List Rec}{r r':Rec}(h1:R=X++r::(Z++r'::Y')):r'.nx.toNat<=(eM n0 (Z++r'::Y')).toNat:=by have:=G.Hl (X:=X++[r]) (Y:=Z) (Z:=r'::Y') (by rw[h1];simp);exact this
theorem Wp{X Y:List Rec}{r:Rec}(h:R=X++r::Y){id:Pos}{aN:AB}(hc:r.c= .new id aN):id=eM n0 Y/\r.nx=id.succ:=by
 have hs:=Good.at (h ▸G.aaS);cases hs<;>simp only at hc<;>first|(cases hc;done)|skip
 simp only[RC.new.injEq]at hc;obtain⟨rfl,_⟩:=hc;exact⟨rfl,rfl⟩
end Dm
theorem Kept.up{D D':Nat->Prop}(h:∀i,D i->D' i){b:Pos}(hk:Kept n0 R D b):Kept n0 R D' b:=λA r B hR hD=>hk A r B hR λhd=>hD (h _ hd)
theorem Pre.next(G:Dm tt nt ops call cX h0 n0 R){D:Nat->Prop}{A B:List Rec}{a:Act}(hp:Pre nt ops R D A B a){X Y:List Rec}{r:Rec}(hR:R=X++r::Y)
  (uH:∀o e,ops[r.idx]? =some o->e∈o.after->Region.binds .any e=true->D e.on) (hc:r.c.pY=false) (d:Option Tmp) (x:Value):
  Pre nt ops R (λi=>D i\/i=r.idx) A B (a.put d x) where
 split:=hp.split
 bound:=hp.bound
 inB s hs:= .inl (hp.inB s hs)
 inA s hs hD:=by
  rcases hD with hD|hD
  . exact hp.inA s hs hD
  . rw[G.same (by rw[hp.split];simp[hs]) (by rw[hR];simp) hD];exact hc
 closed i o e hD ho he hb:=by
  rcases hD with hD|rfl
  . exact .inl (hp.closed i o e hD ho he hb)
  . exact .inl (uH o e ho he hb)
 size:=by rw[Act.ke];exact hp.size
 defers:=by rw[Act.mB];exact hp.defers
theorem aeB(G:Dm tt nt ops call cX h0 n0 R){nH:Pos->Loc}{w0:World}{D:Nat->Prop}{A B:List Rec}{ρ:Pos->Loc}{a:Act}{w:World}
  (hI:Inv C nt ops cX h0 n0 R nH w0 D A B ρ a w) {X Y:List Rec} {r:Rec} (hR:R=X++r::Y) (hD:¬D r.idx)
  (uH:∀o e,ops[r.idx]? =some o->e∈o.after->Region.binds .any e=true->D e.on) {o:Oper} (hrel:zU tt nt ops o r.o) (hc:r.c= .pure) {x:Value}
  (hv:∀ρ',(∀b,Kept n0 R D b->ρ' b=ρ b)->aD ρ' r.nx.toNat C r.v x):
  Inv C nt ops cX h0 n0 R nH w0 (λi=>D i\/i=r.idx) A B ρ (a.put o.dst x) w:=by
 obtain⟨hp,hI⟩:=hI;refine⟨hp.next G hR uH (by rw[hc];rfl) _ _,λρ' FY=> ?_⟩;have hf:∀b,Kept n0 R D b->ρ' b=ρ b:=λb hb=>FY b (hb.up λ_ h=> .inl h)
 have h:=hI ρ' hf;have hnr:∀s∈A,(D s.idx\/s.idx=r.idx)->∀id aN,s.c= .new id aN->D s.idx:=λs hs iJ id aN fC=>by
  rcases iJ with iJ|iJ
  . exact iJ
  . rw[G.same (by rw[hp.split];simp[hs]) (by rw[hR];simp) iJ,hc]at fC;cases fC
 obtain⟨k1,k2⟩:=ak5 G hp h.t1 h.t0 hR hD hrel (hv ρ' hf);exact⟨h.W,λs hs iJ id aN fC=>h.N s hs (hnr s hs iJ id aN fC) id aN fC,
  λs hs iJ id aN fC s' qI LN yd IF tQ=>h.N2 s hs (hnr s hs iJ id aN fC) id aN fC s' qI (hnr s' qI LN yd IF tQ) yd IF tQ,k1,k2,h.E,h.agree⟩
theorem cq.grow{ρ:Pos->Loc}{st:St}{w w':World}(h:cq ρ C st w)(hs:w.heap.size<=w'.heap.size)(hb:∀k,k<w.heap.size->w'.heap[k]? =w.heap[k]?):cq ρ C st w' where
 live b x hx:=let⟨h1,h2,h3⟩:=h.live b x hx;⟨h1,Zd0 h2 hs,h3.of_heap (hb _ h2)⟩
 inj:=h.inj
 eD a v ha:=by
  obtain⟨h1,h2⟩:=h.eD a v ha;exact⟨by rw[World.cell?_of_block (w:=w) (hb _ (World.block_lt_of_cell? _ _ h1))];exact h1,h2⟩
 whole a v ha o ho:=by have rI:a.block<w.heap.size:=World.block_lt_of_cell? _ _ (h.eD a v ha).1;rw[World.cell?_of_block (w:=w) (a:=⟨a.block,o,none⟩) (hb _ rI)];exact h.whole a v ha o ho
theorem apj(G:Dm tt nt ops call cX h0 n0 R){nH:Pos->Loc}{w0:World}{D:Nat->Prop}{A B:List Rec}{ρ:Pos->Loc}{a:Act}{w w':World}
   (hI:Inv C nt ops cX h0 n0 R nH w0 D A B ρ a w) {X Y:List Rec} {r:Rec} (hR:R=X++r::Y) (hD:¬D r.idx)
   (uH:∀o e,ops[r.idx]? =some o->e∈o.after->Region.binds .any e=true->D e.on) {o:Oper} (hrel:zU tt nt ops o r.o) {id:Pos} {aN:AB} (hc:r.c= .new id aN) {x:Value} {L:Loc}
   (hL:w.heap.size<=L.aN) (hL':L.aN<w'.heap.size) (hos:w'.os=w.os) (auI:w'.tape=w.tape) (hout:w'.output=w.output) (apk:∀k,k<w.heap.size->w'.heap[k]? =w.heap[k]?)
   (hv:∀ρ',(∀b,Kept n0 R D b->ρ' b=ρ b)->ρ' id=L->aD ρ' r.nx.toNat C r.v x/\tO ρ' r.nx.toNat C L w' aN):
   Inv C nt ops cX h0 n0 R nH w0 (λi=>D i\/i=r.idx) A B (λb=>if b=id then L else ρ b) (a.put o.dst x) w':=by
 obtain⟨hp,hI⟩:=hI;have hrA:r∈A:=by
   have:r∈R:=(by rw[hR];simp);rw[hp.split]at this;exact(Zd8.1 this).resolve_right λh=>hD (hp.inB r h)
 obtain⟨hid,Wq⟩:=G.Wp hR hc;have gU:w.heap.size<=w'.heap.size:=by omega
 refine⟨hp.next G hR uH (by rw[hc];rfl) _ _,λρ' FY=> ?_⟩;have hkid:Kept n0 R (λi=>D i\/i=r.idx) id:=by
   (intro A' r' B' Uk hD';have cZ:r'.idx≠r.idx:=λe=>hD' (.inr e));rcases G.cmp hR Uk cZ with⟨Z,rfl⟩|⟨Z,rfl⟩
   . left;have:=G.Sc hR Uk;rw[Wq,Pos.aC]at this;omega
   . right;have:=G.KI hR;rw[hid];exact this
 have ak6:ρ' id=L:=by rw[FY id hkid];simp
 have hf:∀b,Kept n0 R D b->ρ' b=ρ b:=λb hb=>by
   have cZ:b≠id:=by
     rintro rfl;rcases hb X r Y hR hD with h|h
     .  rw[hid]at h;omega
     .  rw[Wq,Pos.aC]at h;omega
   rw[FY b (hb.up λ_ h=> .inl h)];exact Za7 cZ
 have h:=hI ρ' hf;obtain⟨hv1,P5⟩:=hv ρ' hf ak6;obtain⟨k1,k2⟩:=ak5 G hp h.t1 h.t0 hR hD hrel hv1;have af9:∀s∈A,(D s.idx\/s.idx=r.idx)->D s.idx\/s=r:=λs hs iJ=>iJ.imp (λh=>h) λiJ=>G.same (by rw[hp.split];simp[hs]) (by rw[hR];simp) iJ
 refine⟨h.W.grow gU apk,λs hs iJ yd IF fC=> ?_,λs hs iJ yd IF fC s' qI LN id'' arw tQ cZ=> ?_,k1,k2,?_,h.agree⟩
 . rcases af9 s hs iJ with iJ|rfl
   . obtain⟨g1,g2,g3,g4,g5⟩:=h.N s hs iJ yd IF fC;exact⟨g1.of_heap (apk _ g2),by omega,g3,g4,g5⟩
   . rw[hc]at fC;simp only[RC.new.injEq]at fC;obtain⟨rfl,rfl⟩:=fC;rw[ak6];refine⟨P5,hL',Zb0 h.E.size hL,λb x hb e=> ?_,λad v ha e=> ?_⟩
     .  have:=(h.W.live b x hb).2.1;omega
     .  have:=World.block_lt_of_cell? _ _ (h.W.eD ad v ha).1;omega
 . rcases af9 s hs iJ with hDk|rfl
   . rcases af9 s' qI LN with apl|rfl
     .  exact h.N2 s hs hDk yd IF fC s' qI apl id'' arw tQ cZ
     .  rw[hc]at tQ;simp only[RC.new.injEq]at tQ;obtain⟨rfl,rfl⟩:=tQ;have:=(h.N s hs hDk yd IF fC).2.1;rw[ak6];omega
   . rw[hc]at fC;simp only[RC.new.injEq]at fC;obtain⟨rfl,rfl⟩:=fC;rcases af9 s' qI LN with apl|rfl
     .  have:=(h.N s' qI apl id'' arw tQ).2.1;rw[ak6];omega
     .  rw[hc]at tQ;simp only[RC.new.injEq]at tQ;exact absurd tQ.1 cZ
 . exact⟨hos.trans h.E.os,auI.trans h.E.tape,hout.trans h.E.output,Zb0 h.E.size gU,λk hk hn=>by rw[apk k (Zd0 hk h.E.size)];exact h.E.block k hk hn,h.E.yI⟩
theorem ak7(G:Dm tt nt ops call cX h0 n0 R){nH:Pos->Loc}{w0:World}{D:Nat->Prop}{A B:List Rec}{ρ:Pos->Loc}{a:Act}{w:World}
  (h:Inv0 C cX h0 n0 R nH w0 D A B ρ a w) (atG:R=A++B) {hp:T AB} {N:Pos} (hN:(eM n0 B).toNat<=N.toNat)
  (yR:∀b x,hp.get b=some x->(lQ h0 B).get b=some x\/∃s∈A,D s.idx/\s.c= .new b x/\s.nx.toNat<=N.toNat):cq ρ C { heap:=hp,next:=N } w where
 live b x hb:=by
  rcases yR b x hb with h1|⟨s,hs,hD,hc,hn⟩
  .  obtain⟨g1,g2,g3⟩:=h.W.live b x h1;exact⟨Zd0 g1 hN,g2,g3.mono (λ_ _=>rfl) hN⟩
  .  obtain⟨g1,g2,_⟩:=h.N s hs hD b x hc;obtain⟨M,T,hM⟩:=oN (r:=s) (R:=R) (by rw[atG];simp[hs]);obtain⟨_,e⟩:=G.Wp hM hc;rw[e]at hn;refine⟨?_,g2,g1.mono (λ_ _=>rfl) (by rw[e];exact hn)⟩;rw[Pos.aC]at hn;exact hn
 inj b  b' x x' hb dZ he:=by
  rcases yR b x hb with h1|⟨s,hs,hD,hc,hn⟩
  .  rcases yR b' x' dZ with h1'|⟨s',qI,hD',ZY,hn'⟩
     .  exact h.W.inj b b' x x' h1 h1' he
     .  exact absurd he ((h.N s' qI hD' b' x' ZY).2.2.2.1 b x h1)
  .  rcases yR b' x' dZ with h1'|⟨s',qI,hD',ZY,hn'⟩
     .  exact absurd he.symm ((h.N s hs hD b x hc).2.2.2.1 b' x' h1')
     .  by_cases e:b=b'
        . exact e
        . exact absurd he (h.N2 s hs hD b x hc s' qI hD' b' x' ZY e)
 eD ad v ha:=⟨(h.W.eD ad v ha).1,λb x hb=>by
  rcases yR b x hb with h1|⟨s,hs,hD,hc,hn⟩
  .  exact(h.W.eD ad v ha).2 b x h1
  .  exact(h.N s hs hD b x hc).2.2.2.2 ad v ha⟩
 whole:=h.W.whole
theorem Dn:∀{Z B:List Rec}{b:Pos}{x:AB},(∀r∈Z,r.c.pY=false)->NS B->(lR h0 (Z++B)).get b=some x->
  (lQ h0 B).get b=some x\/∃s∈Z,s.c= .new b x
 |[],B,b,x,_,hB,h=>by
  cases B with
  |nil=>exact .inl h
  | cons r B=>
    simp only[NS]at hB;(cases hc:r.c<;>rw[hc]at hB<;>first|(cases hB;done)|skip);simp only[Ze1,lR,hc]at h;simp only[lQ,hc];exact .inl h
 |r ::Z,B,b,x,hZ,hB,h=>by
  have ih:=@Dn Z B b x (λs hs=>hZ s (Za9 _ hs)) hB;have hr:=hZ r (Zd6 ..);simp only[Zd7,lR]at h;cases hc:r.c with
  |pure=>rw[hc]at h;exact(ih h).imp (λh=>h) λ⟨s,h1,h2⟩=>⟨s,Za9 _ h1,h2⟩
  |bh _ _=>rw[hc]at hr;cases hr
  | new id aN=>
    rw[hc]at h;by_cases e:id=b
    .   subst e;rw[T.gH]at h;simp only[H5]at h;subst h;exact .inr ⟨r,Zd6 ..,hc⟩
    .   rw[T.bX _ e]at h;exact(ih h).imp (λh=>h) λ⟨s,h1,h2⟩=>⟨s,Za9 _ h1,h2⟩
end
section
variable{P : Program}{tt : TT}{C : Cells}{nt : Nat}{ops : Array Oper}{call : au}{cX : Fr}{h0 : T AB}{n0 : Pos}{R : List Rec}
theorem around(G:Dm tt nt ops call cX h0 n0 R){D:Nat->Prop}{A B:List Rec}{a:Act}(hp:Pre nt ops R D A B a){X Y:List Rec}{r:Rec}(hR:R=X++r::Y)(hD:¬D r.idx):
  ∃Z,A=X++r::Z/\Y=Z++B:=by
 have hrA:r∈A:=by
  have:r∈R:=by rw[hR];simp
  rw[hp.split]at this;exact(Zd8.1 this).resolve_right λh=>hD (hp.inB r h)
 obtain⟨X',Z,hA⟩:=oN hrA;have h2:R=X'++r::(Z++B):=by rw[hp.split,hA];simp
 obtain⟨rfl,_,rfl⟩:=LM G.one hR h2 rfl;exact⟨Z,hA,rfl⟩
theorem apm(G:Dm tt nt ops call cX h0 n0 R){nH:Pos->Loc}{w0:World}{D:Nat->Prop}{A B:List Rec}{ρ:Pos->Loc}{a:Act}{w w':World}
   (hI:Inv C nt ops cX h0 n0 R nH w0 D A B ρ a w) {X Y:List Rec} {r:Rec} (hR:R=X++r::Y) (hD:¬D r.idx)
   (uH:∀o e,ops[r.idx]? =some o->e∈o.after->Region.binds .any e=true->D e.on) {o:Oper} (hrel:zU tt nt ops o r.o)
   (hY:∀s∈Y,D s.idx) {st':St} {b0:T AB} (hc:r.c= .bh b0 st'.heap) (Wq:r.nx=st'.next) {x:Value}
   (ak8:nS ρ C { heap:=lR h0 Y,next:=eM n0 Y } w r.v st' x w'):
   ∃vq,Inv C nt ops cX h0 n0 R nH w0 (λi=>D i\/i=r.idx) X (r::Y) vq (a.put o.dst x) w':=by
 obtain⟨hp,hI⟩:=hI;obtain⟨jY,hv,hρ1,hle,hW1,hE1⟩:=ak8;simp only at hρ1 hle;obtain⟨Z,hA,rfl⟩:=around G hp hR hD;have hZ:∀s∈Z,s.c.pY=false:=λs hs=>hp.inA s (by rw[hA];simp[hs]) (hY s (by simp[hs]))
 have hXA:∀s∈X,s∈A:=λs hs=>by rw[hA];simp[hs]
 have hXD:∀s∈X,(D s.idx\/s.idx=r.idx)->D s.idx:=λs hs h=>h.resolve_right (G.later hR hs)
 have hnB:(eM n0 B).toNat<=(eM n0 (Z++B)).toNat:=G.Hl (X:=X++[r]) (by rw[hR];simp)
 let vq:Pos->Loc:=λb=>if(eM n0 (Z++B)).toNat<=b.toNat/\b.toNat<r.nx.toNat then jY b else ρ b
 have agQ:∀b:Pos,b.toNat<(eM n0 (Z++B)).toNat->Kept n0 R D b:=by
   intro b hb M s T hM iJ;left;by_cases hi:s.idx=r.idx
   . obtain⟨_,_,rfl⟩:=LM G.one hM hR hi;exact hb
   . rcases G.cmp hR hM hi with⟨W,rfl⟩|⟨W,hW⟩
     .  have:=G.Sc hR hM;have:=G.aru hR;omega
     .  exact absurd (hY s (by rw[hW];simp)) iJ
 refine⟨vq,⟨by rw[hR],by simp[NS,hc,RC.pY],?_,?_,?_,by rw[Act.ke];exact hp.size,by rw[Act.mB];exact hp.defers⟩,λρ' FY=> ?_⟩
 . intro s hs;rcases Za8.1 hs with rfl|hs
   . exact .inr rfl
   . exact .inl (hY s hs)
 . intro s hs iJ;exact hp.inA s (hXA s hs) (hXD s hs iJ)
 . intro i o' e hDi ho he hb;rcases hDi with hDi|rfl
   . exact .inl (hp.closed i o' e hDi ho he hb)
   . exact .inl (uH o' e ho he hb)
 have auJ:∀b:Pos,b.toNat<r.nx.toNat->Kept n0 R (λi=>D i\/i=r.idx) b:=by
   (intro b hb M s T hM iJ;left;have hi:s.idx≠r.idx:=λe=>iJ (.inr e));rcases G.cmp hR hM hi with⟨W,rfl⟩|⟨W,hW⟩
   . exact Zd0 hb (G.Sc hR hM)
   . exact absurd (.inl (hY s (by rw[hW];simp))) iJ
 have hf:∀b,Kept n0 R D b->ρ' b=ρ b:=λb hb=>by rw[FY b (hb.up λ_ h=> .inl h)];refine Za7 ?_;rintro⟨g1,g2⟩;rcases hb X r _ hR hD with h|h<;>omega
 have h:=hI ρ' hf;have h12:∀b:Pos,b.toNat<r.nx.toNat->ρ' b=jY b:=by
   intro b hb;rcases Zi4 b.toNat (eM n0 (Z++B)).toNat with g|g
   . rw[hf b (agQ b g),hρ1 b g]
   . rw[FY b (auJ b hb)];exact Zb3 ⟨g,hb⟩
 have P9:aD ρ' r.nx.toNat C r.v x:=by
   rw[Wq]at h12 ⊢;exact hv.mono h12 (Za3 _)
 have jk:cq ρ' C { heap:=st'.heap,next:=r.nx } w':=by rw[Wq]at h12 ⊢;exact hW1.congr h12
 have hold:∀s∈X,D s.idx->∀id aN,s.c= .new id aN->∀b y,(lR h0 (Z++B)).get b=some y->(ρ b).aN≠(ρ' id).aN:=by
   intro s hs iJ id aN fC b y hb;obtain⟨g1,g2,g3,g4,g5⟩:=h.N s (hXA s hs) iJ id aN fC;obtain⟨M,T,hM⟩:=oN (r:=s) (R:=R) (by rw[hR];simp[hs]);rcases Dn hZ hp.bound hb with hb|⟨s',qI,tQ⟩
   . rw[<-hf b (agQ b (Zd0 (h.W.live b y hb).1 hnB))];exact g4 b y hb
   . obtain⟨Z1,Z2,rfl⟩:=oN qI;have hM':R=(X++r::Z1)++s'::(Z2++B):=(by rw[hR];simp);obtain⟨e1,e2⟩:=G.Wp hM' tQ;obtain⟨e3,e4⟩:=G.Wp hM fC;have hbn:b.toNat<(eM n0 ((Z1++s'::Z2)++B)).toNat:=(by have:=G.KI (X:=X) (r:=r) (Z:=Z1) (r':=s') (Y':=Z2++B) (by rw[hR];simp);rw[e2,Pos.aC]at this;simp only[Zf2,Zd7];omega);have hsr:s.idx≠r.idx:=G.later hR hs;have hid:r.nx.toNat<=id.toNat:=by
        rcases G.cmp hR hM hsr with⟨W,rfl⟩|⟨W,hW⟩
        . rw[e3];exact G.Sc hR hM
        . obtain⟨A1,A2,hX⟩:=oN hs;have hM2:R=A1++s::(A2++r::((Z1++s'::Z2)++B)):=(by rw[hR,hX];simp);have Ag:s∈(Z1++s'::Z2)++B:=(by rw[hW];simp);exact absurd rfl (G.one A1 s _ hM2 s (Zd8.2 (.inr (Za9 _ Ag))))
     have cZ:b≠id:=(by rintro rfl;have:=G.aru hR;omega);rw[<-hf b (agQ b hbn)];exact h.N2 s' (by rw[hA];simp) (hY s' (by simp)) b y tQ s (hXA s hs) iJ id aN fC cZ
 have hEa:qi nH { heap:=h0,next:=n0 } w0 ρ { heap:=lR h0 (Z++B),next:=eM n0 (Z++B) } w:=by
   refine⟨h.E.os,h.E.tape,h.E.output,h.E.size,h.E.block,λb y hb=> ?_⟩;rcases Dn hZ hp.bound hb with hb|⟨s',qI,tQ⟩
   . rw[<-hf b (agQ b (Zd0 (h.W.live b y hb).1 hnB))];exact h.E.yI b y hb
   . obtain⟨Z1,Z2,rfl⟩:=oN qI;have hM':R=(X++r::Z1)++s'::(Z2++B):=(by rw[hR];simp);obtain⟨e1,e2⟩:=G.Wp hM' tQ;have hbn:b.toNat<(eM n0 ((Z1++s'::Z2)++B)).toNat:=(by have:=G.KI (X:=X) (r:=r) (Z:=Z1) (r':=s') (Y':=Z2++B) (by rw[hR];simp);rw[e2,Pos.aC]at this;simp only[Zf2,Zd7];omega);rw[<-hf b (agQ b hbn)];exact .inr (h.N s' (by rw[hA];simp) (hY s' (by simp)) b y tQ).2.2.1
 obtain⟨k1,k2⟩:=ak5 G hp h.t1 h.t0 hR hD hrel P9;refine⟨?_,λs hs iJ id aN fC=> ?_,λs hs iJ id aN fC s' qI LN yd IF tQ cZ=> ?_,k1,k2,?_,h.agree⟩
 . simp only[lQ,hc,eM];exact jk
 . have iJ:=hXD s hs iJ;obtain⟨g1,g2,g3,g4,g5⟩:=h.N s (hXA s hs) iJ id aN fC;refine⟨g1.of_heap (hE1.block _ g2 (hold s hs iJ id aN fC)),Zd0 g2 hE1.size,g3,λb y hb=> ?_,g5⟩;simp only[lQ,hc]at hb;rw[h12 b (by rw[Wq];exact(hW1.live b y hb).1)];rcases hE1.yI b y hb with⟨b',y',dZ,e⟩|e
   . rw[<-e];exact hold s hs iJ id aN fC b' y' dZ
   . omega
 . exact h.N2 s (hXA s hs) (hXD s hs iJ) id aN fC s' (hXA s' qI) (hXD s' qI LN) yd IF tQ cZ
 . have:=(hEa.trans hE1).congr (ρ':=ρ') λb y hb=>h12 b (by rw[Wq];exact(hW1.live b y hb).1)
   simp only[lQ,hc,eM];exact⟨this.os,this.tape,this.output,this.size,this.block,this.yI⟩
end
section
variable{P : Program}{tt : TT}{C : Cells}{nt : Nat}{ops : Array Oper}{call : au}{cX : Fr}{h0 : T AB}{n0 : Pos}{R : List Rec}
theorem Ho{ρ:Pos->Loc}{n:Pos}{w:World}(hC:∀ad v,C ad=some v->w.cell? ad=some v)(hC2:∀a v,C a=some v->∀o,C ⟨a.block,o,none⟩=none->w.cell? ⟨a.block,o,none⟩=none):cq ρ C { heap:= .e,next:=n } w where
 live b x hb:=by rw[T.dP]at hb;cases hb
 inj b b' x x' hb:=by rw[T.dP]at hb;cases hb
 eD a v ha:=⟨hC a v ha,λb x hb=>by rw[T.dP]at hb;cases hb⟩
 whole:=hC2
theorem Yields.eq{N:Next}{x y:Value}(h:Yields N x)(k:Yields N y):x=y:=by
 rcases h with rfl|⟨rfl,rfl⟩<;>rcases k with k|⟨k,rfl⟩
 . simp only[Next.value.injEq]at k;exact k
 . cases k
 . cases k
 . rfl
theorem amW(hT:di P tt){o:Oper}{k:aF}{xs:List ij}{cls:Cls}(hc:ku tt o.op=some (k,xs,cls)){n:Pos}{vs:List AV}{v:AV}{aN:AB}
  (hr:k.run (λ_=>none) n vs=some (.bh v none none (some aN))) {fr:Fr} (hx:fU fr xs=some vs) {a:Act} {w:World} {Fam:(Pos->Loc)->Prop} {ρ:Pos->Loc} (bF:Fam ρ)
  (hF:∀ρ',Fam ρ'->kY ρ' n.toNat C fr a.tmps) (hC:∀ad v,C ad=some v->w.cell? ad=some v) (hC2:∀a v,C a=some v->∀o,C ⟨a.block,o,none⟩=none->w.cell? ⟨a.block,o,none⟩=none):
  ∃ N x w' L,(execOp a.eval o).run P w= .ok N w'/\Yields N x/\w.heap.size<=L.aN/\L.aN<w'.heap.size/\w'.os=w.os/\w'.tape=w.tape/\w'.output=w.output/\
    (∀k,k<w.heap.size->w'.heap[k]? =w.heap[k]?)/\∀ρ',Fam ρ'->ρ' n=L->aD ρ' n.succ.toNat C v x/\tO ρ' n.succ.toNat C L w' aN:=by
 have dR:k.run (λb=>T.get b (T.e:T AB)) n vs=some (.bh v none none (some aN)):=by
  have e:(λb=>T.get b (T.e:T AB))=λ_=>none:=by funext b;exact T.dP b
  rw[e];exact hr
 have H:=λρ' (hf:Fam ρ')=>YO hT o.op ρ' C { heap:= .e,next:=n } w k xs cls fr a o vs _ rfl hc (Ho hC hC2) (hF ρ' hf) hx dR
 have key:∀ρ',Fam ρ'->∃N x w' jY,(execOp a.eval o).run P w= .ok N w'/\Yields N x/\(∀b:Pos,b.toNat<n.toNat->jY b=ρ' b)/\aD jY n.succ.toNat C v x/\
    tO jY n.succ.toNat C (jY n) w' aN/\w.heap.size<=(jY n).aN/\(jY n).aN<w'.heap.size/\w'.os=w.os/\w'.tape=w.tape/\w'.output=w.output/\
    (∀k,k<w.heap.size->w'.heap[k]? =w.heap[k]?):=by
  intro ρ' hf;obtain⟨N,x,w',jY,he,hy,h1,h2,h3,h4⟩:=H ρ' hf;have hg:(St.bh { heap:= .e,next:=n } none none (some aN)).heap.get n=some aN:=T.gH _ _ _;obtain⟨g1,g2,g3⟩:=h2.live n aN hg;refine⟨N,x,w',jY,he,hy,h1,h3,g3,?_,g2,h4.os,h4.tape,h4.output,λk hk=>h4.block k hk λb x hb=> ?_⟩
  . rcases h4.yI n aN hg with⟨b',x',dZ,_⟩|h
    .   rw[T.dP]at dZ;cases dZ
    .   exact h
  . rw[T.dP]at hb;cases hb
 obtain⟨N,x,w',jY,he,hy,h1,h2,h3,h4,h5,h6,h7,h8,h9⟩:=key ρ bF;refine⟨N,x,w',jY n,he,hy,h4,h5,h6,h7,h8,h9,λρ' hf hL=> ?_⟩;obtain⟨N',x',w'',vq,rH,hy',k1,k2,k3,_⟩:=key ρ' hf;rw[he]at rH;simp only[Result.ok.injEq]at rH;obtain⟨rfl,rfl⟩:=rH;have hxx:=hy.eq hy';subst hxx;have arx:n.toNat<n.succ.toNat:=by rw[Pos.aC];omega
 have agree:(vq n).aN=(jY n).aN->(vq n).base=(jY n).base->(∃cs fz,aN= .cells cs fz)->aD ρ' n.succ.toNat C v x/\tO ρ' n.succ.toNat C (jY n) w' aN:=by
  intro e1 e2 VZ;have e3:(vq n).size=(jY n).size:=by
    obtain⟨cs,fz,rfl⟩:=VZ;obtain⟨c,e,fr,g1,g2,_⟩:=h3;obtain⟨c',e',bG,g1',g2',_⟩:=k3;rw[e1,g1]at g1';simp only[H5,Obj.cells.injEq]at g1';rw[<-g2, <-g2',g1'.1]
  have e4:vq n=jY n:=by
    cases hh:vq n;cases hh':jY n;rw[hh,hh']at e1 e2 e3;simp only at e1 e2 e3;rw[e1,e2,e3]
  have oY:∀b:Pos,b.toNat<n.succ.toNat->ρ' b=vq b:=by
    intro b hb;rcases Zi4 b.toNat n.toNat with g|g
    .   exact(k1 b g).symm
    .   have:b=n:=Pos.toNat_inj (by rw[Pos.aC]at hb;omega);subst this;rw[hL,e4]
  refine⟨k2.mono oY (Za3 _),?_⟩;rw[<-e4];exact k3.mono oY (Za3 _)
 cases arZ hr with
 |ptr cs=>
  obtain⟨_,g1⟩:=h2.qy;obtain⟨_,g2⟩:=k2.qy;rw[g1]at g2;simp only[Value.pointer.injEq,H5,Addr.mk.injEq,Zg0,Zo9]at g2;exact agree g2.1.symm g2.2.symm ⟨cs,0,rfl⟩
 |slice len es cap cs fC=>
  obtain⟨ad,bC,g1,g2,g3,g4⟩:=h2.gM;obtain⟨ad',ary,g1',g2',g3',g4'⟩:=k2.gM;rw[g1]at g1';simp only[Value.slice.injEq,H5,Zr2]at g1';obtain⟨rfl,rfl⟩:=g1';by_cases h0:bC=0
  . subst h0;have hl0:len=0:=(by omega);have hcs0:cs=[]:=fC hl0 (by
        cases cap with
        |none=>exact .inl rfl
        |some c=>exact .inr (by rw[g3 c rfl]))
    subst hcs0;refine⟨?_,?_⟩
    .   rw[g1];exact .slice n 0 len cap es 0 ad g2 g3 (λh=>absurd rfl h) (λ_=>arx)
    .   obtain⟨c,e,fr,q1,q2,q3,q4,q5⟩:=h3;exact⟨c,e,fr,q1,q2,q3,aL.nil,q5⟩
  . obtain⟨_,a1,_⟩:=g4 h0;obtain⟨_,a2,_⟩:=g4' h0;rw[a1]at a2;simp only[Addr.mk.injEq,Zg0,Zo9]at a2;exact agree a2.1.symm a2.2.symm ⟨cs,0,rfl⟩
 |map=>
  obtain⟨_,g1⟩:=h2.Cv;refine⟨?_,?_⟩
  . rw[g1, <-hL];exact .map n arx
  . obtain⟨es',q1,q2,q3⟩:=h3;exact⟨es',q1,q2,λi e e' he=>by simp at he⟩
end
section
variable{P : Program}{tt : TT}{C : Cells}{nt : Nat}{ops : Array Oper}{call : au}{cX : Fr}{h0 : T AB}{n0 : Pos}{R : List Rec}
def A8(fr:Fr):List Pos->Fr
 |[]=> .e
 |p::l=>(A8 fr l).put (fr.get p) p
theorem aeC{fr:Fr}{p:Pos}:∀{l:List Pos},p∈l->(A8 fr l).get p=fr.get p
 |[],h=>by cases h
 |q ::l,h=>by
  simp only[A8];by_cases e:q=p
  . subst e;exact T.gH _ _ _
  . rw[T.bX _ e];exact aeC ((Za8.1 h).resolve_left λh=>e h.symm)
theorem Z5{fr:Fr}{p:Pos}{v:AV}:∀{l:List Pos},(A8 fr l).get p=some v->p∈l/\fr.get p=some v
 |[],h=>by simp only[A8]at h;rw[T.dP]at h;cases h
 |q ::l,h=>by
  simp only[A8]at h;by_cases e:q=p
  . subst e;rw[T.gH]at h;exact⟨by simp,h⟩
  . rw[T.bX _ e]at h;obtain⟨h1,h2⟩:=Z5 h;exact⟨by simp[h1],h2⟩
theorem aeD{fr:Fr}{l:List Pos}:∀{xs:List ij},(∀p,ij.t p∈xs->p∈l)->fU (A8 fr l) xs=fU fr xs
 |[],_=>rfl
 |x::xs,h=>by
  have h1:He (A8 fr l) x=He fr x:=by
   cases x with
   |t p=>exact aeC (h p (by simp))
   |c v=>rfl
  simp only[fU,h1,aeD λp hp=>h p (Za9 _ hp)]
theorem amX{o:bS}{p:Pos}(h:ij.t p∈o.xs):p∈o.looks:=by
 unfold bS.looks;exact List.mem_append_right _ (List.mem_filterMap.2 ⟨_,h,rfl⟩)
theorem ajc{o:bS}{p:Pos}{q:Bool}(h:o.guard=some (p,q)):p∈o.looks:=by unfold bS.looks;rw[h];simp
theorem Yields.upon{o:Oper}{a:Act}{K:Act->World->Prop}{Q:Exit->Act->World->Prop}{N:Next}{x:Value}{w:World}(h:Yields N x)(hk:K (a.put o.dst x) w):o.upon P a K Q (.ok N w):=by rcases h with rfl|⟨rfl,rfl⟩<;>exact hk
theorem apn(hT:di P tt)(dG:jd P C call)(G:Dm tt nt ops call cX h0 n0 R){Q:Exit->Act->World->Prop}{nH:Pos->Loc}{w0:World}{D:Nat->Prop}{A B:List Rec}{ρ:Pos->Loc}{a:Act}{w:World}
  (hI:Inv C nt ops cX h0 n0 R nH w0 D A B ρ a w) {i:Nat} (hi:i<ops.size) (hD:¬D i)
  (uH:∀o e,ops[i]? =some o->e∈o.after->Region.binds .any e=true->D e.on):
  wpOp P ops Q i (λa' w'=>∃A' B' ρ',Inv C nt ops cX h0 n0 R nH w0 (λj=>D j\/j=i) A' B' ρ' a' w') a w:=by
 obtain⟨r,hr,rfl⟩:=G.all i hi;obtain⟨X,Y,hR⟩:=oN hr;obtain⟨o,ho,hrel,hB⟩:=G.rel r hr;have hp:=hI.1;have adw:∀b,r.o.bZ.testBit b=true->D b:=λb hb=>G.ab1 hp.closed (hB.2 b hb) uH
 obtain⟨Z,hA,hYZ⟩:=around G hp hR hD;have Sd:∀ρ',(∀b,Kept n0 R D b->ρ' b=ρ b)->∀p v,p∈r.o.looks->(qJ cX Y).get p=some v->∃x,a.tmps[p.toNat - 1]? =some x/\aD ρ' (eM n0 Y).toNat C v x:=
  λρ' hf p v hl hv=>look G hp (hI.2 ρ' hf).t1 (hI.2 ρ' hf).t0 hR hD adw hl hv
 have hFR:∀ρ',(∀b,Kept n0 R D b->ρ' b=ρ b)->kY ρ' (eM n0 Y).toNat C (A8 (qJ cX Y) r.o.looks) a.tmps:=λρ' hf p v hv=>
  let⟨h1,h2⟩:=Z5 hv;Sd ρ' hf p v h1 h2
 have Se:∀b,Kept n0 R D b->ρ b=ρ b:=λ_ _=>rfl
 have hw:∀b,cH (qJ cX Y) r.o.guard=some b->Region.wanted o (yielded ops a.tmps)=b:=λb hb=>
  LF hrel.guard (λp v hv ⟨q,hq⟩=>Sd ρ Se p v (ajc hq) hv) hb
 have hnZ:∀s∈Z,s.nx.toNat<=(eM n0 Y).toNat:=λs hs=>by obtain⟨Z1,Z2,rfl⟩:=oN hs;have:=G.KI (X:=X) (r:=r) (Z:=Z1) (r':=s) (Y':=Z2++B) (by rw[hR,hYZ];simp);rw[hYZ];simp only[Zf2,Zd7];exact this
 have hnB:(eM n0 B).toNat<=(eM n0 Y).toNat:=by rw[hYZ];exact G.Hl (X:=X++[r]) (by rw[hR,hYZ];simp)
 have hs:=Good.at (hR ▸G.aaS);have hex:∀xs,fU (qJ cX Y) r.o.xs=some xs->fU (A8 (qJ cX Y) r.o.looks) r.o.xs=some xs:=λxs hx=>by rw[aeD λp hp=>amX hp];exact hx
 unfold wpOp;simp only[ho];generalize hrr:r=r0 at*
 cases hs with
 |skip i' o' _ hw'=>
  rw[Za7 (by rw[hw _ hw'];simp)];exact⟨A,B,ρ,aeB G hI hR hD uH hrel rfl λρ' _=> .aex⟩
 |pure i' o' v xs _ hw' hx Z3=>
  rw[Zb3 (hw _ hw')];refine .inl ?_;rw[hYZ]at Z3;obtain⟨h,yR,dR⟩:=Z3 Z B rfl hp.bound λs hs he=>by
    cases hb:o'.bZ.testBit s.idx with
    |false=>rfl
    |   true=>
        have h1:=hp.inA s (by rw[hA];simp[hs]) (adw _ hb);rw[h1]at he;cases he
  rcases hrel.op with hc|⟨hk,_⟩
  . have H:∀ρ',(∀b,Kept n0 R D b->ρ' b=ρ b)->∃N x,(execOp a.eval o).run P w= .ok N w/\Yields N x/\aD ρ' (eM n0 Y).toNat C v x:=by
        intro ρ' hf;have hW:=ak7 G (hI.2 ρ' hf) hp.split (hp:=h) hnB λb y hb=>(yR b y hb).imp (λh=>h) λ⟨s,h1,h2,h3⟩=>
          ⟨s,by rw[hA];simp[h1],adw _ h3,h2,hnZ s h1⟩
        exact YO hT o.op ρ' C _ w _ _ _ _ a o _ _ rfl hc hW (hFR ρ' hf) (hex xs hx) (apg dR λ_ _ h=>h)
    obtain⟨N,x,he,hy,hv⟩:=H ρ Se;unfold Oper.wp;rw[he];refine hy.upon ⟨A,B,ρ,aeB G hI hR hD uH hrel rfl λρ' hf=> ?_⟩;obtain⟨N',x',rH,hy',P9⟩:=H ρ' hf;rw[he]at rH;simp only[Result.ok.injEq,Zo9]at rH;subst rH;rw[hy.eq hy'];exact P9
  . rw[hk]at dR;cases dR
 |new   i' o' v aN xs _ hw' hx dR=>
  rw[Zb3 (hw _ hw')];refine .inl ?_;rcases hrel.op with hc|⟨hk,_⟩
  . obtain⟨N,x,w',L,he,hy,h1,h2,h3,h4,h5,h6,h7⟩:=amW hT hc dR (hex xs hx) (Fam:=λρ'=>∀b,Kept n0 R D b->ρ' b=ρ b) Se hFR
        (λad v ha=>((hI.2 ρ Se).W.eD ad v ha).1) (hI.2 ρ Se).W.whole
    unfold Oper.wp;rw[he];exact hy.upon ⟨A,B,_,apj G hI hR hD uH hrel rfl h1 h2 h3 h4 h5 h6 h7⟩
  . rw[hk]at dR;cases dR
 |bh i' o' v st' xs _ aph hw' hx gJ=>
  rw[Zb3 (hw _ hw')];refine .inl ?_;rcases hrel.op with hc|⟨hk,_⟩
  . have hY:∀s∈Y,D s.idx:=λs hs=>adw _ (G.bh X _ Y hR aph s hs)
    have hZ:∀s∈Z,s.c.pY=false:=λs hs=>hp.inA s (by rw[hA];simp[hs]) (hY s (by rw[hYZ];simp[hs]))
    have hW:cq ρ C { heap:=lR h0 Y,next:=eM n0 Y } w:=ak7 G (hI.2 ρ Se) hp.split hnB λb y hb=>by
        rw[hYZ]at hb;rcases Dn hZ hp.bound hb with hb|⟨s,h1,h2⟩
        . exact .inl hb
        . exact .inr ⟨s,by rw[hA];simp[h1],hY s (by rw[hYZ];simp[h1]),h2,hnZ s h1⟩
    have hre:=ZZ hT dG hc hW (hFR ρ Se) (hex xs hx) gJ;(refine hre.upon λx w' ak8=> ?_);obtain⟨vq,h⟩:=apm G hI hR hD uH hrel hY rfl rfl ak8;exact⟨_,_,vq,h⟩
  . exact(Reaches.bad hk gJ).elim
end
section
variable{P : Program}{tt : TT}{C : Cells}{nt : Nat}{ops : Array Oper}{call : au}{cX : Fr}{h0 : T AB}{n0 : Pos}{R : List Rec}
theorem aeE(G:Dm tt nt ops call cX h0 n0 R){nH:Pos->Loc}{w0:World}{D:Nat->Prop}{A B:List Rec}{ρ:Pos->Loc}{a:Act}{w:World}
   (hI:Inv C nt ops cX h0 n0 R nH w0 D A B ρ a w) (oY:∀r∈R,D r.idx):kP nt nH C { heap:=h0,next:=n0 } w0 (qJ cX R) { heap:=lR h0 R,next:=eM n0 R } a w:=by
 obtain⟨hp,hI⟩:=hI;have h:=hI ρ λ_ _=>rfl
 have hZ:∀s∈A,s.c.pY=false:=λs hs=>hp.inA s hs (oY s (by rw[hp.split];simp[hs]))
 have hnA:∀s∈A,s.nx.toNat<=(eM n0 R).toNat:=λs hs=>by obtain⟨Z1,Z2,hA⟩:=oN hs;have:=G.Hl (X:=[]) (Y:=Z1) (Z:=s::(Z2++B)) (by rw[hp.split,hA];simp);have e:R=Z1++s::(Z2++B):=(by rw[hp.split,hA];simp);rw[<-e]at this;exact this
 have hnB:(eM n0 B).toNat<=(eM n0 R).toNat:=by
   have:=G.Hl (X:=[]) (Y:=A) (Z:=B) (by rw[hp.split];simp)
   rwa [<-hp.split]at this
 have Qg:n0.toNat<=(eM n0 R).toNat:=G.ak4 (X:=[]) rfl;have yR:∀b x,(lR h0 R).get b=some x->(lQ h0 B).get b=some x\/∃s∈A,D s.idx/\s.c= .new b x/\s.nx.toNat<=(eM n0 R).toNat:=λb x hb=>by
   rw[hp.split]at hb;rcases Dn hZ hp.bound hb with hb|⟨s,h1,h2⟩
   . exact .inl hb
   . exact .inr ⟨s,h1,oY s (by rw[hp.split];simp[h1]),h2,hnA s h1⟩
 refine⟨ρ,⟨ak7 G h hp.split hnB yR,?_,hp.size,hp.defers⟩,h.agree,Qg,?_⟩
 . intro p v hv;rcases Wm R p v hv with⟨M,s,T,hM,h2,rfl,h3⟩|⟨h1,h2⟩
   . obtain⟨x,hx,Wn⟩:=h.t1 M s T p hM (oY s (by rw[hM];simp)) h2 λs' qI _=>h3 s' qI
     refine⟨x,hx,Wn.mono (λ_ _=>rfl) ?_⟩;have:=G.Hl (X:=[]) (Y:=M) (Z:=s::T) (by rw[hM];simp);rw[<-hM]at this;exact this
   . obtain⟨x,hx,Wn⟩:=h.t0 p v h1 λs hs _=>h2 s hs
     exact⟨x,hx,Wn.mono (λ_ _=>rfl) Qg⟩
 . refine⟨h.E.os,h.E.tape,h.E.output,h.E.size,h.E.block,λb x hb=> ?_⟩;rcases yR b x hb with hb|⟨s,h1,h2,h3,_⟩
   . exact h.E.yI b x hb
   . exact .inr (h.N s h1 h2 b x h3).2.2.1
def DL(listed:Array Bool)(j:Nat):Prop:=listed.getD j false=true
theorem amY{listed:Array Bool}{i:Nat}(hi:i<listed.size):(λj=>DL listed j\/j=i)=DL (listed.setIfInBounds i true):=by
 funext j;apply propext;unfold DL;by_cases h:j=i
 . subst h;simp[hi]
 . rw[getD_set_ne false (Ne.symm h)];simp[h]
theorem agR{listed:Array Bool}{j:Nat}(h:listed.getD j true=false):¬DL listed j:=by
 unfold DL;intro h';rcases Zi4 j listed.size with hj|hj
 . simp[hj]at h h';rw[h]at h';cases h'
 . simp[Array.getElem?_eq_none hj]at h'
theorem ar1{listed:Array Bool}{j:Nat}(hj:j<listed.size)(h:¬DL listed j):listed.getD j true=false:=by unfold DL at h;simp[hj]at h ⊢; exact h
theorem Wr(G:Dm tt nt ops call cX h0 n0 R){listed:Array Bool}(hs:listed.size=ops.size)(hr:Region.ready .any ops listed=[]):∀(Y X:List Rec),R=X++Y->∀r∈Y,DL listed r.idx
 |[],_,_,r,oC=>by cases oC
 |r ::Y  ,X,hR,r',oC=>by
  have ih:=Wr G hs hr Y (X++[r]) (by rw[hR];simp);rcases Za8.1 oC with rfl|oC
  . obtain⟨o,ho,_,hB⟩:=G.rel r' (by rw[hR];simp);have aV:r'.idx<ops.size:=(Zd3.1 ho).1;by_cases h:DL listed r'.idx
    .   exact h
    .   exfalso;have:r'.idx∈Region.ready .any ops listed:=mem_ready.2 ⟨ar1 (by omega) h,o,ho,λe he hb=>by obtain⟨s,h1,h2⟩:=G.bZ X r' Y hR _ (hB.1 o ho e he hb);have:=ih s h1;rw[h2]at this;exact this⟩;rw[hr]at this;cases this
  . exact ih r' oC
theorem aeF(hT:di P tt)(dG:jd P C call)(G:Dm tt nt ops call cX h0 n0 R){Q:Exit->Act->World->Prop}{nH:Pos->Loc}{w0:World}
  (hQ:∀a' w',kP nt nH C { heap:=h0,next:=n0 } w0 (qJ cX R) { heap:=lR h0 R,next:=eM n0 R } a' w'->Q .normal a' w'):
  ∀ (fuel:Nat)(listed:Array Bool)(U:List Nat)(A B:List Rec)(ρ:Pos->Loc)(a:Act)(w:World),listed.size=ops.size->U.length<=fuel->U.Nodup->(∀j,j<ops.size->¬DL listed j->j∈U)->
    Inv C nt ops cX h0 n0 R nH w0 (DL listed) A B ρ a w->wpAny P .any ops Q fuel listed a w
 |0,listed,U,A,B,ρ,a,w,hs,hU,_,hm,hI=>by
  have hU0:U=[]:=Zc5 (by omega);subst hU0;have hr:Region.ready .any ops listed=[]:=by
    cases h:Region.ready .any ops listed with
    |nil=>rfl
    |   cons i l=>
        have hi:i∈Region.ready .any ops listed:=(by rw[h];simp);obtain⟨h1,o,ho,_⟩:=mem_ready.1 hi;have:=hm i (Zd3.1 ho).1 (agR h1);cases this
  exact⟨hr,hQ a w (aeE G hI (Wr G hs hr R [] rfl))⟩
 |fuel+1,listed,U,A,B,ρ,a,w,hs,hU,hnd,hm,hI=>by
  refine⟨λhr=>hQ a w (aeE G hI (Wr G hs hr R [] rfl)),λi hi=> ?_⟩;obtain⟨h1,o,ho,h2⟩:=mem_ready.1 hi;have aV:i<ops.size:=(Zd3.1 ho).1;have gJ:=apn (Q:=Q) hT dG G hI aV (agR h1) λo' e NQ he hb=>by rw[ho]at NQ;simp only[H5]at NQ;subst NQ;exact h2 e he hb
  refine wpOp_mono (λa' w' hh=> ?_) gJ;obtain⟨A',B',ρ',hI'⟩:=hh;rw[amY (by omega)]at hI';have hiU:i∈U:=hm i aV (agR h1);refine aeF hT dG G hQ fuel _ (U.erase i) A' B' ρ' a' w' (by simp[hs]) ?_ (hnd.erase i) (λj hj hD=> ?_) hI'
  . rw[List.length_erase_of_mem hiU];omega
  . (rw[<-amY (by omega)]at hD;have cZ:j≠i:=λe=>hD (.inr e));exact(List.mem_erase_of_ne cZ).2 (hm j hj λh=>hD (.inl h))
theorem Sf(hm:P.follows .mixedOrders=true)(hT:di P tt)(dG:jd P C call)(ak9:oZ call):yP P tt C call:=by
 intro nt id ops l Q fr bG st st' ρ a w hl cF h hS hQ;obtain⟨R,hG,hmap,Ff,auK,Wq⟩:=ab0 (call:=call) (cX:=fr) (h0:=st.heap) (n0:=st.next) _ [] fr bG st st' h trivial rfl rfl rfl;simp only[Ze0]at hG Ff auK Wq;have hst':st'={ heap:=lR st.heap R,next:=eM st.next R }:=by cases st';simp_all
 have hlen:l.length=ops.size:=by rw[(xD hl).1,Zi6]
 have ab2:=Z4 _ 0 [] cF λb=>by simp
 have hL:BL (Ly 0 l) []=(R.map λr=>(r.idx,r.o)).reverse:=by rw[hmap,List.reverse_reverse]
 have dec:∀{A B:List Rec}{r:Rec},R=A++r::B->BL (Ly 0 l) []=(B.map λr=>(r.idx,r.o)).reverse++(r.idx,r.o)::(A.map λr=>(r.idx,r.o)).reverse:=λe=>by rw[hL,e];simp
 have Dp:∀{B:List Rec}{i:Nat},i∈((B.map λr=>(r.idx,r.o)).reverse).map (·.1)↔ ∃r∈B,r.idx=i:=λ{B i}=>by simp
 have G:Dm tt nt ops call fr st.heap st.next R:=by
   refine⟨hG,ak9,λA r B e r' oC hi=> ?_,λA r B e b hb=> ?_,λA r B e hc r' oC=> ?_,λA r B e r' oC=> ?_,λr hr=> ?_,λi hi=> ?_⟩
   . exact(ab2.one _ _ _ _ (dec e)).2 (Dp.2 ⟨r',oC,hi⟩)
   . rcases ab2.bZ _ _ _ _ (dec e) b hb with h|h
     . cases h
     . exact Dp.1 h
   . exact ab2.bh _ _ _ _ (dec e) hc _ (.inr (Dp.2 ⟨r',oC,rfl⟩))
   . exact ab2.apart _ _ _ _ (dec e) (r'.idx,r'.o) (by simp;exact⟨r',oC,rfl,rfl⟩)
   . obtain⟨A,B,e⟩:=oN hr;have hx:(r.idx,r.o)∈BL (Ly 0 l) []:=(by rw[dec e];simp);have h1:=ar0 hx;obtain⟨o,h2,h3,h4⟩:=R5 hl _ _ h1;refine⟨o,h2,h3,?_⟩;rw[h4];exact ajQ ops.toList [] rfl (Zi8 _) (λi hi=>by simp at hi) _ (Zd3.1 h2).1
   . rcases ab2.all i (by rw[hlen];exact hi)with h|h
     . cases h
     . rw[hL]at h;exact Dp.1 h
 refine wp_region_any hm ?_;rw[hst',Ff]at hQ;have hkn:∀b:Pos,b.toNat<st.next.toNat->∀D,Kept st.next R D b:=λb hb D A r B e _=> .inl (Zd0 hb (G.ak4 (X:=A++[r]) (by rw[e];simp)))
 refine aeF (Q:=Q) (nH:=ρ) (w0:=w) hT dG G hQ ops.size _ (List.range ops.size) R [] ρ a _ (by simp) (by simp) List.nodup_range (λj hj _=>Zh6.2 hj) ?_;have nG:∀j,¬DL (Array.replicate ops.size false) j:=λj h=>by
   unfold DL at h;rcases Zi4 j ops.size with hj|hj
   . simp[hj]at h
   . simp[Nat.not_lt.2 hj]at h
 refine⟨⟨by simp,trivial,(λr hr=>by cases hr),λr _ hD=>absurd hD (nG _),λi _ _ hD=>absurd hD (nG _),hS.size,hS.defers⟩,λρ' FY=> ?_⟩;have ye:∀b:Pos,b.toNat<st.next.toNat->ρ' b=ρ b:=λb hb=>FY b (hkn b hb _)
 have hW:cq ρ' C st { w with drawn:=w.drawn+1 }:=(hS.W.congr ye).grow (Za3 _) λ_ _=>rfl
 refine⟨hW,λr _ hD=>absurd hD (nG _),λr _ hD=>absurd hD (nG _),λM s T p _ hD=>absurd hD (nG _),λp v hv _=> ?_,⟨rfl,rfl,rfl,Za3 _,λ_ _ _=>rfl,λb x hb=> .inl ⟨b,x,hb,?_⟩⟩,ye⟩
 . obtain⟨x,hx,Wn⟩:=hS.F p v hv;exact⟨x,hx,Wn.mono ye (Za3 _)⟩
 . rw[ye b (hS.W.live b x hb).1]
theorem Dq(hm:P.follows .mixedOrders=true)(hT:di P tt){O:eV}{G:T dO}(hO:vU P C O)(Ws:oh O)(hG:GOk P tt G)(m d:Nat):jd P C (uz O G m d):=
 Z0 hT hO hG m (λd dG=>Sf hm hT dG (Dl Ws m d)) d
end
end
section
section
variable{R : Type}
theorem Cx{α:Type}:∀(p:Pos)(t:T α),BZ p t=t.get p
 | .h,.e=>rfl
 | .h,.n _ _ _=>rfl
 | .o _,.e=>rfl
 | .o p,.n l _ _=>Cx p l
 | .i _,.e=>rfl
 | .i p,.n _ _ r=>Cx p r
theorem nU{α:Type}(x:Option α):∀(p:Pos)(t:T α)(k:T α->R),xI x p t k=k (t.put x p)
 | .h,.e,_=>rfl
 | .h,.n _ _ _,_=>rfl
 | .o p,.e,k=>nU x p .e _
 | .o p,.n l _ _,k=>nU x p l _
 | .i p,.e,k=>nU x p .e _
 | .i p,.n _ _ r,k=>nU x p r _
theorem GP(n:Nat)(k:Nat->R):vR n k=k n:=by cases n<;>rfl
theorem ajd(n:Int)(k:Int->R):aaM n k=k n:=by cases n<;>simp only[aaM,GP]
theorem agS(b:Bool)(k:Bool->R):aes b k=k b:=by cases b<;>rfl
theorem NV{α:Type}:∀(l:List α)(k:List α->R),Hf l k=k l
 |[],_=>rfl
 |a::l,k=>NV l λt=>k (a::t)
theorem OR:∀(p:Pos)(k:Pos->R),RJ p k=k p
 | .h,_=>rfl
 | .o p,k=>OR p λq=>k (.o q)
 | .i p,k=>OR p λq=>k (.i q)
theorem amZ(o:Option Nat)(k:Option Nat->R):agv o k=k o:=by
 cases o with
 |none=>rfl
 |some n=>simp only[agv,GP]
theorem aeG(v:AV)(k:AV->R):VW v k=k v:=by
 cases v<;>simp only[VW,agS,ajd,NV,OR,GP,amZ]
theorem Sg:∀(l:List AV)(k:List AV->R),YM l k=k l
 |[],_=>rfl
 |a::l,k=>by
  show VW a (λa=>YM l λt=>k (a::t))=_;rw[aeG,Sg l]
theorem NW(v:AV)(k:AV->R):w9 v k=k v:=by
 unfold w9;split
 . exact Sg _ _
 . exact aeG _ _
theorem Si(x:AB)(k:AB->R):Lc x k=k x:=by
 cases x<;>simp only[Lc,NV,GP]
theorem Sj:∀(p:Pos)(k:Pos->R),abL p k=k p.succ
 | .h,_=>rfl
 | .o _,_=>rfl
 | .i p,k=>Sj p λq=>k (.o q)
variable(z : R)
def uI{α:Type}(r:Option α)(k:α->R):R:=match r with
 |some x=>k x
 |none=>z
theorem agT(fr:Fr)(x:ij)(k:AV->R):evK z fr x k=uI z (He fr x) k:=by
 cases x with
 |t p=>simp only[evK,Cx,He,uI];cases T.get p fr<;>rfl
 |c v=>rfl
theorem adx(fr:Fr):∀(xs:List ij)(k:List AV->R),adn z fr xs k=uI z (fU fr xs) k
 |[],k=>rfl
 |x::xs,k=>by
  show evK z fr x (λv=>adn z fr xs λvs=>k (v::vs))=_;rw[agT];simp only[adx fr xs];simp only[fU];cases He fr x with
  |none=>rfl
  |some v=>simp only[uI];cases fU fr xs<;>rfl
theorem ab3(fr:Fr)(g:Option (Pos×Bool))(yes no:R):Ld z fr g yes no=match cH fr g with
  |some true=>yes
  |some false=>no
  |none=>z:=by
 unfold Ld cH;cases g with
 |none=>rfl
 |some g=>
  obtain⟨p,want⟩:=g;simp only[Cx];cases T.get p fr with
  |none=>rfl
  |some v=>
   (cases v<;>try rfl);rename_i b;cases b<;>cases want<;>rfl
theorem ab4(fr:Fr)(d:Option Pos)(v:AV)(k:Fr->R):nR fr d v k=k (eE fr d v):=by
 cases d with
 |none=>rfl
 |some p=>exact nU _ _ _ _
theorem ar2(st:St)(del:Option Pos)(set:Option (Pos×AB))(new:Option AB)(k:St->R):aoZ st del set new k=k (st.bh del set new):=by
 have hdel:∀(h:T AB)(k:T AB->R),delK del h k=k (Lx del h):=λh k=>by
  cases del with
  |none=>rfl
  |some b=>exact nU _ _ _ _
 have IG:∀(h:T AB)(k:T AB->R),aoY set h k=k (ON set h):=λh k=>by
  cases set with
  |none=>rfl
  |some b=>simp only[aoY,Si,nU];rfl
 unfold aoZ;rw[hdel,IG];cases new with
 |none=>rfl
 |some x=>simp only[Si,nU,Sj];rfl
def CK(bW:sU R)(call:au):Prop:=∀f args st k,bW f args st k=uI z (call f args st) λx=>k x.1 x.2
variable{bW : sU R}{call : au}
theorem Sk(h:T AB):(λb=>BZ b h)=λb=>h.get b:=funext λb=>Cx b h
theorem agU(hc:CK z bW call)(op:aF)(xs:List AV)(st:St)(k:AV->St->R):YN z bW op xs st k=uI z (cG call op xs st) λx=>k x.1 x.2:=by
 unfold YN cG;rw[Sk];cases op.run (λb=>st.heap.get b) st.next xs with
 |none=>rfl
 |some r=>
  cases r with
  |val v=>simp only[NW];rfl
  |bh v d s n=>simp only[NW,ar2];rfl
  |call f args=>simp only[NV];exact hc f args st k
theorem YQ(hc:CK z bW call):∀(ops:List bS)(fr:Fr)(st:St)(k:Fr->St->R),ado z bW ops fr st k=uI z (mD call ops fr st) λx=>k x.1 x.2
 |[],fr,st,k=>rfl
 |o::os,fr,st,k=>by
  show Ld z fr o.guard (adn z fr o.xs λxs=>YN z bW o.k xs st λv st=>nR fr o.dst v λfr=>ado z bW os fr st k) (nR fr o.dst .undef λfr=>ado z bW os fr st k)=_;rw[ab3,adx];simp only[agU z hc,ab4,YQ hc os];simp only[mD];cases cH fr o.guard with
  |none=>rfl
  |some b=>
   cases b with
   |false=>rfl
   |    true=>
        simp only[];cases fU fr o.xs with
        |none=>rfl
        |some xs=>
         simp only[uI];cases cG call o.k xs st with
         |none=>rfl
         |some x=>rfl
theorem LO(bZ:Nat)(h:T AB):∀(recs:List Rec)(k:T AB->R),RN bZ h recs k=k (snap bZ h recs)
 |[],k=>rfl
 |r::rs,k=>by
  show (match r.c with
   |    .new id aN=>match bZ.testBit r.idx with
        |true=>RN bZ h rs λh'=>xI (some aN) id h' k
        |false=>RN bZ h rs k
   | .bh _ _=>k h
   | .pure=>RN bZ h rs k)=_
  unfold snap;cases r.c with
  |pure=>exact LO bZ h rs k
  |bh _ _=>rfl
  |new id aN=>
   simp only[];cases bZ.testBit r.idx with
   |true=>simp only[LO bZ h rs,nU]
   |false=>exact LO bZ h rs k
theorem aeH(h:T AB):∀(l:List (Pos×AB))(k:T AB->R),agw h l k=k (nE l h)
 |[],k=>rfl
 |(id,aN)::l,k=>by show agw h l (λh'=>xI (some aN) id h' k)=_;rw[aeH h l,nU];rfl
theorem Dr(bZ:Nat)(op:aF)(xs:List AV)(v:AV):∀(recs:List Rec)(up:List (Pos×AB)),vr bZ op xs v up recs=nQ bZ op xs v up recs
 |[],up=>rfl
 |r::rs,up=>by
  unfold vr nQ;cases r.c with
  |pure=>exact Dr bZ op xs v rs up
  |new id aN=>simp only[Dr bZ op xs v rs]<;>(cases bZ.testBit r.idx<;>rfl)
  |bh base _=>
   simp only[Dr bZ op xs v rs,LO,aeH];unfold agx oJ;simp only[Sk]<;>(cases bZ.testBit r.idx<;>rfl)
theorem agV (hc:CK z bW call):∀(ops:List (Nat×bS))(recs:List Rec)(base:T AB)(fr:Fr)(st:St)(k:Fr->St->R),
  RO z bW ops recs base fr st k=uI z (ep call ops recs base fr st) λx=>k x.1 x.2
 |[],recs,base,fr,st,k=>rfl
 |(j,   o)::  os,recs,base,fr,st,k=>by
  show Ld   z fr o.guard
    (adn z fr o.xs λxs=>match o.cls with
        | .new=>match o.k.run (λ_=>none) st.next xs with
          |some (.bh v none none (some aN))=>w9 v λv=>Lc aN λaN=>nR fr o.dst v λfr=>abL st.next λn=>xI (some aN) st.next st.heap λh=>
              RO z bW os ({ idx:=j,o:=o,v:=v,c:= .new st.next aN,nx:=n }::recs) base fr { heap:=h,next:=n } k
          |_=>z
        | .bh=>YN z bW o.k xs st λv st'=>nR fr o.dst v λfr=>RO z bW os ({ idx:=j,o:=o,v:=v,c:= .bh base st'.heap,nx:=st'.next }::recs) st'.heap fr st' k
        | _ =>match o.k.run (λ_=>none) .h xs with
          |some (.val v)=>w9 v λv=>nR fr o.dst v λfr=>RO z bW os ({ idx:=j,o:=o,v:=v,c:= .pure,nx:=st.next }::recs) base fr st k
          | _ =>RN o.bZ base recs λh=>match o.k.run (λb=>BZ b h) .h xs with
            | some (.val v)=>w9 v λv=>match vr o.bZ o.k xs v [] recs with
              |true=>nR fr o.dst v λfr=>RO z bW os ({ idx:=j,o:=o,v:=v,c:= .pure,nx:=st.next }::recs) base fr st k
              |false=>z
            |_=>z)
    (nR fr o.dst .undef λfr=>RO z bW os ({ idx:=j,o:=o,v:= .undef,c:= .pure,nx:=st.next }::recs) base fr st k)=_
  rw[ab3,adx];simp only[agU z hc,ab4,NW,Si,Sj,nU,LO,Dr,Sk,agV hc os];simp only[ep];cases cH fr o.guard with
  |none=>rfl
  | some b=>
    cases b with
    |false=>rfl
    |   true=>
        simp only[];cases fU fr o.xs with
        |none=>rfl
        | some xs=>
          simp only[uI];cases o.cls with
          | new=>
            simp only[];split<;>simp_all
          | bh=>
            simp only[];cases cG call o.k xs st with
            |none=>rfl
            |some x=>rfl
          | pure=>
            simp only[];split
            . simp_all
            . split<;>simp_all;split<;>simp_all
          | read=>
            simp only[];split
            . simp_all
            . split<;>simp_all;split<;>simp_all
def agW(r:Option (oe×Fr×St))(kn:Fr->St->R)(kx:Nat->Fr->St->R)(kr:Fr->St->R):R:=match r with
 |some (.normal,fr,st)=>kn fr st
 |some (.exit id,fr,st)=>kx id fr st
 |some (.ret,fr,st)=>kr fr st
 |none=>z
theorem aaT(hc:CK z bW call):∀(m:Nat)(c:AC)(fr:Fr)(st:St)(kn:Fr->St->R)(kx:Nat->Fr->St->R)(kr:Fr->St->R),
  abM z bW m c fr st kn kx kr=agW z (exec call m c fr st) kn kx kr
 |0,c,fr,st,kn,kx,kr=>rfl
 |m+    1,c,fr,st,kn,kx,kr=>by
  have ih:=aaT hc m;show vt z bW (abM z bW m) c fr st kn kx kr=agW z (bE call (exec call m) c fr st) kn kx kr;cases c with
  |skip=>rfl
  |region ops=>
   simp only[vt,bE,YQ z hc];cases mD call ops fr st with
   |none=>rfl
   |some x=>rfl
  |draw ops=>
   simp only[vt,bE,agV z hc];cases ep call ops [] st.heap fr st with
   |none=>rfl
   |some x=>rfl
  |seq a b=>
   simp only[vt,bE,ih];cases exec call m a fr st with
   |none=>rfl
   |    some x=>
        obtain⟨e,ff,bw⟩:=x;cases e<;>rfl
  |cond x a b=>
   simp only[vt,bE,agT];cases He fr x with
   |none=>rfl
   |    some v=>
        simp only[uI];(cases v<;>try rfl);rename_i t;cases t<;>simp only[ih]
  |block id a=>
   simp only[vt,bE,ih];cases exec call m a fr st with
   |none=>rfl
   |    some x=>
        obtain⟨e,ff,bw⟩:=x;(cases e<;>try rfl);rename_i yd;simp only[agW];cases Nat.beq yd id<;>rfl
  |loop a=>
   simp only[vt,bE,ih];cases exec call m a fr st with
   |none=>rfl
   |    some x=>
        obtain⟨e,ff,bw⟩:=x;cases e<;>rfl
  |exit id=>rfl
  |ret=>rfl
theorem Sl:∀(vs:List AV)(i:Nat)(fr:Fr)(k:Fr->R),PZ vs i fr k=k (params i vs fr)
 |[],i,fr,k=>rfl
 |v::vs,i,fr,k=>by show xI (some v) (key i) fr (λfr=>PZ vs (i+1) fr k)=_;rw[nU,Sl vs];rfl
theorem aje(st:St)(fr:Fr)(rs:List PT)(k:AV->R):FR z st fr rs k=uI z (gR (λb=>st.heap.get b) fr rs) λvs=>k (zQ vs):=by
 unfold FR;rw[Sk];cases gR (λb=>st.heap.get b) fr rs with
 |none=>rfl
 |some vs=>
  simp only[Sg,uI];cases vs with
  |nil=>rfl
  |cons v vs=>cases vs<;>rfl
theorem FZ (O:eV)(G:T dO)(m:Nat):∀d,CK z (NH z O G m d) (uz O G m d)
 |0=>λf args st k=>rfl
 |d+    1=>fun f args st k=>by
  have ih:=FZ O G m d;show( match O f with
   |    some s=>match s args st with
        |some (v,st')=>w9 v λv=>k v st'
        |none=>z
   |    none=>match BZ (key f) G with
        |some F=>match Nat.beq args.length F.nparams with
         |true=>PZ args 0 .e λfr=>abM z (NH z O G m d) m F.code fr st
             (λfr st=>FR z st fr F.results λv=>k v st)
             (λ_ _ _=>z)
             (λfr st=>FR z st fr F.results λv=>k v st)
         |false=>z
        |none=>z)=_
  simp only[uz,NW,Cx,Sl,aaT z ih,aje];cases O f with
  |some s=>
   simp only[];cases s args st with
   |none=>rfl
   |some x=>rfl
  |none=>
   simp only[];cases G.get (key f)with
   |none=>rfl
   |    some F=>
        simp only[];cases Nat.beq args.length F.nparams with
        |false=>rfl
        |true=>
         simp only[];cases exec (uz O G m d) m F.code (params 0 args .e) st with
         |none=>rfl
         |  some x=>
            obtain⟨e,ff,bw⟩:=x;cases e with
            |normal=>
             simp only[agW];cases gR (λb=>bw.heap.get b) ff F.results<;>rfl
            |exit id=>rfl
            |ret=>
             simp only[agW];cases gR (λb=>bw.heap.get b) ff F.results<;>rfl
end
end
section
open Go
def ala (P :Program)(t:Nat)(ti:TI):Bool:=
 match P.underlying t,P.info? t with
 |  some d,some i=>b9 ti.k d&&Nat.beq i.size ti.size&&Nat.beq i.bytes ti.bytes&&
    (match ti.zero with
     |none=>true
     |some z=>match i.zero with
      |some v=>(match sQ v.cells.toList with
           |some z'=>tM z' z
           |none=>false)&&Nat.beq z.length ti.size&&(match ti.k.isAgg,v with
           |true,.agg _=>true
           |true,_=>false
           |false,.agg _=>false
           |false,_=>true)
      |none=>false)&&(match ti.k with
     | .ptr e=>(P.info? e).isSome
     |_=>true)&&(!ti.BK||(!P.stoodInHeld t&& !P.eqGuardType P.depth t))
 |_,_=>false
theorem apo{P:Program}{t:Nat}{ti:TI}(h:ala P t ti=true):akJ P t ti:=by
 unfold ala at h;split at h<;>first|(cases h;done)|skip
 rename_i d i hd hi;simp only[Zb6,Zj4,Zk2]at h;obtain⟨⟨⟨⟨⟨h1,h2⟩,h3⟩,h4⟩,h6⟩,h5⟩:=h;refine⟨⟨d,hd,h1⟩,⟨i,hi,Za6 h2,Za6 h3,λz hz=> ?_⟩,λe he=> ?_,λhe=> ?_⟩
 . rw[hz]at h4;simp only at h4;(split at h4<;>first|(cases h4;done)|skip);rename_i v hv;simp only[Zb6]at h4;obtain⟨⟨g1,g2⟩,g3⟩:=h4;(split at g1<;>first|(cases g1;done)|skip);rename_i z' NN;rw[GO g1]at NN;refine⟨v,hv,NN,Za6 g2,λha=> ?_,λha=> ?_⟩
   . rw[ha]at g3;cases v<;>first|exact⟨_,rfl⟩|cases g3
   . rw[ha]at g3;cases v<;>first|rfl|cases g3
 . rw[he]at h6;exact Zm5.1 h6
 . rcases h5 with h5|h5
   . rw[he]at h5;cases h5
   . exact h5
def Le(P:Program):(Pos->Pos)->T TI->Bool
 |_,.e=>true
 |  f,.n l v r=>(match v with
    |some ti=>ala P ((f .h).toNat - 1) ti
    |none=>true)&&Le P (λp=>f (.o p)) l&&Le P (λp=>f (.i p)) r
theorem Sn{P:Program}:∀{t:T TI}{f:Pos->Pos},Le P f t=true->∀p ti,t.get p=some ti->akJ P ((f p).toNat - 1) ti
 | .e,f,_,p,ti,h=>by rw[T.dP]at h;cases h
 | .n l v r,f,hc,p,ti,h=>by
   simp only[Le,Zb6]at hc;cases p with
   |h=>simp only[T.get]at h;rw[h]at hc;exact apo hc.1.1
   |o p=>exact Sn hc.1.2 p ti h
   |i p=>exact Sn hc.2 p ti h
theorem ar3{P:Program}{tt:TT}(h:Le P (λp=>p) tt=true):di P tt:=λp ti hp=>Sn h p ti hp
end
noncomputable section
open Go
def Qj{α:Type}(g:Nat->Option α):Nat->Nat->Nat->T α
 |0,_,_=> .e
 |d+1,a,m=> .n (Qj g d a (2*m)) (g (a+m - 1)) (Qj g d (a+m) (2*m))
theorem So{α:Type}{g:Nat->Option α}:∀{d a m:Nat}{p:Pos}{x:α},(Qj g d a m).get p=some x->g (a+m*p.toNat - 1)=some x
 |0,_,_,p,x,h=>by rw[Qj,T.dP]at h;cases h
 |d+1,a,m,.h,x,h=>by rw[Pos.toNat,Zo7];exact h
 |d+1,a,m,.o p,x,h=>by
  have:=So (d:=d) (a:=a) (m:=2*m) (p:=p) (x:=x) h;rw[Pos.toNat];have e:a+m*(2*p.toNat) - 1=a+2*m*p.toNat - 1:=by rw[<-Nat.mul_assoc,Nat.mul_comm m 2]
  rw[e];exact this
 |d+1,a,m,.i p,x,h=>by
  have:=So (d:=d) (a:=a+m) (m:=2*m) (p:=p) (x:=x) h;rw[Pos.toNat];have e:a+m*(2*p.toNat+1) - 1=a+m+2*m*p.toNat - 1:=by rw[Nat.mul_add,Zo7, <-Nat.mul_assoc,Nat.mul_comm m 2];omega
  rw[e];exact this
def arz(P:Program)(tt:TT)(i:Nat):Option dO:=match P.funcs[i]? with
 |some fn=>akI tt fn
 |none=>none
def ggOf(P:Program)(tt:TT):T dO:=Qj (arz P tt) 10 0 1
theorem ar4{P:Program}{tt:TT}(h:(P.funcs.toList.all λfn=> !(fn.name== "runtime.NumGoroutine"))=true):GOk P tt (ggOf P tt):=λp F hp=>by
 have:=So hp;rw[Zc3,Zo8,arz]at this;split at this<;>first|(cases this;done)|skip
 rename_i fn Hj;refine⟨fn,Hj,?_,this⟩;have:=Zg7.1 h fn (by obtain⟨hi,e⟩:=Zd3.1 Hj;exact Array.mem_toList_iff.2 (e ▸Array.getElem_mem hi));simpa using this
def tkOf(P:Program)(t:Nat):TK:=match P.underlying t with
 |some .bool=> .bool
 |some (.int k)=> .int k
 |some .string=> .string
 |some (.pointer e)=> .ptr e
 |some (.slice e)=> .slice e
 |some (.array n e)=> .array n e
 |some (.map k e)=> .map k e
 |some (.struct fs)=> .struct (fs.toList.map λf=>(f.offset,f.type,f.name != "_"))
 |some (.func _ _ _)=> .func
 |some (.interface _)=> .iface
 |some .unsafePointer=> .upt
 |_=> .other
def zeroOf:Option Value->Option (List AV)
 |  some v=>match Nat.ble v.cells.size 64 with
    |true=>sQ v.cells.toList
    |false=>none
 |none=>none
def memN(n:Nat):List Nat->Bool
 |[]=>false
 |  m::l=>match Nat.beq m n with
    |true=>true
    |false=>memN n l
def tiOf(P:Program)(eqs:List Nat)(t:Nat):Option TI:=match P.info? t with
 |none=>none
 |some i=>some { k:=tkOf P t,size:=i.size,bytes:=i.bytes,zero:=zeroOf i.zero,BK:=memN t eqs }
def ttOf(P:Program)(eqs:List Nat):T TI:=Qj (tiOf P eqs) 10 0 1
def kI(n:Nat):AV:= .int .i64 (.ofNat n)
def kU(n:Nat):AV:= .int .u8 (.ofNat n)
def kN(p n e:Nat):AV:= .slice (key p) 0 n none e
def kS(p n c e:Nat):AV:= .slice (key p) 0 n (some c) e
end
section
open Go
structure tR(P:Program)(C:Cells)(f:FuncId)(s:List AV->St->Option (AV×St)):Prop where
 mono:∀args st v st',s args st=some (v,st')->st.next.toNat<=st'.next.toNat
 runs:∀(ρ:Pos->Loc)(st:St)(w:World)(args:List AV)(v:AV)(st':St)(cL:List Value),s args st=some (v,st')->
  cq ρ C st w->aL ρ st.next.toNat C args cL->Reaches P (nS ρ C st w v st') ((callFunc f cL.toArray).run P w)
def vW:List (Nat×(List AV->St->Option (AV×St)))->eV
 |[]=>λ_=>none
 |  (g,s)::l=>λf=>match Nat.beq f g with
    |true=>some s
    |false=>vW l f
theorem yS{P:Program}{C:Cells}:∀{l:List (Nat×(List AV->St->Option (AV×St)))},(∀x∈l,tR P C x.1 x.2)->vU P C (vW l)/\oh (vW l)
 |[],_=>⟨λf s h=>by simp[vW]at h,λf s h=>by simp[vW]at h⟩
 |(g,   s0)::l,hl=>by
  obtain⟨h1,h2⟩:=yS λx hx=>hl x (Za9 _ hx)
  have h0:=hl _ (Zd6 ..);refine⟨λf s h=> ?_,λf s h=> ?_⟩
  . simp only[vW]at h;split at h
    .   rename_i he;simp only[H5]at h;subst h;have:=Za6 he;subst this;exact h0.runs
    .   exact h1 f s h
  . simp only[vW]at h;split at h
    .   simp only[H5]at h;subst h;exact h0.mono
    .   exact h2 f s h
def F0:List AV->St->Option (AV×St)
 |  [.str a,.str b],st=>some (.int .i64 (match aO a b with
    |true=> .negSucc 0
    |false=>match aO b a with
     |true=> .ofNat 1
     |false=> .ofNat 0),st)
 |_,_=>none
theorem Wt:∀(x y:List UInt8),Lib.compareBytes x y=match aO (x.map UInt8.toNat) (y.map UInt8.toNat)with
  |true=> .negSucc 0
  | false=>match aO (y.map UInt8.toNat) (x.map UInt8.toNat)with
    |true=> .ofNat 1
    |false=> .ofNat 0
 |[],[]=>rfl
 |[],_::_=>rfl
 |_::_,[]=>rfl
 |a ::x  ,b::y=>by
  rw[xC,xC];have ih:=Wt x y;rw[xC,xC]at ih;simp only[Lib.compareBytes,Op.bytesLess];by_cases h:a<b
  . simp[h]
  . by_cases h':b<a
    .   have cZ:(a==b)=false:=(by rw[Zm3];exact λe=>by subst e;exact h h');simp[h,h',cZ]
    .   have he:a=b:=(by apply Zq6.1;rw[Zn9]at h h';omega);subst he;simp only[h,Zh0,ih];simp
theorem apq{P:Program}{C:Cells}{f:FuncId}{fn:Func}(hf:P.funcs[f]? =some fn)(pX:(fn.name== "runtime.NumGoroutine")=false)(hb:fn.body.isNone=true)
  (hx:Extern.findNext fn=none) (he:Extern.find fn=some Extern.BytealgCompare.compare):tR P C f F0 where
 mono args st v st' h:=by unfold F0 at h;split at h<;>cases h;exact Za3 _
 runs ρ st w args v st' cL h hW hv:=by
  unfold F0 at h;split at h<;>cases h;rename_i a b;obtain⟨x,xs,rfl,h1,h2⟩:=hv.cons_inv;obtain⟨y,ys,rfl,h3,h4⟩:=h2.cons_inv;have:=h4.qx;subst this;obtain⟨s,rfl,hs⟩:=h1.fu;obtain⟨t,rfl,ht⟩:=h3.fu;have dR:(callFunc f [Value.string s,Value.string t].toArray).run P w= .ok (.value (.int .i64 (Lib.compareBytes s.data.toList t.data.toList))) w:=by rw[run_callFunc_extern hf pX hb hx he];show((Extern.BytealgCompare.compare #[.string s,.string t]).run P w).andThen _=_;rw[Lib.run_compareString];rfl
  rw[dR];refine⟨ρ,?_,λ_ _=>rfl,Za3 _,hW,qi.refl _ _ _⟩;rw[Wt,hs,ht];exact .int _ _
theorem cq.sub{ρ:Pos->Loc}{C:Cells}{st:St}{w:World}(h:cq ρ C st w){h2:T AB}(hs:∀b x,h2.get b=some x->st.heap.get b=some x):cq ρ C { heap:=h2,next:=st.next } w where
 live b x hb:=h.live b x (hs b x hb)
 inj b b' x x' hb dZ he:=h.inj b b' x x' (hs b x hb) (hs b' x' dZ) he
 eD a v ha:=⟨(h.eD a v ha).1,λb x hb=>(h.eD a v ha).2 b x (hs b x hb)⟩
 whole:=h.whole
theorem nS.frame{ρ:Pos->Loc}{C:Cells}{st st':St}{w w':World}{v:AV}{x:Value}{h0 h2:T AB}(hW:cq ρ C st w)(yR:∀b y,h0.get b=some y->st.heap.get b=some y)
   (h:nS ρ C { heap:=h0,next:=st.next } w v st' x w')
   (h2s:∀b y,h2.get b=some y->st'.heap.get b=some y\/(st.heap.get b=some y/\h0.get b=none)):
   nS ρ C st w v { heap:=h2,next:=st'.next } x w':=by
 obtain⟨ρ',hv,bF,hn,jk,hE⟩:=h;have hold:∀b y,st.heap.get b=some y->h0.get b=none->∀b' y',h0.get b'=some y'->(ρ b').aN≠(ρ b).aN:=λb y hb yJ b' y' dZ e=>by have:=hW.inj b' b y' y (yR b' y' dZ) hb e;subst this;rw[yJ]at dZ;cases dZ
 have am0:∀b y b' y',st'.heap.get b=some y->st.heap.get b'=some y'->h0.get b'=none->(ρ' b).aN≠(ρ' b').aN:=λb y b' y' hb dZ yJ e=>by
   rw[bF b' (hW.live b' y' dZ).1]at e;rcases hE.yI b y hb with⟨b2,y2,g1,g2⟩|g1
   . exact hold b' y' dZ yJ b2 y2 g1 (g2.trans e)
   . have:=(hW.live b' y' dZ).2.1;omega
 refine⟨ρ',hv,bF,hn,⟨λb y hb=> ?_,λb b' y y' hb dZ he=> ?_,λa u ha=>⟨(jk.eD a u ha).1,λb y hb=> ?_⟩,jk.whole⟩,⟨hE.os,hE.tape,hE.output,hE.size,λk hk nG=> ?_,λb y hb=> ?_⟩⟩
 . rcases h2s b y hb with hb|⟨hb,yJ⟩
   . exact jk.live b y hb
   . obtain⟨g1,g2,g3⟩:=hW.live b y hb;refine⟨Zd0 g1 hn,?_,?_⟩
     .  rw[bF b g1];exact Zd0 g2 hE.size
     .  rw[bF b g1];exact(g3.mono bF hn).of_heap (hE.block _ g2 λb' y' dZ=>hold b y hb yJ b' y' dZ)
 . rcases h2s b y hb with hb|⟨hb,yJ⟩<;>rcases h2s b' y' dZ with dZ|⟨dZ,hb0'⟩
   . exact jk.inj b b' y y' hb dZ he
   . exact absurd he (am0 b y b' y' hb dZ hb0')
   . exact absurd he.symm (am0 b' y' b y dZ hb yJ)
   . rw[bF b (hW.live b y hb).1,bF b' (hW.live b' y' dZ).1]at he;exact hW.inj b b' y y' hb dZ he
 . rcases h2s b y hb with hb|⟨hb,yJ⟩
   . exact(jk.eD a u ha).2 b y hb
   . rw[bF b (hW.live b y hb).1];exact(hW.eD a u ha).2 b y hb
 . exact hE.block k hk λb y hb=>nG b y (yR b y hb)
 . rcases h2s b y hb with hb|⟨hb,yJ⟩
   . rcases hE.yI b y hb with⟨b',y',g1,g2⟩|g1
     .  exact .inl ⟨b',y',yR b' y' g1,g2⟩
     .  exact .inr g1
   . exact .inl ⟨b,y,hb,by rw[bF b (hW.live b y hb).1]⟩
def LP:List AV->List AV->Bool
 |[],[]=>true
 |a::x,b::y=>eo a b&&LP x y
 |_,_=>false
theorem Wu:∀{a b:List AV},LP a b=true->a=b
 |[],[],_=>rfl
 |[],_::_,h=>by simp[LP]at h
 |_::_,[],h=>by simp[LP]at h
 |a::x,b::y,h=>by
  simp only[LP,Zb6]at h;rw[yQ h.1,Wu h.2]
def YR:List (AV×AV×Nat)->List (AV×AV×Nat)->Bool
 |[],[]=>true
 |(a,b,n)::x,(a',b',n')::y=>eo a a'&&eo b b'&&Nat.beq n n'&&YR x y
 |_,_=>false
theorem agX:∀{a b:List (AV×AV×Nat)},YR a b=true->a=b
 |[],[],_=>rfl
 |[],_::_,h=>by simp[YR]at h
 |_::_,[],h=>by simp[YR]at h
 |(a,b,n)::x,(a',b',n')::y,h=>by
  simp only[YR,Zb6]at h;obtain⟨⟨⟨h1,h2⟩,h3⟩,h4⟩:=h;rw[yQ h1,yQ h2,Za6 h3,agX h4]
def ab5:AB->AB->Bool
 | .cells cs fz,.cells nh fz'=>LP cs nh&&Nat.beq fz fz'
 | .map es c,.map es' c'=>YR es es'&&Nat.beq c c'
 |_,_=>false
theorem aaU{a b:AB}(h:ab5 a b=true):a=b:=by
 unfold ab5 at h;split at h<;>(try simp only[Zb6]at h)
 . rw[Wu h.1,Za6 h.2]
 . rw[agX h.1,Za6 h.2]
 . cases h
def hasAll(h:T AB):List (Pos×AB)->Bool
 |[]=>true
 |  (b,x)::l=>(match h.get b with
    |some y=>ab5 y x
    |none=>false)&&hasAll h l
theorem Wv{h:T AB}:∀{l:List (Pos×AB)},hasAll h l=true->∀b x,(b,x)∈l->h.get b=some x
 |[],_,b,x,hm=>by cases hm
 |(b0,x0)::l,hh,b,x,hm=>by
  simp only[hasAll,Zb6]at hh;rcases Za8.1 hm with hm|hm
  . cases hm;have h1:=hh.1;(split at h1<;>first|(cases h1;done)|skip);rename_i y hy;rw[hy,aaU h1]
  . exact Wv hh.2 b x hm
theorem NX:∀{l:List (Pos×AB)}{h:T AB}{b:Pos}{x:AB},(nE l h).get b=some x->(b,x)∈l\/(h.get b=some x/\∀y∈l,y.1≠b)
 |[],h,b,x,hb=> .inr ⟨hb,λy hy=>by cases hy⟩
 |(b0,x0)::l,h,b,x,hb=>by
  unfold nE at hb;by_cases e:b0=b
  . subst e;rw[T.gH]at hb;simp only[H5]at hb;subst hb;exact .inl (Zd6 ..)
  . rw[T.bX _ e]at hb;rcases NX hb with h1|⟨h1,h2⟩
    .   exact .inl (Za9 _ h1)
    .   refine .inr ⟨h1,λy hy=> ?_⟩;rcases Za8.1 hy with rfl|hy
        . exact e
        . exact h2 y hy
structure Lit where
 args:List AV
 n0:Pos
 L0:List (Pos×AB)
 v:AV
 n1:Pos
 L1:List (Pos×AB)
def ab6(l m:List (Pos×AB)):Bool:=l.all λx=>m.any λy=>Pos.beq x.1 y.1
def Sq(t:Lit):List AV->St->Option (AV×St):=λargs st=>
 match LP args t.args&&Pos.beq st.next t.n0&&hasAll st.heap t.L0 with
 |true=>some (t.v,{ heap:=nE t.L1 st.heap,next:=t.n1 })
 |false=>none
noncomputable def ab7(t:Lit)(O:eV)(G:T dO)(m d f:Nat):Bool:=
 NH (R:=Bool) false O G m d f t.args { heap:=nE t.L0 .e,next:=t.n0 } λv st=>eo v t.v&&Pos.beq st.next t.n1&&hasAll st.heap t.L1
theorem agY{P:Program}{C:Cells}{t:Lit}{O:eV}{G:T dO}{m d f:Nat}(dG:jd P C (uz O G m d))(ak9:oZ (uz O G m d))
   (hk:ab6 t.L0 t.L1=true) (h:ab7 t O G m d f=true):tR P C f (Sq t):=by
 unfold ab7 at h;rw[FZ false O G m d]at h;unfold uI at h;split at h<;>first|(cases h;done)|skip
 rename_i x hx;obtain⟨v,bw⟩:=x;simp only[Zb6]at h;obtain⟨⟨h1,h2⟩,h3⟩:=h;have h1:=yQ h1;have h2:=Pos.beq_eq.1 h2;subst h1;have unf:∀args st v' st',Sq t args st=some (v',st')->args=t.args/\st.next=t.n0/\hasAll st.heap t.L0=true/\v'=t.v/\st'={ heap:=nE t.L1 st.heap,next:=t.n1 }:=by
   intro args st v' st' hs;unfold Sq at hs;(split at hs<;>first|(cases hs;done)|skip);rename_i hc;simp only[Zb6]at hc;simp only[H5,Zd1]at hs;exact⟨Wu hc.1.1,Pos.beq_eq.1 hc.1.2,hc.2,hs.1.symm,hs.2.symm⟩
 refine⟨λargs st v' st' hs=> ?_,λρ st w args v' st' cL hs hW hv=> ?_⟩
 . obtain⟨rfl,g2,g3,rfl,rfl⟩:=unf _ _ _ _ hs;have:=ak9 _ _ _ _ _ hx;rw[g2, <-h2];exact this
 . obtain⟨ rfl,g2,g3,rfl,rfl⟩:=unf _ _ _ _ hs;have yR:∀b y,(nE t.L0 T.e).get b=some y->st.heap.get b=some y:=λb y hb=>by
    rcases NX hb with hb|⟨hb,_⟩
    .   exact Wv g3 b y hb
    .   rw[T.dP]at hb;cases hb
   have yT:uz O G m d f t.args { heap:=nE t.L0 .e,next:=st.next }=some (t.v,bw):=(by rw[g2];exact hx);refine Reaches.mono (λx w' hp=> ?_) (dG ρ _ w f t.args t.v bw cL yT (hW.sub yR) hv);have:=   hp.frame hW yR (h2:=nE t.L1 st.heap) λb y hb=>by
    rcases NX hb with hb|⟨hb,nG⟩
    .   exact .inl (Wv h3 b y hb)
    .   refine .inr ⟨hb,?_⟩;cases hg:(nE t.L0 T.e).get b with
        |none=>rfl
        |some u=>
         exfalso;rcases NX hg with hg|⟨hg,_⟩
         .  unfold ab6 at hk;rw[Zg7]at hk;have:=hk _ hg;rw[List.any_eq_true]at this;obtain⟨y',hy',he⟩:=this;exact nG y' hy' (Pos.beq_eq.1 he).symm
         .  rw[T.dP]at hg;cases hg
   rw[h2]at this;exact this
def orS(s t:List AV->St->Option (AV×St)):List AV->St->Option (AV×St):=λargs st=>match s args st with
 |some r=>some r
 |none=>t args st
theorem agZ{P:Program}{C:Cells}{f:FuncId}{s t:List AV->St->Option (AV×St)}(hs:tR P C f s)(ht:tR P C f t):tR P C f (orS s t) where
 mono args st v st' h:=by
  unfold orS at h;split at h
  . rename_i r hr;simp only[H5]at h;subst h;exact hs.mono _ _ _ _ hr
  . exact ht.mono _ _ _ _ h
 runs ρ st w args v st' cL h hW hv:=by
  unfold orS at h;split at h
  . rename_i r hr;simp only[H5]at h;subst h;exact hs.runs ρ st w args v st' cL hr hW hv
  . exact ht.runs ρ st w args v st' cL h hW hv
end
end Go.Ai
