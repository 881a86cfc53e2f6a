/- Its calls answer as the model does. -/
import Derived.Test.YtgihekklfnjkiaaGreatDoorDEvalC
import Derived.Lib.Bytealg
set_option linter.all false
set_option linter.unusedSectionVars false
set_option linter.deprecated false
namespace Go.Ai
section
open Go Go.RowKit
theorem Ky{a b:AV}(h:fI a b=true):a=b:=by
 unfold fI at h;split at h<;>(try simp only[Zb5,Zf5]at h)<;>try rfl
 . rw[beq_iff_eq.1 h]
 . rename_i k i k' i';have h2:=h.2;rw[mH]at h2;rw[B6 h.1,beq_iff_eq.1 h2]
 . rw[mI.1 h]
 . rw[Pos.beq_eq.1 h.1,Za6 h.2]
 . obtain⟨⟨⟨h1,h2⟩,h3⟩,h4⟩:=h;rw[Pos.beq_eq.1 h1,Za6 h2,Za6 h3,Za6 h4]
 . obtain⟨⟨⟨⟨h1,h2⟩,h3⟩,h4⟩,h5⟩:=h;rw[Pos.beq_eq.1 h1,Za6 h2,Za6 h3,Za6 h4,Za6 h5]
 . rw[Pos.beq_eq.1 h]
theorem Oe:∀{a b:List AV},Bw a b=true->a=b
 |[],[],_=>rfl
 |[],_::_,h=>by simp[Bw]at h
 |_::_,[],h=>by simp[Bw]at h
 |a::x,b::y,h=>by
  simp only[Bw,Zb5]at h;rw[Ky h.1,Oe h.2]
theorem agN{f:AV->AV->Bool}(hf:∀{a b},f a b=true->a=b):∀{a b:List AV},MX f a b=true->a=b
 |[],[],_=>rfl
 |[],_::_,h=>by simp[MX]at h
 |_::_,[],h=>by simp[MX]at h
 |a::x,b::y,h=>by
  simp only[MX,Zb5]at h;rw[hf h.1,agN hf h.2]
theorem abU{f:AV->AV->Bool}(hf:∀{a b},f a b=true->a=b):∀{a b:List (List AV)},B4 f a b=true->a=b
 |[],[],_=>rfl
 |[],_::_,h=>by simp[B4]at h
 |_::_,[],h=>by simp[B4]at h
 |a::x,b::y,h=>by
  simp only[B4,Zb5]at h;rw[agN hf h.1,abU hf h.2]
theorem agO:∀{d:Nat}{a b:AV},MY d a b=true->a=b
 |0,_,_,h=>by unfold MY at h;exact Ky h
 |d +1,a,b,h=>by
  unfold MY at h;split at h
  . rename_i heq;cases heq;simp only[Zb5]at h;rw[abU (λh=>agO h) h.1,Za6 h.2]
  . exact Ky h
theorem abV{a b:AV}(h:lH a b=true):a=b:=by
 unfold lH at h;split at h
 . simp only[Zb5]at h;rw[Za6 h.1.1,Oe h.1.2,Oe h.2]
 . exact agO h
 . exact Ky h
theorem Gq:∀{a b:List AV},tV a b=true->a=b
 |[],[],_=>rfl
 |[],_::_,h=>by simp[tV]at h
 |_::_,[],h=>by simp[tV]at h
 |a::x,b::y,h=>by
  simp only[tV,Zb5]at h;rw[abV h.1,Gq h.2]
theorem yy{a b:AV}(h:eM a b=true):a=b:=by
 unfold eM at h;split at h
 . rw[Gq h]
 . rw[Gq h]
 . exact abV h
theorem ao5 {k:aH}{H H':Pos->Option AB}{n n':Pos}{xs:List AV}{v:AV}(h:k.run H n xs=some (.val v))(hm:∀b x,H b=some x->H' b=some x):
  k.run H' n' xs=some (.val v):=by
 cases k<;>simp only[aH.run]at h ⊢ <;>try exact h
 case alloc z=>unfold Q6 at h;split at h<;>cases h
 case box=>unfold abF at h;split at h<;>cases h
 case buildSlice es len z p=>unfold wK at h;dsimp only at h;split at h<;>cases h
 case mkMap=>unfold Q9 at h;cases h
 case mkSlice es b z=>
  unfold CI at h
  repeat' split at h
  all_goals cases h
 case store m=>
  unfold La at h
  repeat' split at h
  all_goals cases h
 case mapSet pk=>
  unfold yj at h
  repeat' split at h
  all_goals cases h
 case load m=>
  unfold zo at h ⊢;split at h<;>first|(cases h;done)|skip
  split at h<;>first|(cases h;done)|skip
  . (split at h<;>first|(cases h;done)|skip);rename_i cs fz hb;simp only[hm _ _ hb];exact h
  . exact h
 case conv c=>
  unfold FD at h ⊢;split at h<;>first|(cases h;done)|skip
  split at h<;>first|(cases h;done)|exact h|skip
  rename_i b off m _ _;cases hb:Nat.beq m 0 with
  |true=>simp only[hb]at h ⊢; exact h
  | false=>
    simp only[hb]at h ⊢;cases hH:H b with
    |none=>simp[hH]at h
    |some x=>simp only[hH]at h;simp only[hm _ _ hH];exact h
 case lookup pk z ok=>
  unfold lC at h ⊢;split at h<;>first|(cases h;done)|skip
  rename_i m k';cases m<;>try exact h
  rename_i b;cases hb:H b with
  |none=>simp[hb]at h
  | some x=>
    simp only[hb]at h;simp only[hm _ _ hb];exact h
 case lenB lk=>
  unfold OX at h ⊢;split at h<;>first|(cases h;done)|skip
  split at h<;>first|(cases h;done)|exact h|skip
  split at h<;>first|(cases h;done)|skip
  rename_i es c hb;simp only[hm _ _ hb];exact h
 case clearS es z=>
  unfold sZ at h ⊢;split at h<;>first|(cases h;done)|skip
  split at h<;>first|(cases h;done)|exact h|skip
  rename_i b off m _ _;cases hb:Nat.beq m 0 with
  |true=>simp only[hb]at h ⊢; exact h
  | false=>
    simp only[hb]at h
    repeat' split at h
    all_goals cases h
 case copyB es=>
  unfold pM at h ⊢;split at h<;>first|(cases h;done)|skip
  rename_i d x;cases hd:eV d with
  |none=>simp[hd]at h
  | some m1=>
    cases hx:eV x with
    |none=>simp[hd,hx]at h
    |   some m2=>
        simp only[hd,hx]at h ⊢;cases hb:Nat.beq (min m2 m1) 0 with
        |true=>simp only[hb]at h ⊢; exact h
        |false=>
         simp only[hb]at h;(split at h<;>first|(cases h;done)|skip);(split at h<;>first|(cases h;done)|skip);split at h<;>cases h
 case append es bytes=>
  unfold lF at h ⊢;split at h<;>first|(cases h;done)|skip
  rename_i s x;cases hd:eV s with
  |none=>simp[hd]at h
  | some m1  =>
    cases hx:eV x with
    |none=>simp[hd,hx]at h
    |   some m2=>
        simp only[hd,hx]at h ⊢;cases h1:Nat.ble ((2*(m1+m2)+768)*bytes) 281474976710656 with
        |false=>simp[h1]at h
        |true=>
         cases h2:Nat.ble (m1+m2) 9223372036854775807 with
         |false=>simp[h1,h2]at h
         |  true=>
            simp only[h1,h2]at h ⊢;cases hb:Nat.beq m2 0 with
            |true=>
             simp only[hb]at h ⊢;split at h<;>first|(cases h;done)|exact h|skip
             all_goals (simp_all;done)
            |false=>
             simp only[hb]at h
             repeat' split at h
             all_goals first
               |(rename_i e;cases e;done)
               |(rename_i e _;cases e;done)
               |(cases h;done)
               |simp_all
inductive Ru(n:Pos):AV->AB->Prop where
 |ptr (cs:List AV):Ru n (.ptr n 0) (.cells cs 0)
 |slice (len es:Nat) (cap:Option Nat) (cs:List AV) (h:len=0->cap=none\/cap=some 0->cs=[]):Ru n (.slice n 0 len cap es) (.cells cs 0)
 |map:Ru n (.map n) (.map [] 0)
theorem aew:∀{ps:List (Nat×Nat)}{xs cs:List AV},cF [] ps xs=some cs->cs=[]
 |[],[],cs,h=>by simp[cF]at h;exact h.symm ▸rfl
 |[],_::_,cs,h=>by simp[cF]at h
 |_::_,[],cs,h=>by simp[cF]at h
 |(off,size)::ps,v::vs,cs,h=>by
  unfold cF at h;split at h<;>first|(cases h;done)|skip
  rename_i h1 h2;have h1:=Za6 h1;have h2:=Zb3 h2;have h3:v.cells=[]:=by apply Zc4;simp at h2;omega
  rw[h3]at h;have h4:aX ([]:List AV) off []=[]:=by simp[aX]
  rw[h4]at h;exact aew h
theorem arQ {k : aH}{n:Pos}{xs:List AV}{v:AV}{aN:AB}(h:k.run (λ_=>none) n xs=some (.bh v none none (some aN))):Ru n v aN:=by
 cases k<;>simp only[aH.run]at h
 case alloc z=>unfold Q6 at h;split at h<;>cases h;exact .ptr _
 case box=>unfold abF at h;split at h<;>cases h;exact .ptr _
 case buildSlice es len z p=>
  unfold wK at h;dsimp only at h;split at h<;>cases h;rename_i cs hc;refine .slice _ _ _ _ λh0 _=> ?_
  subst h0;exact aew hc
 case mkMap=>unfold Q9 at h;cases h;exact .map
 case mkSlice es b z=>
  unfold CI at h
  repeat' split at h
  all_goals cases h
  refine .slice _ _ _ _ λ_ h1=> ?_
  rcases h1 with h1|h1
  . cases h1
  . simp only[H5]at h1;subst h1;rfl
 case conv c=>
  unfold FD at h
  repeat' split at h
  all_goals cases h
 case append es bytes=>
  unfold lF at h
  repeat' split at h
  all_goals cases h
  all_goals refine .slice _ _ _ _ λh0 _=> ?_
  all_goals (exfalso;rename_i hb _ _;simp_all)
 case move=>unfold Yo at h;split at h<;>cases h
 case pick=>   unfold adk at h;repeat' split at h
               all_goals cases h
 case build=>unfold Q7 at h;dsimp only at h;split at h<;>cases h
 case load=>   unfold zo at h;repeat' split at h
               all_goals cases h
 case store=>   unfold La at h;repeat' split at h
                all_goals cases h
 case nilCheck=>   unfold Oa at h;repeat' split at h
                   all_goals cases h
 case bin=>   unfold jr at h;repeat' split at h
              all_goals cases h
 case un=>   unfold aky at h;repeat' split at h
             all_goals cases h
 case mkIface=>   unfold Q8 at h;repeat' split at h
                  all_goals cases h
 case mkFunc=>unfold Gx at h;dsimp only at h;cases h
 case lookup=>
  unfold lC at h;split at h<;>first|(cases h;done)|skip
  dsimp only at h;split at h<;>cases h
 case mapSet=>   unfold yj at h;repeat' split at h
                 all_goals cases h
 case sliceS=>
  unfold Vr at h;split at h<;>first|(cases h;done)|skip
  split at h<;>first|(cases h;done)|skip
  dsimp only at h;split at h<;>cases h
 case sliceL=>   unfold iM at h;repeat' split at h
                 all_goals cases h
 case fieldA=>   unfold Vt at h;repeat' split at h
                 all_goals cases h
 case idxA=>   unfold sP at h;repeat' split at h
               all_goals cases h
 case field=>   unfold Ra at h;repeat' split at h
                all_goals cases h
 case idxS=>   unfold Yp at h;repeat' split at h
               all_goals cases h
 case extract=>   unfold Kv at h;repeat' split at h
                  all_goals cases h
 case callF=>unfold aaC at h;dsimp only at h;cases h
 case callV=>   unfold aaD at h;repeat' split at h
                all_goals cases h
 case lenB=>   unfold OX at h;repeat' split at h
               all_goals cases h
 case copyB=>
  unfold pM at h;split at h<;>first|(cases h;done)|skip
  split at h<;>first|(cases h;done)|skip
  dsimp only at h
  repeat' split at h
  all_goals cases h
 case minB=>   unfold KN at h;repeat' split at h
               all_goals cases h
 case maxB=>   unfold KO at h;repeat' split at h
               all_goals cases h
 case clearS=>   unfold sZ at h;repeat' split at h
                 all_goals cases h
 case capB=>cases h
 case bad=>cases h
end
section
def pO(call:aj):Prop:=∀f args st v st',call f args st=some (v,st')->st.next.toNat<=st'.next.toNat
section
variable{call : aj}
theorem Rv(hm:pO call){k:aH}{xs:List AV}{st st':St}{v:AV}(h:cL call k xs st=some (v,st')):st.next.toNat<=st'.next.toNat:=by
 unfold cL at h;split at h
 . simp only[H5,Zd0]at h;rw[h.2];exact Za3 _
 . simp only[H5,Zd0]at h;rw[<-h.2];exact St.Rr _ _ _ _
 . exact hm _ _ _ _ _ h
 . cases h
theorem VM(hm:pO call):∀(os:List bW)(fr bI:Fr)(st st':St),mE call os fr st=some (bI,st')->st.next.toNat<=st'.next.toNat
 |[],fr,bI,st,st',h=>by simp only[mE,H5,Zd0]at h;rw[h.2];exact Za3 _
 |o ::os,fr,bI,st,st',h=>by
  unfold mE at h;split at h
  . (split at h<;>first|(cases h;done)|skip);(split at h<;>first|(cases h;done)|skip);rename_i hs;exact Zb1 (Rv hm hs) (VM hm os _ _ _ _ h)
  . exact VM hm os _ _ _ _ h
  . cases h
theorem zw(hm:pO call):∀(os:List (Nat×bW))(recs:List Rec)(base:T AB)(fr bI:Fr)(st st':St),eG call os recs base fr st=some (bI,st')->st.next.toNat<=st'.next.toNat
 |[],recs,base,fr,bI,st,st',h=>by simp only[eG,H5,Zd0]at h;rw[h.2];exact Za3 _
 |(j,   o)::os,recs,base,fr,bI,st,st',h=>by
  have hs:st.next.toNat<=st.next.succ.toNat:=by rw[Pos.aF];omega
  unfold eG at h;split at h
  . exact zw hm os _ _ _ _ _ _ h
  . (split at h<;>first|(cases h;done)|skip);split at h
    .   (split at h<;>first|(cases h;done)|skip);exact Zb1 hs (zw hm os _ _ _ _ _ _ h)
    .   (split at h<;>first|(cases h;done)|skip);rename_i hs;exact Zb1 (Rv hm hs) (zw hm os _ _ _ _ _ _ h)
    .   split at h
        . exact zw hm os _ _ _ _ _ _ h
        . (split at h<;>first|(cases h;done)|skip);(split at h<;>first|(cases h;done)|skip);exact zw hm os _ _ _ _ _ _ h
  . cases h
theorem Nh(hm:pO call):∀(m:Nat)(c:AC)(fr bI:Fr)(st st':St)(ex:oJ),exec call m c fr st=some (ex,bI,st')->st.next.toNat<=st'.next.toNat
 |0,c,fr,bI,st,st',ex,h=>by simp[exec]at h
 |m +   1,c,fr,bI,st,st',ex,h=>by
  have ih:=Nh hm m;simp only[exec]at h;unfold bD at h;split at h
  . simp only[H5,Zd0]at h;rw[h.2.2];exact Za3 _
  . (split at h<;>first|(cases h;done)|skip);rename_i hs;simp only[H5,Zd0]at h;rw[<-h.2.2];exact VM hm _ _ _ _ _ hs
  . (split at h<;>first|(cases h;done)|skip);rename_i hs;simp only[H5,Zd0]at h;rw[<-h.2.2];exact zw hm _ _ _ _ _ _ _ hs
  . split at h
    .   rename_i hs;exact Zb1 (ih _ _ _ _ _ _ hs) (ih _ _ _ _ _ _ h)
    .   exact ih _ _ _ _ _ _ h
  . split at h<;>first|(cases h;done)|exact ih _ _ _ _ _ _ h
  . split at h
    .   rename_i hs;split at h<;>(simp only[H5,Zd0]at h;rw[<-h.2.2];exact ih _ _ _ _ _ _ hs)
    .   exact ih _ _ _ _ _ _ h
  . split at h
    .   rename_i hs;exact Zb1 (ih _ _ _ _ _ _ hs) (ih _ _ _ _ _ _ h)
    .   exact ih _ _ _ _ _ _ h
  . simp only[H5,Zd0]at h;rw[h.2.2];exact Za3 _
  . simp only[H5,Zd0]at h;rw[h.2.2];exact Za3 _
def oK(O:fc):Prop:=∀f s,O f=some s->∀args st v st',s args st=some (v,st')->st.next.toNat<=st'.next.toNat
theorem CV{O:fc}{G:T dV}(hO:oK O)(m:Nat):∀d,pO (uz O G m d)
 |0=>λf args st v st' h=>by simp[uz]at h
 |d +   1=>λf args st v st' h=>by
  have ih:=CV (G:=G) hO m d;unfold uz at h;split at h
  . rename_i s hs;exact hO f s hs args st v st' h
  . (split at h<;>first|(cases h;done)|skip);(split at h<;>first|(cases h;done)|skip);split at h<;>first|(cases h;done)|skip
    .   rename_i hs;(split at h<;>first|(cases h;done)|skip);simp only[H5,Zd0]at h;rw[<-h.2];exact Nh ih _ _ _ _ _ _ _ hs
    .   rename_i hs;(split at h<;>first|(cases h;done)|skip);simp only[H5,Zd0]at h;rw[<-h.2];exact Nh ih _ _ _ _ _ _ _ hs
end
def qZ(di:Fr):List Rec->Fr
 |[]=>di
 |r::R=>eJ (qZ di R) r.o.dst r.v
def eW(n0:Pos):List Rec->Pos
 |[]=>n0
 |r::_=>r.nx
def RC.qt:RC->Bool
 | .bh _ _=>true
 |_=>false
def lO(h0:T AB):List Rec->T AB
 |[]=>h0
 |  r::R=>match r.c with
    | .bh _ h=>h
    |_=>lO h0 R
def lQ(h0:T AB):List Rec->T AB
 |[]=>h0
 |  r::R=>match r.c with
    | .bh _ h=>h
    | .new id aN=>(lQ h0 R).put (some aN) id
    | .pure=>lQ h0 R
def Ni:List Rec->Prop
 |[]=>True
 |r::_=>r.c.qt=true
def agP(h0:T AB)(R:List Rec)(o:bW)(xs:List AV)(v:AV):Prop:=
 ∀  A B,R=A++B->Ni B->(∀r∈A,r.c.qt=true->o.cg.testBit r.idx=false)->
    ∃h:T AB,(∀b x,h.get b=some x->(lO h0 B).get b=some x\/∃r∈A,r.c= .new b x/\o.cg.testBit r.idx=true)/\o.k.run (λb=>h.get b) .h xs=some (.val v)
inductive uI(call:aj)(di:Fr)(h0:T AB)(n0:Pos):Rec->List Rec->Prop where
 |skip (i:Nat) (o:bW) (R:List Rec) (hw:cN (qZ di R) o.guard=some false):
  uI call di h0 n0 { idx:=i,o:=o,v:= .undef,c:= .pure,nx:=eW n0 R } R
 |pure (i:Nat) (o:bW) (v:AV) (xs:List AV) (R:List Rec) (hw:cN (qZ di R) o.guard=some true) (hx:fT (qZ di R) o.xs=some xs) (hr:agP h0 R o xs v):
  uI call di h0 n0 { idx:=i,o:=o,v:=v,c:= .pure,nx:=eW n0 R } R
 |new (i:Nat) (o:bW) (v:AV) (aN:AB) (xs:List AV) (R:List Rec) (hw:cN (qZ di R) o.guard=some true) (hx:fT (qZ di R) o.xs=some xs)
  (hr:o.k.run (λ_=>none) (eW n0 R) xs=some (.bh v none none (some aN))):
  uI call di h0 n0 { idx:=i,o:=o,v:=v,c:= .new (eW n0 R) aN,nx:=(eW n0 R).succ } R
 |bh (i:Nat) (o:bW) (v:AV) (st':St) (xs:List AV) (R:List Rec) (hc:o.cls= .bh) (hw:cN (qZ di R) o.guard=some true) (hx:fT (qZ di R) o.xs=some xs)
  (hr:cL call o.k xs { heap:=lQ h0 R,next:=eW n0 R }=some (v,st')):
  uI call di h0 n0 { idx:=i,o:=o,v:=v,c:= .bh (lO h0 R) st'.heap,nx:=st'.next } R
def Good(call:aj)(di:Fr)(h0:T AB)(n0:Pos):List Rec->Prop
 |[]=>True
 |r::R=>uI call di h0 n0 r R/\Good call di h0 n0 R
section
variable{call : aj}{di : Fr}{h0 : T AB}{n0 : Pos}
theorem Good.tail:∀{A B:List Rec},Good call di h0 n0 (A++B)->Good call di h0 n0 B
 |[],_,h=>h
 |_::_,_,h=>Good.tail h.2
theorem Good.at{A B:List Rec}{r:Rec}(h:Good call di h0 n0 (A++r::B)):uI call di h0 n0 r B:=(Good.tail h).1
theorem Rw:∀{A B:List Rec},(∀r∈A,r.c.qt=false)->lO h0 (A++B)=lO h0 B
 |[],_,_=>rfl
 |r::A,B,h=>by
  have h1:=h r (Zd5 ..);have ih:=Rw (A:=A) (B:=B) λr hr=>h r (Za9 _ hr)
  simp only[Zd7,lO];split
  . rename_i hc;rw[hc]at h1;cases h1
  . exact ih
theorem aaJ{cg:Nat}:∀{A B:List Rec}{h:T AB}{b:Pos}{x:AB},(∀r∈A,r.c.qt=false)->Ni B->(snap cg h (A++B)).get b=some x->
  h.get b=some x\/∃r∈A,r.c= .new b x/\cg.testBit r.idx=true
 |[],B,h,b,x,_,hB,hs=>by
  cases B with
  |nil=>exact .inl hs
  | cons r B=>
    simp only[Ni]at hB;simp only[Ze1,snap]at hs;(cases hc:r.c<;>rw[hc]at hB<;>first|(cases hB;done)|skip);rw[hc]at hs;exact .inl hs
 |r ::A   ,B,h,b,x,hA,hB,hs=>by
  have ih:=@aaJ cg A B h b x (λr hr=>hA r (Za9 _ hr)) hB;have up:(h.get b=some x\/∃r∈A,r.c= .new b x/\cg.testBit r.idx=true)->h.get b=some x\/∃r'∈r::A,r'.c= .new b x/\cg.testBit r'.idx=true:=λh1=>
    h1.imp id λ⟨r',h2,h3⟩=>⟨r',Za9 _ h2,h3⟩
  simp only[Zd7,snap]at hs;cases hc:r.c with
  |pure=>rw[hc]at hs;exact up (ih hs)
  |bh b1 h1=>have:=hA r (Zd5 ..);rw[hc]at this;cases this
  | new   id aN=>
    rw[hc]at hs;cases ht:cg.testBit r.idx with
    |false=>simp only[ht]at hs;exact up (ih hs)
    |   true=>
        simp only[ht]at hs;by_cases hid:id=b
        . subst hid;rw[T.gH]at hs;simp only[H5]at hs;subst hs;exact .inr ⟨r,Zd5 ..,hc,ht⟩
        . rw[T.b9 _ hid]at hs;exact up (ih hs)
theorem aex:∀{up:List (Pos×AB)}{h:T AB}{b:Pos}{x:AB},(nJ up h).get b=some x->h.get b=some x\/(b,x)∈up
 |[],_,_,_,h=> .inl h
 |(id,aN)::up,h,b,x,hs=>by
  unfold nJ at hs;by_cases hid:id=b
  . subst hid;rw[T.gH]at hs;simp only[H5]at hs;subst hs;exact .inr (Zd5 ..)
  . rw[T.b9 _ hid]at hs;exact(aex hs).imp (λh=>h) λh=>Za9 _ h
theorem Rx:∀(A:List Rec),(∀r∈A,r.c.qt=false)\/∃r∈A,r.c.qt=true
 |[]=> .inl λr h=>by cases h
 |r::A=>by
  cases hr:r.c.qt with
  |true=>exact .inr ⟨r,Zd5 ..,hr⟩
  |false=>
   rcases Rx A with h|⟨r',h1,h2⟩
   . exact .inl λr' nR=>by
      rcases Zb0.1 nR with rfl|h'
      . exact hr
      . exact h r' h'
   . exact .inr ⟨r',Za9 _ h1,h2⟩
theorem TQ{cg:Nat}{k:aH}{xs:List AV}{v:AV}:∀(A B:List Rec)(up:List (Pos×AB)),oh cg k xs v up (A++B)=true->Good call di h0 n0 (A++B)->Ni B->
  (∀r∈A,r.c.qt=true->cg.testBit r.idx=false)->(∃r∈A,r.c.qt=true)->
  ∃h:T AB,(∀b x,h.get b=some x->(lO h0 B).get b=some x\/(∃r∈A,r.c= .new b x/\cg.testBit r.idx=true)\/(b,x)∈up)/\k.run (λb=>h.get b) .h xs=some (.val v)
 |[],B,up,_,_,_,_,he=>by obtain⟨r,hr,_⟩:=he;cases hr
 |r::A    , B,up,Nj,hG,hB,hn,he=>by
  have hn':∀r∈A,r.c.qt=true->cg.testBit r.idx=false:=λr' nR=>hn r' (Za9 _ nR)
  have ih:=λup (h2:oh cg k xs v up (A++B)=true) h3=>TQ A B up h2 hG.2 hB hn' h3
  simp only[Zd7,oh]at Nj;cases hc:r.c with
  |pure=>
   rw[hc]at Nj;have su:∃r∈A,r.c.qt=true:=by
        obtain⟨r',h1,h2⟩:=he;rcases Zb0.1 h1 with rfl|h1
        . rw[hc]at h2;cases h2
        . exact⟨r',h1,h2⟩
   obtain⟨h,h1,h2⟩:=ih up Nj su;exact⟨h,λb x hb=>(h1 b x hb).imp (λh=>h) (Or.imp (λ⟨r',h3,h4⟩=>⟨r',Za9 _ h3,h4⟩) λh=>h),h2⟩
  |new    id aN=>
   rw[hc]at Nj;have su:∃r∈A,r.c.qt=true:=by
        obtain⟨r',h1,h2⟩:=he;rcases Zb0.1 h1 with rfl|h1
        . rw[hc]at h2;cases h2
        . exact⟨r',h1,h2⟩
   cases ht:cg.testBit r.idx with
   |    false=>
        simp only[ht]at Nj;obtain⟨h,h1,h2⟩:=ih up Nj su;exact⟨h,λb x hb=>(h1 b x hb).imp (λh=>h) (Or.imp (λ⟨r',h3,h4⟩=>⟨r',Za9 _ h3,h4⟩) λh=>h),h2⟩
   |    true=>
        simp only[ht]at Nj;obtain⟨h,h1,h2⟩:=ih _ Nj su;refine⟨h,λb x hb=> ?_,h2⟩;rcases h1 b x hb with h3|⟨r',h3,h4⟩|h3
        . exact .inl h3
        . exact .inr (.inl ⟨r',Za9 _ h3,h4⟩)
        . rcases Zb0.1 h3 with h3|h3
          . simp only[Zd0]at h3;obtain⟨rfl,rfl⟩:=h3;exact .inr (.inl ⟨r,Zd5 ..,hc,ht⟩)
          . exact .inr (.inr h3)
  |bh base h=>
   rw[hc]at Nj;have ht:=hn r (Zd5 ..) (by rw[hc];rfl);simp only[ht,Zb5]at Nj;rcases Rx A with hA|hA
   .    have auC:base=lO h0 B:=(by have hs:=hG.1;(cases hs<;>simp only at hc<;>first|(cases hc;done)|skip);simp only[RC.bh.injEq]at hc;rw[<-hc.1];exact Rw hA);have hra:=Nj.1;unfold pn at hra;(split at hra<;>first|(cases hra;done)|skip);rename_i u hu;rw[yy hra]at hu;refine⟨_,λb x hb=> ?_,hu⟩;rcases aex hb with hb|hb
        . rcases aaJ hA hB hb with h3|⟨r',h3,h4⟩
          . rw[<-auC];exact .inl h3
          . exact .inr (.inl ⟨r',Za9 _ h3,h4⟩)
        . exact .inr (.inr hb)
   .    obtain⟨h,h1,h2⟩:=ih up Nj.2 hA;exact⟨h,λb x hb=>(h1 b x hb).imp (λh=>h) (Or.imp (λ⟨r',h3,h4⟩=>⟨r',Za9 _ h3,h4⟩) λh=>h),h2⟩
theorem abW:  ∀(L:List (Nat×bW))(R:List Rec)(fr bI:Fr)(st st':St),eG call L R (lO h0 R) fr st=some (bI,st')->Good call di h0 n0 R->
  fr=qZ di R->st.heap=lQ h0 R->st.next=eW n0 R->
  ∃R',Good call di h0 n0 (R'++R)/\(R'.map λr=>(r.idx,r.o))=L.reverse/\bI=qZ di (R'++R)/\st'.heap=lQ h0 (R'++R)/\st'.next=eW n0 (R'++R)
 |[],R,fr,bI,st,st',h,hG,h1,h2,h3=>by
  simp only[eG,H5,Zd0]at h;obtain⟨rfl,rfl⟩:=h;exact⟨[],hG,rfl,h1,h2,h3⟩
 |(j,   o)::  L,R,fr,bI,st,st',h,hG,h1,h2,h3=>by
  have fin:∀(r:Rec)(bE:St)(fj:Fr),r.idx=j->r.o=o->uI call di h0 n0 r R->fj=qZ di (r::R)->bE.heap=lQ h0 (r::R)->bE.next=r.nx->
        eG call L (r::R) (lO h0 (r::R)) fj bE=some (bI,st')->
        ∃R',Good call di h0 n0 (R'++R)/\(R'.map λr=>(r.idx,r.o))=((j,o)::L).reverse/\bI=qZ di (R'++R)/\st'.heap=lQ h0 (R'++R)/\st'.next=eW n0 (R'++R):=by
    intro r bE fj hj ho hs k1 k2 k3 hd;obtain⟨R',g1,g2,g3,g4,g5⟩:=abW L (r::R) fj bI bE st' hd ⟨hs,hG⟩ k1 k2 k3;have e:R'++r::R=(R'++[r])++R:=(by simp);rw[e]at g1 g3 g4 g5;exact⟨R'++[r],g1,by simp[g2,hj,ho],g3,g4,g5⟩
  unfold eG at h;subst h1;split at h
  . rename_i hw;exact fin _ _ _ rfl rfl (h3 ▸uI.skip j o R hw) rfl h2 rfl h
  . rename_i hw;(split at h<;>first|(cases h;done)|skip);rename_i xs hx;split at h
    .   (split at h<;>first|(cases h;done)|skip);rename_i v aN hr;rw[h3]at hr;have hs:=uI.new (call:=call) (di:=di) (h0:=h0) (n0:=n0) j o v aN xs R hw hx hr;rw[<-h3]at hs;refine fin _ _ _ rfl rfl hs rfl ?_ rfl h;simp only[lQ,h2]
    .   rename_i ao6;(split at h<;>first|(cases h;done)|skip);rename_i v bE hr;have gI:st={ heap:=lQ h0 R,next:=eW n0 R }:=(by cases st;simp_all);rw[gI]at hr;exact fin _ bE _ rfl rfl (uI.bh j o v bE xs R ao6 hw hx hr) rfl rfl rfl h
    .   split at h
        . rename_i v hr;have ZP:agP h0 R o xs v:=by
           intro A B _ _ _;refine⟨.e,λb x hb=> ?_,?_⟩
           .  rw[T.dW]at hb;cases hb
           .  have e:(λb=>T.get b (T.e:T AB))=λ_=>none:=(by funext b;exact T.dW b);rw[e];exact hr
          exact fin _ _ _ rfl rfl (h3 ▸uI.pure j o v xs R hw hx ZP) rfl h2 rfl h
        . (split at h<;>first|(cases h;done)|skip);rename_i v hr;(split at h<;>first|(cases h;done)|skip);rename_i Nj;have ZP:agP h0 R o xs v:=by
           intro A B hAB hB hn;subst hAB;rcases Rx A with hA|hA
           .  refine⟨_,λb x hb=> ?_,hr⟩;have:=aaJ hA hB hb;rw[Rw hA]at this;exact this
           .  obtain⟨h,k1,k2⟩:=TQ A B [] Nj hG hB hn hA;exact⟨h,λb x hb=>(k1 b x hb).imp id λh=>h.resolve_right (by simp),k2⟩
          exact fin _ _ _ rfl rfl (h3 ▸uI.pure j o v xs R hw hx ZP) rfl h2 rfl h
  . cases h
end
end
section
open Go
structure Late(m:Nat)(pre:List Nat)(L:List (Nat×bW)):Prop where
 all:∀i,i<m->i∈pre\/i∈L.map (·.1)
 lt:∀x∈L,x.1<m
 one:∀A i o B,L=A++(i,o)::B->i∉pre/\i∉A.map (·.1)
 cg:∀A i o B,L=A++(i,o)::B->∀b,o.cg.testBit b=true->b∈pre\/b∈A.map (·.1)
 bh:∀A i o B,L=A++(i,o)::B->o.cls= .bh->∀b,(b∈pre\/b∈A.map (·.1))->o.cg.testBit b=true
 apart:∀A i o B,L=A++(i,o)::B->∀x∈B,x.2.cg.testBit i=true\/Vu o x.2=true
theorem ZQ{m:Nat}:∀(L:List (Nat×bW))(seen:Nat)(pre:List Nat),O9 m seen L=true->(∀b,seen.testBit b=true↔b∈pre)->Late m pre L
 |[],seen,pre,h,hs=>by
  simp only[O9]at h;have:=Za6 h;refine⟨λi hi=> .inl ((hs i).1 ?_),λx hx=>(by cases hx),λA i o B h=> ?_,λA i o B h=> ?_,λA i o B h=> ?_,λA i o B h=> ?_⟩
  . rw[this,Nat.testBit_two_pow_sub_one];simpa using hi
  all_goals (cases A<;>cases h)
 |(i,   o)::L,seen,pre,h,hs=>by
  simp only[O9,Zb5]at h;obtain⟨⟨⟨⟨⟨h1,h2⟩,h3⟩,h4⟩,h5⟩,h6⟩:=h;have h1:i<m:=Zb3 h1;have h2:i∉pre:=λhp=>by rw[(hs i).2 hp]at h2;cases h2
  have h3:=Za6 h3;have hb:∀b,o.cg.testBit b=true->b∈pre:=λb hb=>by rw[<-h3,Nat.testBit_and,Zb5]at hb;exact(hs b).1 hb.2
  have he:o.cls= .bh->∀b,b∈pre->o.cg.testBit b=true:=λhc b hp=>by rw[hc]at h4;rw[Za6 h4];exact(hs b).2 hp
  have ih:=ZQ L (seen ||| 2 ^ i) (pre++[i]) h6 (λb=>by
    rw[Nat.testBit_or,Nat.testBit_two_pow,Zj5,hs b,Zd8];simp[eq_comm])
  rw[Zg8]at h5;have af9:∀{A:List (Nat×bW)}{j:Nat}{p:bW}{B:List (Nat×bW)},(i,o)::L=A++(j,p)::B->(A=[]/\i=j/\o=p/\L=B)\/∃A',A=(i,o)::A'/\L=A'++(j,p)::B:=by
    intro A j p B hA;cases A with
    |nil=>simp at hA;exact .inl ⟨rfl,hA.1.1,hA.1.2,hA.2⟩
    |cons x A=>simp at hA;exact .inr ⟨A,by rw[hA.1],hA.2⟩
  refine⟨λj hj=> ?_,λx hx=> ?_,λA j p B hA=> ?_,λA j p B hA=> ?_,λA j p B hA=> ?_,λA j p B hA=> ?_⟩
  . rcases ih.all j hj with h|h
    .   rcases Zd8.1 h with h|h
        . exact .inl h
        . simp at h;exact .inr (by simp[h])
    .   exact .inr (by simp only[Zd6,Zb0];exact .inr h)
  . rcases Zb0.1 hx with rfl|hx
    .   exact h1
    .   exact ih.lt x hx
  . rcases af9 hA with⟨rfl,rfl,rfl,rfl⟩|⟨A',rfl,TR⟩
    .   exact⟨h2,by simp⟩
    .   obtain⟨k1,k2⟩:=ih.one A' j p B TR;simp only[Zd8,Zh8,not_or]at k1;exact⟨k1.1,by simp only[Zd6,Zb0,not_or];exact⟨k1.2,k2⟩⟩
  . rcases af9 hA with⟨rfl,rfl,rfl,rfl⟩|⟨A',rfl,TR⟩
    .   exact λb vw=> .inl (hb b vw)
    .   intro b vw;rcases ih.cg A' j p B TR b vw with h|h
        . rcases Zd8.1 h with h|h
          . exact .inl h
          . simp at h;exact .inr (by simp[h])
        . exact .inr (by simp only[Zd6,Zb0];exact .inr h)
  . rcases af9 hA with⟨rfl,rfl,rfl,rfl⟩|⟨A',rfl,TR⟩
    .   intro hc b vw;rcases vw with h|h
        . exact he hc b h
        . simp at h
    .   intro hc b vw;refine ih.bh A' j p B TR hc b ?_;rcases vw with h|h
        . exact .inl (Zd8.2 (.inl h))
        . simp only[Zd6,Zb0]at h;rcases h with rfl|h
          . exact .inl (by simp)
          . exact .inr h
  . rcases af9 hA with⟨rfl,rfl,rfl,rfl⟩|⟨A',rfl,TR⟩
    .   intro x hx;have:=h5 x hx
        rwa [Zj5]at this
    .   exact ih.apart A' j p B TR
inductive Reach(ops:Array Oper):Nat->Nat->Prop where
 |edge (i:Nat) (o:Oper) (e:Edge) (ho:ops[i]? =some o) (he:e∈o.after) (hb:Region.binds .any e=true):Reach ops i e.on
 |trans (i:Nat) (o:Oper) (e:Edge) (b:Nat) (ho:ops[i]? =some o) (he:e∈o.after) (hb:Region.binds .any e=true) (h:Reach ops e.on b):Reach ops i b
def akU(ops:Array Oper)(i m:Nat):Prop:=
 (∀o,ops[i]? =some o->∀e∈o.after,Region.binds .any e=true->m.testBit e.on=true)/\∀b,m.testBit b=true->Reach ops i b
theorem adt(acc:List Nat):∀(l:List Edge)(s b:Nat),(l.foldl (λs e=>match Region.binds .any e with
   |true=>s ||| 2 ^ e.on ||| (nth acc e.on).getD 0
   |false=>s) s).testBit b=true↔s.testBit b=true\/∃e∈l,Region.binds .any e=true/\(e.on=b\/((nth acc e.on).getD 0).testBit b=true)
 |[],s,b=>by simp
 |e::l,s,b=>by
  rw[Zr5,adt acc l];cases he:Region.binds .any e with
  |false=>simp[he]
  |true=>
   simp only[Nat.testBit_or,Zj5,Nat.testBit_two_pow,Ze4,Zb0,exists_eq_or_imp,he,Zs0];constructor
   .    rintro(((h|h)|h)|h)
        . exact .inl h
        . exact .inr (.inl (.inl h))
        . exact .inr (.inl (.inr h))
        . exact .inr (.inr h)
   .    rintro(h|(h|h)|h)
        . exact .inl (.inl (.inl h))
        . exact .inl (.inl (.inr h))
        . exact .inl (.inr h)
        . exact .inr h
theorem ajK {ops:Array Oper}:∀(os:List Oper)(acc:List Nat),os=ops.toList.drop acc.length->acc.length<=ops.size->(∀i,i<acc.length->akU ops i (acc.getD i 0))->
  ∀i,i<ops.size->akU ops i ((agu os acc).getD i 0)
 |[],acc,hos,hl,akV,i,hi=>by
  have h1:(ops.toList.drop acc.length).length=0:=by rw[<-hos];rfl
  have:ops.size<=acc.length:=by simp at h1;omega
  exact akV i (by omega)
 |o ::os,acc,hos,hl,akV,i,hi=>by
  simp only[agu];have ho:ops[acc.length]? =some o:=by have:(ops.toList.drop acc.length)[0]? =some o:=(by rw[<-hos];rfl);simpa using this
  have aT:acc.length<ops.size:=(Zd2.1 ho).1;refine ajK os _ ?_ (by simp;omega) (λj hj=> ?_) i hi
  . rw[Ze3,List.length_singleton, <-Zl2, <-hos];rfl
  . rcases Zi6 j acc.length with h|h
    .   rw[Zb6,Zc3 h, <-Zb6];exact akV j h
    .   have Le:j=acc.length:=(by simp at hj;omega);subst Le;rw[Zb6,Zc2 (Za3 _)];simp only[Zk6,Za4,Zf2];refine⟨λo' Ng e he hb=> ?_,λb hb=> ?_⟩
        . rw[ho]at Ng;simp only[H5]at Ng;subst Ng;exact(adt acc _ 0 e.on).2 (.inr ⟨e,by simpa using he,hb,.inl rfl⟩)
        . have hb:=(adt acc _ 0 b).1 hb;rcases hb with hb|⟨e,he,vw,hb⟩
          . simp at hb
          . have su:e∈o.after:=(by simpa using he);rcases hb with rfl|hb
            . exact .edge _ o e ho su vw
            . refine .trans _ o e b ho su vw ?_;rw[qX]at hb;rcases Zi6 e.on acc.length with h|h
              . exact(akV _ h).2 b (by rw[Zb6];exact hb)
              . rw[Zc1 h]at hb;simp at hb
theorem ajL:∀(l:List bW)(k:Nat)(x:Nat×bW),x∈Lc k l->∃i,x.1=k+i/\l[i]? =some x.2
 |[],k,x,h=>by cases h
 |o ::l,k,x,h=>by
  simp only[Lc,Zb0]at h;rcases h with rfl|h
  . exact⟨0,rfl,rfl⟩
  . obtain⟨i,h1,h2⟩:=ajL l (k+1) x h;exact⟨i+1,by omega,by simpa using h2⟩
theorem VN:∀(l held:List (Nat×bW))(x:Nat×bW),x∈Bl l held->x∈l\/x∈held
 |[],held,x,h=> .inr h
 |(i,   o)::l,held,x,h=>by
  unfold Bl at h;split at h
  . rcases Zd8.1 h with h|h
    .   exact .inr (Zl5.1 h).1
    .   rcases Zb0.1 h with h|h
        . exact .inl (by rw[h];exact Zd5 ..)
        . rcases VN l _ x h with h|h
          . exact .inl (Za9 _ h)
          . exact .inr (Zl5.1 h).1
  . rcases VN l _ x h with h|h
    .   exact .inl (Za9 _ h)
    .   rcases Zd8.1 h with h|h
        . exact .inr h
        . simp at h;exact .inl (by rw[h];exact Zd5 ..)
theorem arR{l:List bW}{x:Nat×bW}(h:x∈Bl (Lc 0 l) []):l[x.1]? =some x.2:=by
 rcases VN _ _ _ h with h|h
 . obtain⟨i,h1,h2⟩:=ajL l 0 x h;rw[h1,Zb4];exact h2
 . cases h
theorem Ry{p:Pos}:∀{l:List Pos},O8 p l=true↔p∈l
 |[]=>by simp[O8]
 |q::l=>by simp[O8,Ry (l:=l),Pos.beq_eq]
theorem Of{a b:bW}(h:Vu a b=true):
   (∀d,a.dst=some d->d∉b.looks/\b.dst≠some d)/\(∀d,b.dst=some d->d∉a.looks):=by
 unfold Vu at h;rw[Zb5]at h;obtain⟨h1,h2⟩:=h;constructor
 . intro d hd;rw[hd]at h1;simp only[Zb5,Zk2]at h1;refine⟨λhm=> ?_,λhb=> ?_⟩
   . rw[Ry.2 hm]at h1;exact absurd h1.1 (by simp)
   . rw[hb]at h1;have:Pos.beq d d=true:=Pos.beq_eq.2 rfl;simp[this]at h1
 . intro d hd hm;rw[hd]at h2;simp only[Zk2]at h2;rw[Ry.2 hm]at h2;cases h2
section
variable(P : Program)(tt : TT)(C : Cells)(nt : Nat)(ops : Array Oper)(call : aj)(di : Fr)(h0 : T AB)(n0 : Pos)(R : List Rec)
structure CW:Prop where
 aaK:Good call di h0 n0 R
 mono:pO call
 one:∀A r B,R=A++r::B->∀r'∈B,r'.idx≠r.idx
 cg:∀A r B,R=A++r::B->∀b,r.o.cg.testBit b=true->∃r'∈B,r'.idx=b
 bh:∀A r B,R=A++r::B->r.o.cls= .bh->∀r'∈B,r.o.cg.testBit r'.idx=true
 apart:∀A r B,R=A++r::B->∀r'∈A,r'.o.cg.testBit r.idx=true\/Vu r.o r'.o=true
 rel:∀r∈R,∃o,ops[r.idx]? =some o/\zu tt nt ops o r.o/\akU ops r.idx r.o.cg
 all:∀i,i<ops.size->∃r∈R,r.idx=i
def Kept(D:Nat->Prop)(b:Pos):Prop:=∀A r B,R=A++r::B->¬D r.idx->b.toNat<(eW n0 B).toNat\/r.nx.toNat<=b.toNat
def T1(D:Nat->Prop)(ρ:Pos->Loc)(tmps:Array Value):Prop:=
 ∀M s T p,R=M++s::T->D s.idx->s.o.dst=some p->(∀s'∈M,D s'.idx->s'.o.dst≠some p)->∃x,tmps[p.toNat - 1]? =some x/\aD ρ s.nx.toNat C s.v x
def T0(D:Nat->Prop)(ρ:Pos->Loc)(tmps:Array Value):Prop:=
 ∀p v,di.get p=some v->(∀s∈R,D s.idx->s.o.dst≠some p)->∃x,tmps[p.toNat - 1]? =some x/\aD ρ n0.toNat C v x
structure Pre(D:Nat->Prop)(A B:List Rec)(a:Act):Prop where
 split:R=A++B
 bound:Ni B
 inB:∀r∈B,D r.idx
 inA:∀r∈A,D r.idx->r.c.qt=false
 closed:∀i o e,D i->ops[i]? =some o->e∈o.after->Region.binds .any e=true->D e.on
 size:a.tmps.size=nt
 defers:a.defers=[]
structure Inv0(nS:Pos->Loc)(w0:World)(D:Nat->Prop)(A B:List Rec)(ρ:Pos->Loc)(a:Act)(w:World):Prop where
 W:cC ρ C { heap:=lO h0 B,next:=eW n0 B } w
 N:∀r∈A,D r.idx->∀id aN,r.c= .new id aN->tW ρ r.nx.toNat C (ρ id) w aN/\(ρ id).aN<w.heap.size/\w0.heap.size<=(ρ id).aN/\
  (∀b x,(lO h0 B).get b=some x->(ρ b).aN≠(ρ id).aN)/\(∀ad v,C ad=some v->(ρ id).aN≠ad.block)
 N2:∀r∈A,D r.idx->∀id aN,r.c= .new id aN->∀r'∈A,D r'.idx->∀xN Iy,r'.c= .new xN Iy->id≠xN->(ρ id).aN≠(ρ xN).aN
 t1:T1 C R D ρ a.tmps
 t0:T0 C di n0 R D ρ a.tmps
 E:qI nS { heap:=h0,next:=n0 } w0 ρ { heap:=lO h0 B,next:=eW n0 B } w
 agree:∀b:Pos,b.toNat<n0.toNat->ρ b=nS b
def Inv(nS:Pos->Loc)(w0:World)(D:Nat->Prop)(A B:List Rec)(ρ:Pos->Loc)(a:Act)(w:World):Prop:=
 Pre nt ops R D A B a/\∀ρ',(∀b,Kept n0 R D b->ρ' b=ρ b)->Inv0 C di h0 n0 R nS w0 D A B ρ' a w
end
section
variable{P : Program}{tt : TT}{C : Cells}{nt : Nat}{ops : Array Oper}{call : aj}{di : Fr}{h0 : T AB}{n0 : Pos}{R : List Rec}
theorem Ln(h:∀A r B,R=A++r::B->∀r'∈B,r'.idx≠r.idx){X X' Y Y':List Rec}{r r':Rec}(h1:R=X++r::Y)(h2:R=X'++r'::Y')(hi:r.idx=r'.idx):
   X=X'/\r=r'/\Y=Y':=by
 have h3:X++r::Y=X'++r'::Y':=h1.symm.trans h2;rcases List.append_eq_append_iff.1 h3 with⟨Z,hX,hZ⟩|⟨Z,hX,hZ⟩
 . cases Z with
   |nil=>simp at hZ hX;exact⟨hX.symm,hZ.1,hZ.2⟩
   |cons z Z=>
    simp at hZ;exact absurd hi.symm (h X r Y h1 r' (by rw[hZ.2];simp))
 . cases Z with
   |nil=>simp at hZ hX;exact⟨hX,hZ.1.symm,hZ.2.symm⟩
   |cons z Z=>
    simp at hZ;exact absurd hi (h X' r' Y' h2 r (by rw[hZ.2];simp))
theorem pF{r:Rec}(h:r∈R):∃A B,R=A++r::B:=List.append_of_mem h
theorem ajM(hm:pO call){r:Rec}{B:List Rec}(h:uI call di h0 n0 r B):(eW n0 B).toNat<=r.nx.toNat:=by
 cases h with
 |skip=>exact Za3 _
 |pure=>exact Za3 _
 |new=>simp only[Pos.aF];omega
 |bh i o v st' xs _ hc hw hx hr=>exact Rv hm hr
theorem adu(hm:pO call):∀{A B:List Rec},Good call di h0 n0 (A++B)->(eW n0 B).toNat<=(eW n0 (A++B)).toNat
 |[],_,_=>Za3 _
 |r::A,B,h=>Zb1 (adu hm (A:=A) h.2) (ajM hm h.1)
namespace CW
variable(G : CW tt nt ops call di h0 n0 R)
include G
theorem later{X Y:List Rec}{r r':Rec}(h:R=X++r::Y)(hr:r'∈X):r'.idx≠r.idx:=by
 obtain⟨A,B,rfl⟩:=pF hr;have h':R=A++r'::(B++r::Y):=by rw[h];simp
 exact λe=>G.one _ _ _ h' r (by simp) e.symm
theorem arf{X Y:List Rec}{r:Rec}(h:R=X++r::Y):(eW n0 Y).toNat<=r.nx.toNat:=ajM G.mono (Good.at (h ▸G.aaK))
theorem GM{X Y Z:List Rec}(h:R=X++(Y++Z)):(eW n0 Z).toNat<=(eW n0 (Y++Z)).toNat:=adu G.mono (Good.tail (h ▸G.aaK))
theorem akW{X Y:List Rec}(h:R=X++Y):n0.toNat<=(eW n0 Y).toNat:=by have:=adu (n0:=n0) G.mono (A:=Y) (B:=[]) (by rw[Zd9];exact Good.tail (h ▸G.aaK));rw[Zd9]at this;exact this
theorem abX{D:Nat->Prop}(hc:∀i o e,D i->ops[i]? =some o->e∈o.after->Region.binds .any e=true->D e.on){i b:Nat}(h:Reach ops i b)
  (hi:∀o e,ops[i]? =some o->e∈o.after->Region.binds .any e=true->D e.on):D b:=by
 induction h with
 |edge i o e ho he hb=>exact hi o e ho he hb
 |trans i o e b ho he hb _ ih=>exact ih λo' e' Ng su e8=>hc _ o' e' (hi o e ho he hb) Ng su e8
theorem arh{D:Nat->Prop}{A B:List Rec}{a:Act}(hp:Pre nt ops R D A B a){s:Rec}(hs:s∈R)(hD:D s.idx){b:Nat}(hb:s.o.cg.testBit b=true):D b:=by obtain⟨o,ho,_,hB⟩:=G.rel s hs;exact G.abX hp.closed (hB.2 b hb) λo' e Ng he vw=>hp.closed _ o' e hD Ng he vw
end CW
theorem VO:∀(Y:List Rec)(p:Pos)(v:AV),(qZ di Y).get p=some v->
  (∃M s T,Y=M++s::T/\s.o.dst=some p/\s.v=v/\∀s'∈M,s'.o.dst≠some p)\/(di.get p=some v/\∀s∈Y,s.o.dst≠some p)
 |[],p,v,h=> .inr ⟨h,λs hs=>by cases hs⟩
 |r ::Y   ,p,v,h=>by
  simp only[qZ]at h;by_cases hr:r.o.dst=some p
  . rw[hr]at h;simp only[eJ,T.gH,H5]at h;exact .inl ⟨[],r,Y,rfl,hr,h,λs hs=>by cases hs⟩
  . have h':(qZ di Y).get p=some v:=by
        cases hd:r.o.dst with
        |none=>rw[hd]at h;exact h
        | some d=>
          rw[hd]at h;simp only[eJ]at h
          rwa [T.b9 _ λe=>hr (by rw[hd,e])]at h
    rcases VO Y p v h' with⟨M,s,T,rfl,h2,h3,h4⟩|⟨h2,h3⟩
    .   refine .inl ⟨r::M,s,T,rfl,h2,h3,λs' qY=> ?_⟩;rcases Zb0.1 qY with rfl|qY
        . exact hr
        . exact h4 s' qY
    .   refine .inr ⟨h2,λs hs=> ?_⟩;rcases Zb0.1 hs with rfl|hs
        . exact hr
        . exact h3 s hs
theorem look(G:CW tt nt ops call di h0 n0 R){D:Nat->Prop}{A B:List Rec}{a:Act}(hp:Pre nt ops R D A B a){ρ:Pos->Loc}(h1:T1 C R D ρ a.tmps)(h2:T0 C di n0 R D ρ a.tmps)
   {X Y:List Rec} {r:Rec} (hR:R=X++r::Y) (hD:¬D r.idx) (adv:∀b,r.o.cg.testBit b=true->D b) {p:Pos} {v:AV} (hl:p∈r.o.looks) (hv:(qZ di Y).get p=some v):
   ∃x,a.tmps[p.toNat - 1]? =some x/\aD ρ (eW n0 Y).toNat C v x:=by
 have hX:∀s∈X,D s.idx->s.o.dst≠some p:=by
   intro s hs iG hd;rcases G.apart X r Y hR s hs with h|h
   . exact hD (G.arh hp (by rw[hR];simp[hs]) iG h)
   . exact(Of h).2 p hd hl
 rcases VO Y p v hv with⟨M,s,T,rfl,h3,rfl,h4⟩|⟨h3,h4⟩
 . have hR':R=(X++r::M)++s::T:=(by rw[hR];simp);have iG:D s.idx:=by
     rcases G.apart _ s T hR' r (by simp)with h|h
     .  exact adv _ h
     .  exact absurd hl ((Of h).1 p h3).1
   obtain⟨x,hx,VP⟩:=h1 (X++r::M) s T p hR' iG h3 (λs' qY Lo=>by
     rcases Zd8.1 qY with h|h
     .  exact hX s' h Lo
     .  rcases Zb0.1 h with rfl|h
        . exact absurd Lo hD
        . exact h4 s' h)
   refine⟨x,hx,VP.mono (λ_ _=>rfl) ?_⟩;have:=G.GM (X:=X++[r]) (Y:=M) (Z:=s::T) (by rw[hR];simp);exact this
 . obtain⟨x,hx,VP⟩:=h2 p v h3 (λs hs iG=>by
     rw[hR]at hs;rcases Zd8.1 hs with h|h
     .  exact hX s h iG
     .  rcases Zb0.1 h with rfl|h
        . exact absurd iG hD
        . exact h4 s h)
   exact⟨x,hx,VP.mono (λ_ _=>rfl) (G.akW (X:=X++[r]) (by rw[hR];simp))⟩
theorem Nk{a:Act}{d:Option Tmp}{x:Value}{p:Pos}(h:d.map key≠some p):(a.put d x).tmps[p.toNat - 1]? =a.tmps[p.toNat - 1]? :=by
 cases d with
 |none=>rfl
 |some e=>
  simp only[Act.put];rw[Zj7];intro he;apply h;simp only[Ze6,H5];apply Pos.toNat_inj;rw[iN];have:=p.toNat_pos;omega
theorem ao7{a:Act}{d:Option Tmp}{x:Value}{p:Pos}(h:d.map key=some p)(hs:a.tmps.size=nt)(hd:∀e,d=some e->e<nt):(a.put d x).tmps[p.toNat - 1]? =some x:=by
 cases d with
 |none=>cases h
 |some e=>
  simp only[Ze6,H5]at h;subst h;simp only[Act.put];rw[iN,Zh3,Zp2];simp[hs,hd e rfl]
theorem akX(G:CW tt nt ops call di h0 n0 R){D:Nat->Prop}{A B:List Rec}{a:Act}(hp:Pre nt ops R D A B a){ρ:Pos->Loc}(h1:T1 C R D ρ a.tmps)(h2:T0 C di n0 R D ρ a.tmps)
   {X Y:List Rec} {r:Rec} (hR:R=X++r::Y) (hD:¬D r.idx) {o:Oper} (hrel:zu tt nt ops o r.o) {x:Value} (hv:aD ρ r.nx.toNat C r.v x):
   T1 C R (λi=>D i\/i=r.idx) ρ (a.put o.dst x).tmps/\T0 C di n0 R (λi=>D i\/i=r.idx) ρ (a.put o.dst x).tmps:=by
 constructor
 . intro  M s T p hM iG hd nQ;by_cases hi:s.idx=r.idx
   . obtain⟨_,rfl,_⟩:=Ln G.one hM hR hi;rw[hrel.dst]at hd;exact⟨x,ao7 hd hp.size hrel.lt,hv⟩
   . have iG:=iG.resolve_right hi;by_cases VQ:r.o.dst=some p
     .  exfalso;have hs:s∈R:=(by rw[hM];simp);rw[hR]at hs;rcases Zd8.1 hs with h|h
        . rcases G.apart X r Y hR s h with k|k
          . exact hD (G.arh hp (by rw[hR];simp[h]) iG k)
          . exact((Of k).1 p VQ).2 hd
        . rcases Zb0.1 h with rfl|h
          . exact hi rfl
          . obtain⟨Y1,Y2,rfl⟩:=pF h;have hR':R=(X++r::Y1)++s::Y2:=(by rw[hR];simp);obtain⟨hM',_,_⟩:=Ln G.one hM hR' rfl;exact nQ r (by rw[hM'];simp) (.inr rfl) VQ
     .  (rw[hrel.dst]at VQ;obtain⟨y,hy,VF⟩:=h1 M s T p hM iG hd λs' qY Lo=>nQ s' qY (.inl Lo));exact⟨y,by rw[Nk VQ];exact hy,VF⟩
 . (intro p v hf nQ;have hr:r.o.dst≠some p:=nQ r (by rw[hR];simp) (.inr rfl);rw[hrel.dst]at hr;obtain⟨y,hy,VF⟩:=h2 p v hf λs hs iG=>nQ s hs (.inl iG));exact⟨y,by rw[Nk hr];exact hy,VF⟩
end
section
variable{P : Program}{tt : TT}{C : Cells}{nt : Nat}{ops : Array Oper}{call : aj}{di : Fr}{h0 : T AB}{n0 : Pos}{R : List Rec}
theorem cC.congr{ρ ρ':Pos->Loc}{st:St}{w:World}(h:cC ρ C st w)(bF:∀b:Pos,b.toNat<st.next.toNat->ρ' b=ρ b):cC ρ' C st w where
 live b x hb:=by
  obtain⟨h1,h2,h3⟩:=h.live b x hb;rw[bF b h1];exact⟨h1,h2,h3.mono bF (Za3 _)⟩
 inj b b' x x' hb e8 he:=by rw[bF b (h.live b x hb).1,bF b' (h.live b' x' e8).1]at he;exact h.inj b b' x x' hb e8 he
 eI a v ha:=⟨(h.eI a v ha).1,λb x hb=>by rw[bF b (h.live b x hb).1];exact(h.eI a v ha).2 b x hb⟩
 whole:=h.whole
theorem qI.congr{ρ jS ρ':Pos->Loc}{st st':St}{w w':World}(h:qI ρ st w jS st' w')(bF:∀b x,st'.heap.get b=some x->ρ' b=jS b):qI ρ st w ρ' st' w' where
 os:=h.os
 tape:=h.tape
 output:=h.output
 size:=h.size
 block:=h.block
 ym b x hb:=by rw[bF b x hb];exact h.ym b x hb
namespace CW
variable(G : CW tt nt ops call di h0 n0 R)
include G
theorem same{r r':Rec}(h:r∈R)(h':r'∈R)(hi:r.idx=r'.idx):r=r':=by obtain⟨A,B,hA⟩:=pF h;obtain⟨A',B',TR⟩:=pF h';exact(Ln G.one hA TR hi).2.1
theorem cmp{X Y X' Y':List Rec}{r r':Rec}(h1:R=X++r::Y)(h2:R=X'++r'::Y')(hi:r'.idx≠r.idx):
   (∃Z,Y'=Z++r::Y)\/(∃Z,Y=Z++r'::Y'):=by
 have h3:X++r::Y=X'++r'::Y':=h1.symm.trans h2;rcases List.append_eq_append_iff.1 h3 with⟨Z,hX,hZ⟩|⟨Z,hX,hZ⟩
 . cases Z with
   |nil=>simp at hZ;exact absurd (by rw[hZ.1]) hi
   |cons z Z=>simp at hZ;exact .inr ⟨Z,hZ.2⟩
 . cases Z with
   |nil=>simp at hZ;exact absurd (by rw[hZ.1]) hi
   |cons z Z=>simp at hZ;exact .inl ⟨Z,hZ.2⟩
theorem Rz{X Y X' Z:List Rec}{r r':Rec}(h1:R=X++r::Y)(h2:R=X'++r'::(Z++r::Y)):r.nx.toNat<=(eW n0 (Z++r::Y)).toNat:=by have:=G.GM (X:=X'++[r']) (Y:=Z) (Z:=r::Y) (by rw[h2];simp);exact this
theorem Kz{X Y' Z:List Rec}{r r':Rec}(h1:R=X++r::(Z++r'::Y')):r'.nx.toNat<=(eW n0 (Z++r'::Y')).toNat:=by have:=G.GM (X:=X++[r]) (Y:=Z) (Z:=r'::Y') (by rw[h1];simp);exact this
theorem VR{X Y:List Rec}{r:Rec}(h:R=X++r::Y){id:Pos}{aN:AB}(hc:r.c= .new id aN):id=eW n0 Y/\r.nx=id.succ:=by
 have hs:=Good.at (h ▸G.aaK);cases hs<;>simp only at hc<;>first|(cases hc;done)|skip
 simp only[RC.new.injEq]at hc;obtain⟨rfl,_⟩:=hc;exact⟨rfl,rfl⟩
end CW
theorem Kept.up{D D':Nat->Prop}(h:∀i,D i->D' i){b:Pos}(hk:Kept n0 R D b):Kept n0 R D' b:=λA r B hR hD=>hk A r B hR λhd=>hD (h _ hd)
theorem Pre.next(G:CW tt nt ops call di h0 n0 R){D:Nat->Prop}{A B:List Rec}{a:Act}(hp:Pre nt ops R D A B a){X Y:List Rec}{r:Rec}(hR:R=X++r::Y)
  (uJ:∀o e,ops[r.idx]? =some o->e∈o.after->Region.binds .any e=true->D e.on) (hc:r.c.qt=false) (d:Option Tmp) (x:Value):
  Pre nt ops R (λi=>D i\/i=r.idx) A B (a.put d x) where
 split:=hp.split
 bound:=hp.bound
 inB s hs:= .inl (hp.inB s hs)
 inA s hs hD:=by
  rcases hD with hD|hD
  . exact hp.inA s hs hD
  . rw[G.same (by rw[hp.split];simp[hs]) (by rw[hR];simp) hD];exact hc
 closed i o e hD ho he hb:=by
  rcases hD with hD|rfl
  . exact .inl (hp.closed i o e hD ho he hb)
  . exact .inl (uJ o e ho he hb)
 size:=by rw[Act.j5];exact hp.size
 defers:=by rw[Act.mC];exact hp.defers
theorem aey(G:CW tt nt ops call di h0 n0 R){nS:Pos->Loc}{w0:World}{D:Nat->Prop}{A B:List Rec}{ρ:Pos->Loc}{a:Act}{w:World}
  (hI:Inv C nt ops di h0 n0 R nS w0 D A B ρ a w) {X Y:List Rec} {r:Rec} (hR:R=X++r::Y) (hD:¬D r.idx)
  (uJ:∀o e,ops[r.idx]? =some o->e∈o.after->Region.binds .any e=true->D e.on) {o:Oper} (hrel:zu tt nt ops o r.o) (hc:r.c= .pure) {x:Value}
  (hv:∀ρ',(∀b,Kept n0 R D b->ρ' b=ρ b)->aD ρ' r.nx.toNat C r.v x):
  Inv C nt ops di h0 n0 R nS w0 (λi=>D i\/i=r.idx) A B ρ (a.put o.dst x) w:=by
 obtain⟨hp,hI⟩:=hI;refine⟨hp.next G hR uJ (by rw[hc];rfl) _ _,λρ' FL=> ?_⟩;have hf:∀b,Kept n0 R D b->ρ' b=ρ b:=λb hb=>FL b (hb.up λ_ h=> .inl h)
 have h:=hI ρ' hf;have hnr:∀s∈A,(D s.idx\/s.idx=r.idx)->∀id aN,s.c= .new id aN->D s.idx:=λs hs iG id aN fh=>by
  rcases iG with iG|iG
  . exact iG
  . rw[G.same (by rw[hp.split];simp[hs]) (by rw[hR];simp) iG,hc]at fh;cases fh
 obtain⟨k1,k2⟩:=akX G hp h.t1 h.t0 hR hD hrel (hv ρ' hf);exact⟨h.W,λs hs iG id aN fh=>h.N s hs (hnr s hs iG id aN fh) id aN fh,
  λs hs iG id aN fh s' qY Lo xN Iy tY=>h.N2 s hs (hnr s hs iG id aN fh) id aN fh s' qY (hnr s' qY Lo xN Iy tY) xN Iy tY,k1,k2,h.E,h.agree⟩
theorem cC.grow{ρ:Pos->Loc}{st:St}{w w':World}(h:cC ρ C st w)(hs:w.heap.size<=w'.heap.size)(hb:∀k,k<w.heap.size->w'.heap[k]? =w.heap[k]?):cC ρ C st w' where
 live b x hx:=let⟨h1,h2,h3⟩:=h.live b x hx;⟨h1,Zc7 h2 hs,h3.of_heap (hb _ h2)⟩
 inj:=h.inj
 eI a v ha:=by
  obtain⟨h1,h2⟩:=h.eI a v ha;exact⟨by rw[World.cell?_of_block (w:=w) (hb _ (World.block_lt_of_cell? _ _ h1))];exact h1,h2⟩
 whole a v ha o ho:=by have vr:a.block<w.heap.size:=World.block_lt_of_cell? _ _ (h.eI a v ha).1;rw[World.cell?_of_block (w:=w) (a:=⟨a.block,o,none⟩) (hb _ vr)];exact h.whole a v ha o ho
theorem ao8(G:CW tt nt ops call di h0 n0 R){nS:Pos->Loc}{w0:World}{D:Nat->Prop}{A B:List Rec}{ρ:Pos->Loc}{a:Act}{w w':World}
   (hI:Inv C nt ops di h0 n0 R nS w0 D A B ρ a w) {X Y:List Rec} {r:Rec} (hR:R=X++r::Y) (hD:¬D r.idx)
   (uJ:∀o e,ops[r.idx]? =some o->e∈o.after->Region.binds .any e=true->D e.on) {o:Oper} (hrel:zu tt nt ops o r.o) {id:Pos} {aN:AB} (hc:r.c= .new id aN) {x:Value} {L:Loc}
   (hL:w.heap.size<=L.aN) (hL':L.aN<w'.heap.size) (hos:w'.os=w.os) (auD:w'.tape=w.tape) (hout:w'.output=w.output) (ao9:∀k,k<w.heap.size->w'.heap[k]? =w.heap[k]?)
   (hv:∀ρ',(∀b,Kept n0 R D b->ρ' b=ρ b)->ρ' id=L->aD ρ' r.nx.toNat C r.v x/\tW ρ' r.nx.toNat C L w' aN):
   Inv C nt ops di h0 n0 R nS w0 (λi=>D i\/i=r.idx) A B (λb=>if b=id then L else ρ b) (a.put o.dst x) w':=by
 obtain⟨hp,hI⟩:=hI;have hrA:r∈A:=by
   have:r∈R:=(by rw[hR];simp);rw[hp.split]at this;exact(Zd8.1 this).resolve_right λh=>hD (hp.inB r h)
 obtain⟨hid,VS⟩:=G.VR hR hc;have gR:w.heap.size<=w'.heap.size:=by omega
 refine⟨hp.next G hR uJ (by rw[hc];rfl) _ _,λρ' FL=> ?_⟩;have hkid:Kept n0 R (λi=>D i\/i=r.idx) id:=by
   (intro A' r' B' TR hD';have dP:r'.idx≠r.idx:=λe=>hD' (.inr e));rcases G.cmp hR TR dP with⟨Z,rfl⟩|⟨Z,rfl⟩
   . left;have:=G.Rz hR TR;rw[VS,Pos.aF]at this;omega
   . right;have:=G.Kz hR;rw[hid];exact this
 have akY:ρ' id=L:=by rw[FL id hkid];simp
 have hf:∀b,Kept n0 R D b->ρ' b=ρ b:=λb hb=>by
   have dP:b≠id:=by
     rintro rfl;rcases hb X r Y hR hD with h|h
     .  rw[hid]at h;omega
     .  rw[VS,Pos.aF]at h;omega
   rw[FL b (hb.up λ_ h=> .inl h)];exact Za7 dP
 have h:=hI ρ' hf;obtain⟨hv1,Pc⟩:=hv ρ' hf akY;obtain⟨k1,k2⟩:=akX G hp h.t1 h.t0 hR hD hrel hv1;have aga:∀s∈A,(D s.idx\/s.idx=r.idx)->D s.idx\/s=r:=λs hs iG=>iG.imp (λh=>h) λiG=>G.same (by rw[hp.split];simp[hs]) (by rw[hR];simp) iG
 refine⟨h.W.grow gR ao9,λs hs iG xN Iy fh=> ?_,λs hs iG xN Iy fh s' qY Lo id'' ari tY dP=> ?_,k1,k2,?_,h.agree⟩
 . rcases aga s hs iG with iG|rfl
   . obtain⟨g1,g2,g3,g4,g5⟩:=h.N s hs iG xN Iy fh;exact⟨g1.of_heap (ao9 _ g2),by omega,g3,g4,g5⟩
   . rw[hc]at fh;simp only[RC.new.injEq]at fh;obtain⟨rfl,rfl⟩:=fh;rw[akY];refine⟨Pc,hL',Zb1 h.E.size hL,λb x hb e=> ?_,λad v ha e=> ?_⟩
     .  have:=(h.W.live b x hb).2.1;omega
     .  have:=World.block_lt_of_cell? _ _ (h.W.eI ad v ha).1;omega
 . rcases aga s hs iG with hDk|rfl
   . rcases aga s' qY Lo with apa|rfl
     .  exact h.N2 s hs hDk xN Iy fh s' qY apa id'' ari tY dP
     .  rw[hc]at tY;simp only[RC.new.injEq]at tY;obtain⟨rfl,rfl⟩:=tY;have:=(h.N s hs hDk xN Iy fh).2.1;rw[akY];omega
   . rw[hc]at fh;simp only[RC.new.injEq]at fh;obtain⟨rfl,rfl⟩:=fh;rcases aga s' qY Lo with apa|rfl
     .  have:=(h.N s' qY apa id'' ari tY).2.1;rw[akY];omega
     .  rw[hc]at tY;simp only[RC.new.injEq]at tY;exact absurd tY.1 dP
 . exact⟨hos.trans h.E.os,auD.trans h.E.tape,hout.trans h.E.output,Zb1 h.E.size gR,λk hk hn=>by rw[ao9 k (Zc7 hk h.E.size)];exact h.E.block k hk hn,h.E.ym⟩
theorem akZ(G:CW tt nt ops call di h0 n0 R){nS:Pos->Loc}{w0:World}{D:Nat->Prop}{A B:List Rec}{ρ:Pos->Loc}{a:Act}{w:World}
  (h:Inv0 C di h0 n0 R nS w0 D A B ρ a w) (atz:R=A++B) {hp:T AB} {N:Pos} (hN:(eW n0 B).toNat<=N.toNat)
  (yA:∀b x,hp.get b=some x->(lO h0 B).get b=some x\/∃s∈A,D s.idx/\s.c= .new b x/\s.nx.toNat<=N.toNat):cC ρ C { heap:=hp,next:=N } w where
 live b x hb:=by
  rcases yA b x hb with h1|⟨s,hs,hD,hc,hn⟩
  .  obtain⟨g1,g2,g3⟩:=h.W.live b x h1;exact⟨Zc7 g1 hN,g2,g3.mono (λ_ _=>rfl) hN⟩
  .  obtain⟨g1,g2,_⟩:=h.N s hs hD b x hc;obtain⟨M,T,hM⟩:=pF (r:=s) (R:=R) (by rw[atz];simp[hs]);obtain⟨_,e⟩:=G.VR hM hc;rw[e]at hn;refine⟨?_,g2,g1.mono (λ_ _=>rfl) (by rw[e];exact hn)⟩;rw[Pos.aF]at hn;exact hn
 inj b  b' x x' hb e8 he:=by
  rcases yA b x hb with h1|⟨s,hs,hD,hc,hn⟩
  .  rcases yA b' x' e8 with h1'|⟨s',qY,hD',ZM,hn'⟩
     .  exact h.W.inj b b' x x' h1 h1' he
     .  exact absurd he ((h.N s' qY hD' b' x' ZM).2.2.2.1 b x h1)
  .  rcases yA b' x' e8 with h1'|⟨s',qY,hD',ZM,hn'⟩
     .  exact absurd he.symm ((h.N s hs hD b x hc).2.2.2.1 b' x' h1')
     .  by_cases e:b=b'
        . exact e
        . exact absurd he (h.N2 s hs hD b x hc s' qY hD' b' x' ZM e)
 eI ad v ha:=⟨(h.W.eI ad v ha).1,λb x hb=>by
  rcases yA b x hb with h1|⟨s,hs,hD,hc,hn⟩
  .  exact(h.W.eI ad v ha).2 b x h1
  .  exact(h.N s hs hD b x hc).2.2.2.2 ad v ha⟩
 whole:=h.W.whole
theorem CX:∀{Z B:List Rec}{b:Pos}{x:AB},(∀r∈Z,r.c.qt=false)->Ni B->(lQ h0 (Z++B)).get b=some x->
  (lO h0 B).get b=some x\/∃s∈Z,s.c= .new b x
 |[],B,b,x,_,hB,h=>by
  cases B with
  |nil=>exact .inl h
  | cons r B=>
    simp only[Ni]at hB;(cases hc:r.c<;>rw[hc]at hB<;>first|(cases hB;done)|skip);simp only[Ze1,lQ,hc]at h;simp only[lO,hc];exact .inl h
 |r ::Z,B,b,x,hZ,hB,h=>by
  have ih:=@CX Z B b x (λs hs=>hZ s (Za9 _ hs)) hB;have hr:=hZ r (Zd5 ..);simp only[Zd7,lQ]at h;cases hc:r.c with
  |pure=>rw[hc]at h;exact(ih h).imp (λh=>h) λ⟨s,h1,h2⟩=>⟨s,Za9 _ h1,h2⟩
  |bh _ _=>rw[hc]at hr;cases hr
  | new id aN=>
    rw[hc]at h;by_cases e:id=b
    .   subst e;rw[T.gH]at h;simp only[H5]at h;subst h;exact .inr ⟨r,Zd5 ..,hc⟩
    .   rw[T.b9 _ e]at h;exact(ih h).imp (λh=>h) λ⟨s,h1,h2⟩=>⟨s,Za9 _ h1,h2⟩
end
section
variable{P : Program}{tt : TT}{C : Cells}{nt : Nat}{ops : Array Oper}{call : aj}{di : Fr}{h0 : T AB}{n0 : Pos}{R : List Rec}
theorem around(G:CW tt nt ops call di h0 n0 R){D:Nat->Prop}{A B:List Rec}{a:Act}(hp:Pre nt ops R D A B a){X Y:List Rec}{r:Rec}(hR:R=X++r::Y)(hD:¬D r.idx):
  ∃Z,A=X++r::Z/\Y=Z++B:=by
 have hrA:r∈A:=by
  have:r∈R:=by rw[hR];simp
  rw[hp.split]at this;exact(Zd8.1 this).resolve_right λh=>hD (hp.inB r h)
 obtain⟨X',Z,hA⟩:=pF hrA;have h2:R=X'++r::(Z++B):=by rw[hp.split,hA];simp
 obtain⟨rfl,_,rfl⟩:=Ln G.one hR h2 rfl;exact⟨Z,hA,rfl⟩
theorem apb(G:CW tt nt ops call di h0 n0 R){nS:Pos->Loc}{w0:World}{D:Nat->Prop}{A B:List Rec}{ρ:Pos->Loc}{a:Act}{w w':World}
   (hI:Inv C nt ops di h0 n0 R nS w0 D A B ρ a w) {X Y:List Rec} {r:Rec} (hR:R=X++r::Y) (hD:¬D r.idx)
   (uJ:∀o e,ops[r.idx]? =some o->e∈o.after->Region.binds .any e=true->D e.on) {o:Oper} (hrel:zu tt nt ops o r.o)
   (hY:∀s∈Y,D s.idx) {st':St} {b0:T AB} (hc:r.c= .bh b0 st'.heap) (VS:r.nx=st'.next) {x:Value}
   (ak0:oo ρ C { heap:=lQ h0 Y,next:=eW n0 Y } w r.v st' x w'):
   ∃vg,Inv C nt ops di h0 n0 R nS w0 (λi=>D i\/i=r.idx) X (r::Y) vg (a.put o.dst x) w':=by
 obtain⟨hp,hI⟩:=hI;obtain⟨jS,hv,hρ1,hle,hW1,hE1⟩:=ak0;simp only at hρ1 hle;obtain⟨Z,hA,rfl⟩:=around G hp hR hD;have hZ:∀s∈Z,s.c.qt=false:=λs hs=>hp.inA s (by rw[hA];simp[hs]) (hY s (by simp[hs]))
 have hXA:∀s∈X,s∈A:=λs hs=>by rw[hA];simp[hs]
 have hXD:∀s∈X,(D s.idx\/s.idx=r.idx)->D s.idx:=λs hs h=>h.resolve_right (G.later hR hs)
 have hnB:(eW n0 B).toNat<=(eW n0 (Z++B)).toNat:=G.GM (X:=X++[r]) (by rw[hR];simp)
 let vg:Pos->Loc:=λb=>if(eW n0 (Z++B)).toNat<=b.toNat/\b.toNat<r.nx.toNat then jS b else ρ b
 have agQ:∀b:Pos,b.toNat<(eW n0 (Z++B)).toNat->Kept n0 R D b:=by
   intro b hb M s T hM iG;left;by_cases hi:s.idx=r.idx
   . obtain⟨_,_,rfl⟩:=Ln G.one hM hR hi;exact hb
   . rcases G.cmp hR hM hi with⟨W,rfl⟩|⟨W,hW⟩
     .  have:=G.Rz hR hM;have:=G.arf hR;omega
     .  exact absurd (hY s (by rw[hW];simp)) iG
 refine⟨vg,⟨by rw[hR],by simp[Ni,hc,RC.qt],?_,?_,?_,by rw[Act.j5];exact hp.size,by rw[Act.mC];exact hp.defers⟩,λρ' FL=> ?_⟩
 . intro s hs;rcases Zb0.1 hs with rfl|hs
   . exact .inr rfl
   . exact .inl (hY s hs)
 . intro s hs iG;exact hp.inA s (hXA s hs) (hXD s hs iG)
 . intro i o' e hDi ho he hb;rcases hDi with hDi|rfl
   . exact .inl (hp.closed i o' e hDi ho he hb)
   . exact .inl (uJ o' e ho he hb)
 have auE:∀b:Pos,b.toNat<r.nx.toNat->Kept n0 R (λi=>D i\/i=r.idx) b:=by
   (intro b hb M s T hM iG;left;have hi:s.idx≠r.idx:=λe=>iG (.inr e));rcases G.cmp hR hM hi with⟨W,rfl⟩|⟨W,hW⟩
   . exact Zc7 hb (G.Rz hR hM)
   . exact absurd (.inl (hY s (by rw[hW];simp))) iG
 have hf:∀b,Kept n0 R D b->ρ' b=ρ b:=λb hb=>by rw[FL b (hb.up λ_ h=> .inl h)];refine Za7 ?_;rintro⟨g1,g2⟩;rcases hb X r _ hR hD with h|h<;>omega
 have h:=hI ρ' hf;have h12:∀b:Pos,b.toNat<r.nx.toNat->ρ' b=jS b:=by
   intro b hb;rcases Zi6 b.toNat (eW n0 (Z++B)).toNat with g|g
   . rw[hf b (agQ b g),hρ1 b g]
   . rw[FL b (auE b hb)];exact Zb2 ⟨g,hb⟩
 have Ph:aD ρ' r.nx.toNat C r.v x:=by
   rw[VS]at h12 ⊢;exact hv.mono h12 (Za3 _)
 have ji:cC ρ' C { heap:=st'.heap,next:=r.nx } w':=by rw[VS]at h12 ⊢;exact hW1.congr h12
 have hold:∀s∈X,D s.idx->∀id aN,s.c= .new id aN->∀b y,(lQ h0 (Z++B)).get b=some y->(ρ b).aN≠(ρ' id).aN:=by
   intro s hs iG id aN fh b y hb;obtain⟨g1,g2,g3,g4,g5⟩:=h.N s (hXA s hs) iG id aN fh;obtain⟨M,T,hM⟩:=pF (r:=s) (R:=R) (by rw[hR];simp[hs]);rcases CX hZ hp.bound hb with hb|⟨s',qY,tY⟩
   . rw[<-hf b (agQ b (Zc7 (h.W.live b y hb).1 hnB))];exact g4 b y hb
   . obtain⟨Z1,Z2,rfl⟩:=pF qY;have hM':R=(X++r::Z1)++s'::(Z2++B):=(by rw[hR];simp);obtain⟨e1,e2⟩:=G.VR hM' tY;obtain⟨e3,e4⟩:=G.VR hM fh;have hbn:b.toNat<(eW n0 ((Z1++s'::Z2)++B)).toNat:=(by have:=G.Kz (X:=X) (r:=r) (Z:=Z1) (r':=s') (Y':=Z2++B) (by rw[hR];simp);rw[e2,Pos.aF]at this;simp only[Zf1,Zd7];omega);have hsr:s.idx≠r.idx:=G.later hR hs;have hid:r.nx.toNat<=id.toNat:=by
        rcases G.cmp hR hM hsr with⟨W,rfl⟩|⟨W,hW⟩
        . rw[e3];exact G.Rz hR hM
        . obtain⟨A1,A2,hX⟩:=pF hs;have hM2:R=A1++s::(A2++r::((Z1++s'::Z2)++B)):=(by rw[hR,hX];simp);have xP:s∈(Z1++s'::Z2)++B:=(by rw[hW];simp);exact absurd rfl (G.one A1 s _ hM2 s (Zd8.2 (.inr (Za9 _ xP))))
     have dP:b≠id:=(by rintro rfl;have:=G.arf hR;omega);rw[<-hf b (agQ b hbn)];exact h.N2 s' (by rw[hA];simp) (hY s' (by simp)) b y tY s (hXA s hs) iG id aN fh dP
 have hEa:qI nS { heap:=h0,next:=n0 } w0 ρ { heap:=lQ h0 (Z++B),next:=eW n0 (Z++B) } w:=by
   refine⟨h.E.os,h.E.tape,h.E.output,h.E.size,h.E.block,λb y hb=> ?_⟩;rcases CX hZ hp.bound hb with hb|⟨s',qY,tY⟩
   . rw[<-hf b (agQ b (Zc7 (h.W.live b y hb).1 hnB))];exact h.E.ym b y hb
   . obtain⟨Z1,Z2,rfl⟩:=pF qY;have hM':R=(X++r::Z1)++s'::(Z2++B):=(by rw[hR];simp);obtain⟨e1,e2⟩:=G.VR hM' tY;have hbn:b.toNat<(eW n0 ((Z1++s'::Z2)++B)).toNat:=(by have:=G.Kz (X:=X) (r:=r) (Z:=Z1) (r':=s') (Y':=Z2++B) (by rw[hR];simp);rw[e2,Pos.aF]at this;simp only[Zf1,Zd7];omega);rw[<-hf b (agQ b hbn)];exact .inr (h.N s' (by rw[hA];simp) (hY s' (by simp)) b y tY).2.2.1
 obtain⟨k1,k2⟩:=akX G hp h.t1 h.t0 hR hD hrel Ph;refine⟨?_,λs hs iG id aN fh=> ?_,λs hs iG id aN fh s' qY Lo xN Iy tY dP=> ?_,k1,k2,?_,h.agree⟩
 . simp only[lO,hc,eW];exact ji
 . have iG:=hXD s hs iG;obtain⟨g1,g2,g3,g4,g5⟩:=h.N s (hXA s hs) iG id aN fh;refine⟨g1.of_heap (hE1.block _ g2 (hold s hs iG id aN fh)),Zc7 g2 hE1.size,g3,λb y hb=> ?_,g5⟩;simp only[lO,hc]at hb;rw[h12 b (by rw[VS];exact(hW1.live b y hb).1)];rcases hE1.ym b y hb with⟨b',y',e8,e⟩|e
   . rw[<-e];exact hold s hs iG id aN fh b' y' e8
   . omega
 . exact h.N2 s (hXA s hs) (hXD s hs iG) id aN fh s' (hXA s' qY) (hXD s' qY Lo) xN Iy tY dP
 . have:=(hEa.trans hE1).congr (ρ':=ρ') λb y hb=>h12 b (by rw[VS];exact(hW1.live b y hb).1)
   simp only[lO,hc,eW];exact⟨this.os,this.tape,this.output,this.size,this.block,this.ym⟩
end
section
variable{P : Program}{tt : TT}{C : Cells}{nt : Nat}{ops : Array Oper}{call : aj}{di : Fr}{h0 : T AB}{n0 : Pos}{R : List Rec}
theorem GN{ρ:Pos->Loc}{n:Pos}{w:World}(hC:∀ad v,C ad=some v->w.cell? ad=some v)(hC2:∀a v,C a=some v->∀o,C ⟨a.block,o,none⟩=none->w.cell? ⟨a.block,o,none⟩=none):cC ρ C { heap:= .e,next:=n } w where
 live b x hb:=by rw[T.dW]at hb;cases hb
 inj b b' x x' hb:=by rw[T.dW]at hb;cases hb
 eI a v ha:=⟨hC a v ha,λb x hb=>by rw[T.dW]at hb;cases hb⟩
 whole:=hC2
theorem Yields.eq{N:Next}{x y:Value}(h:Yields N x)(k:Yields N y):x=y:=by
 rcases h with rfl|⟨rfl,rfl⟩<;>rcases k with k|⟨k,rfl⟩
 . simp only[Next.value.injEq]at k;exact k
 . cases k
 . cases k
 . rfl
theorem amL(hT:dH P tt){o:Oper}{k:aH}{xs:List gZ}{cls:Cls}(hc:j7 tt o.op=some (k,xs,cls)){n:Pos}{vs:List AV}{v:AV}{aN:AB}
  (hr:k.run (λ_=>none) n vs=some (.bh v none none (some aN))) {fr:Fr} (hx:fT fr xs=some vs) {a:Act} {w:World} {Fam:(Pos->Loc)->Prop} {ρ:Pos->Loc} (bF:Fam ρ)
  (hF:∀ρ',Fam ρ'->kT ρ' n.toNat C fr a.tmps) (hC:∀ad v,C ad=some v->w.cell? ad=some v) (hC2:∀a v,C a=some v->∀o,C ⟨a.block,o,none⟩=none->w.cell? ⟨a.block,o,none⟩=none):
  ∃ N x w' L,(execOp a.eval o).run P w= .ok N w'/\Yields N x/\w.heap.size<=L.aN/\L.aN<w'.heap.size/\w'.os=w.os/\w'.tape=w.tape/\w'.output=w.output/\
    (∀k,k<w.heap.size->w'.heap[k]? =w.heap[k]?)/\∀ρ',Fam ρ'->ρ' n=L->aD ρ' n.succ.toNat C v x/\tW ρ' n.succ.toNat C L w' aN:=by
 have dX:k.run (λb=>T.get b (T.e:T AB)) n vs=some (.bh v none none (some aN)):=by
  have e:(λb=>T.get b (T.e:T AB))=λ_=>none:=by funext b;exact T.dW b
  rw[e];exact hr
 have H:=λρ' (hf:Fam ρ')=>Ys hT o.op ρ' C { heap:= .e,next:=n } w k xs cls fr a o vs _ rfl hc (GN hC hC2) (hF ρ' hf) hx dX
 have key:∀ρ',Fam ρ'->∃N x w' jS,(execOp a.eval o).run P w= .ok N w'/\Yields N x/\(∀b:Pos,b.toNat<n.toNat->jS b=ρ' b)/\aD jS n.succ.toNat C v x/\
    tW jS n.succ.toNat C (jS n) w' aN/\w.heap.size<=(jS n).aN/\(jS n).aN<w'.heap.size/\w'.os=w.os/\w'.tape=w.tape/\w'.output=w.output/\
    (∀k,k<w.heap.size->w'.heap[k]? =w.heap[k]?):=by
  intro ρ' hf;obtain⟨N,x,w',jS,he,hy,h1,h2,h3,h4⟩:=H ρ' hf;have hg:(St.bh { heap:= .e,next:=n } none none (some aN)).heap.get n=some aN:=T.gH _ _ _;obtain⟨g1,g2,g3⟩:=h2.live n aN hg;refine⟨N,x,w',jS,he,hy,h1,h3,g3,?_,g2,h4.os,h4.tape,h4.output,λk hk=>h4.block k hk λb x hb=> ?_⟩
  . rcases h4.ym n aN hg with⟨b',x',e8,_⟩|h
    .   rw[T.dW]at e8;cases e8
    .   exact h
  . rw[T.dW]at hb;cases hb
 obtain⟨N,x,w',jS,he,hy,h1,h2,h3,h4,h5,h6,h7,h8,h9⟩:=key ρ bF;refine⟨N,x,w',jS n,he,hy,h4,h5,h6,h7,h8,h9,λρ' hf hL=> ?_⟩;obtain⟨N',x',w'',vg,su,hy',k1,k2,k3,_⟩:=key ρ' hf;rw[he]at su;simp only[Result.ok.injEq]at su;obtain⟨rfl,rfl⟩:=su;have hxx:=hy.eq hy';subst hxx;have arj:n.toNat<n.succ.toNat:=by rw[Pos.aF];omega
 have agree:(vg n).aN=(jS n).aN->(vg n).base=(jS n).base->(∃cs fz,aN= .cells cs fz)->aD ρ' n.succ.toNat C v x/\tW ρ' n.succ.toNat C (jS n) w' aN:=by
  intro e1 e2 VC;have e3:(vg n).size=(jS n).size:=by
    obtain⟨cs,fz,rfl⟩:=VC;obtain⟨c,e,fr,g1,g2,_⟩:=h3;obtain⟨c',e',bI,g1',g2',_⟩:=k3;rw[e1,g1]at g1';simp only[H5,Obj.cells.injEq]at g1';rw[<-g2, <-g2',g1'.1]
  have e4:vg n=jS n:=by
    cases hh:vg n;cases hh':jS n;rw[hh,hh']at e1 e2 e3;simp only at e1 e2 e3;rw[e1,e2,e3]
  have pN:∀b:Pos,b.toNat<n.succ.toNat->ρ' b=vg b:=by
    intro b hb;rcases Zi6 b.toNat n.toNat with g|g
    .   exact(k1 b g).symm
    .   have:b=n:=Pos.toNat_inj (by rw[Pos.aF]at hb;omega);subst this;rw[hL,e4]
  refine⟨k2.mono pN (Za3 _),?_⟩;rw[<-e4];exact k3.mono pN (Za3 _)
 cases arQ hr with
 |ptr cs=>
  obtain⟨_,g1⟩:=h2.qP;obtain⟨_,g2⟩:=k2.qP;rw[g1]at g2;simp only[Value.pointer.injEq,H5,Addr.mk.injEq,Zg0,Zp0]at g2;exact agree g2.1.symm g2.2.symm ⟨cs,0,rfl⟩
 |slice len es cap cs fh=>
  obtain⟨ad,bC,g1,g2,g3,g4⟩:=h2.gL;obtain⟨ad',ark,g1',g2',g3',g4'⟩:=k2.gL;rw[g1]at g1';simp only[Value.slice.injEq,H5,Zs0]at g1';obtain⟨rfl,rfl⟩:=g1';by_cases h0:bC=0
  . subst h0;have hl0:len=0:=(by omega);have hcs0:cs=[]:=fh hl0 (by
        cases cap with
        |none=>exact .inl rfl
        |some c=>exact .inr (by rw[g3 c rfl]))
    subst hcs0;refine⟨?_,?_⟩
    .   rw[g1];exact .slice n 0 len cap es 0 ad g2 g3 (λh=>absurd rfl h) (λ_=>arj)
    .   obtain⟨c,e,fr,q1,q2,q3,q4,q5⟩:=h3;exact⟨c,e,fr,q1,q2,q3,aL.nil,q5⟩
  . obtain⟨_,a1,_⟩:=g4 h0;obtain⟨_,a2,_⟩:=g4' h0;rw[a1]at a2;simp only[Addr.mk.injEq,Zg0,Zp0]at a2;exact agree a2.1.symm a2.2.symm ⟨cs,0,rfl⟩
 |map=>
  obtain⟨_,g1⟩:=h2.B7;refine⟨?_,?_⟩
  . rw[g1, <-hL];exact .map n arj
  . obtain⟨es',q1,q2,q3⟩:=h3;exact⟨es',q1,q2,λi e e' he=>by simp at he⟩
end
section
variable{P : Program}{tt : TT}{C : Cells}{nt : Nat}{ops : Array Oper}{call : aj}{di : Fr}{h0 : T AB}{n0 : Pos}{R : List Rec}
def AI(fr:Fr):List Pos->Fr
 |[]=> .e
 |p::l=>(AI fr l).put (fr.get p) p
theorem aez{fr:Fr}{p:Pos}:∀{l:List Pos},p∈l->(AI fr l).get p=fr.get p
 |[],h=>by cases h
 |q ::l,h=>by
  simp only[AI];by_cases e:q=p
  . subst e;exact T.gH _ _ _
  . rw[T.b9 _ e];exact aez ((Zb0.1 h).resolve_left λh=>e h.symm)
theorem ZR{fr:Fr}{p:Pos}{v:AV}:∀{l:List Pos},(AI fr l).get p=some v->p∈l/\fr.get p=some v
 |[],h=>by simp only[AI]at h;rw[T.dW]at h;cases h
 |q ::l,h=>by
  simp only[AI]at h;by_cases e:q=p
  . subst e;rw[T.gH]at h;exact⟨by simp,h⟩
  . rw[T.b9 _ e]at h;obtain⟨h1,h2⟩:=ZR h;exact⟨by simp[h1],h2⟩
theorem aeA{fr:Fr}{l:List Pos}:∀{xs:List gZ},(∀p,gZ.t p∈xs->p∈l)->fT (AI fr l) xs=fT fr xs
 |[],_=>rfl
 |x::xs,h=>by
  have h1:Gy (AI fr l) x=Gy fr x:=by
   cases x with
   |t p=>exact aez (h p (by simp))
   |c v=>rfl
  simp only[fT,h1,aeA λp hp=>h p (Za9 _ hp)]
theorem amM{o:bW}{p:Pos}(h:gZ.t p∈o.xs):p∈o.looks:=by
 unfold bW.looks;exact List.mem_append_right _ (List.mem_filterMap.2 ⟨_,h,rfl⟩)
theorem aja{o:bW}{p:Pos}{q:Bool}(h:o.guard=some (p,q)):p∈o.looks:=by unfold bW.looks;rw[h];simp
theorem Yields.upon{o:Oper}{a:Act}{K:Act->World->Prop}{Q:Exit->Act->World->Prop}{N:Next}{x:Value}{w:World}(h:Yields N x)(hk:K (a.put o.dst x) w):o.upon P a K Q (.ok N w):=by rcases h with rfl|⟨rfl,rfl⟩<;>exact hk
theorem apc(hT:dH P tt)(dc:iX P C call)(G:CW tt nt ops call di h0 n0 R){Q:Exit->Act->World->Prop}{nS:Pos->Loc}{w0:World}{D:Nat->Prop}{A B:List Rec}{ρ:Pos->Loc}{a:Act}{w:World}
  (hI:Inv C nt ops di h0 n0 R nS w0 D A B ρ a w) {i:Nat} (hi:i<ops.size) (hD:¬D i)
  (uJ:∀o e,ops[i]? =some o->e∈o.after->Region.binds .any e=true->D e.on):
  wpOp P ops Q i (λa' w'=>∃A' B' ρ',Inv C nt ops di h0 n0 R nS w0 (λj=>D j\/j=i) A' B' ρ' a' w') a w:=by
 obtain⟨r,hr,rfl⟩:=G.all i hi;obtain⟨X,Y,hR⟩:=pF hr;obtain⟨o,ho,hrel,hB⟩:=G.rel r hr;have hp:=hI.1;have adv:∀b,r.o.cg.testBit b=true->D b:=λb hb=>G.abX hp.closed (hB.2 b hb) uJ
 obtain⟨Z,hA,hYZ⟩:=around G hp hR hD;have RA:∀ρ',(∀b,Kept n0 R D b->ρ' b=ρ b)->∀p v,p∈r.o.looks->(qZ di Y).get p=some v->∃x,a.tmps[p.toNat - 1]? =some x/\aD ρ' (eW n0 Y).toNat C v x:=
  λρ' hf p v hl hv=>look G hp (hI.2 ρ' hf).t1 (hI.2 ρ' hf).t0 hR hD adv hl hv
 have hFR:∀ρ',(∀b,Kept n0 R D b->ρ' b=ρ b)->kT ρ' (eW n0 Y).toNat C (AI (qZ di Y) r.o.looks) a.tmps:=λρ' hf p v hv=>
  let⟨h1,h2⟩:=ZR hv;RA ρ' hf p v h1 h2
 have RB:∀b,Kept n0 R D b->ρ b=ρ b:=λ_ _=>rfl
 have hw:∀b,cN (qZ di Y) r.o.guard=some b->Region.wanted o (yielded ops a.tmps)=b:=λb hb=>
  Lj hrel.guard (λp v hv ⟨q,hq⟩=>RA ρ RB p v (aja hq) hv) hb
 have hnZ:∀s∈Z,s.nx.toNat<=(eW n0 Y).toNat:=λs hs=>by obtain⟨Z1,Z2,rfl⟩:=pF hs;have:=G.Kz (X:=X) (r:=r) (Z:=Z1) (r':=s) (Y':=Z2++B) (by rw[hR,hYZ];simp);rw[hYZ];simp only[Zf1,Zd7];exact this
 have hnB:(eW n0 B).toNat<=(eW n0 Y).toNat:=by rw[hYZ];exact G.GM (X:=X++[r]) (by rw[hR,hYZ];simp)
 have hs:=Good.at (hR ▸G.aaK);have hex:∀xs,fT (qZ di Y) r.o.xs=some xs->fT (AI (qZ di Y) r.o.looks) r.o.xs=some xs:=λxs hx=>by rw[aeA λp hp=>amM hp];exact hx
 unfold wpOp;simp only[ho];generalize hrr:r=r0 at*
 cases hs with
 |skip i' o' _ hw'=>
  rw[Za7 (by rw[hw _ hw'];simp)];exact⟨A,B,ρ,aey G hI hR hD uJ hrel rfl λρ' _=> .aeu⟩
 |pure i' o' v xs _ hw' hx ZP=>
  rw[Zb2 (hw _ hw')];refine .inl ?_;rw[hYZ]at ZP;obtain⟨h,yA,dX⟩:=ZP Z B rfl hp.bound λs hs he=>by
    cases hb:o'.cg.testBit s.idx with
    |false=>rfl
    |   true=>
        have h1:=hp.inA s (by rw[hA];simp[hs]) (adv _ hb);rw[h1]at he;cases he
  rcases hrel.op with hc|⟨hk,_⟩
  . have H:∀ρ',(∀b,Kept n0 R D b->ρ' b=ρ b)->∃N x,(execOp a.eval o).run P w= .ok N w/\Yields N x/\aD ρ' (eW n0 Y).toNat C v x:=by
        intro ρ' hf;have hW:=akZ G (hI.2 ρ' hf) hp.split (hp:=h) hnB λb y hb=>(yA b y hb).imp (λh=>h) λ⟨s,h1,h2,h3⟩=>
          ⟨s,by rw[hA];simp[h1],adv _ h3,h2,hnZ s h1⟩
        exact Ys hT o.op ρ' C _ w _ _ _ _ a o _ _ rfl hc hW (hFR ρ' hf) (hex xs hx) (ao5 dX λ_ _ h=>h)
    obtain⟨N,x,he,hy,hv⟩:=H ρ RB;unfold Oper.wp;rw[he];refine hy.upon ⟨A,B,ρ,aey G hI hR hD uJ hrel rfl λρ' hf=> ?_⟩;obtain⟨N',x',su,hy',Ph⟩:=H ρ' hf;rw[he]at su;simp only[Result.ok.injEq,Zp0]at su;subst su;rw[hy.eq hy'];exact Ph
  . rw[hk]at dX;cases dX
 |new   i' o' v aN xs _ hw' hx dX=>
  rw[Zb2 (hw _ hw')];refine .inl ?_;rcases hrel.op with hc|⟨hk,_⟩
  . obtain⟨N,x,w',L,he,hy,h1,h2,h3,h4,h5,h6,h7⟩:=amL hT hc dX (hex xs hx) (Fam:=λρ'=>∀b,Kept n0 R D b->ρ' b=ρ b) RB hFR
        (λad v ha=>((hI.2 ρ RB).W.eI ad v ha).1) (hI.2 ρ RB).W.whole
    unfold Oper.wp;rw[he];exact hy.upon ⟨A,B,_,ao8 G hI hR hD uJ hrel rfl h1 h2 h3 h4 h5 h6 h7⟩
  . rw[hk]at dX;cases dX
 |bh i' o' v st' xs _ ao6 hw' hx gI=>
  rw[Zb2 (hw _ hw')];refine .inl ?_;rcases hrel.op with hc|⟨hk,_⟩
  . have hY:∀s∈Y,D s.idx:=λs hs=>adv _ (G.bh X _ Y hR ao6 s hs)
    have hZ:∀s∈Z,s.c.qt=false:=λs hs=>hp.inA s (by rw[hA];simp[hs]) (hY s (by rw[hYZ];simp[hs]))
    have hW:cC ρ C { heap:=lQ h0 Y,next:=eW n0 Y } w:=akZ G (hI.2 ρ RB) hp.split hnB λb y hb=>by
        rw[hYZ]at hb;rcases CX hZ hp.bound hb with hb|⟨s,h1,h2⟩
        . exact .inl hb
        . exact .inr ⟨s,by rw[hA];simp[h1],hY s (by rw[hYZ];simp[h1]),h2,hnZ s h1⟩
    have hre:=ZN hT dc hc hW (hFR ρ RB) (hex xs hx) gI;(refine hre.upon λx w' ak0=> ?_);obtain⟨vg,h⟩:=apb G hI hR hD uJ hrel hY rfl rfl ak0;exact⟨_,_,vg,h⟩
  . exact(Reaches.bad hk gI).elim
end
section
variable{P : Program}{tt : TT}{C : Cells}{nt : Nat}{ops : Array Oper}{call : aj}{di : Fr}{h0 : T AB}{n0 : Pos}{R : List Rec}
theorem aeB(G:CW tt nt ops call di h0 n0 R){nS:Pos->Loc}{w0:World}{D:Nat->Prop}{A B:List Rec}{ρ:Pos->Loc}{a:Act}{w:World}
   (hI:Inv C nt ops di h0 n0 R nS w0 D A B ρ a w) (pN:∀r∈R,D r.idx):kG nt nS C { heap:=h0,next:=n0 } w0 (qZ di R) { heap:=lQ h0 R,next:=eW n0 R } a w:=by
 obtain⟨hp,hI⟩:=hI;have h:=hI ρ λ_ _=>rfl
 have hZ:∀s∈A,s.c.qt=false:=λs hs=>hp.inA s hs (pN s (by rw[hp.split];simp[hs]))
 have hnA:∀s∈A,s.nx.toNat<=(eW n0 R).toNat:=λs hs=>by obtain⟨Z1,Z2,hA⟩:=pF hs;have:=G.GM (X:=[]) (Y:=Z1) (Z:=s::(Z2++B)) (by rw[hp.split,hA];simp);have e:R=Z1++s::(Z2++B):=(by rw[hp.split,hA];simp);rw[<-e]at this;exact this
 have hnB:(eW n0 B).toNat<=(eW n0 R).toNat:=by
   have:=G.GM (X:=[]) (Y:=A) (Z:=B) (by rw[hp.split];simp)
   rwa [<-hp.split]at this
 have Pp:n0.toNat<=(eW n0 R).toNat:=G.akW (X:=[]) rfl;have yA:∀b x,(lQ h0 R).get b=some x->(lO h0 B).get b=some x\/∃s∈A,D s.idx/\s.c= .new b x/\s.nx.toNat<=(eW n0 R).toNat:=λb x hb=>by
   rw[hp.split]at hb;rcases CX hZ hp.bound hb with hb|⟨s,h1,h2⟩
   . exact .inl hb
   . exact .inr ⟨s,h1,pN s (by rw[hp.split];simp[h1]),h2,hnA s h1⟩
 refine⟨ρ,⟨akZ G h hp.split hnB yA,?_,hp.size,hp.defers⟩,h.agree,Pp,?_⟩
 . intro p v hv;rcases VO R p v hv with⟨M,s,T,hM,h2,rfl,h3⟩|⟨h1,h2⟩
   . obtain⟨x,hx,VP⟩:=h.t1 M s T p hM (pN s (by rw[hM];simp)) h2 λs' qY _=>h3 s' qY
     refine⟨x,hx,VP.mono (λ_ _=>rfl) ?_⟩;have:=G.GM (X:=[]) (Y:=M) (Z:=s::T) (by rw[hM];simp);rw[<-hM]at this;exact this
   . obtain⟨x,hx,VP⟩:=h.t0 p v h1 λs hs _=>h2 s hs
     exact⟨x,hx,VP.mono (λ_ _=>rfl) Pp⟩
 . refine⟨h.E.os,h.E.tape,h.E.output,h.E.size,h.E.block,λb x hb=> ?_⟩;rcases yA b x hb with hb|⟨s,h1,h2,h3,_⟩
   . exact h.E.ym b x hb
   . exact .inr (h.N s h1 h2 b x h3).2.2.1
def DL(listed:Array Bool)(j:Nat):Prop:=listed.getD j false=true
theorem amN{listed:Array Bool}{i:Nat}(hi:i<listed.size):(λj=>DL listed j\/j=i)=DL (listed.setIfInBounds i true):=by
 funext j;apply propext;unfold DL;by_cases h:j=i
 . subst h;simp[hi]
 . rw[getD_set_ne false (Ne.symm h)];simp[h]
theorem agR{listed:Array Bool}{j:Nat}(h:listed.getD j true=false):¬DL listed j:=by
 unfold DL;intro h';rcases Zi6 j listed.size with hj|hj
 . simp[hj]at h h';rw[h]at h';cases h'
 . simp[Array.getElem?_eq_none hj]at h'
theorem arS{listed:Array Bool}{j:Nat}(hj:j<listed.size)(h:¬DL listed j):listed.getD j true=false:=by unfold DL at h;simp[hj]at h ⊢; exact h
theorem VT(G:CW tt nt ops call di h0 n0 R){listed:Array Bool}(hs:listed.size=ops.size)(hr:Region.ready .any ops listed=[]):∀(Y X:List Rec),R=X++Y->∀r∈Y,DL listed r.idx
 |[],_,_,r,nR=>by cases nR
 |r ::Y  ,X,hR,r',nR=>by
  have ih:=VT G hs hr Y (X++[r]) (by rw[hR];simp);rcases Zb0.1 nR with rfl|nR
  . obtain⟨o,ho,_,hB⟩:=G.rel r' (by rw[hR];simp);have aT:r'.idx<ops.size:=(Zd2.1 ho).1;by_cases h:DL listed r'.idx
    .   exact h
    .   exfalso;have:r'.idx∈Region.ready .any ops listed:=mem_ready.2 ⟨arS (by omega) h,o,ho,λe he hb=>by obtain⟨s,h1,h2⟩:=G.cg X r' Y hR _ (hB.1 o ho e he hb);have:=ih s h1;rw[h2]at this;exact this⟩;rw[hr]at this;cases this
  . exact ih r' nR
theorem aeC(hT:dH P tt)(dc:iX P C call)(G:CW tt nt ops call di h0 n0 R){Q:Exit->Act->World->Prop}{nS:Pos->Loc}{w0:World}
  (hQ:∀a' w',kG nt nS C { heap:=h0,next:=n0 } w0 (qZ di R) { heap:=lQ h0 R,next:=eW n0 R } a' w'->Q .normal a' w'):
  ∀ (fuel:Nat)(listed:Array Bool)(U:List Nat)(A B:List Rec)(ρ:Pos->Loc)(a:Act)(w:World),listed.size=ops.size->U.length<=fuel->U.Nodup->(∀j,j<ops.size->¬DL listed j->j∈U)->
    Inv C nt ops di h0 n0 R nS w0 (DL listed) A B ρ a w->wpAny P .any ops Q fuel listed a w
 |0,listed,U,A,B,ρ,a,w,hs,hU,_,hm,hI=>by
  have hU0:U=[]:=Zc4 (by omega);subst hU0;have hr:Region.ready .any ops listed=[]:=by
    cases h:Region.ready .any ops listed with
    |nil=>rfl
    |   cons i l=>
        have hi:i∈Region.ready .any ops listed:=(by rw[h];simp);obtain⟨h1,o,ho,_⟩:=mem_ready.1 hi;have:=hm i (Zd2.1 ho).1 (agR h1);cases this
  exact⟨hr,hQ a w (aeB G hI (VT G hs hr R [] rfl))⟩
 |fuel+1,listed,U,A,B,ρ,a,w,hs,hU,hnd,hm,hI=>by
  refine⟨λhr=>hQ a w (aeB G hI (VT G hs hr R [] rfl)),λi hi=> ?_⟩;obtain⟨h1,o,ho,h2⟩:=mem_ready.1 hi;have aT:i<ops.size:=(Zd2.1 ho).1;have gI:=apc (Q:=Q) hT dc G hI aT (agR h1) λo' e Ng he hb=>by rw[ho]at Ng;simp only[H5]at Ng;subst Ng;exact h2 e he hb
  refine wpOp_mono (λa' w' hh=> ?_) gI;obtain⟨A',B',ρ',hI'⟩:=hh;rw[amN (by omega)]at hI';have hiU:i∈U:=hm i aT (agR h1);refine aeC hT dc G hQ fuel _ (U.erase i) A' B' ρ' a' w' (by simp[hs]) ?_ (hnd.erase i) (λj hj hD=> ?_) hI'
  . rw[List.length_erase_of_mem hiU];omega
  . (rw[<-amN (by omega)]at hD;have dP:j≠i:=λe=>hD (.inr e));exact(List.mem_erase_of_ne dP).2 (hm j hj λh=>hD (.inl h))
theorem RD(hm:P.follows .mixedOrders=true)(hT:dH P tt)(dc:iX P C call)(ak1:pO call):yx P tt C call:=by
 intro nt id ops l Q fr bI st st' ρ a w hl cJ h hS hQ;obtain⟨R,hG,hmap,vq,auF,VS⟩:=abW (call:=call) (di:=fr) (h0:=st.heap) (n0:=st.next) _ [] fr bI st st' h trivial rfl rfl rfl;simp only[Zd9]at hG vq auF VS;have hst':st'={ heap:=lQ st.heap R,next:=eW st.next R }:=by cases st';simp_all
 have hlen:l.length=ops.size:=by rw[(wW hl).1,Zi3]
 have abY:=ZQ _ 0 [] cJ λb=>by simp
 have hL:Bl (Lc 0 l) []=(R.map λr=>(r.idx,r.o)).reverse:=by rw[hmap,List.reverse_reverse]
 have dec:∀{A B:List Rec}{r:Rec},R=A++r::B->Bl (Lc 0 l) []=(B.map λr=>(r.idx,r.o)).reverse++(r.idx,r.o)::(A.map λr=>(r.idx,r.o)).reverse:=λe=>by rw[hL,e];simp
 have uK:∀{B:List Rec}{i:Nat},i∈((B.map λr=>(r.idx,r.o)).reverse).map (·.1)↔ ∃r∈B,r.idx=i:=λ{B i}=>by simp
 have G:CW tt nt ops call fr st.heap st.next R:=by
   refine⟨hG,ak1,λA r B e r' nR hi=> ?_,λA r B e b hb=> ?_,λA r B e hc r' nR=> ?_,λA r B e r' nR=> ?_,λr hr=> ?_,λi hi=> ?_⟩
   . exact(abY.one _ _ _ _ (dec e)).2 (uK.2 ⟨r',nR,hi⟩)
   . rcases abY.cg _ _ _ _ (dec e) b hb with h|h
     . cases h
     . exact uK.1 h
   . exact abY.bh _ _ _ _ (dec e) hc _ (.inr (uK.2 ⟨r',nR,rfl⟩))
   . exact abY.apart _ _ _ _ (dec e) (r'.idx,r'.o) (by simp;exact⟨r',nR,rfl,rfl⟩)
   . obtain⟨A,B,e⟩:=pF hr;have hx:(r.idx,r.o)∈Bl (Lc 0 l) []:=(by rw[dec e];simp);have h1:=arR hx;obtain⟨o,h2,h3,h4⟩:=Rs hl _ _ h1;refine⟨o,h2,h3,?_⟩;rw[h4];exact ajK ops.toList [] rfl (Zh9 _) (λi hi=>by simp at hi) _ (Zd2.1 h2).1
   . rcases abY.all i (by rw[hlen];exact hi)with h|h
     . cases h
     . rw[hL]at h;exact uK.1 h
 refine wp_region_any hm ?_;rw[hst',vq]at hQ;have hkn:∀b:Pos,b.toNat<st.next.toNat->∀D,Kept st.next R D b:=λb hb D A r B e _=> .inl (Zc7 hb (G.akW (X:=A++[r]) (by rw[e];simp)))
 refine aeC (Q:=Q) (nS:=ρ) (w0:=w) hT dc G hQ ops.size _ (List.range ops.size) R [] ρ a _ (by simp) (by simp) List.nodup_range (λj hj _=>Zh1.2 hj) ?_;have nQ:∀j,¬DL (Array.replicate ops.size false) j:=λj h=>by
   unfold DL at h;rcases Zi6 j ops.size with hj|hj
   . simp[hj]at h
   . simp[Nat.not_lt.2 hj]at h
 refine⟨⟨by simp,trivial,(λr hr=>by cases hr),λr _ hD=>absurd hD (nQ _),λi _ _ hD=>absurd hD (nQ _),hS.size,hS.defers⟩,λρ' FL=> ?_⟩;have xO:∀b:Pos,b.toNat<st.next.toNat->ρ' b=ρ b:=λb hb=>FL b (hkn b hb _)
 have hW:cC ρ' C st { w with drawn:=w.drawn+1 }:=(hS.W.congr xO).grow (Za3 _) λ_ _=>rfl
 refine⟨hW,λr _ hD=>absurd hD (nQ _),λr _ hD=>absurd hD (nQ _),λM s T p _ hD=>absurd hD (nQ _),λp v hv _=> ?_,⟨rfl,rfl,rfl,Za3 _,λ_ _ _=>rfl,λb x hb=> .inl ⟨b,x,hb,?_⟩⟩,xO⟩
 . obtain⟨x,hx,VP⟩:=hS.F p v hv;exact⟨x,hx,VP.mono xO (Za3 _)⟩
 . rw[xO b (hS.W.live b x hb).1]
theorem CY(hm:P.follows .mixedOrders=true)(hT:dH P tt){O:fc}{G:T dV}(hO:vK P C O)(VU:oK O)(hG:GOk P tt G)(m d:Nat):iX P C (uz O G m d):=
 ZO hT hO hG m (λd dc=>RD hm hT dc (CV VU m d)) d
end
end
section
section
variable{R : Type}
theorem B9{α:Type}:∀(p:Pos)(t:T α),Bx p t=t.get p
 | .h,.e=>rfl
 | .h,.n _ _ _=>rfl
 | .o _,.e=>rfl
 | .o p,.n l _ _=>B9 p l
 | .i _,.e=>rfl
 | .i p,.n _ _ r=>B9 p r
theorem oq{α:Type}(x:Option α):∀(p:Pos)(t:T α)(k:T α->R),w9 x p t k=k (t.put x p)
 | .h,.e,_=>rfl
 | .h,.n _ _ _,_=>rfl
 | .o p,.e,k=>oq x p .e _
 | .o p,.n l _ _,k=>oq x p l _
 | .i p,.e,k=>oq x p .e _
 | .i p,.n _ _ r,k=>oq x p r _
theorem Gr(n:Nat)(k:Nat->R):vI n k=k n:=by cases n<;>rfl
theorem ajb(n:Int)(k:Int->R):aaE n k=k n:=by cases n<;>simp only[aaE,Gr]
theorem agS(b:Bool)(k:Bool->R):aep b k=k b:=by cases b<;>rfl
theorem Nl{α:Type}:∀(l:List α)(k:List α->R),Gz l k=k l
 |[],_=>rfl
 |a::l,k=>Nl l λt=>k (a::t)
theorem Og:∀(p:Pos)(k:Pos->R),Rf p k=k p
 | .h,_=>rfl
 | .o p,k=>Og p λq=>k (.o q)
 | .i p,k=>Og p λq=>k (.i q)
theorem amO(o:Option Nat)(k:Option Nat->R):agv o k=k o:=by
 cases o with
 |none=>rfl
 |some n=>simp only[agv,Gr]
theorem aeD(v:AV)(k:AV->R):Vx v k=k v:=by
 cases v<;>simp only[Vx,agS,ajb,Nl,Og,Gr,amO]
theorem RE:∀(l:List AV)(k:List AV->R),Yq l k=k l
 |[],_=>rfl
 |a::l,k=>by
  show Vx a (λa=>Yq l λt=>k (a::t))=_;rw[aeD,RE l]
theorem Nn(v:AV)(k:AV->R):wL v k=k v:=by
 unfold wL;split
 . exact RE _ _
 . exact aeD _ _
theorem RF(x:AB)(k:AB->R):KP x k=k x:=by
 cases x<;>simp only[KP,Nl,Gr]
theorem RH:∀(p:Pos)(k:Pos->R),abH p k=k p.succ
 | .h,_=>rfl
 | .o _,_=>rfl
 | .i p,k=>RH p λq=>k (.o q)
variable(z : R)
def uL{α:Type}(r:Option α)(k:α->R):R:=match r with
 |some x=>k x
 |none=>z
theorem agT(fr:Fr)(x:gZ)(k:AV->R):evK z fr x k=uL z (Gy fr x) k:=by
 cases x with
 |t p=>simp only[evK,B9,Gy,uL];cases T.get p fr<;>rfl
 |c v=>rfl
theorem adw(fr:Fr):∀(xs:List gZ)(k:List AV->R),adm z fr xs k=uL z (fT fr xs) k
 |[],k=>rfl
 |x::xs,k=>by
  show evK z fr x (λv=>adm z fr xs λvs=>k (v::vs))=_;rw[agT];simp only[adw fr xs];simp only[fT];cases Gy fr x with
  |none=>rfl
  |some v=>simp only[uL];cases fT fr xs<;>rfl
theorem abZ(fr:Fr)(g:Option (Pos×Bool))(yes no:R):KQ z fr g yes no=match cN fr g with
  |some true=>yes
  |some false=>no
  |none=>z:=by
 unfold KQ cN;cases g with
 |none=>rfl
 |some g=>
  obtain⟨p,want⟩:=g;simp only[B9];cases T.get p fr with
  |none=>rfl
  |some v=>
   (cases v<;>try rfl);rename_i b;cases b<;>cases want<;>rfl
theorem ab0(fr:Fr)(d:Option Pos)(v:AV)(k:Fr->R):om fr d v k=k (eJ fr d v):=by
 cases d with
 |none=>rfl
 |some p=>exact oq _ _ _ _
theorem arT(st:St)(del:Option Pos)(set:Option (Pos×AB))(new:Option AB)(k:St->R):aoO st del set new k=k (st.bh del set new):=by
 have hdel:∀(h:T AB)(k:T AB->R),delK del h k=k (Lb del h):=λh k=>by
  cases del with
  |none=>rfl
  |some b=>exact oq _ _ _ _
 have Iz:∀(h:T AB)(k:T AB->R),aoN set h k=k (Ob set h):=λh k=>by
  cases set with
  |none=>rfl
  |some b=>simp only[aoN,RF,oq];rfl
 unfold aoO;rw[hdel,Iz];cases new with
 |none=>rfl
 |some x=>simp only[RF,oq,RH];rfl
def CK(bZ:th R)(call:aj):Prop:=∀f args st k,bZ f args st k=uL z (call f args st) λx=>k x.1 x.2
variable{bZ : th R}{call : aj}
theorem RI(h:T AB):(λb=>Bx b h)=λb=>h.get b:=funext λb=>B9 b h
theorem agU(hc:CK z bZ call)(op:aH)(xs:List AV)(st:St)(k:AV->St->R):Yr z bZ op xs st k=uL z (cL call op xs st) λx=>k x.1 x.2:=by
 unfold Yr cL;rw[RI];cases op.run (λb=>st.heap.get b) st.next xs with
 |none=>rfl
 |some r=>
  cases r with
  |val v=>simp only[Nn];rfl
  |bh v d s n=>simp only[Nn,arT];rfl
  |call f args=>simp only[Nl];exact hc f args st k
theorem Yu(hc:CK z bZ call):∀(ops:List bW)(fr:Fr)(st:St)(k:Fr->St->R),adn z bZ ops fr st k=uL z (mE call ops fr st) λx=>k x.1 x.2
 |[],fr,st,k=>rfl
 |o::os,fr,st,k=>by
  show KQ z fr o.guard (adm z fr o.xs λxs=>Yr z bZ o.k xs st λv st=>om fr o.dst v λfr=>adn z bZ os fr st k) (om fr o.dst .undef λfr=>adn z bZ os fr st k)=_;rw[abZ,adw];simp only[agU z hc,ab0,Yu hc os];simp only[mE];cases cN fr o.guard with
  |none=>rfl
  |some b=>
   cases b with
   |false=>rfl
   |    true=>
        simp only[];cases fT fr o.xs with
        |none=>rfl
        |some xs=>
         simp only[uL];cases cL call o.k xs st with
         |none=>rfl
         |some x=>rfl
theorem Lp(cg:Nat)(h:T AB):∀(recs:List Rec)(k:T AB->R),Rg cg h recs k=k (snap cg h recs)
 |[],k=>rfl
 |r::rs,k=>by
  show (match r.c with
   |    .new id aN=>match cg.testBit r.idx with
        |true=>Rg cg h rs λh'=>w9 (some aN) id h' k
        |false=>Rg cg h rs k
   | .bh _ _=>k h
   | .pure=>Rg cg h rs k)=_
  unfold snap;cases r.c with
  |pure=>exact Lp cg h rs k
  |bh _ _=>rfl
  |new id aN=>
   simp only[];cases cg.testBit r.idx with
   |true=>simp only[Lp cg h rs,oq]
   |false=>exact Lp cg h rs k
theorem aeE(h:T AB):∀(l:List (Pos×AB))(k:T AB->R),agw h l k=k (nJ l h)
 |[],k=>rfl
 |(id,aN)::l,k=>by show agw h l (λh'=>w9 (some aN) id h' k)=_;rw[aeE h l,oq];rfl
theorem CZ(cg:Nat)(op:aH)(xs:List AV)(v:AV):∀(recs:List Rec)(up:List (Pos×AB)),vh cg op xs v up recs=oh cg op xs v up recs
 |[],up=>rfl
 |r::rs,up=>by
  unfold vh oh;cases r.c with
  |pure=>exact CZ cg op xs v rs up
  |new id aN=>simp only[CZ cg op xs v rs]<;>(cases cg.testBit r.idx<;>rfl)
  |bh base _=>
   simp only[CZ cg op xs v rs,Lp,aeE];unfold agx pn;simp only[RI]<;>(cases cg.testBit r.idx<;>rfl)
theorem agV (hc:CK z bZ call):∀(ops:List (Nat×bW))(recs:List Rec)(base:T AB)(fr:Fr)(st:St)(k:Fr->St->R),
  Rh z bZ ops recs base fr st k=uL z (eG call ops recs base fr st) λx=>k x.1 x.2
 |[],recs,base,fr,st,k=>rfl
 |(j,   o)::  os,recs,base,fr,st,k=>by
  show KQ   z fr o.guard
    (adm z fr o.xs λxs=>match o.cls with
        | .new=>match o.k.run (λ_=>none) st.next xs with
          |some (.bh v none none (some aN))=>wL v λv=>KP aN λaN=>om fr o.dst v λfr=>abH st.next λn=>w9 (some aN) st.next st.heap λh=>
              Rh z bZ os ({ idx:=j,o:=o,v:=v,c:= .new st.next aN,nx:=n }::recs) base fr { heap:=h,next:=n } k
          |_=>z
        | .bh=>Yr z bZ o.k xs st λv st'=>om fr o.dst v λfr=>Rh z bZ os ({ idx:=j,o:=o,v:=v,c:= .bh base st'.heap,nx:=st'.next }::recs) st'.heap fr st' k
        | _ =>match o.k.run (λ_=>none) .h xs with
          |some (.val v)=>wL v λv=>om fr o.dst v λfr=>Rh z bZ os ({ idx:=j,o:=o,v:=v,c:= .pure,nx:=st.next }::recs) base fr st k
          | _ =>Rg o.cg base recs λh=>match o.k.run (λb=>Bx b h) .h xs with
            | some (.val v)=>wL v λv=>match vh o.cg o.k xs v [] recs with
              |true=>om fr o.dst v λfr=>Rh z bZ os ({ idx:=j,o:=o,v:=v,c:= .pure,nx:=st.next }::recs) base fr st k
              |false=>z
            |_=>z)
    (om fr o.dst .undef λfr=>Rh z bZ os ({ idx:=j,o:=o,v:= .undef,c:= .pure,nx:=st.next }::recs) base fr st k)=_
  rw[abZ,adw];simp only[agU z hc,ab0,Nn,RF,RH,oq,Lp,CZ,RI,agV hc os];simp only[eG];cases cN fr o.guard with
  |none=>rfl
  | some b=>
    cases b with
    |false=>rfl
    |   true=>
        simp only[];cases fT fr o.xs with
        |none=>rfl
        | some xs=>
          simp only[uL];cases o.cls with
          | new=>
            simp only[];split<;>simp_all
          | bh=>
            simp only[];cases cL call o.k xs st with
            |none=>rfl
            |some x=>rfl
          | pure=>
            simp only[];split
            . simp_all
            . split<;>simp_all;split<;>simp_all
          | read=>
            simp only[];split
            . simp_all
            . split<;>simp_all;split<;>simp_all
def agW(r:Option (oJ×Fr×St))(kn:Fr->St->R)(kx:Nat->Fr->St->R)(kr:Fr->St->R):R:=match r with
 |some (.normal,fr,st)=>kn fr st
 |some (.exit id,fr,st)=>kx id fr st
 |some (.ret,fr,st)=>kr fr st
 |none=>z
theorem aaL(hc:CK z bZ call):∀(m:Nat)(c:AC)(fr:Fr)(st:St)(kn:Fr->St->R)(kx:Nat->Fr->St->R)(kr:Fr->St->R),
  abI z bZ m c fr st kn kx kr=agW z (exec call m c fr st) kn kx kr
 |0,c,fr,st,kn,kx,kr=>rfl
 |m+    1,c,fr,st,kn,kx,kr=>by
  have ih:=aaL hc m;show vk z bZ (abI z bZ m) c fr st kn kx kr=agW z (bD call (exec call m) c fr st) kn kx kr;cases c with
  |skip=>rfl
  |region ops=>
   simp only[vk,bD,Yu z hc];cases mE call ops fr st with
   |none=>rfl
   |some x=>rfl
  |draw ops=>
   simp only[vk,bD,agV z hc];cases eG call ops [] st.heap fr st with
   |none=>rfl
   |some x=>rfl
  |seq a b=>
   simp only[vk,bD,ih];cases exec call m a fr st with
   |none=>rfl
   |    some x=>
        obtain⟨e,fj,bE⟩:=x;cases e<;>rfl
  |cond x a b=>
   simp only[vk,bD,agT];cases Gy fr x with
   |none=>rfl
   |    some v=>
        simp only[uL];(cases v<;>try rfl);rename_i t;cases t<;>simp only[ih]
  |block id a=>
   simp only[vk,bD,ih];cases exec call m a fr st with
   |none=>rfl
   |    some x=>
        obtain⟨e,fj,bE⟩:=x;(cases e<;>try rfl);rename_i xN;simp only[agW];cases Nat.beq xN id<;>rfl
  |loop a=>
   simp only[vk,bD,ih];cases exec call m a fr st with
   |none=>rfl
   |    some x=>
        obtain⟨e,fj,bE⟩:=x;cases e<;>rfl
  |exit id=>rfl
  |ret=>rfl
theorem RJ:∀(vs:List AV)(i:Nat)(fr:Fr)(k:Fr->R),Pb vs i fr k=k (params i vs fr)
 |[],i,fr,k=>rfl
 |v::vs,i,fr,k=>by show w9 (some v) (key i) fr (λfr=>Pb vs (i+1) fr k)=_;rw[oq,RJ vs];rfl
theorem ajc(st:St)(fr:Fr)(rs:List OY)(k:AV->R):FF z st fr rs k=uL z (gQ (λb=>st.heap.get b) fr rs) λvs=>k (zq vs):=by
 unfold FF;rw[RI];cases gQ (λb=>st.heap.get b) fr rs with
 |none=>rfl
 |some vs=>
  simp only[RE,uL];cases vs with
  |nil=>rfl
  |cons v vs=>cases vs<;>rfl
theorem FM (O:fc)(G:T dV)(m:Nat):∀d,CK z (MZ z O G m d) (uz O G m d)
 |0=>λf args st k=>rfl
 |d+    1=>fun f args st k=>by
  have ih:=FM O G m d;show( match O f with
   |    some s=>match s args st with
        |some (v,st')=>wL v λv=>k v st'
        |none=>z
   |    none=>match Bx (key f) G with
        |some F=>match Nat.beq args.length F.nparams with
         |true=>Pb args 0 .e λfr=>abI z (MZ z O G m d) m F.code fr st
             (λfr st=>FF z st fr F.results λv=>k v st)
             (λ_ _ _=>z)
             (λfr st=>FF z st fr F.results λv=>k v st)
         |false=>z
        |none=>z)=_
  simp only[uz,Nn,B9,RJ,aaL z ih,ajc];cases O f with
  |some s=>
   simp only[];cases s args st with
   |none=>rfl
   |some x=>rfl
  |none=>
   simp only[];cases G.get (key f)with
   |none=>rfl
   |    some F=>
        simp only[];cases Nat.beq args.length F.nparams with
        |false=>rfl
        |true=>
         simp only[];cases exec (uz O G m d) m F.code (params 0 args .e) st with
         |none=>rfl
         |  some x=>
            obtain⟨e,fj,bE⟩:=x;cases e with
            |normal=>
             simp only[agW];cases gQ (λb=>bE.heap.get b) fj F.results<;>rfl
            |exit id=>rfl
            |ret=>
             simp only[agW];cases gQ (λb=>bE.heap.get b) fj F.results<;>rfl
end
end
section
open Go
def ak2 (P :Program)(t:Nat)(ti:TI):Bool:=
 match P.underlying t,P.info? t with
 |  some d,some i=>cm ti.k d&&Nat.beq i.size ti.size&&Nat.beq i.bytes ti.bytes&&
    (match ti.zero with
     |none=>true
     |some z=>match i.zero with
      |some v=>(match td v.cells.toList with
           |some z'=>tV z' z
           |none=>false)&&Nat.beq z.length ti.size&&(match ti.k.isAgg,v with
           |true,.agg _=>true
           |true,_=>false
           |false,.agg _=>false
           |false,_=>true)
      |none=>false)&&(match ti.k with
     | .ptr e=>(P.info? e).isSome
     |_=>true)&&(!ti.Bk||(!P.stoodInHeld t&& !P.eqGuardType P.depth t))
 |_,_=>false
theorem apd{P:Program}{t:Nat}{ti:TI}(h:ak2 P t ti=true):akB P t ti:=by
 unfold ak2 at h;split at h<;>first|(cases h;done)|skip
 rename_i d i hd hi;simp only[Zb5,Zj5,Zk2]at h;obtain⟨⟨⟨⟨⟨h1,h2⟩,h3⟩,h4⟩,h6⟩,h5⟩:=h;refine⟨⟨d,hd,h1⟩,⟨i,hi,Za6 h2,Za6 h3,λz hz=> ?_⟩,λe he=> ?_,λhe=> ?_⟩
 . rw[hz]at h4;simp only at h4;(split at h4<;>first|(cases h4;done)|skip);rename_i v hv;simp only[Zb5]at h4;obtain⟨⟨g1,g2⟩,g3⟩:=h4;(split at g1<;>first|(cases g1;done)|skip);rename_i z' Nc;rw[Gq g1]at Nc;refine⟨v,hv,Nc,Za6 g2,λha=> ?_,λha=> ?_⟩
   . rw[ha]at g3;cases v<;>first|exact⟨_,rfl⟩|cases g3
   . rw[ha]at g3;cases v<;>first|rfl|cases g3
 . rw[he]at h6;exact Zm7.1 h6
 . rcases h5 with h5|h5
   . rw[he]at h5;cases h5
   . exact h5
def KR(P:Program):(Pos->Pos)->T TI->Bool
 |_,.e=>true
 |  f,.n l v r=>(match v with
    |some ti=>ak2 P ((f .h).toNat - 1) ti
    |none=>true)&&KR P (λp=>f (.o p)) l&&KR P (λp=>f (.i p)) r
theorem RN{P:Program}:∀{t:T TI}{f:Pos->Pos},KR P f t=true->∀p ti,t.get p=some ti->akB P ((f p).toNat - 1) ti
 | .e,f,_,p,ti,h=>by rw[T.dW]at h;cases h
 | .n l v r,f,hc,p,ti,h=>by
   simp only[KR,Zb5]at hc;cases p with
   |h=>simp only[T.get]at h;rw[h]at hc;exact apd hc.1.1
   |o p=>exact RN hc.1.2 p ti h
   |i p=>exact RN hc.2 p ti h
theorem arU{P:Program}{tt:TT}(h:KR P (λp=>p) tt=true):dH P tt:=λp ti hp=>RN h p ti hp
end
noncomputable section
open Go
def Pt{α:Type}(g:Nat->Option α):Nat->Nat->Nat->T α
 |0,_,_=> .e
 |d+1,a,m=> .n (Pt g d a (2*m)) (g (a+m - 1)) (Pt g d (a+m) (2*m))
theorem RO{α:Type}{g:Nat->Option α}:∀{d a m:Nat}{p:Pos}{x:α},(Pt g d a m).get p=some x->g (a+m*p.toNat - 1)=some x
 |0,_,_,p,x,h=>by rw[Pt,T.dW]at h;cases h
 |d+1,a,m,.h,x,h=>by rw[Pos.toNat,Zn1];exact h
 |d+1,a,m,.o p,x,h=>by
  have:=RO (d:=d) (a:=a) (m:=2*m) (p:=p) (x:=x) h;rw[Pos.toNat];have e:a+m*(2*p.toNat) - 1=a+2*m*p.toNat - 1:=by rw[<-Nat.mul_assoc,Nat.mul_comm m 2]
  rw[e];exact this
 |d+1,a,m,.i p,x,h=>by
  have:=RO (d:=d) (a:=a+m) (m:=2*m) (p:=p) (x:=x) h;rw[Pos.toNat];have e:a+m*(2*p.toNat+1) - 1=a+m+2*m*p.toNat - 1:=by rw[Nat.mul_add,Zn1, <-Nat.mul_assoc,Nat.mul_comm m 2];omega
  rw[e];exact this
def arl(P:Program)(tt:TT)(i:Nat):Option dV:=match P.funcs[i]? with
 |some fn=>akA tt fn
 |none=>none
def ggOf(P:Program)(tt:TT):T dV:=Pt (arl P tt) 10 0 1
theorem arV{P:Program}{tt:TT}(h:(P.funcs.toList.all λfn=> !(fn.name== "runtime.NumGoroutine"))=true):GOk P tt (ggOf P tt):=λp F hp=>by
 have:=RO hp;rw[Zb4,Zo9,arl]at this;split at this<;>first|(cases this;done)|skip
 rename_i fn GK;refine⟨fn,GK,?_,this⟩;have:=Zg8.1 h fn (by obtain⟨hi,e⟩:=Zd2.1 GK;exact Array.mem_toList_iff.2 (e ▸Array.getElem_mem hi));simpa using this
def tkOf(P:Program)(t:Nat):TK:=match P.underlying t with
 |some .bool=> .bool
 |some (.int k)=> .int k
 |some .string=> .string
 |some (.pointer e)=> .ptr e
 |some (.slice e)=> .slice e
 |some (.array n e)=> .array n e
 |some (.map k e)=> .map k e
 |some (.struct fs)=> .struct (fs.toList.map λf=>(f.offset,f.type,f.name != "_"))
 |some (.func _ _ _)=> .func
 |some (.interface _)=> .iface
 |some .unsafePointer=> .upt
 |_=> .other
def zeroOf:Option Value->Option (List AV)
 |  some v=>match Nat.ble v.cells.size 64 with
    |true=>td v.cells.toList
    |false=>none
 |none=>none
def memN(n:Nat):List Nat->Bool
 |[]=>false
 |  m::l=>match Nat.beq m n with
    |true=>true
    |false=>memN n l
def tiOf(P:Program)(eqs:List Nat)(t:Nat):Option TI:=match P.info? t with
 |none=>none
 |some i=>some { k:=tkOf P t,size:=i.size,bytes:=i.bytes,zero:=zeroOf i.zero,Bk:=memN t eqs }
def ttOf(P:Program)(eqs:List Nat):T TI:=Pt (tiOf P eqs) 10 0 1
def kI(n:Nat):AV:= .int .i64 (.ofNat n)
def kU(n:Nat):AV:= .int .u8 (.ofNat n)
def kN(p n e:Nat):AV:= .slice (key p) 0 n none e
def kS(p n c e:Nat):AV:= .slice (key p) 0 n (some c) e
end
section
open Go
structure tZ(P:Program)(C:Cells)(f:FuncId)(s:List AV->St->Option (AV×St)):Prop where
 mono:∀args st v st',s args st=some (v,st')->st.next.toNat<=st'.next.toNat
 runs:∀(ρ:Pos->Loc)(st:St)(w:World)(args:List AV)(v:AV)(st':St)(cQ:List Value),s args st=some (v,st')->
  cC ρ C st w->aL ρ st.next.toNat C args cQ->Reaches P (oo ρ C st w v st') ((callFunc f cQ.toArray).run P w)
def vL:List (Nat×(List AV->St->Option (AV×St)))->fc
 |[]=>λ_=>none
 |  (g,s)::l=>λf=>match Nat.beq f g with
    |true=>some s
    |false=>vL l f
theorem yB{P:Program}{C:Cells}:∀{l:List (Nat×(List AV->St->Option (AV×St)))},(∀x∈l,tZ P C x.1 x.2)->vK P C (vL l)/\oK (vL l)
 |[],_=>⟨λf s h=>by simp[vL]at h,λf s h=>by simp[vL]at h⟩
 |(g,   s0)::l,hl=>by
  obtain⟨h1,h2⟩:=yB λx hx=>hl x (Za9 _ hx)
  have h0:=hl _ (Zd5 ..);refine⟨λf s h=> ?_,λf s h=> ?_⟩
  . simp only[vL]at h;split at h
    .   rename_i he;simp only[H5]at h;subst h;have:=Za6 he;subst this;exact h0.runs
    .   exact h1 f s h
  . simp only[vL]at h;split at h
    .   simp only[H5]at h;subst h;exact h0.mono
    .   exact h2 f s h
def FN:List AV->St->Option (AV×St)
 |  [.str a,.str b],st=>some (.int .i64 (match aO a b with
    |true=> .negSucc 0
    |false=>match aO b a with
     |true=> .ofNat 1
     |false=> .ofNat 0),st)
 |_,_=>none
theorem VV:∀(x y:List UInt8),Lib.compareBytes x y=match aO (x.map UInt8.toNat) (y.map UInt8.toNat)with
  |true=> .negSucc 0
  | false=>match aO (y.map UInt8.toNat) (x.map UInt8.toNat)with
    |true=> .ofNat 1
    |false=> .ofNat 0
 |[],[]=>rfl
 |[],_::_=>rfl
 |_::_,[]=>rfl
 |a ::x  ,b::y=>by
  rw[wU,wU];have ih:=VV x y;rw[wU,wU]at ih;simp only[Lib.compareBytes,Op.bytesLess];by_cases h:a<b
  . simp[h]
  . by_cases h':b<a
    .   have dP:(a==b)=false:=(by rw[Zm5];exact λe=>by subst e;exact h h');simp[h,h',dP]
    .   have he:a=b:=(by apply Zr3.1;rw[Zo1]at h h';omega);subst he;simp only[h,Zh0,ih];simp
theorem ape{P:Program}{C:Cells}{f:FuncId}{fn:Func}(hf:P.funcs[f]? =some fn)(qq:(fn.name== "runtime.NumGoroutine")=false)(hb:fn.body.isNone=true)
  (hx:Extern.findNext fn=none) (he:Extern.find fn=some Extern.BytealgCompare.compare):tZ P C f FN where
 mono args st v st' h:=by unfold FN at h;split at h<;>cases h;exact Za3 _
 runs ρ st w args v st' cQ h hW hv:=by
  unfold FN at h;split at h<;>cases h;rename_i a b;obtain⟨x,xs,rfl,h1,h2⟩:=hv.cons_inv;obtain⟨y,ys,rfl,h3,h4⟩:=h2.cons_inv;have:=h4.qO;subst this;obtain⟨s,rfl,hs⟩:=h1.fC;obtain⟨t,rfl,ht⟩:=h3.fC;have dX:(callFunc f [Value.string s,Value.string t].toArray).run P w= .ok (.value (.int .i64 (Lib.compareBytes s.data.toList t.data.toList))) w:=by rw[run_callFunc_extern hf qq hb hx he];show((Extern.BytealgCompare.compare #[.string s,.string t]).run P w).andThen _=_;rw[Lib.run_compareString];rfl
  rw[dX];refine⟨ρ,?_,λ_ _=>rfl,Za3 _,hW,qI.refl _ _ _⟩;rw[VV,hs,ht];exact .int _ _
theorem cC.sub{ρ:Pos->Loc}{C:Cells}{st:St}{w:World}(h:cC ρ C st w){h2:T AB}(hs:∀b x,h2.get b=some x->st.heap.get b=some x):cC ρ C { heap:=h2,next:=st.next } w where
 live b x hb:=h.live b x (hs b x hb)
 inj b b' x x' hb e8 he:=h.inj b b' x x' (hs b x hb) (hs b' x' e8) he
 eI a v ha:=⟨(h.eI a v ha).1,λb x hb=>(h.eI a v ha).2 b x (hs b x hb)⟩
 whole:=h.whole
theorem oo.frame{ρ:Pos->Loc}{C:Cells}{st st':St}{w w':World}{v:AV}{x:Value}{h0 h2:T AB}(hW:cC ρ C st w)(yA:∀b y,h0.get b=some y->st.heap.get b=some y)
   (h:oo ρ C { heap:=h0,next:=st.next } w v st' x w')
   (h2s:∀b y,h2.get b=some y->st'.heap.get b=some y\/(st.heap.get b=some y/\h0.get b=none)):
   oo ρ C st w v { heap:=h2,next:=st'.next } x w':=by
 obtain⟨ρ',hv,bF,hn,ji,hE⟩:=h;have hold:∀b y,st.heap.get b=some y->h0.get b=none->∀b' y',h0.get b'=some y'->(ρ b').aN≠(ρ b).aN:=λb y hb yo b' y' e8 e=>by have:=hW.inj b' b y' y (yA b' y' e8) hb e;subst this;rw[yo]at e8;cases e8
 have amP:∀b y b' y',st'.heap.get b=some y->st.heap.get b'=some y'->h0.get b'=none->(ρ' b).aN≠(ρ' b').aN:=λb y b' y' hb e8 yo e=>by
   rw[bF b' (hW.live b' y' e8).1]at e;rcases hE.ym b y hb with⟨b2,y2,g1,g2⟩|g1
   . exact hold b' y' e8 yo b2 y2 g1 (g2.trans e)
   . have:=(hW.live b' y' e8).2.1;omega
 refine⟨ρ',hv,bF,hn,⟨λb y hb=> ?_,λb b' y y' hb e8 he=> ?_,λa u ha=>⟨(ji.eI a u ha).1,λb y hb=> ?_⟩,ji.whole⟩,⟨hE.os,hE.tape,hE.output,hE.size,λk hk nQ=> ?_,λb y hb=> ?_⟩⟩
 . rcases h2s b y hb with hb|⟨hb,yo⟩
   . exact ji.live b y hb
   . obtain⟨g1,g2,g3⟩:=hW.live b y hb;refine⟨Zc7 g1 hn,?_,?_⟩
     .  rw[bF b g1];exact Zc7 g2 hE.size
     .  rw[bF b g1];exact(g3.mono bF hn).of_heap (hE.block _ g2 λb' y' e8=>hold b y hb yo b' y' e8)
 . rcases h2s b y hb with hb|⟨hb,yo⟩<;>rcases h2s b' y' e8 with e8|⟨e8,hb0'⟩
   . exact ji.inj b b' y y' hb e8 he
   . exact absurd he (amP b y b' y' hb e8 hb0')
   . exact absurd he.symm (amP b' y' b y e8 hb yo)
   . rw[bF b (hW.live b y hb).1,bF b' (hW.live b' y' e8).1]at he;exact hW.inj b b' y y' hb e8 he
 . rcases h2s b y hb with hb|⟨hb,yo⟩
   . exact(ji.eI a u ha).2 b y hb
   . rw[bF b (hW.live b y hb).1];exact(hW.eI a u ha).2 b y hb
 . exact hE.block k hk λb y hb=>nQ b y (yA b y hb)
 . rcases h2s b y hb with hb|⟨hb,yo⟩
   . rcases hE.ym b y hb with⟨b',y',g1,g2⟩|g1
     .  exact .inl ⟨b',y',yA b' y' g1,g2⟩
     .  exact .inr g1
   . exact .inl ⟨b,y,hb,by rw[bF b (hW.live b y hb).1]⟩
def Lq:List AV->List AV->Bool
 |[],[]=>true
 |a::x,b::y=>eM a b&&Lq x y
 |_,_=>false
theorem VW:∀{a b:List AV},Lq a b=true->a=b
 |[],[],_=>rfl
 |[],_::_,h=>by simp[Lq]at h
 |_::_,[],h=>by simp[Lq]at h
 |a::x,b::y,h=>by
  simp only[Lq,Zb5]at h;rw[yy h.1,VW h.2]
def Yv:List (AV×AV×Nat)->List (AV×AV×Nat)->Bool
 |[],[]=>true
 |(a,b,n)::x,(a',b',n')::y=>eM a a'&&eM b b'&&Nat.beq n n'&&Yv x y
 |_,_=>false
theorem agX:∀{a b:List (AV×AV×Nat)},Yv a b=true->a=b
 |[],[],_=>rfl
 |[],_::_,h=>by simp[Yv]at h
 |_::_,[],h=>by simp[Yv]at h
 |(a,b,n)::x,(a',b',n')::y,h=>by
  simp only[Yv,Zb5]at h;obtain⟨⟨⟨h1,h2⟩,h3⟩,h4⟩:=h;rw[yy h1,yy h2,Za6 h3,agX h4]
def ab1:AB->AB->Bool
 | .cells cs fz,.cells nu fz'=>Lq cs nu&&Nat.beq fz fz'
 | .map es c,.map es' c'=>Yv es es'&&Nat.beq c c'
 |_,_=>false
theorem aaM{a b:AB}(h:ab1 a b=true):a=b:=by
 unfold ab1 at h;split at h<;>(try simp only[Zb5]at h)
 . rw[VW h.1,Za6 h.2]
 . rw[agX h.1,Za6 h.2]
 . cases h
def hasAll(h:T AB):List (Pos×AB)->Bool
 |[]=>true
 |  (b,x)::l=>(match h.get b with
    |some y=>ab1 y x
    |none=>false)&&hasAll h l
theorem VX{h:T AB}:∀{l:List (Pos×AB)},hasAll h l=true->∀b x,(b,x)∈l->h.get b=some x
 |[],_,b,x,hm=>by cases hm
 |(b0,x0)::l,hh,b,x,hm=>by
  simp only[hasAll,Zb5]at hh;rcases Zb0.1 hm with hm|hm
  . cases hm;have h1:=hh.1;(split at h1<;>first|(cases h1;done)|skip);rename_i y hy;rw[hy,aaM h1]
  . exact VX hh.2 b x hm
theorem Np:∀{l:List (Pos×AB)}{h:T AB}{b:Pos}{x:AB},(nJ l h).get b=some x->(b,x)∈l\/(h.get b=some x/\∀y∈l,y.1≠b)
 |[],h,b,x,hb=> .inr ⟨hb,λy hy=>by cases hy⟩
 |(b0,x0)::l,h,b,x,hb=>by
  unfold nJ at hb;by_cases e:b0=b
  . subst e;rw[T.gH]at hb;simp only[H5]at hb;subst hb;exact .inl (Zd5 ..)
  . rw[T.b9 _ e]at hb;rcases Np hb with h1|⟨h1,h2⟩
    .   exact .inl (Za9 _ h1)
    .   refine .inr ⟨h1,λy hy=> ?_⟩;rcases Zb0.1 hy with rfl|hy
        . exact e
        . exact h2 y hy
structure Lit where
 args:List AV
 n0:Pos
 L0:List (Pos×AB)
 v:AV
 n1:Pos
 L1:List (Pos×AB)
def ab2(l m:List (Pos×AB)):Bool:=l.all λx=>m.any λy=>Pos.beq x.1 y.1
def RP(t:Lit):List AV->St->Option (AV×St):=λargs st=>
 match Lq args t.args&&Pos.beq st.next t.n0&&hasAll st.heap t.L0 with
 |true=>some (t.v,{ heap:=nJ t.L1 st.heap,next:=t.n1 })
 |false=>none
noncomputable def ab3(t:Lit)(O:fc)(G:T dV)(m d f:Nat):Bool:=
 MZ (R:=Bool) false O G m d f t.args { heap:=nJ t.L0 .e,next:=t.n0 } λv st=>eM v t.v&&Pos.beq st.next t.n1&&hasAll st.heap t.L1
theorem agY{P:Program}{C:Cells}{t:Lit}{O:fc}{G:T dV}{m d f:Nat}(dc:iX P C (uz O G m d))(ak1:pO (uz O G m d))
   (hk:ab2 t.L0 t.L1=true) (h:ab3 t O G m d f=true):tZ P C f (RP t):=by
 unfold ab3 at h;rw[FM false O G m d]at h;unfold uL at h;split at h<;>first|(cases h;done)|skip
 rename_i x hx;obtain⟨v,bE⟩:=x;simp only[Zb5]at h;obtain⟨⟨h1,h2⟩,h3⟩:=h;have h1:=yy h1;have h2:=Pos.beq_eq.1 h2;subst h1;have unf:∀args st v' st',RP t args st=some (v',st')->args=t.args/\st.next=t.n0/\hasAll st.heap t.L0=true/\v'=t.v/\st'={ heap:=nJ t.L1 st.heap,next:=t.n1 }:=by
   intro args st v' st' hs;unfold RP at hs;(split at hs<;>first|(cases hs;done)|skip);rename_i hc;simp only[Zb5]at hc;simp only[H5,Zd0]at hs;exact⟨VW hc.1.1,Pos.beq_eq.1 hc.1.2,hc.2,hs.1.symm,hs.2.symm⟩
 refine⟨λargs st v' st' hs=> ?_,λρ st w args v' st' cQ hs hW hv=> ?_⟩
 . obtain⟨rfl,g2,g3,rfl,rfl⟩:=unf _ _ _ _ hs;have:=ak1 _ _ _ _ _ hx;rw[g2, <-h2];exact this
 . obtain⟨ rfl,g2,g3,rfl,rfl⟩:=unf _ _ _ _ hs;have yA:∀b y,(nJ t.L0 T.e).get b=some y->st.heap.get b=some y:=λb y hb=>by
    rcases Np hb with hb|⟨hb,_⟩
    .   exact VX g3 b y hb
    .   rw[T.dW]at hb;cases hb
   have wO:uz O G m d f t.args { heap:=nJ t.L0 .e,next:=st.next }=some (t.v,bE):=(by rw[g2];exact hx);refine Reaches.mono (λx w' hp=> ?_) (dc ρ _ w f t.args t.v bE cQ wO (hW.sub yA) hv);have:=   hp.frame hW yA (h2:=nJ t.L1 st.heap) λb y hb=>by
    rcases Np hb with hb|⟨hb,nQ⟩
    .   exact .inl (VX h3 b y hb)
    .   refine .inr ⟨hb,?_⟩;cases hg:(nJ t.L0 T.e).get b with
        |none=>rfl
        |some u=>
         exfalso;rcases Np hg with hg|⟨hg,_⟩
         .  unfold ab2 at hk;rw[Zg8]at hk;have:=hk _ hg;rw[List.any_eq_true]at this;obtain⟨y',hy',he⟩:=this;exact nQ y' hy' (Pos.beq_eq.1 he).symm
         .  rw[T.dW]at hg;cases hg
   rw[h2]at this;exact this
def orS(s t:List AV->St->Option (AV×St)):List AV->St->Option (AV×St):=λargs st=>match s args st with
 |some r=>some r
 |none=>t args st
theorem agZ{P:Program}{C:Cells}{f:FuncId}{s t:List AV->St->Option (AV×St)}(hs:tZ P C f s)(ht:tZ P C f t):tZ P C f (orS s t) where
 mono args st v st' h:=by
  unfold orS at h;split at h
  . rename_i r hr;simp only[H5]at h;subst h;exact hs.mono _ _ _ _ hr
  . exact ht.mono _ _ _ _ h
 runs ρ st w args v st' cQ h hW hv:=by
  unfold orS at h;split at h
  . rename_i r hr;simp only[H5]at h;subst h;exact hs.runs ρ st w args v st' cQ hr hW hv
  . exact ht.runs ρ st w args v st' cQ h hW hv
end
end Go.Ai
