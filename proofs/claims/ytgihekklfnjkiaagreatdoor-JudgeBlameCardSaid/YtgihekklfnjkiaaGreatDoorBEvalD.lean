/- Its calls answer as the model does. -/
import Derived.Test.YtgihekklfnjkiaaGreatDoorBEvalC
import Derived.Lib.Bytealg
set_option linter.all false
namespace Go.Ai
section
open Go Go.RowKit
theorem JX{a b:AV}(h:fL a b=true):a=b:=by
 unfold fL at h;split at h<;>(try simp only[Zb2,Zf4]at h)<;>try rfl
 .rw[beq_iff_eq.1 h]
 .rename_i k i k' i';have h2:=h.2;rw[n9]at h2;rw[BO h.1,beq_iff_eq.1 h2]
 .rw[mH.1 h]
 .rw[Pos.beq_eq.1 h.1,Za7 h.2]
 .obtain⟨⟨⟨h1,h2⟩,h3⟩,h4⟩:=h;rw[Pos.beq_eq.1 h1,Za7 h2,Za7 h3,Za7 h4]
 .obtain⟨⟨⟨⟨h1,h2⟩,h3⟩,h4⟩,h5⟩:=h;rw[Pos.beq_eq.1 h1,Za7 h2,Za7 h3,Za7 h4,Za7 h5]
 .rw[Pos.beq_eq.1 h]
theorem NM:∀{a b:List AV},Bi a b=true->a=b
 |[],[],_=>rfl
 |[],_::_,h=>by simp[Bi]at h
 |_::_,[],h=>by simp[Bi]at h
 |a::x,b::y,h=>by
  simp only[Bi,Zb2]at h;rw[JX h.1,NM h.2]
theorem agt{f:AV->AV->Bool}(hf:∀{a b},f a b=true->a=b):∀{a b:List AV},MD f a b=true->a=b
 |[],[],_=>rfl
 |[],_::_,h=>by simp[MD]at h
 |_::_,[],h=>by simp[MD]at h
 |a::x,b::y,h=>by
  simp only[MD,Zb2]at h;rw[hf h.1,agt hf h.2]
theorem abF{f:AV->AV->Bool}(hf:∀{a b},f a b=true->a=b):∀{a b:List (List AV)},BN f a b=true->a=b
 |[],[],_=>rfl
 |[],_::_,h=>by simp[BN]at h
 |_::_,[],h=>by simp[BN]at h
 |a::x,b::y,h=>by
  simp only[BN,Zb2]at h;rw[agt hf h.1,abF hf h.2]
theorem agu:∀{d:Nat}{a b:AV},ME d a b=true->a=b
 |0,_,_,h=>by unfold ME at h;exact JX h
 |d +1,a,b,h=>by
  unfold ME at h;split at h
  .rename_i heq;cases heq;simp only[Zb2]at h;rw[abF (λh=>agu h) h.1,Za7 h.2]
  .exact JX h
theorem abG{a b:AV}(h:mW a b=true):a=b:=by
 unfold mW at h;split at h
 .simp only[Zb2]at h;rw[Za7 h.1.1,NM h.1.2,NM h.2]
 .exact agu h
 .exact JX h
theorem F7:∀{a b:List AV},tC a b=true->a=b
 |[],[],_=>rfl
 |[],_::_,h=>by simp[tC]at h
 |_::_,[],h=>by simp[tC]at h
 |a::x,b::y,h=>by
  simp only[tC,Zb2]at h;rw[abG h.1,F7 h.2]
theorem yo{a b:AV}(h:eO a b=true):a=b:=by
 unfold eO at h;split at h
 .rw[F7 h]
 .rw[F7 h]
 .exact abG h
theorem apn {k:aE}{H H':Pos->Option AB}{n n':Pos}{xs:List AV}{v:AV}(h:k.run H n xs=some (.val v))(hm:∀b x,H b=some x->H' b=some x):
  k.run H' n' xs=some (.val v):=by
 cases k<;>simp only[aE.run]at h ⊢ <;>try exact h
 case alloc z=>unfold QL at h;split at h<;>cases h
 case box=>unfold abp at h;split at h<;>cases h
 case buildSlice es len z p=>unfold wq at h;dsimp only at h;split at h<;>cases h
 case mkMap=>unfold QO at h;cases h
 case mkSlice es b z=>
  unfold Cr at h
  repeat' split at h
  all_goals cases h
 case store m=>
  unfold KA at h
  repeat' split at h
  all_goals cases h
 case mapSet pk=>
  unfold ye at h
  repeat' split at h
  all_goals cases h
 case load m=>
  unfold ze at h ⊢;split at h<;>first|(cases h;done)|skip
  split at h<;>first|(cases h;done)|skip
  . (split at h<;>first|(cases h;done)|skip);rename_i cs fz hb;simp only[hm _ _ hb];exact h
  .exact h
 case conv c=>
  unfold Fj at h ⊢;split at h<;>first|(cases h;done)|skip
  split at h<;>first|(cases h;done)|exact h|skip
  rename_i b off m _ _;cases hb:Nat.beq m 0 with
  |true=>simp only[hb]at h ⊢; exact h
  | false=>
    simp only[hb]at h ⊢;cases hH:H b with
    |none=>simp[hH]at h
    |some x=>simp only[hH]at h;simp only[hm _ _ hH];exact h
 case lookup pk z ok=>
  unfold lz at h ⊢;split at h<;>first|(cases h;done)|skip
  rename_i m k';cases m<;>try exact h
  rename_i b;cases hb:H b with
  |none=>simp[hb]at h
  | some x=>
    simp only[hb]at h;simp only[hm _ _ hb];exact h
 case lenB lk=>
  unfold OB at h ⊢;split at h<;>first|(cases h;done)|skip
  split at h<;>first|(cases h;done)|exact h|skip
  split at h<;>first|(cases h;done)|skip
  rename_i es c hb;simp only[hm _ _ hb];exact h
 case clearS es z=>
  unfold sw at h ⊢;split at h<;>first|(cases h;done)|skip
  split at h<;>first|(cases h;done)|exact h|skip
  rename_i b off m _ _;cases hb:Nat.beq m 0 with
  |true=>simp only[hb]at h ⊢; exact h
  | false=>
    simp only[hb]at h
    repeat' split at h
    all_goals cases h
 case copyB es=>
  unfold o7 at h ⊢;split at h<;>first|(cases h;done)|skip
  rename_i d x;cases hd:dR d with
  |none=>simp[hd]at h
  | some m1=>
    cases hx:dR x with
    |none=>simp[hd,hx]at h
    |   some m2=>
        simp only[hd,hx]at h ⊢;cases hb:Nat.beq (min m2 m1) 0 with
        |true=>simp only[hb]at h ⊢; exact h
        |false=>
         simp only[hb]at h;(split at h<;>first|(cases h;done)|skip);(split at h<;>first|(cases h;done)|skip);split at h<;>cases h
 case append es bytes=>
  unfold ic at h ⊢;split at h<;>first|(cases h;done)|skip
  rename_i s x;cases hd:dR s with
  |none=>simp[hd]at h
  | some m1  =>
    cases hx:dR x with
    |none=>simp[hd,hx]at h
    |   some m2=>
        simp only[hd,hx]at h ⊢;cases h1:Nat.ble ((2*(m1+m2)+768)*bytes) 281474976710656 with
        |false=>simp[h1]at h
        |true=>
         cases h2:Nat.ble (m1+m2) 9223372036854775807 with
         |false=>simp[h1,h2]at h
         |  true=>
            simp only[h1,h2]at h ⊢;cases hb:Nat.beq m2 0 with
            |true=>
             simp only[hb]at h ⊢;split at h<;>first|(cases h;done)|exact h|skip
             all_goals (simp_all;done)
            |false=>
             simp only[hb]at h
             repeat' split at h
             all_goals first
               |(rename_i e;cases e;done)
               |(rename_i e _;cases e;done)
               |(cases h;done)
               |simp_all
inductive Re(n:Pos):AV->AB->Prop where
 |ptr (cs:List AV):Re n (.ptr n 0) (.cells cs 0)
 |slice (len es:Nat) (cap:Option Nat) (cs:List AV) (h:len=0->cap=none\/cap=some 0->cs=[]):Re n (.slice n 0 len cap es) (.cells cs 0)
 |map:Re n (.map n) (.map [] 0)
theorem aeh:∀{ps:List (Nat×Nat)}{xs cs:List AV},cF [] ps xs=some cs->cs=[]
 |[],[],cs,h=>by simp[cF]at h;exact h.symm ▸rfl
 |[],_::_,cs,h=>by simp[cF]at h
 |_::_,[],cs,h=>by simp[cF]at h
 |(off,size)::ps,v::vs,cs,h=>by
  unfold cF at h;split at h<;>first|(cases h;done)|skip
  rename_i h1 h2;have h1:=Za7 h1;have h2:=Zb5 h2;have h3:v.cells=[]:=by apply Zc0;simp at h2;omega
  rw[h3]at h;have h4:aQ ([]:List AV) off []=[]:=by simp[aQ]
  rw[h4]at h;exact aeh h
theorem ar9 {k : aE}{n:Pos}{xs:List AV}{v:AV}{aM:AB}(h:k.run (λ_=>none) n xs=some (.bh v none none (some aM))):Re n v aM:=by
 cases k<;>simp only[aE.run]at h
 case alloc z=>unfold QL at h;split at h<;>cases h;exact .ptr _
 case box=>unfold abp at h;split at h<;>cases h;exact .ptr _
 case buildSlice es len z p=>
  unfold wq at h;dsimp only at h;split at h<;>cases h;rename_i cs hc;refine .slice _ _ _ _ λh0 _=> ?_
  subst h0;exact aeh hc
 case mkMap=>unfold QO at h;cases h;exact .map
 case mkSlice es b z=>
  unfold Cr at h
  repeat' split at h
  all_goals cases h
  refine .slice _ _ _ _ λ_ h1=> ?_
  rcases h1 with h1|h1
  .cases h1
  .simp only[H5]at h1;subst h1;rfl
 case conv c=>
  unfold Fj at h
  repeat' split at h
  all_goals cases h
 case append es bytes=>
  unfold ic at h
  repeat' split at h
  all_goals cases h
  all_goals refine .slice _ _ _ _ λh0 _=> ?_
  all_goals (exfalso;rename_i hb _ _;simp_all)
 case move=>unfold X6 at h;split at h<;>cases h
 case pick=>   unfold ac0 at h;repeat' split at h
               all_goals cases h
 case build=>unfold QM at h;dsimp only at h;split at h<;>cases h
 case load=>   unfold ze at h;repeat' split at h
               all_goals cases h
 case store=>   unfold KA at h;repeat' split at h
                all_goals cases h
 case nilCheck=>   unfold NH at h;repeat' split at h
                   all_goals cases h
 case bin=>   unfold js at h;repeat' split at h
              all_goals cases h
 case un=>   unfold akq at h;repeat' split at h
             all_goals cases h
 case mkIface=>   unfold QN at h;repeat' split at h
                  all_goals cases h
 case mkFunc=>unfold Gf at h;dsimp only at h;cases h
 case lookup=>
  unfold lz at h;split at h<;>first|(cases h;done)|skip
  dsimp only at h;split at h<;>cases h
 case mapSet=>   unfold ye at h;repeat' split at h
                 all_goals cases h
 case sliceS=>
  unfold Va at h;split at h<;>first|(cases h;done)|skip
  split at h<;>first|(cases h;done)|skip
  dsimp only at h;split at h<;>cases h
 case sliceL=>   unfold iL at h;repeat' split at h
                 all_goals cases h
 case fieldA=>   unfold Vc at h;repeat' split at h
                 all_goals cases h
 case idxA=>   unfold rX at h;repeat' split at h
               all_goals cases h
 case field=>   unfold QT at h;repeat' split at h
                all_goals cases h
 case idxS=>   unfold X7 at h;repeat' split at h
               all_goals cases h
 case extract=>   unfold JV at h;repeat' split at h
                  all_goals cases h
 case callF=>unfold aan at h;dsimp only at h;cases h
 case callV=>   unfold aao at h;repeat' split at h
                all_goals cases h
 case lenB=>   unfold OB at h;repeat' split at h
               all_goals cases h
 case copyB=>
  unfold o7 at h;split at h<;>first|(cases h;done)|skip
  split at h<;>first|(cases h;done)|skip
  dsimp only at h
  repeat' split at h
  all_goals cases h
 case minB=>   unfold Kj at h;repeat' split at h
               all_goals cases h
 case maxB=>   unfold Kk at h;repeat' split at h
               all_goals cases h
 case clearS=>   unfold sw at h;repeat' split at h
                 all_goals cases h
 case capB=>cases h
 case bad=>cases h
end
section
def o9(call:aj):Prop:=∀f args st v st',call f args st=some (v,st')->st.next.toNat<=st'.next.toNat
section
variable{call:aj}
theorem Rf(hm:o9 call){k:aE}{xs:List AV}{st st':St}{v:AV}(h:cC call k xs st=some (v,st')):st.next.toNat<=st'.next.toNat:=by
 unfold cC at h;split at h
 .simp only[H5,Zd4]at h;rw[h.2];exact Za3 _
 .simp only[H5,Zd4]at h;rw[<-h.2];exact St.Ra _ _ _ _
 .exact hm _ _ _ _ _ h
 .cases h
theorem Vq(hm:o9 call):∀(os:List bS)(fr bI:Fr)(st st':St),mE call os fr st=some (bI,st')->st.next.toNat<=st'.next.toNat
 |[],fr,bI,st,st',h=>by simp only[mE,H5,Zd4]at h;rw[h.2];exact Za3 _
 |o ::os,fr,bI,st,st',h=>by
  unfold mE at h;split at h
  . (split at h<;>first|(cases h;done)|skip);(split at h<;>first|(cases h;done)|skip);rename_i hs;exact Zb3 (Rf hm hs) (Vq hm os _ _ _ _ h)
  .exact Vq hm os _ _ _ _ h
  .cases h
theorem zi(hm:o9 call):∀(os:List (Nat×bS))(recs:List Rec)(base:T AB)(fr bI:Fr)(st st':St),ei call os recs base fr st=some (bI,st')->st.next.toNat<=st'.next.toNat
 |[],recs,base,fr,bI,st,st',h=>by simp only[ei,H5,Zd4]at h;rw[h.2];exact Za3 _
 |(j,   o)::os,recs,base,fr,bI,st,st',h=>by
  have hs:st.next.toNat<=st.next.succ.toNat:=by rw[Pos.aD];omega
  unfold ei at h;split at h
  .exact zi hm os _ _ _ _ _ _ h
  . (split at h<;>first|(cases h;done)|skip);split at h
    .   (split at h<;>first|(cases h;done)|skip);exact Zb3 hs (zi hm os _ _ _ _ _ _ h)
    .   (split at h<;>first|(cases h;done)|skip);rename_i hs;exact Zb3 (Rf hm hs) (zi hm os _ _ _ _ _ _ h)
    .   split at h
        .exact zi hm os _ _ _ _ _ _ h
        . (split at h<;>first|(cases h;done)|skip);(split at h<;>first|(cases h;done)|skip);exact zi hm os _ _ _ _ _ _ h
  .cases h
theorem MP(hm:o9 call):∀(m:Nat)(c:AC)(fr bI:Fr)(st st':St)(ex:oE),exec call m c fr st=some (ex,bI,st')->st.next.toNat<=st'.next.toNat
 |0,c,fr,bI,st,st',ex,h=>by simp[exec]at h
 |m +   1,c,fr,bI,st,st',ex,h=>by
  have ih:=MP hm m;simp only[exec]at h;unfold bC at h;split at h
  .simp only[H5,Zd4]at h;rw[h.2.2];exact Za3 _
  . (split at h<;>first|(cases h;done)|skip);rename_i hs;simp only[H5,Zd4]at h;rw[<-h.2.2];exact Vq hm _ _ _ _ _ hs
  . (split at h<;>first|(cases h;done)|skip);rename_i hs;simp only[H5,Zd4]at h;rw[<-h.2.2];exact zi hm _ _ _ _ _ _ _ hs
  . split at h
    .   rename_i hs;exact Zb3 (ih _ _ _ _ _ _ hs) (ih _ _ _ _ _ _ h)
    .   exact ih _ _ _ _ _ _ h
  .split at h<;>first|(cases h;done)|exact ih _ _ _ _ _ _ h
  . split at h
    .   rename_i hs;split at h<;>(simp only[H5,Zd4]at h;rw[<-h.2.2];exact ih _ _ _ _ _ _ hs)
    .   exact ih _ _ _ _ _ _ h
  . split at h
    .   rename_i hs;exact Zb3 (ih _ _ _ _ _ _ hs) (ih _ _ _ _ _ _ h)
    .   exact ih _ _ _ _ _ _ h
  .simp only[H5,Zd4]at h;rw[h.2.2];exact Za3 _
  .simp only[H5,Zd4]at h;rw[h.2.2];exact Za3 _
def oG(O:eP):Prop:=∀f s,O f=some s->∀args st v st',s args st=some (v,st')->st.next.toNat<=st'.next.toNat
theorem CE{O:eP}{G:T dM}(hO:oG O)(m:Nat):∀d,o9 (tZ O G m d)
 |0=>λf args st v st' h=>by simp[tZ]at h
 |d +   1=>λf args st v st' h=>by
  have ih:=CE (G:=G) hO m d;unfold tZ at h;split at h
  .rename_i s hs;exact hO f s hs args st v st' h
  . (split at h<;>first|(cases h;done)|skip);(split at h<;>first|(cases h;done)|skip);split at h<;>first|(cases h;done)|skip
    .   rename_i hs;(split at h<;>first|(cases h;done)|skip);simp only[H5,Zd4]at h;rw[<-h.2];exact MP ih _ _ _ _ _ _ _ hs
    .   rename_i hs;(split at h<;>first|(cases h;done)|skip);simp only[H5,Zd4]at h;rw[<-h.2];exact MP ih _ _ _ _ _ _ _ hs
end
def qx(cW:Fr):List Rec->Fr
 |[]=>cW
 |r::R=>ez (qx cW R) r.o.dst r.v
def eH(n0:Pos):List Rec->Pos
 |[]=>n0
 |r::_=>r.nx
def RC.pV:RC->Bool
 |.bh _ _=>true
 |_=>false
def lJ(h0:T AB):List Rec->T AB
 |[]=>h0
 |  r::R=>match r.c with
    |.bh _ h=>h
    |_=>lJ h0 R
def lK(h0:T AB):List Rec->T AB
 |[]=>h0
 |  r::R=>match r.c with
    |.bh _ h=>h
    |.new id aM=>(lK h0 R).put (some aM) id
    |.pure=>lK h0 R
def MQ:List Rec->Prop
 |[]=>True
 |r::_=>r.c.pV=true
def agv(h0:T AB)(R:List Rec)(o:bS)(xs:List AV)(v:AV):Prop:=
 ∀  A B,R=A++B->MQ B->(∀r∈A,r.c.pV=true->o.cg.testBit r.idx=false)->
    ∃h:T AB,(∀b x,h.get b=some x->(lJ h0 B).get b=some x\/∃r∈A,r.c= .new b x/\o.cg.testBit r.idx=true)/\o.k.run (λb=>h.get b) .h xs=some (.val v)
inductive uq(call:aj)(cW:Fr)(h0:T AB)(n0:Pos):Rec->List Rec->Prop where
 |skip (i:Nat) (o:bS) (R:List Rec) (hw:cJ (qx cW R) o.guard=some false):
  uq call cW h0 n0 { idx:=i,o:=o,v:= .undef,c:= .pure,nx:=eH n0 R } R
 |pure (i:Nat) (o:bS) (v:AV) (xs:List AV) (R:List Rec) (hw:cJ (qx cW R) o.guard=some true) (hx:fP (qx cW R) o.xs=some xs) (hr:agv h0 R o xs v):
  uq call cW h0 n0 { idx:=i,o:=o,v:=v,c:= .pure,nx:=eH n0 R } R
 |new (i:Nat) (o:bS) (v:AV) (aM:AB) (xs:List AV) (R:List Rec) (hw:cJ (qx cW R) o.guard=some true) (hx:fP (qx cW R) o.xs=some xs)
  (hr:o.k.run (λ_=>none) (eH n0 R) xs=some (.bh v none none (some aM))):
  uq call cW h0 n0 { idx:=i,o:=o,v:=v,c:= .new (eH n0 R) aM,nx:=(eH n0 R).succ } R
 |bh (i:Nat) (o:bS) (v:AV) (st':St) (xs:List AV) (R:List Rec) (hc:o.cls= .bh) (hw:cJ (qx cW R) o.guard=some true) (hx:fP (qx cW R) o.xs=some xs)
  (hr:cC call o.k xs { heap:=lK h0 R,next:=eH n0 R }=some (v,st')):
  uq call cW h0 n0 { idx:=i,o:=o,v:=v,c:= .bh (lJ h0 R) st'.heap,nx:=st'.next } R
def Good(call:aj)(cW:Fr)(h0:T AB)(n0:Pos):List Rec->Prop
 |[]=>True
 |r::R=>uq call cW h0 n0 r R/\Good call cW h0 n0 R
section
variable{call:aj}{cW:Fr}{h0:T AB}{n0:Pos}
theorem Good.tail:∀{A B:List Rec},Good call cW h0 n0 (A++B)->Good call cW h0 n0 B
 |[],_,h=>h
 |_::_,_,h=>Good.tail h.2
theorem Good.at{A B:List Rec}{r:Rec}(h:Good call cW h0 n0 (A++r::B)):uq call cW h0 n0 r B:=(Good.tail h).1
theorem Rg:∀{A B:List Rec},(∀r∈A,r.c.pV=false)->lJ h0 (A++B)=lJ h0 B
 |[],_,_=>rfl
 |r::A,B,h=>by
  have h1:=h r (Zd6 ..);have ih:=Rg (A:=A) (B:=B) λr hr=>h r (Zb0 _ hr)
  simp only[Zd7,lJ];split
  .rename_i hc;rw[hc]at h1;cases h1
  .exact ih
theorem aav{cg:Nat}:∀{A B:List Rec}{h:T AB}{b:Pos}{x:AB},(∀r∈A,r.c.pV=false)->MQ B->(snap cg h (A++B)).get b=some x->
  h.get b=some x\/∃r∈A,r.c= .new b x/\cg.testBit r.idx=true
 |[],B,h,b,x,_,hB,hs=>by
  cases B with
  |nil=>exact .inl hs
  | cons r B=>
    simp only[MQ]at hB;simp only[Ze0,snap]at hs;(cases hc:r.c<;>rw[hc]at hB<;>first|(cases hB;done)|skip);rw[hc]at hs;exact .inl hs
 |r ::A   ,B,h,b,x,hA,hB,hs=>by
  have ih:=@aav cg A B h b x (λr hr=>hA r (Zb0 _ hr)) hB;have up:(h.get b=some x\/∃r∈A,r.c= .new b x/\cg.testBit r.idx=true)->h.get b=some x\/∃r'∈r::A,r'.c= .new b x/\cg.testBit r'.idx=true:=λh1=>
    h1.imp id λ⟨r',h2,h3⟩=>⟨r',Zb0 _ h2,h3⟩
  simp only[Zd7,snap]at hs;cases hc:r.c with
  |pure=>rw[hc]at hs;exact up (ih hs)
  |bh b1 h1=>have:=hA r (Zd6 ..);rw[hc]at this;cases this
  | new   id aM=>
    rw[hc]at hs;cases ht:cg.testBit r.idx with
    |false=>simp only[ht]at hs;exact up (ih hs)
    |   true=>
        simp only[ht]at hs;by_cases hid:id=b
        .subst hid;rw[T.gy]at hs;simp only[H5]at hs;subst hs;exact .inr ⟨r,Zd6 ..,hc,ht⟩
        .rw[T.b9 _ hid]at hs;exact up (ih hs)
theorem aei:∀{up:List (Pos×AB)}{h:T AB}{b:Pos}{x:AB},(nG up h).get b=some x->h.get b=some x\/(b,x)∈up
 |[],_,_,_,h=>.inl h
 |(id,aM)::up,h,b,x,hs=>by
  unfold nG at hs;by_cases hid:id=b
  .subst hid;rw[T.gy]at hs;simp only[H5]at hs;subst hs;exact .inr (Zd6 ..)
  .rw[T.b9 _ hid]at hs;exact(aei hs).imp (λh=>h) λh=>Zb0 _ h
theorem Rh:∀(A:List Rec),(∀r∈A,r.c.pV=false)\/∃r∈A,r.c.pV=true
 |[]=>.inl λr h=>by cases h
 |r::A=>by
  cases hr:r.c.pV with
  |true=>exact .inr ⟨r,Zd6 ..,hr⟩
  |false=>
   rcases Rh A with h|⟨r',h1,h2⟩
   . exact .inl λr' oK=>by
      rcases Za9.1 oK with rfl|h'
      .exact hr
      .exact h r' h'
   .exact .inr ⟨r',Zb0 _ h1,h2⟩
theorem Tv{cg:Nat}{k:aE}{xs:List AV}{v:AV}:∀(A B:List Rec)(up:List (Pos×AB)),nZ cg k xs v up (A++B)=true->Good call cW h0 n0 (A++B)->MQ B->
  (∀r∈A,r.c.pV=true->cg.testBit r.idx=false)->(∃r∈A,r.c.pV=true)->
  ∃h:T AB,(∀b x,h.get b=some x->(lJ h0 B).get b=some x\/(∃r∈A,r.c= .new b x/\cg.testBit r.idx=true)\/(b,x)∈up)/\k.run (λb=>h.get b) .h xs=some (.val v)
 |[],B,up,_,_,_,_,he=>by obtain⟨r,hr,_⟩:=he;cases hr
 |r::A    , B,up,MR,hG,hB,hn,he=>by
  have hn':∀r∈A,r.c.pV=true->cg.testBit r.idx=false:=λr' oK=>hn r' (Zb0 _ oK)
  have ih:=λup (h2:nZ cg k xs v up (A++B)=true) h3=>Tv A B up h2 hG.2 hB hn' h3
  simp only[Zd7,nZ]at MR;cases hc:r.c with
  |pure=>
   rw[hc]at MR;have rf:∃r∈A,r.c.pV=true:=by
        obtain⟨r',h1,h2⟩:=he;rcases Za9.1 h1 with rfl|h1
        .rw[hc]at h2;cases h2
        .exact⟨r',h1,h2⟩
   obtain⟨h,h1,h2⟩:=ih up MR rf;exact⟨h,λb x hb=>(h1 b x hb).imp (λh=>h) (Or.imp (λ⟨r',h3,h4⟩=>⟨r',Zb0 _ h3,h4⟩) λh=>h),h2⟩
  |new    id aM=>
   rw[hc]at MR;have rf:∃r∈A,r.c.pV=true:=by
        obtain⟨r',h1,h2⟩:=he;rcases Za9.1 h1 with rfl|h1
        .rw[hc]at h2;cases h2
        .exact⟨r',h1,h2⟩
   cases ht:cg.testBit r.idx with
   |    false=>
        simp only[ht]at MR;obtain⟨h,h1,h2⟩:=ih up MR rf;exact⟨h,λb x hb=>(h1 b x hb).imp (λh=>h) (Or.imp (λ⟨r',h3,h4⟩=>⟨r',Zb0 _ h3,h4⟩) λh=>h),h2⟩
   |    true=>
        simp only[ht]at MR;obtain⟨h,h1,h2⟩:=ih _ MR rf;refine⟨h,λb x hb=> ?_,h2⟩;rcases h1 b x hb with h3|⟨r',h3,h4⟩|h3
        .exact .inl h3
        .exact .inr (.inl ⟨r',Zb0 _ h3,h4⟩)
        . rcases Za9.1 h3 with h3|h3
          .simp only[Zd4]at h3;obtain⟨rfl,rfl⟩:=h3;exact .inr (.inl ⟨r,Zd6 ..,hc,ht⟩)
          .exact .inr (.inr h3)
  |bh base h=>
   rw[hc]at MR;have ht:=hn r (Zd6 ..) (by rw[hc];rfl);simp only[ht,Zb2]at MR;rcases Rh A with hA|hA
   .    have auU:base=lJ h0 B:=(by have hs:=hG.1;(cases hs<;>simp only at hc<;>first|(cases hc;done)|skip);simp only[RC.bh.injEq]at hc;rw[<-hc.1];exact Rg hA);have hra:=MR.1;unfold oR at hra;(split at hra<;>first|(cases hra;done)|skip);rename_i u hu;rw[yo hra]at hu;refine⟨_,λb x hb=> ?_,hu⟩;rcases aei hb with hb|hb
        . rcases aav hA hB hb with h3|⟨r',h3,h4⟩
          .rw[<-auU];exact .inl h3
          .exact .inr (.inl ⟨r',Zb0 _ h3,h4⟩)
        .exact .inr (.inr hb)
   .    obtain⟨h,h1,h2⟩:=ih up MR.2 hA;exact⟨h,λb x hb=>(h1 b x hb).imp (λh=>h) (Or.imp (λ⟨r',h3,h4⟩=>⟨r',Zb0 _ h3,h4⟩) λh=>h),h2⟩
theorem abH:  ∀(L:List (Nat×bS))(R:List Rec)(fr bI:Fr)(st st':St),ei call L R (lJ h0 R) fr st=some (bI,st')->Good call cW h0 n0 R->
  fr=qx cW R->st.heap=lK h0 R->st.next=eH n0 R->
  ∃R',Good call cW h0 n0 (R'++R)/\(R'.map λr=>(r.idx,r.o))=L.reverse/\bI=qx cW (R'++R)/\st'.heap=lK h0 (R'++R)/\st'.next=eH n0 (R'++R)
 |[],R,fr,bI,st,st',h,hG,h1,h2,h3=>by
  simp only[ei,H5,Zd4]at h;obtain⟨rfl,rfl⟩:=h;exact⟨[],hG,rfl,h1,h2,h3⟩
 |(j,   o)::  L,R,fr,bI,st,st',h,hG,h1,h2,h3=>by
  have fin:∀(r:Rec)(bD:St)(eX:Fr),r.idx=j->r.o=o->uq call cW h0 n0 r R->eX=qx cW (r::R)->bD.heap=lK h0 (r::R)->bD.next=r.nx->
        ei call L (r::R) (lJ h0 (r::R)) eX bD=some (bI,st')->
        ∃R',Good call cW h0 n0 (R'++R)/\(R'.map λr=>(r.idx,r.o))=((j,o)::L).reverse/\bI=qx cW (R'++R)/\st'.heap=lK h0 (R'++R)/\st'.next=eH n0 (R'++R):=by
    intro r bD eX hj ho hs k1 k2 k3 hd;obtain⟨R',g1,g2,g3,g4,g5⟩:=abH L (r::R) eX bI bD st' hd ⟨hs,hG⟩ k1 k2 k3;have e:R'++r::R=(R'++[r])++R:=(by simp);rw[e]at g1 g3 g4 g5;exact⟨R'++[r],g1,by simp[g2,hj,ho],g3,g4,g5⟩
  unfold ei at h;subst h1;split at h
  .rename_i hw;exact fin _ _ _ rfl rfl (h3 ▸uq.skip j o R hw) rfl h2 rfl h
  . rename_i hw;(split at h<;>first|(cases h;done)|skip);rename_i xs hx;split at h
    .   (split at h<;>first|(cases h;done)|skip);rename_i v aM hr;rw[h3]at hr;have hs:=uq.new (call:=call) (cW:=cW) (h0:=h0) (n0:=n0) j o v aM xs R hw hx hr;rw[<-h3]at hs;refine fin _ _ _ rfl rfl hs rfl ?_ rfl h;simp only[lK,h2]
    .   rename_i apo;(split at h<;>first|(cases h;done)|skip);rename_i v bD hr;have iY:st={ heap:=lK h0 R,next:=eH n0 R }:=(by cases st;simp_all);rw[iY]at hr;exact fin _ bD _ rfl rfl (uq.bh j o v bD xs R apo hw hx hr) rfl rfl rfl h
    .   split at h
        . rename_i v hr;have Zw:agv h0 R o xs v:=by
           intro A B _ _ _;refine⟨.e,λb x hb=> ?_,?_⟩
           .  rw[T.dN]at hb;cases hb
           .  have e:(λb=>T.get b (T.e:T AB))=λ_=>none:=(by funext b;exact T.dN b);rw[e];exact hr
          exact fin _ _ _ rfl rfl (h3 ▸uq.pure j o v xs R hw hx Zw) rfl h2 rfl h
        . (split at h<;>first|(cases h;done)|skip);rename_i v hr;(split at h<;>first|(cases h;done)|skip);rename_i MR;have Zw:agv h0 R o xs v:=by
           intro A B hAB hB hn;subst hAB;rcases Rh A with hA|hA
           .  refine⟨_,λb x hb=> ?_,hr⟩;have:=aav hA hB hb;rw[Rg hA]at this;exact this
           .  obtain⟨h,k1,k2⟩:=Tv A B [] MR hG hB hn hA;exact⟨h,λb x hb=>(k1 b x hb).imp id λh=>h.resolve_right (by simp),k2⟩
          exact fin _ _ _ rfl rfl (h3 ▸uq.pure j o v xs R hw hx Zw) rfl h2 rfl h
  .cases h
end
end
section
open Go
structure Late(m:Nat)(pre:List Nat)(L:List (Nat×bS)):Prop where
 all:∀i,i<m->i∈pre\/i∈L.map (·.1)
 lt:∀x∈L,x.1<m
 one:∀A i o B,L=A++(i,o)::B->i∉pre/\i∉A.map (·.1)
 cg:∀A i o B,L=A++(i,o)::B->∀b,o.cg.testBit b=true->b∈pre\/b∈A.map (·.1)
 bh:∀A i o B,L=A++(i,o)::B->o.cls= .bh->∀b,(b∈pre\/b∈A.map (·.1))->o.cg.testBit b=true
 apart:∀A i o B,L=A++(i,o)::B->∀x∈B,x.2.cg.testBit i=true\/Vd o x.2=true
theorem Zx{m:Nat}:∀(L:List (Nat×bS))(seen:Nat)(pre:List Nat),OG m seen L=true->(∀b,seen.testBit b=true↔b∈pre)->Late m pre L
 |[],seen,pre,h,hs=>by
  simp only[OG]at h;have:=Za7 h;refine⟨λi hi=>.inl ((hs i).1 ?_),λx hx=>(by cases hx),λA i o B h=> ?_,λA i o B h=> ?_,λA i o B h=> ?_,λA i o B h=> ?_⟩
  .rw[this,Nat.testBit_two_pow_sub_one];simpa using hi
  all_goals (cases A<;>cases h)
 |(i,   o)::L,seen,pre,h,hs=>by
  simp only[OG,Zb2]at h;obtain⟨⟨⟨⟨⟨h1,h2⟩,h3⟩,h4⟩,h5⟩,h6⟩:=h;have h1:i<m:=Zb5 h1;have h2:i∉pre:=λhp=>by rw[(hs i).2 hp]at h2;cases h2
  have h3:=Za7 h3;have hb:∀b,o.cg.testBit b=true->b∈pre:=λb hb=>by rw[<-h3,Nat.testBit_and,Zb2]at hb;exact(hs b).1 hb.2
  have he:o.cls= .bh->∀b,b∈pre->o.cg.testBit b=true:=λhc b hp=>by rw[hc]at h4;rw[Za7 h4];exact(hs b).2 hp
  have ih:=Zx L (seen ||| 2 ^ i) (pre++[i]) h6 (λb=>by
    rw[Nat.testBit_or,Nat.testBit_two_pow,Zj3,hs b,Zd5];simp[eq_comm])
  rw[Zg8]at h5;have afP:∀{A:List (Nat×bS)}{j:Nat}{p:bS}{B:List (Nat×bS)},(i,o)::L=A++(j,p)::B->(A=[]/\i=j/\o=p/\L=B)\/∃A',A=(i,o)::A'/\L=A'++(j,p)::B:=by
    intro A j p B hA;cases A with
    |nil=>simp at hA;exact .inl ⟨rfl,hA.1.1,hA.1.2,hA.2⟩
    |cons x A=>simp at hA;exact .inr ⟨A,by rw[hA.1],hA.2⟩
  refine⟨λj hj=> ?_,λx hx=> ?_,λA j p B hA=> ?_,λA j p B hA=> ?_,λA j p B hA=> ?_,λA j p B hA=> ?_⟩
  . rcases ih.all j hj with h|h
    .   rcases Zd5.1 h with h|h
        .exact .inl h
        .simp at h;exact .inr (by simp[h])
    .   exact .inr (by simp only[Zd3,Za9];exact .inr h)
  . rcases Za9.1 hx with rfl|hx
    .   exact h1
    .   exact ih.lt x hx
  . rcases afP hA with⟨rfl,rfl,rfl,rfl⟩|⟨A',rfl,Tw⟩
    .   exact⟨h2,by simp⟩
    .   obtain⟨k1,k2⟩:=ih.one A' j p B Tw;simp only[Zd5,Zh9,not_or]at k1;exact⟨k1.1,by simp only[Zd3,Za9,not_or];exact⟨k1.2,k2⟩⟩
  . rcases afP hA with⟨rfl,rfl,rfl,rfl⟩|⟨A',rfl,Tw⟩
    .   exact λb u7=>.inl (hb b u7)
    .   intro b u7;rcases ih.cg A' j p B Tw b u7 with h|h
        . rcases Zd5.1 h with h|h
          .exact .inl h
          .simp at h;exact .inr (by simp[h])
        .exact .inr (by simp only[Zd3,Za9];exact .inr h)
  . rcases afP hA with⟨rfl,rfl,rfl,rfl⟩|⟨A',rfl,Tw⟩
    .   intro hc b u7;rcases u7 with h|h
        .exact he hc b h
        .simp at h
    .   intro hc b u7;refine ih.bh A' j p B Tw hc b ?_;rcases u7 with h|h
        .exact .inl (Zd5.2 (.inl h))
        . simp only[Zd3,Za9]at h;rcases h with rfl|h
          .exact .inl (by simp)
          .exact .inr h
  . rcases afP hA with⟨rfl,rfl,rfl,rfl⟩|⟨A',rfl,Tw⟩
    .   intro x hx;have:=h5 x hx
        rwa [Zj3]at this
    .   exact ih.apart A' j p B Tw
inductive Reach(ops:Array Oper):Nat->Nat->Prop where
 |edge (i:Nat) (o:Oper) (e:Edge) (ho:ops[i]? =some o) (he:e∈o.after) (hb:Region.binds .any e=true):Reach ops i e.on
 |trans (i:Nat) (o:Oper) (e:Edge) (b:Nat) (ho:ops[i]? =some o) (he:e∈o.after) (hb:Region.binds .any e=true) (h:Reach ops e.on b):Reach ops i b
def akM(ops:Array Oper)(i m:Nat):Prop:=
 (∀o,ops[i]? =some o->∀e∈o.after,Region.binds .any e=true->m.testBit e.on=true)/\∀b,m.testBit b=true->Reach ops i b
theorem ac9(acc:List Nat):∀(l:List Edge)(s b:Nat),(l.foldl (λs e=>match Region.binds .any e with
   |true=>s ||| 2 ^ e.on ||| (nth acc e.on).getD 0
   |false=>s) s).testBit b=true↔s.testBit b=true\/∃e∈l,Region.binds .any e=true/\(e.on=b\/((nth acc e.on).getD 0).testBit b=true)
 |[],s,b=>by simp
 |e::l,s,b=>by
  rw[Zr9,ac9 acc l];cases he:Region.binds .any e with
  |false=>simp[he]
  |true=>
   simp only[Nat.testBit_or,Zj3,Nat.testBit_two_pow,Ze7,Za9,exists_eq_or_imp,he,Zr1];constructor
   .    rintro(((h|h)|h)|h)
        .exact .inl h
        .exact .inr (.inl (.inl h))
        .exact .inr (.inl (.inr h))
        .exact .inr (.inr h)
   .    rintro(h|(h|h)|h)
        .exact .inl (.inl (.inl h))
        .exact .inl (.inl (.inr h))
        .exact .inl (.inr h)
        .exact .inr h
theorem ajw {ops:Array Oper}:∀(os:List Oper)(acc:List Nat),os=ops.toList.drop acc.length->acc.length<=ops.size->(∀i,i<acc.length->akM ops i (acc.getD i 0))->
  ∀i,i<ops.size->akM ops i ((af8 os acc).getD i 0)
 |[],acc,hos,hl,akN,i,hi=>by
  have h1:(ops.toList.drop acc.length).length=0:=by rw[<-hos];rfl
  have:ops.size<=acc.length:=by simp at h1;omega
  exact akN i (by omega)
 |o ::os,acc,hos,hl,akN,i,hi=>by
  simp only[af8];have ho:ops[acc.length]? =some o:=by have:(ops.toList.drop acc.length)[0]? =some o:=(by rw[<-hos];rfl);simpa using this
  have aV:acc.length<ops.size:=(Zd2.1 ho).1;refine ajw os _ ?_ (by simp;omega) (λj hj=> ?_) i hi
  .rw[Zd8,List.length_singleton, <-Zl4, <-hos];rfl
  . rcases Zj2 j acc.length with h|h
    .   rw[Za8,Zc5 h, <-Za8];exact akN j h
    .   have KE:j=acc.length:=(by simp at hj;omega);subst KE;rw[Za8,Zc4 (Za3 _)];simp only[Zl0,Za4,Ze8];refine⟨λo' MO e he hb=> ?_,λb hb=> ?_⟩
        .rw[ho]at MO;simp only[H5]at MO;subst MO;exact(ac9 acc _ 0 e.on).2 (.inr ⟨e,by simpa using he,hb,.inl rfl⟩)
        . have hb:=(ac9 acc _ 0 b).1 hb;rcases hb with hb|⟨e,he,u7,hb⟩
          .simp at hb
          . have rf:e∈o.after:=(by simpa using he);rcases hb with rfl|hb
            .exact .edge _ o e ho rf u7
            . refine .trans _ o e b ho rf u7 ?_;rw[qu]at hb;rcases Zj2 e.on acc.length with h|h
              .exact(akN _ h).2 b (by rw[Za8];exact hb)
              .rw[Zc2 h]at hb;simp at hb
theorem ajx:∀(l:List bS)(k:Nat)(x:Nat×bS),x∈KC k l->∃i,x.1=k+i/\l[i]? =some x.2
 |[],k,x,h=>by cases h
 |o ::l,k,x,h=>by
  simp only[KC,Za9]at h;rcases h with rfl|h
  .exact⟨0,rfl,rfl⟩
  .obtain⟨i,h1,h2⟩:=ajx l (k+1) x h;exact⟨i+1,by omega,by simpa using h2⟩
theorem Vr:∀(l held:List (Nat×bS))(x:Nat×bS),x∈A4 l held->x∈l\/x∈held
 |[],held,x,h=>.inr h
 |(i,   o)::l,held,x,h=>by
  unfold A4 at h;split at h
  . rcases Zd5.1 h with h|h
    .   exact .inr (Zj4.1 h).1
    .   rcases Za9.1 h with h|h
        .exact .inl (by rw[h];exact Zd6 ..)
        . rcases Vr l _ x h with h|h
          .exact .inl (Zb0 _ h)
          .exact .inr (Zj4.1 h).1
  . rcases Vr l _ x h with h|h
    .   exact .inl (Zb0 _ h)
    .   rcases Zd5.1 h with h|h
        .exact .inr h
        .simp at h;exact .inl (by rw[h];exact Zd6 ..)
theorem asa{l:List bS}{x:Nat×bS}(h:x∈A4 (KC 0 l) []):l[x.1]? =some x.2:=by
 rcases Vr _ _ _ h with h|h
 .obtain⟨i,h1,h2⟩:=ajx l 0 x h;rw[h1,Zb9];exact h2
 .cases h
theorem Ri{p:Pos}:∀{l:List Pos},OE p l=true↔p∈l
 |[]=>by simp[OE]
 |q::l=>by simp[OE,Ri (l:=l),Pos.beq_eq]
theorem NN{a b:bS}(h:Vd a b=true):
   (∀d,a.dst=some d->d∉b.looks/\b.dst≠some d)/\(∀d,b.dst=some d->d∉a.looks):=by
 unfold Vd at h;rw[Zb2]at h;obtain⟨h1,h2⟩:=h;constructor
 . intro d hd;rw[hd]at h1;simp only[Zb2,Zj7]at h1;refine⟨λhm=> ?_,λhb=> ?_⟩
   .rw[Ri.2 hm]at h1;exact absurd h1.1 (by simp)
   .rw[hb]at h1;have:Pos.beq d d=true:=Pos.beq_eq.2 rfl;simp[this]at h1
 .intro d hd hm;rw[hd]at h2;simp only[Zj7]at h2;rw[Ri.2 hm]at h2;cases h2
section
variable(P:Program)(tt:TT)(C:Cells)(nt:Nat)(ops:Array Oper)(call:aj)(cW:Fr)(h0:T AB)(n0:Pos)(R:List Rec)
structure CH:Prop where
 aaw:Good call cW h0 n0 R
 mono:o9 call
 one:∀A r B,R=A++r::B->∀r'∈B,r'.idx≠r.idx
 cg:∀A r B,R=A++r::B->∀b,r.o.cg.testBit b=true->∃r'∈B,r'.idx=b
 bh:∀A r B,R=A++r::B->r.o.cls= .bh->∀r'∈B,r.o.cg.testBit r'.idx=true
 apart:∀A r B,R=A++r::B->∀r'∈A,r'.o.cg.testBit r.idx=true\/Vd r.o r'.o=true
 rel:∀r∈R,∃o,ops[r.idx]? =some o/\zh tt nt ops o r.o/\akM ops r.idx r.o.cg
 all:∀i,i<ops.size->∃r∈R,r.idx=i
def Kept(D:Nat->Prop)(b:Pos):Prop:=∀A r B,R=A++r::B->¬D r.idx->b.toNat<(eH n0 B).toNat\/r.nx.toNat<=b.toNat
def T1(D:Nat->Prop)(ρ:Pos->Loc)(tmps:Array Value):Prop:=
 ∀M s T p,R=M++s::T->D s.idx->s.o.dst=some p->(∀s'∈M,D s'.idx->s'.o.dst≠some p)->∃x,tmps[p.toNat - 1]? =some x/\aC ρ s.nx.toNat C s.v x
def T0(D:Nat->Prop)(ρ:Pos->Loc)(tmps:Array Value):Prop:=
 ∀p v,cW.get p=some v->(∀s∈R,D s.idx->s.o.dst≠some p)->∃x,tmps[p.toNat - 1]? =some x/\aC ρ n0.toNat C v x
structure Pre(D:Nat->Prop)(A B:List Rec)(a:Act):Prop where
 split:R=A++B
 bound:MQ B
 inB:∀r∈B,D r.idx
 inA:∀r∈A,D r.idx->r.c.pV=false
 closed:∀i o e,D i->ops[i]? =some o->e∈o.after->Region.binds .any e=true->D e.on
 size:a.tmps.size=nt
 defers:a.defers=[]
structure Inv0(nK:Pos->Loc)(w0:World)(D:Nat->Prop)(A B:List Rec)(ρ:Pos->Loc)(a:Act)(w:World):Prop where
 W:bV ρ C { heap:=lJ h0 B,next:=eH n0 B } w
 N:∀r∈A,D r.idx->∀id aM,r.c= .new id aM->tD ρ r.nx.toNat C (ρ id) w aM/\(ρ id).aM<w.heap.size/\w0.heap.size<=(ρ id).aM/\
  (∀b x,(lJ h0 B).get b=some x->(ρ b).aM≠(ρ id).aM)/\(∀ad v,C ad=some v->(ρ id).aM≠ad.block)
 N2:∀r∈A,D r.idx->∀id aM,r.c= .new id aM->∀r'∈A,D r'.idx->∀xF HX,r'.c= .new xF HX->id≠xF->(ρ id).aM≠(ρ xF).aM
 t1:T1 C R D ρ a.tmps
 t0:T0 C cW n0 R D ρ a.tmps
 E:oJ nK { heap:=h0,next:=n0 } w0 ρ { heap:=lJ h0 B,next:=eH n0 B } w
 agree:∀b:Pos,b.toNat<n0.toNat->ρ b=nK b
def Inv(nK:Pos->Loc)(w0:World)(D:Nat->Prop)(A B:List Rec)(ρ:Pos->Loc)(a:Act)(w:World):Prop:=
 Pre nt ops R D A B a/\∀ρ',(∀b,Kept n0 R D b->ρ' b=ρ b)->Inv0 C cW h0 n0 R nK w0 D A B ρ' a w
end
section
variable{P:Program}{tt:TT}{C:Cells}{nt:Nat}{ops:Array Oper}{call:aj}{cW:Fr}{h0:T AB}{n0:Pos}{R:List Rec}
theorem KN(h:∀A r B,R=A++r::B->∀r'∈B,r'.idx≠r.idx){X X' Y Y':List Rec}{r r':Rec}(h1:R=X++r::Y)(h2:R=X'++r'::Y')(hi:r.idx=r'.idx):
   X=X'/\r=r'/\Y=Y':=by
 have h3:X++r::Y=X'++r'::Y':=h1.symm.trans h2;rcases List.append_eq_append_iff.1 h3 with⟨Z,hX,hZ⟩|⟨Z,hX,hZ⟩
 . cases Z with
   |nil=>simp at hZ hX;exact⟨hX.symm,hZ.1,hZ.2⟩
   |cons z Z=>
    simp at hZ;exact absurd hi.symm (h X r Y h1 r' (by rw[hZ.2];simp))
 . cases Z with
   |nil=>simp at hZ hX;exact⟨hX,hZ.1.symm,hZ.2.symm⟩
   |cons z Z=>
    simp at hZ;exact absurd hi (h X' r' Y' h2 r (by rw[hZ.2];simp))
theorem oW{r:Rec}(h:r∈R):∃A B,R=A++r::B:=List.append_of_mem h
theorem ajy(hm:o9 call){r:Rec}{B:List Rec}(h:uq call cW h0 n0 r B):(eH n0 B).toNat<=r.nx.toNat:=by
 cases h with
 |skip=>exact Za3 _
 |pure=>exact Za3 _
 |new=>simp only[Pos.aD];omega
 |bh i o v st' xs _ hc hw hx hr=>exact Rf hm hr
theorem ada(hm:o9 call):∀{A B:List Rec},Good call cW h0 n0 (A++B)->(eH n0 B).toNat<=(eH n0 (A++B)).toNat
 |[],_,_=>Za3 _
 |r::A,B,h=>Zb3 (ada hm (A:=A) h.2) (ajy hm h.1)
namespace CH
variable(G:CH tt nt ops call cW h0 n0 R)
include G
theorem later{X Y:List Rec}{r r':Rec}(h:R=X++r::Y)(hr:r'∈X):r'.idx≠r.idx:=by
 obtain⟨A,B,rfl⟩:=oW hr;have h':R=A++r'::(B++r::Y):=by rw[h];simp
 exact λe=>G.one _ _ _ h' r (by simp) e.symm
theorem arD{X Y:List Rec}{r:Rec}(h:R=X++r::Y):(eH n0 Y).toNat<=r.nx.toNat:=ajy G.mono (Good.at (h ▸G.aaw))
theorem Gn{X Y Z:List Rec}(h:R=X++(Y++Z)):(eH n0 Z).toNat<=(eH n0 (Y++Z)).toNat:=ada G.mono (Good.tail (h ▸G.aaw))
theorem akO{X Y:List Rec}(h:R=X++Y):n0.toNat<=(eH n0 Y).toNat:=by have:=ada (n0:=n0) G.mono (A:=Y) (B:=[]) (by rw[Ze1];exact Good.tail (h ▸G.aaw));rw[Ze1]at this;exact this
theorem abI{D:Nat->Prop}(hc:∀i o e,D i->ops[i]? =some o->e∈o.after->Region.binds .any e=true->D e.on){i b:Nat}(h:Reach ops i b)
  (hi:∀o e,ops[i]? =some o->e∈o.after->Region.binds .any e=true->D e.on):D b:=by
 induction h with
 |edge i o e ho he hb=>exact hi o e ho he hb
 |trans i o e b ho he hb _ ih=>exact ih λo' e' MO rf dO=>hc _ o' e' (hi o e ho he hb) MO rf dO
theorem arE{D:Nat->Prop}{A B:List Rec}{a:Act}(hp:Pre nt ops R D A B a){s:Rec}(hs:s∈R)(hD:D s.idx){b:Nat}(hb:s.o.cg.testBit b=true):D b:=by obtain⟨o,ho,_,hB⟩:=G.rel s hs;exact G.abI hp.closed (hB.2 b hb) λo' e MO he u7=>hp.closed _ o' e hD MO he u7
end CH
theorem Vt:∀(Y:List Rec)(p:Pos)(v:AV),(qx cW Y).get p=some v->
  (∃M s T,Y=M++s::T/\s.o.dst=some p/\s.v=v/\∀s'∈M,s'.o.dst≠some p)\/(cW.get p=some v/\∀s∈Y,s.o.dst≠some p)
 |[],p,v,h=>.inr ⟨h,λs hs=>by cases hs⟩
 |r ::Y   ,p,v,h=>by
  simp only[qx]at h;by_cases hr:r.o.dst=some p
  .rw[hr]at h;simp only[ez,T.gy,H5]at h;exact .inl ⟨[],r,Y,rfl,hr,h,λs hs=>by cases hs⟩
  . have h':(qx cW Y).get p=some v:=by
        cases hd:r.o.dst with
        |none=>rw[hd]at h;exact h
        | some d=>
          rw[hd]at h;simp only[ez]at h
          rwa [T.b9 _ λe=>hr (by rw[hd,e])]at h
    rcases Vt Y p v h' with⟨M,s,T,rfl,h2,h3,h4⟩|⟨h2,h3⟩
    .   refine .inl ⟨r::M,s,T,rfl,h2,h3,λs' qw=> ?_⟩;rcases Za9.1 qw with rfl|qw
        .exact hr
        .exact h4 s' qw
    .   refine .inr ⟨h2,λs hs=> ?_⟩;rcases Za9.1 hs with rfl|hs
        .exact hr
        .exact h3 s hs
theorem look(G:CH tt nt ops call cW h0 n0 R){D:Nat->Prop}{A B:List Rec}{a:Act}(hp:Pre nt ops R D A B a){ρ:Pos->Loc}(h1:T1 C R D ρ a.tmps)(h2:T0 C cW n0 R D ρ a.tmps)
   {X Y:List Rec} {r:Rec} (hR:R=X++r::Y) (hD:¬D r.idx) (adb:∀b,r.o.cg.testBit b=true->D b) {p:Pos} {v:AV} (hl:p∈r.o.looks) (hv:(qx cW Y).get p=some v):
   ∃x,a.tmps[p.toNat - 1]? =some x/\aC ρ (eH n0 Y).toNat C v x:=by
 have hX:∀s∈X,D s.idx->s.o.dst≠some p:=by
   intro s hs iF hd;rcases G.apart X r Y hR s hs with h|h
   .exact hD (G.arE hp (by rw[hR];simp[hs]) iF h)
   .exact(NN h).2 p hd hl
 rcases Vt Y p v hv with⟨M,s,T,rfl,h3,rfl,h4⟩|⟨h3,h4⟩
 . have hR':R=(X++r::M)++s::T:=(by rw[hR];simp);have iF:D s.idx:=by
     rcases G.apart _ s T hR' r (by simp)with h|h
     .  exact adb _ h
     .  exact absurd hl ((NN h).1 p h3).1
   obtain⟨x,hx,Vu⟩:=h1 (X++r::M) s T p hR' iF h3 (λs' qw KO=>by
     rcases Zd5.1 qw with h|h
     .  exact hX s' h KO
     .  rcases Za9.1 h with rfl|h
        .exact absurd KO hD
        .exact h4 s' h)
   refine⟨x,hx,Vu.mono (λ_ _=>rfl) ?_⟩;have:=G.Gn (X:=X++[r]) (Y:=M) (Z:=s::T) (by rw[hR];simp);exact this
 . obtain⟨x,hx,Vu⟩:=h2 p v h3 (λs hs iF=>by
     rw[hR]at hs;rcases Zd5.1 hs with h|h
     .  exact hX s h iF
     .  rcases Za9.1 h with rfl|h
        .exact absurd iF hD
        .exact h4 s h)
   exact⟨x,hx,Vu.mono (λ_ _=>rfl) (G.akO (X:=X++[r]) (by rw[hR];simp))⟩
theorem MT{a:Act}{d:Option Tmp}{x:Value}{p:Pos}(h:d.map key≠some p):(a.put d x).tmps[p.toNat - 1]? =a.tmps[p.toNat - 1]? :=by
 cases d with
 |none=>rfl
 |some e=>
  simp only[Act.put];rw[Zk0];intro he;apply h;simp only[Zd9,H5];apply Pos.toNat_inj;rw[iM];have:=p.toNat_pos;omega
theorem apq{a:Act}{d:Option Tmp}{x:Value}{p:Pos}(h:d.map key=some p)(hs:a.tmps.size=nt)(hd:∀e,d=some e->e<nt):(a.put d x).tmps[p.toNat - 1]? =some x:=by
 cases d with
 |none=>cases h
 |some e=>
  simp only[Zd9,H5]at h;subst h;simp only[Act.put];rw[iM,Zh5,Zp8];simp[hs,hd e rfl]
theorem akP(G:CH tt nt ops call cW h0 n0 R){D:Nat->Prop}{A B:List Rec}{a:Act}(hp:Pre nt ops R D A B a){ρ:Pos->Loc}(h1:T1 C R D ρ a.tmps)(h2:T0 C cW n0 R D ρ a.tmps)
   {X Y:List Rec} {r:Rec} (hR:R=X++r::Y) (hD:¬D r.idx) {o:Oper} (hrel:zh tt nt ops o r.o) {x:Value} (hv:aC ρ r.nx.toNat C r.v x):
   T1 C R (λi=>D i\/i=r.idx) ρ (a.put o.dst x).tmps/\T0 C cW n0 R (λi=>D i\/i=r.idx) ρ (a.put o.dst x).tmps:=by
 constructor
 . intro  M s T p hM iF hd lF;by_cases hi:s.idx=r.idx
   .obtain⟨_,rfl,_⟩:=KN G.one hM hR hi;rw[hrel.dst]at hd;exact⟨x,apq hd hp.size hrel.lt,hv⟩
   . have iF:=iF.resolve_right hi;by_cases Vv:r.o.dst=some p
     .  exfalso;have hs:s∈R:=(by rw[hM];simp);rw[hR]at hs;rcases Zd5.1 hs with h|h
        . rcases G.apart X r Y hR s h with k|k
          .exact hD (G.arE hp (by rw[hR];simp[h]) iF k)
          .exact((NN k).1 p Vv).2 hd
        . rcases Za9.1 h with rfl|h
          .exact hi rfl
          .obtain⟨Y1,Y2,rfl⟩:=oW h;have hR':R=(X++r::Y1)++s::Y2:=(by rw[hR];simp);obtain⟨hM',_,_⟩:=KN G.one hM hR' rfl;exact lF r (by rw[hM'];simp) (.inr rfl) Vv
     .  (rw[hrel.dst]at Vv;obtain⟨y,hy,Vl⟩:=h1 M s T p hM iF hd λs' qw KO=>lF s' qw (.inl KO));exact⟨y,by rw[MT Vv];exact hy,Vl⟩
 . (intro p v hf lF;have hr:r.o.dst≠some p:=lF r (by rw[hR];simp) (.inr rfl);rw[hrel.dst]at hr;obtain⟨y,hy,Vl⟩:=h2 p v hf λs hs iF=>lF s hs (.inl iF));exact⟨y,by rw[MT hr];exact hy,Vl⟩
end
section
variable{P:Program}{tt:TT}{C:Cells}{nt:Nat}{ops:Array Oper}{call:aj}{cW:Fr}{h0:T AB}{n0:Pos}{R:List Rec}
theorem bV.congr{ρ ρ':Pos->Loc}{st:St}{w:World}(h:bV ρ C st w)(bE:∀b:Pos,b.toNat<st.next.toNat->ρ' b=ρ b):bV ρ' C st w where
 live b x hb:=by
  obtain⟨h1,h2,h3⟩:=h.live b x hb;rw[bE b h1];exact⟨h1,h2,h3.mono bE (Za3 _)⟩
 inj b b' x x' hb dO he:=by rw[bE b (h.live b x hb).1,bE b' (h.live b' x' dO).1]at he;exact h.inj b b' x x' hb dO he
 dS a v ha:=⟨(h.dS a v ha).1,λb x hb=>by rw[bE b (h.live b x hb).1];exact(h.dS a v ha).2 b x hb⟩
 whole:=h.whole
theorem oJ.congr{ρ jW ρ':Pos->Loc}{st st':St}{w w':World}(h:oJ ρ st w jW st' w')(bE:∀b x,st'.heap.get b=some x->ρ' b=jW b):oJ ρ st w ρ' st' w' where
 os:=h.os
 tape:=h.tape
 output:=h.output
 size:=h.size
 block:=h.block
 yf b x hb:=by rw[bE b x hb];exact h.yf b x hb
namespace CH
variable(G:CH tt nt ops call cW h0 n0 R)
include G
theorem same{r r':Rec}(h:r∈R)(h':r'∈R)(hi:r.idx=r'.idx):r=r':=by obtain⟨A,B,hA⟩:=oW h;obtain⟨A',B',Tw⟩:=oW h';exact(KN G.one hA Tw hi).2.1
theorem cmp{X Y X' Y':List Rec}{r r':Rec}(h1:R=X++r::Y)(h2:R=X'++r'::Y')(hi:r'.idx≠r.idx):
   (∃Z,Y'=Z++r::Y)\/(∃Z,Y=Z++r'::Y'):=by
 have h3:X++r::Y=X'++r'::Y':=h1.symm.trans h2;rcases List.append_eq_append_iff.1 h3 with⟨Z,hX,hZ⟩|⟨Z,hX,hZ⟩
 . cases Z with
   |nil=>simp at hZ;exact absurd (by rw[hZ.1]) hi
   |cons z Z=>simp at hZ;exact .inr ⟨Z,hZ.2⟩
 . cases Z with
   |nil=>simp at hZ;exact absurd (by rw[hZ.1]) hi
   |cons z Z=>simp at hZ;exact .inl ⟨Z,hZ.2⟩
theorem Rj{X Y X' Z:List Rec}{r r':Rec}(h1:R=X++r::Y)(h2:R=X'++r'::(Z++r::Y)):r.nx.toNat<=(eH n0 (Z++r::Y)).toNat:=by have:=G.Gn (X:=X'++[r']) (Y:=Z) (Z:=r::Y) (by rw[h2];simp);exact this
theorem JY{X Y' Z:List Rec}{r r':Rec}(h1:R=X++r::(Z++r'::Y')):r'.nx.toNat<=(eH n0 (Z++r'::Y')).toNat:=by have:=G.Gn (X:=X++[r]) (Y:=Z) (Z:=r'::Y') (by rw[h1];simp);exact this
theorem Vx{X Y:List Rec}{r:Rec}(h:R=X++r::Y){id:Pos}{aM:AB}(hc:r.c= .new id aM):id=eH n0 Y/\r.nx=id.succ:=by
 have hs:=Good.at (h ▸G.aaw);cases hs<;>simp only at hc<;>first|(cases hc;done)|skip
 simp only[RC.new.injEq]at hc;obtain⟨rfl,_⟩:=hc;exact⟨rfl,rfl⟩
end CH
theorem Kept.up{D D':Nat->Prop}(h:∀i,D i->D' i){b:Pos}(hk:Kept n0 R D b):Kept n0 R D' b:=λA r B hR hD=>hk A r B hR λhd=>hD (h _ hd)
theorem Pre.next(G:CH tt nt ops call cW h0 n0 R){D:Nat->Prop}{A B:List Rec}{a:Act}(hp:Pre nt ops R D A B a){X Y:List Rec}{r:Rec}(hR:R=X++r::Y)
  (ur:∀o e,ops[r.idx]? =some o->e∈o.after->Region.binds .any e=true->D e.on) (hc:r.c.pV=false) (d:Option Tmp) (x:Value):
  Pre nt ops R (λi=>D i\/i=r.idx) A B (a.put d x) where
 split:=hp.split
 bound:=hp.bound
 inB s hs:= .inl (hp.inB s hs)
 inA s hs hD:=by
  rcases hD with hD|hD
  .exact hp.inA s hs hD
  .rw[G.same (by rw[hp.split];simp[hs]) (by rw[hR];simp) hD];exact hc
 closed i o e hD ho he hb:=by
  rcases hD with hD|rfl
  .exact .inl (hp.closed i o e hD ho he hb)
  .exact .inl (ur o e ho he hb)
 size:=by rw[Act.j7];exact hp.size
 defers:=by rw[Act.mC];exact hp.defers
theorem aej(G:CH tt nt ops call cW h0 n0 R){nK:Pos->Loc}{w0:World}{D:Nat->Prop}{A B:List Rec}{ρ:Pos->Loc}{a:Act}{w:World}
  (hI:Inv C nt ops cW h0 n0 R nK w0 D A B ρ a w) {X Y:List Rec} {r:Rec} (hR:R=X++r::Y) (hD:¬D r.idx)
  (ur:∀o e,ops[r.idx]? =some o->e∈o.after->Region.binds .any e=true->D e.on) {o:Oper} (hrel:zh tt nt ops o r.o) (hc:r.c= .pure) {x:Value}
  (hv:∀ρ',(∀b,Kept n0 R D b->ρ' b=ρ b)->aC ρ' r.nx.toNat C r.v x):
  Inv C nt ops cW h0 n0 R nK w0 (λi=>D i\/i=r.idx) A B ρ (a.put o.dst x) w:=by
 obtain⟨hp,hI⟩:=hI;refine⟨hp.next G hR ur (by rw[hc];rfl) _ _,λρ' Fs=> ?_⟩;have hf:∀b,Kept n0 R D b->ρ' b=ρ b:=λb hb=>Fs b (hb.up λ_ h=>.inl h)
 have h:=hI ρ' hf;have hnr:∀s∈A,(D s.idx\/s.idx=r.idx)->∀id aM,s.c= .new id aM->D s.idx:=λs hs iF id aM eW=>by
  rcases iF with iF|iF
  .exact iF
  .rw[G.same (by rw[hp.split];simp[hs]) (by rw[hR];simp) iF,hc]at eW;cases eW
 obtain⟨k1,k2⟩:=akP G hp h.t1 h.t0 hR hD hrel (hv ρ' hf);exact⟨h.W,λs hs iF id aM eW=>h.N s hs (hnr s hs iF id aM eW) id aM eW,
  λs hs iF id aM eW s' qw KO xF HX tF=>h.N2 s hs (hnr s hs iF id aM eW) id aM eW s' qw (hnr s' qw KO xF HX tF) xF HX tF,k1,k2,h.E,h.agree⟩
theorem bV.grow{ρ:Pos->Loc}{st:St}{w w':World}(h:bV ρ C st w)(hs:w.heap.size<=w'.heap.size)(hb:∀k,k<w.heap.size->w'.heap[k]? =w.heap[k]?):bV ρ C st w' where
 live b x hx:=let⟨h1,h2,h3⟩:=h.live b x hx;⟨h1,Zd1 h2 hs,h3.of_heap (hb _ h2)⟩
 inj:=h.inj
 dS a v ha:=by
  obtain⟨h1,h2⟩:=h.dS a v ha;exact⟨by rw[World.cell?_of_block (w:=w) (hb _ (World.block_lt_of_cell? _ _ h1))];exact h1,h2⟩
 whole a v ha o ho:=by have ri:a.block<w.heap.size:=World.block_lt_of_cell? _ _ (h.dS a v ha).1;rw[World.cell?_of_block (w:=w) (a:=⟨a.block,o,none⟩) (hb _ ri)];exact h.whole a v ha o ho
theorem apr(G:CH tt nt ops call cW h0 n0 R){nK:Pos->Loc}{w0:World}{D:Nat->Prop}{A B:List Rec}{ρ:Pos->Loc}{a:Act}{w w':World}
   (hI:Inv C nt ops cW h0 n0 R nK w0 D A B ρ a w) {X Y:List Rec} {r:Rec} (hR:R=X++r::Y) (hD:¬D r.idx)
   (ur:∀o e,ops[r.idx]? =some o->e∈o.after->Region.binds .any e=true->D e.on) {o:Oper} (hrel:zh tt nt ops o r.o) {id:Pos} {aM:AB} (hc:r.c= .new id aM) {x:Value} {L:Loc}
   (hL:w.heap.size<=L.aM) (hL':L.aM<w'.heap.size) (hos:w'.os=w.os) (auV:w'.tape=w.tape) (hout:w'.output=w.output) (aps:∀k,k<w.heap.size->w'.heap[k]? =w.heap[k]?)
   (hv:∀ρ',(∀b,Kept n0 R D b->ρ' b=ρ b)->ρ' id=L->aC ρ' r.nx.toNat C r.v x/\tD ρ' r.nx.toNat C L w' aM):
   Inv C nt ops cW h0 n0 R nK w0 (λi=>D i\/i=r.idx) A B (λb=>if b=id then L else ρ b) (a.put o.dst x) w':=by
 obtain⟨hp,hI⟩:=hI;have hrA:r∈A:=by
   have:r∈R:=(by rw[hR];simp);rw[hp.split]at this;exact(Zd5.1 this).resolve_right λh=>hD (hp.inB r h)
 obtain⟨hid,OY⟩:=G.Vx hR hc;have fQ:w.heap.size<=w'.heap.size:=by omega
 refine⟨hp.next G hR ur (by rw[hc];rfl) _ _,λρ' Fs=> ?_⟩;have hkid:Kept n0 R (λi=>D i\/i=r.idx) id:=by
   (intro A' r' B' Tw hD';have cN:r'.idx≠r.idx:=λe=>hD' (.inr e));rcases G.cmp hR Tw cN with⟨Z,rfl⟩|⟨Z,rfl⟩
   .left;have:=G.Rj hR Tw;rw[OY,Pos.aD]at this;omega
   .right;have:=G.JY hR;rw[hid];exact this
 have akQ:ρ' id=L:=by rw[Fs id hkid];simp
 have hf:∀b,Kept n0 R D b->ρ' b=ρ b:=λb hb=>by
   have cN:b≠id:=by
     rintro rfl;rcases hb X r Y hR hD with h|h
     .  rw[hid]at h;omega
     .  rw[OY,Pos.aD]at h;omega
   rw[Fs b (hb.up λ_ h=>.inl h)];exact Za6 cN
 have h:=hI ρ' hf;obtain⟨hv1,OJ⟩:=hv ρ' hf akQ;obtain⟨k1,k2⟩:=akP G hp h.t1 h.t0 hR hD hrel hv1;have afQ:∀s∈A,(D s.idx\/s.idx=r.idx)->D s.idx\/s=r:=λs hs iF=>iF.imp (λh=>h) λiF=>G.same (by rw[hp.split];simp[hs]) (by rw[hR];simp) iF
 refine⟨h.W.grow fQ aps,λs hs iF xF HX eW=> ?_,λs hs iF xF HX eW s' qw KO id'' arF tF cN=> ?_,k1,k2,?_,h.agree⟩
 . rcases afQ s hs iF with iF|rfl
   .obtain⟨g1,g2,g3,g4,g5⟩:=h.N s hs iF xF HX eW;exact⟨g1.of_heap (aps _ g2),by omega,g3,g4,g5⟩
   . rw[hc]at eW;simp only[RC.new.injEq]at eW;obtain⟨rfl,rfl⟩:=eW;rw[akQ];refine⟨OJ,hL',Zb3 h.E.size hL,λb x hb e=> ?_,λad v ha e=> ?_⟩
     .  have:=(h.W.live b x hb).2.1;omega
     .  have:=World.block_lt_of_cell? _ _ (h.W.dS ad v ha).1;omega
 . rcases afQ s hs iF with hDk|rfl
   . rcases afQ s' qw KO with apt|rfl
     .  exact h.N2 s hs hDk xF HX eW s' qw apt id'' arF tF cN
     .  rw[hc]at tF;simp only[RC.new.injEq]at tF;obtain⟨rfl,rfl⟩:=tF;have:=(h.N s hs hDk xF HX eW).2.1;rw[akQ];omega
   . rw[hc]at eW;simp only[RC.new.injEq]at eW;obtain⟨rfl,rfl⟩:=eW;rcases afQ s' qw KO with apt|rfl
     .  have:=(h.N s' qw apt id'' arF tF).2.1;rw[akQ];omega
     .  rw[hc]at tF;simp only[RC.new.injEq]at tF;exact absurd tF.1 cN
 .exact⟨hos.trans h.E.os,auV.trans h.E.tape,hout.trans h.E.output,Zb3 h.E.size fQ,λk hk hn=>by rw[aps k (Zd1 hk h.E.size)];exact h.E.block k hk hn,h.E.yf⟩
theorem akR(G:CH tt nt ops call cW h0 n0 R){nK:Pos->Loc}{w0:World}{D:Nat->Prop}{A B:List Rec}{ρ:Pos->Loc}{a:Act}{w:World}
  (h:Inv0 C cW h0 n0 R nK w0 D A B ρ a w) (atU:R=A++B) {hp:T AB} {N:Pos} (hN:(eH n0 B).toNat<=N.toNat)
  (yp:∀b x,hp.get b=some x->(lJ h0 B).get b=some x\/∃s∈A,D s.idx/\s.c= .new b x/\s.nx.toNat<=N.toNat):bV ρ C { heap:=hp,next:=N } w where
 live b x hb:=by
  rcases yp b x hb with h1|⟨s,hs,hD,hc,hn⟩
  .  obtain⟨g1,g2,g3⟩:=h.W.live b x h1;exact⟨Zd1 g1 hN,g2,g3.mono (λ_ _=>rfl) hN⟩
  .  obtain⟨g1,g2,_⟩:=h.N s hs hD b x hc;obtain⟨M,T,hM⟩:=oW (r:=s) (R:=R) (by rw[atU];simp[hs]);obtain⟨_,e⟩:=G.Vx hM hc;rw[e]at hn;refine⟨?_,g2,g1.mono (λ_ _=>rfl) (by rw[e];exact hn)⟩;rw[Pos.aD]at hn;exact hn
 inj b  b' x x' hb dO he:=by
  rcases yp b x hb with h1|⟨s,hs,hD,hc,hn⟩
  .  rcases yp b' x' dO with h1'|⟨s',qw,hD',Zt,hn'⟩
     .  exact h.W.inj b b' x x' h1 h1' he
     .  exact absurd he ((h.N s' qw hD' b' x' Zt).2.2.2.1 b x h1)
  .  rcases yp b' x' dO with h1'|⟨s',qw,hD',Zt,hn'⟩
     .  exact absurd he.symm ((h.N s hs hD b x hc).2.2.2.1 b' x' h1')
     .  by_cases e:b=b'
        .exact e
        .exact absurd he (h.N2 s hs hD b x hc s' qw hD' b' x' Zt e)
 dS ad v ha:=⟨(h.W.dS ad v ha).1,λb x hb=>by
  rcases yp b x hb with h1|⟨s,hs,hD,hc,hn⟩
  .  exact(h.W.dS ad v ha).2 b x h1
  .  exact(h.N s hs hD b x hc).2.2.2.2 ad v ha⟩
 whole:=h.W.whole
theorem CI:∀{Z B:List Rec}{b:Pos}{x:AB},(∀r∈Z,r.c.pV=false)->MQ B->(lK h0 (Z++B)).get b=some x->
  (lJ h0 B).get b=some x\/∃s∈Z,s.c= .new b x
 |[],B,b,x,_,hB,h=>by
  cases B with
  |nil=>exact .inl h
  | cons r B=>
    simp only[MQ]at hB;(cases hc:r.c<;>rw[hc]at hB<;>first|(cases hB;done)|skip);simp only[Ze0,lK,hc]at h;simp only[lJ,hc];exact .inl h
 |r ::Z,B,b,x,hZ,hB,h=>by
  have ih:=@CI Z B b x (λs hs=>hZ s (Zb0 _ hs)) hB;have hr:=hZ r (Zd6 ..);simp only[Zd7,lK]at h;cases hc:r.c with
  |pure=>rw[hc]at h;exact(ih h).imp (λh=>h) λ⟨s,h1,h2⟩=>⟨s,Zb0 _ h1,h2⟩
  |bh _ _=>rw[hc]at hr;cases hr
  | new id aM=>
    rw[hc]at h;by_cases e:id=b
    .   subst e;rw[T.gy]at h;simp only[H5]at h;subst h;exact .inr ⟨r,Zd6 ..,hc⟩
    .   rw[T.b9 _ e]at h;exact(ih h).imp (λh=>h) λ⟨s,h1,h2⟩=>⟨s,Zb0 _ h1,h2⟩
end
section
variable{P:Program}{tt:TT}{C:Cells}{nt:Nat}{ops:Array Oper}{call:aj}{cW:Fr}{h0:T AB}{n0:Pos}{R:List Rec}
theorem around(G:CH tt nt ops call cW h0 n0 R){D:Nat->Prop}{A B:List Rec}{a:Act}(hp:Pre nt ops R D A B a){X Y:List Rec}{r:Rec}(hR:R=X++r::Y)(hD:¬D r.idx):
  ∃Z,A=X++r::Z/\Y=Z++B:=by
 have hrA:r∈A:=by
  have:r∈R:=by rw[hR];simp
  rw[hp.split]at this;exact(Zd5.1 this).resolve_right λh=>hD (hp.inB r h)
 obtain⟨X',Z,hA⟩:=oW hrA;have h2:R=X'++r::(Z++B):=by rw[hp.split,hA];simp
 obtain⟨rfl,_,rfl⟩:=KN G.one hR h2 rfl;exact⟨Z,hA,rfl⟩
theorem apu(G:CH tt nt ops call cW h0 n0 R){nK:Pos->Loc}{w0:World}{D:Nat->Prop}{A B:List Rec}{ρ:Pos->Loc}{a:Act}{w w':World}
   (hI:Inv C nt ops cW h0 n0 R nK w0 D A B ρ a w) {X Y:List Rec} {r:Rec} (hR:R=X++r::Y) (hD:¬D r.idx)
   (ur:∀o e,ops[r.idx]? =some o->e∈o.after->Region.binds .any e=true->D e.on) {o:Oper} (hrel:zh tt nt ops o r.o)
   (hY:∀s∈Y,D s.idx) {st':St} {b0:T AB} (hc:r.c= .bh b0 st'.heap) (OY:r.nx=st'.next) {x:Value}
   (akS:kV ρ C { heap:=lK h0 Y,next:=eH n0 Y } w r.v st' x w'):
   ∃uW,Inv C nt ops cW h0 n0 R nK w0 (λi=>D i\/i=r.idx) X (r::Y) uW (a.put o.dst x) w':=by
 obtain⟨hp,hI⟩:=hI;obtain⟨jW,hv,hρ1,hle,hW1,hE1⟩:=akS;simp only at hρ1 hle;obtain⟨Z,hA,rfl⟩:=around G hp hR hD;have hZ:∀s∈Z,s.c.pV=false:=λs hs=>hp.inA s (by rw[hA];simp[hs]) (hY s (by simp[hs]))
 have hXA:∀s∈X,s∈A:=λs hs=>by rw[hA];simp[hs]
 have hXD:∀s∈X,(D s.idx\/s.idx=r.idx)->D s.idx:=λs hs h=>h.resolve_right (G.later hR hs)
 have hnB:(eH n0 B).toNat<=(eH n0 (Z++B)).toNat:=G.Gn (X:=X++[r]) (by rw[hR];simp)
 let uW:Pos->Loc:=λb=>if(eH n0 (Z++B)).toNat<=b.toNat/\b.toNat<r.nx.toNat then jW b else ρ b
 have agw:∀b:Pos,b.toNat<(eH n0 (Z++B)).toNat->Kept n0 R D b:=by
   intro b hb M s T hM iF;left;by_cases hi:s.idx=r.idx
   .obtain⟨_,_,rfl⟩:=KN G.one hM hR hi;exact hb
   . rcases G.cmp hR hM hi with⟨W,rfl⟩|⟨W,hW⟩
     .  have:=G.Rj hR hM;have:=G.arD hR;omega
     .  exact absurd (hY s (by rw[hW];simp)) iF
 refine⟨uW,⟨by rw[hR],by simp[MQ,hc,RC.pV],?_,?_,?_,by rw[Act.j7];exact hp.size,by rw[Act.mC];exact hp.defers⟩,λρ' Fs=> ?_⟩
 . intro s hs;rcases Za9.1 hs with rfl|hs
   .exact .inr rfl
   .exact .inl (hY s hs)
 .intro s hs iF;exact hp.inA s (hXA s hs) (hXD s hs iF)
 . intro i o' e hDi ho he hb;rcases hDi with hDi|rfl
   .exact .inl (hp.closed i o' e hDi ho he hb)
   .exact .inl (ur o' e ho he hb)
 have auW:∀b:Pos,b.toNat<r.nx.toNat->Kept n0 R (λi=>D i\/i=r.idx) b:=by
   (intro b hb M s T hM iF;left;have hi:s.idx≠r.idx:=λe=>iF (.inr e));rcases G.cmp hR hM hi with⟨W,rfl⟩|⟨W,hW⟩
   .exact Zd1 hb (G.Rj hR hM)
   .exact absurd (.inl (hY s (by rw[hW];simp))) iF
 have hf:∀b,Kept n0 R D b->ρ' b=ρ b:=λb hb=>by rw[Fs b (hb.up λ_ h=>.inl h)];refine Za6 ?_;rintro⟨g1,g2⟩;rcases hb X r _ hR hD with h|h<;>omega
 have h:=hI ρ' hf;have h12:∀b:Pos,b.toNat<r.nx.toNat->ρ' b=jW b:=by
   intro b hb;rcases Zj2 b.toNat (eH n0 (Z++B)).toNat with g|g
   .rw[hf b (agw b g),hρ1 b g]
   .rw[Fs b (auW b hb)];exact Zb4 ⟨g,hb⟩
 have ON:aC ρ' r.nx.toNat C r.v x:=by
   rw[OY]at h12 ⊢;exact hv.mono h12 (Za3 _)
 have ji:bV ρ' C { heap:=st'.heap,next:=r.nx } w':=by rw[OY]at h12 ⊢;exact hW1.congr h12
 have hold:∀s∈X,D s.idx->∀id aM,s.c= .new id aM->∀b y,(lK h0 (Z++B)).get b=some y->(ρ b).aM≠(ρ' id).aM:=by
   intro s hs iF id aM eW b y hb;obtain⟨g1,g2,g3,g4,g5⟩:=h.N s (hXA s hs) iF id aM eW;obtain⟨M,T,hM⟩:=oW (r:=s) (R:=R) (by rw[hR];simp[hs]);rcases CI hZ hp.bound hb with hb|⟨s',qw,tF⟩
   .rw[<-hf b (agw b (Zd1 (h.W.live b y hb).1 hnB))];exact g4 b y hb
   . obtain⟨Z1,Z2,rfl⟩:=oW qw;have hM':R=(X++r::Z1)++s'::(Z2++B):=(by rw[hR];simp);obtain⟨e1,e2⟩:=G.Vx hM' tF;obtain⟨e3,e4⟩:=G.Vx hM eW;have hbn:b.toNat<(eH n0 ((Z1++s'::Z2)++B)).toNat:=(by have:=G.JY (X:=X) (r:=r) (Z:=Z1) (r':=s') (Y':=Z2++B) (by rw[hR];simp);rw[e2,Pos.aD]at this;simp only[Zf7,Zd7];omega);have hsr:s.idx≠r.idx:=G.later hR hs;have hid:r.nx.toNat<=id.toNat:=by
        rcases G.cmp hR hM hsr with⟨W,rfl⟩|⟨W,hW⟩
        .rw[e3];exact G.Rj hR hM
        .obtain⟨A1,A2,hX⟩:=oW hs;have hM2:R=A1++s::(A2++r::((Z1++s'::Z2)++B)):=(by rw[hR,hX];simp);have sJ:s∈(Z1++s'::Z2)++B:=(by rw[hW];simp);exact absurd rfl (G.one A1 s _ hM2 s (Zd5.2 (.inr (Zb0 _ sJ))))
     have cN:b≠id:=(by rintro rfl;have:=G.arD hR;omega);rw[<-hf b (agw b hbn)];exact h.N2 s' (by rw[hA];simp) (hY s' (by simp)) b y tF s (hXA s hs) iF id aM eW cN
 have hEa:oJ nK { heap:=h0,next:=n0 } w0 ρ { heap:=lK h0 (Z++B),next:=eH n0 (Z++B) } w:=by
   refine⟨h.E.os,h.E.tape,h.E.output,h.E.size,h.E.block,λb y hb=> ?_⟩;rcases CI hZ hp.bound hb with hb|⟨s',qw,tF⟩
   .rw[<-hf b (agw b (Zd1 (h.W.live b y hb).1 hnB))];exact h.E.yf b y hb
   .obtain⟨Z1,Z2,rfl⟩:=oW qw;have hM':R=(X++r::Z1)++s'::(Z2++B):=(by rw[hR];simp);obtain⟨e1,e2⟩:=G.Vx hM' tF;have hbn:b.toNat<(eH n0 ((Z1++s'::Z2)++B)).toNat:=(by have:=G.JY (X:=X) (r:=r) (Z:=Z1) (r':=s') (Y':=Z2++B) (by rw[hR];simp);rw[e2,Pos.aD]at this;simp only[Zf7,Zd7];omega);rw[<-hf b (agw b hbn)];exact .inr (h.N s' (by rw[hA];simp) (hY s' (by simp)) b y tF).2.2.1
 obtain⟨k1,k2⟩:=akP G hp h.t1 h.t0 hR hD hrel ON;refine⟨?_,λs hs iF id aM eW=> ?_,λs hs iF id aM eW s' qw KO xF HX tF cN=> ?_,k1,k2,?_,h.agree⟩
 .simp only[lJ,hc,eH];exact ji
 . have iF:=hXD s hs iF;obtain⟨g1,g2,g3,g4,g5⟩:=h.N s (hXA s hs) iF id aM eW;refine⟨g1.of_heap (hE1.block _ g2 (hold s hs iF id aM eW)),Zd1 g2 hE1.size,g3,λb y hb=> ?_,g5⟩;simp only[lJ,hc]at hb;rw[h12 b (by rw[OY];exact(hW1.live b y hb).1)];rcases hE1.yf b y hb with⟨b',y',dO,e⟩|e
   .rw[<-e];exact hold s hs iF id aM eW b' y' dO
   .omega
 .exact h.N2 s (hXA s hs) (hXD s hs iF) id aM eW s' (hXA s' qw) (hXD s' qw KO) xF HX tF cN
 . have:=(hEa.trans hE1).congr (ρ':=ρ') λb y hb=>h12 b (by rw[OY];exact(hW1.live b y hb).1)
   simp only[lJ,hc,eH];exact⟨this.os,this.tape,this.output,this.size,this.block,this.yf⟩
end
section
variable{P:Program}{tt:TT}{C:Cells}{nt:Nat}{ops:Array Oper}{call:aj}{cW:Fr}{h0:T AB}{n0:Pos}{R:List Rec}
theorem Gp{ρ:Pos->Loc}{n:Pos}{w:World}(hC:∀ad v,C ad=some v->w.cell? ad=some v)(hC2:∀a v,C a=some v->∀o,C ⟨a.block,o,none⟩=none->w.cell? ⟨a.block,o,none⟩=none):bV ρ C { heap:= .e,next:=n } w where
 live b x hb:=by rw[T.dN]at hb;cases hb
 inj b b' x x' hb:=by rw[T.dN]at hb;cases hb
 dS a v ha:=⟨hC a v ha,λb x hb=>by rw[T.dN]at hb;cases hb⟩
 whole:=hC2
theorem Yields.eq{N:Next}{x y:Value}(h:Yields N x)(k:Yields N y):x=y:=by
 rcases h with rfl|⟨rfl,rfl⟩<;>rcases k with k|⟨k,rfl⟩
 .simp only[Next.value.injEq]at k;exact k
 .cases k
 .cases k
 .rfl
theorem amJ(hT:dh P tt){o:Oper}{k:aE}{xs:List gX}{cls:Cls}(hc:j9 tt o.op=some (k,xs,cls)){n:Pos}{vs:List AV}{v:AV}{aM:AB}
  (hr:k.run (λ_=>none) n vs=some (.bh v none none (some aM))) {fr:Fr} (hx:fP fr xs=some vs) {a:Act} {w:World} {Fam:(Pos->Loc)->Prop} {ρ:Pos->Loc} (bE:Fam ρ)
  (hF:∀ρ',Fam ρ'->kQ ρ' n.toNat C fr a.tmps) (hC:∀ad v,C ad=some v->w.cell? ad=some v) (hC2:∀a v,C a=some v->∀o,C ⟨a.block,o,none⟩=none->w.cell? ⟨a.block,o,none⟩=none):
  ∃ N x w' L,(execOp a.eval o).run P w= .ok N w'/\Yields N x/\w.heap.size<=L.aM/\L.aM<w'.heap.size/\w'.os=w.os/\w'.tape=w.tape/\w'.output=w.output/\
    (∀k,k<w.heap.size->w'.heap[k]? =w.heap[k]?)/\∀ρ',Fam ρ'->ρ' n=L->aC ρ' n.succ.toNat C v x/\tD ρ' n.succ.toNat C L w' aM:=by
 have dJ:k.run (λb=>T.get b (T.e:T AB)) n vs=some (.bh v none none (some aM)):=by
  have e:(λb=>T.get b (T.e:T AB))=λ_=>none:=by funext b;exact T.dN b
  rw[e];exact hr
 have H:=λρ' (hf:Fam ρ')=>Yb hT o.op ρ' C { heap:= .e,next:=n } w k xs cls fr a o vs _ rfl hc (Gp hC hC2) (hF ρ' hf) hx dJ
 have key:∀ρ',Fam ρ'->∃N x w' jW,(execOp a.eval o).run P w= .ok N w'/\Yields N x/\(∀b:Pos,b.toNat<n.toNat->jW b=ρ' b)/\aC jW n.succ.toNat C v x/\
    tD jW n.succ.toNat C (jW n) w' aM/\w.heap.size<=(jW n).aM/\(jW n).aM<w'.heap.size/\w'.os=w.os/\w'.tape=w.tape/\w'.output=w.output/\
    (∀k,k<w.heap.size->w'.heap[k]? =w.heap[k]?):=by
  intro ρ' hf;obtain⟨N,x,w',jW,he,hy,h1,h2,h3,h4⟩:=H ρ' hf;have hg:(St.bh { heap:= .e,next:=n } none none (some aM)).heap.get n=some aM:=T.gy _ _ _;obtain⟨g1,g2,g3⟩:=h2.live n aM hg;refine⟨N,x,w',jW,he,hy,h1,h3,g3,?_,g2,h4.os,h4.tape,h4.output,λk hk=>h4.block k hk λb x hb=> ?_⟩
  . rcases h4.yf n aM hg with⟨b',x',dO,_⟩|h
    .   rw[T.dN]at dO;cases dO
    .   exact h
  .rw[T.dN]at hb;cases hb
 obtain⟨N,x,w',jW,he,hy,h1,h2,h3,h4,h5,h6,h7,h8,h9⟩:=key ρ bE;refine⟨N,x,w',jW n,he,hy,h4,h5,h6,h7,h8,h9,λρ' hf hL=> ?_⟩;obtain⟨N',x',w'',uW,rf,hy',k1,k2,k3,_⟩:=key ρ' hf;rw[he]at rf;simp only[Result.ok.injEq]at rf;obtain⟨rfl,rfl⟩:=rf;have hxx:=hy.eq hy';subst hxx;have arG:n.toNat<n.succ.toNat:=by rw[Pos.aD];omega
 have agree:(uW n).aM=(jW n).aM->(uW n).base=(jW n).base->(∃cs fz,aM= .cells cs fz)->aC ρ' n.succ.toNat C v x/\tD ρ' n.succ.toNat C (jW n) w' aM:=by
  intro e1 e2 Cv;have e3:(uW n).size=(jW n).size:=by
    obtain⟨cs,fz,rfl⟩:=Cv;obtain⟨c,e,fr,g1,g2,_⟩:=h3;obtain⟨c',e',bI,g1',g2',_⟩:=k3;rw[e1,g1]at g1';simp only[H5,Obj.cells.injEq]at g1';rw[<-g2, <-g2',g1'.1]
  have e4:uW n=jW n:=by
    cases hh:uW n;cases hh':jW n;rw[hh,hh']at e1 e2 e3;simp only at e1 e2 e3;rw[e1,e2,e3]
  have o8:∀b:Pos,b.toNat<n.succ.toNat->ρ' b=uW b:=by
    intro b hb;rcases Zj2 b.toNat n.toNat with g|g
    .   exact(k1 b g).symm
    .   have:b=n:=Pos.toNat_inj (by rw[Pos.aD]at hb;omega);subst this;rw[hL,e4]
  refine⟨k2.mono o8 (Za3 _),?_⟩;rw[<-e4];exact k3.mono o8 (Za3 _)
 cases ar9 hr with
 |ptr cs=>
  obtain⟨_,g1⟩:=h2.qj;obtain⟨_,g2⟩:=k2.qj;rw[g1]at g2;simp only[Value.pointer.injEq,H5,Addr.mk.injEq,Zf5,Zn5]at g2;exact agree g2.1.symm g2.2.symm ⟨cs,0,rfl⟩
 |slice len es cap cs eW=>
  obtain⟨ad,bn,g1,g2,g3,g4⟩:=h2.fA;obtain⟨ad',arH,g1',g2',g3',g4'⟩:=k2.fA;rw[g1]at g1';simp only[Value.slice.injEq,H5,Zr1]at g1';obtain⟨rfl,rfl⟩:=g1';by_cases h0:bn=0
  . subst h0;have hl0:len=0:=(by omega);have hcs0:cs=[]:=eW hl0 (by
        cases cap with
        |none=>exact .inl rfl
        |some c=>exact .inr (by rw[g3 c rfl]))
    subst hcs0;refine⟨?_,?_⟩
    .   rw[g1];exact .slice n 0 len cap es 0 ad g2 g3 (λh=>absurd rfl h) (λ_=>arG)
    .   obtain⟨c,e,fr,q1,q2,q3,q4,q5⟩:=h3;exact⟨c,e,fr,q1,q2,q3,aJ.nil,q5⟩
  .obtain⟨_,a1,_⟩:=g4 h0;obtain⟨_,a2,_⟩:=g4' h0;rw[a1]at a2;simp only[Addr.mk.injEq,Zf5,Zn5]at a2;exact agree a2.1.symm a2.2.symm ⟨cs,0,rfl⟩
 |map=>
  obtain⟨_,g1⟩:=h2.BP;refine⟨?_,?_⟩
  .rw[g1, <-hL];exact .map n arG
  .obtain⟨es',q1,q2,q3⟩:=h3;exact⟨es',q1,q2,λi e e' he=>by simp at he⟩
end
section
variable{P:Program}{tt:TT}{C:Cells}{nt:Nat}{ops:Array Oper}{call:aj}{cW:Fr}{h0:T AB}{n0:Pos}{R:List Rec}
def Ap(fr:Fr):List Pos->Fr
 |[]=>.e
 |p::l=>(Ap fr l).put (fr.get p) p
theorem aek{fr:Fr}{p:Pos}:∀{l:List Pos},p∈l->(Ap fr l).get p=fr.get p
 |[],h=>by cases h
 |q ::l,h=>by
  simp only[Ap];by_cases e:q=p
  .subst e;exact T.gy _ _ _
  .rw[T.b9 _ e];exact aek ((Za9.1 h).resolve_left λh=>e h.symm)
theorem Zy{fr:Fr}{p:Pos}{v:AV}:∀{l:List Pos},(Ap fr l).get p=some v->p∈l/\fr.get p=some v
 |[],h=>by simp only[Ap]at h;rw[T.dN]at h;cases h
 |q ::l,h=>by
  simp only[Ap]at h;by_cases e:q=p
  .subst e;rw[T.gy]at h;exact⟨by simp,h⟩
  .rw[T.b9 _ e]at h;obtain⟨h1,h2⟩:=Zy h;exact⟨by simp[h1],h2⟩
theorem ael{fr:Fr}{l:List Pos}:∀{xs:List gX},(∀p,gX.t p∈xs->p∈l)->fP (Ap fr l) xs=fP fr xs
 |[],_=>rfl
 |x::xs,h=>by
  have h1:Gg (Ap fr l) x=Gg fr x:=by
   cases x with
   |t p=>exact aek (h p (by simp))
   |c v=>rfl
  simp only[fP,h1,ael λp hp=>h p (Zb0 _ hp)]
theorem amK{o:bS}{p:Pos}(h:gX.t p∈o.xs):p∈o.looks:=by
 unfold bS.looks;exact List.mem_append_right _ (List.mem_filterMap.2 ⟨_,h,rfl⟩)
theorem aiS{o:bS}{p:Pos}{q:Bool}(h:o.guard=some (p,q)):p∈o.looks:=by unfold bS.looks;rw[h];simp
theorem Yields.upon{o:Oper}{a:Act}{K:Act->World->Prop}{Q:Exit->Act->World->Prop}{N:Next}{x:Value}{w:World}(h:Yields N x)(hk:K (a.put o.dst x) w):o.upon P a K Q (.ok N w):=by rcases h with rfl|⟨rfl,rfl⟩<;>exact hk
theorem apv(hT:dh P tt)(dD:iX P C call)(G:CH tt nt ops call cW h0 n0 R){Q:Exit->Act->World->Prop}{nK:Pos->Loc}{w0:World}{D:Nat->Prop}{A B:List Rec}{ρ:Pos->Loc}{a:Act}{w:World}
  (hI:Inv C nt ops cW h0 n0 R nK w0 D A B ρ a w) {i:Nat} (hi:i<ops.size) (hD:¬D i)
  (ur:∀o e,ops[i]? =some o->e∈o.after->Region.binds .any e=true->D e.on):
  wpOp P ops Q i (λa' w'=>∃A' B' ρ',Inv C nt ops cW h0 n0 R nK w0 (λj=>D j\/j=i) A' B' ρ' a' w') a w:=by
 obtain⟨r,hr,rfl⟩:=G.all i hi;obtain⟨X,Y,hR⟩:=oW hr;obtain⟨o,ho,hrel,hB⟩:=G.rel r hr;have hp:=hI.1;have adb:∀b,r.o.cg.testBit b=true->D b:=λb hb=>G.abI hp.closed (hB.2 b hb) ur
 obtain⟨Z,hA,hYZ⟩:=around G hp hR hD;have Rk:∀ρ',(∀b,Kept n0 R D b->ρ' b=ρ b)->∀p v,p∈r.o.looks->(qx cW Y).get p=some v->∃x,a.tmps[p.toNat - 1]? =some x/\aC ρ' (eH n0 Y).toNat C v x:=
  λρ' hf p v hl hv=>look G hp (hI.2 ρ' hf).t1 (hI.2 ρ' hf).t0 hR hD adb hl hv
 have hFR:∀ρ',(∀b,Kept n0 R D b->ρ' b=ρ b)->kQ ρ' (eH n0 Y).toNat C (Ap (qx cW Y) r.o.looks) a.tmps:=λρ' hf p v hv=>
  let⟨h1,h2⟩:=Zy hv;Rk ρ' hf p v h1 h2
 have Rm:∀b,Kept n0 R D b->ρ b=ρ b:=λ_ _=>rfl
 have hw:∀b,cJ (qx cW Y) r.o.guard=some b->Region.wanted o (yielded ops a.tmps)=b:=λb hb=>
  KJ hrel.guard (λp v hv ⟨q,hq⟩=>Rk ρ Rm p v (aiS hq) hv) hb
 have hnZ:∀s∈Z,s.nx.toNat<=(eH n0 Y).toNat:=λs hs=>by obtain⟨Z1,Z2,rfl⟩:=oW hs;have:=G.JY (X:=X) (r:=r) (Z:=Z1) (r':=s) (Y':=Z2++B) (by rw[hR,hYZ];simp);rw[hYZ];simp only[Zf7,Zd7];exact this
 have hnB:(eH n0 B).toNat<=(eH n0 Y).toNat:=by rw[hYZ];exact G.Gn (X:=X++[r]) (by rw[hR,hYZ];simp)
 have hs:=Good.at (hR ▸G.aaw);have hex:∀xs,fP (qx cW Y) r.o.xs=some xs->fP (Ap (qx cW Y) r.o.looks) r.o.xs=some xs:=λxs hx=>by rw[ael λp hp=>amK hp];exact hx
 unfold wpOp;simp only[ho];generalize hrr:r=r0 at*
 cases hs with
 |skip i' o' _ hw'=>
  rw[Za6 (by rw[hw _ hw'];simp)];exact⟨A,B,ρ,aej G hI hR hD ur hrel rfl λρ' _=>.aef⟩
 |pure i' o' v xs _ hw' hx Zw=>
  rw[Zb4 (hw _ hw')];refine .inl ?_;rw[hYZ]at Zw;obtain⟨h,yp,dJ⟩:=Zw Z B rfl hp.bound λs hs he=>by
    cases hb:o'.cg.testBit s.idx with
    |false=>rfl
    |   true=>
        have h1:=hp.inA s (by rw[hA];simp[hs]) (adb _ hb);rw[h1]at he;cases he
  rcases hrel.op with hc|⟨hk,_⟩
  . have H:∀ρ',(∀b,Kept n0 R D b->ρ' b=ρ b)->∃N x,(execOp a.eval o).run P w= .ok N w/\Yields N x/\aC ρ' (eH n0 Y).toNat C v x:=by
        intro ρ' hf;have hW:=akR G (hI.2 ρ' hf) hp.split (hp:=h) hnB λb y hb=>(yp b y hb).imp (λh=>h) λ⟨s,h1,h2,h3⟩=>
          ⟨s,by rw[hA];simp[h1],adb _ h3,h2,hnZ s h1⟩
        exact Yb hT o.op ρ' C _ w _ _ _ _ a o _ _ rfl hc hW (hFR ρ' hf) (hex xs hx) (apn dJ λ_ _ h=>h)
    obtain⟨N,x,he,hy,hv⟩:=H ρ Rm;unfold Oper.wp;rw[he];refine hy.upon ⟨A,B,ρ,aej G hI hR hD ur hrel rfl λρ' hf=> ?_⟩;obtain⟨N',x',rf,hy',ON⟩:=H ρ' hf;rw[he]at rf;simp only[Result.ok.injEq,Zn5]at rf;subst rf;rw[hy.eq hy'];exact ON
  .rw[hk]at dJ;cases dJ
 |new   i' o' v aM xs _ hw' hx dJ=>
  rw[Zb4 (hw _ hw')];refine .inl ?_;rcases hrel.op with hc|⟨hk,_⟩
  . obtain⟨N,x,w',L,he,hy,h1,h2,h3,h4,h5,h6,h7⟩:=amJ hT hc dJ (hex xs hx) (Fam:=λρ'=>∀b,Kept n0 R D b->ρ' b=ρ b) Rm hFR
        (λad v ha=>((hI.2 ρ Rm).W.dS ad v ha).1) (hI.2 ρ Rm).W.whole
    unfold Oper.wp;rw[he];exact hy.upon ⟨A,B,_,apr G hI hR hD ur hrel rfl h1 h2 h3 h4 h5 h6 h7⟩
  .rw[hk]at dJ;cases dJ
 |bh i' o' v st' xs _ apo hw' hx iY=>
  rw[Zb4 (hw _ hw')];refine .inl ?_;rcases hrel.op with hc|⟨hk,_⟩
  . have hY:∀s∈Y,D s.idx:=λs hs=>adb _ (G.bh X _ Y hR apo s hs)
    have hZ:∀s∈Z,s.c.pV=false:=λs hs=>hp.inA s (by rw[hA];simp[hs]) (hY s (by rw[hYZ];simp[hs]))
    have hW:bV ρ C { heap:=lK h0 Y,next:=eH n0 Y } w:=akR G (hI.2 ρ Rm) hp.split hnB λb y hb=>by
        rw[hYZ]at hb;rcases CI hZ hp.bound hb with hb|⟨s,h1,h2⟩
        .exact .inl hb
        .exact .inr ⟨s,by rw[hA];simp[h1],hY s (by rw[hYZ];simp[h1]),h2,hnZ s h1⟩
    have hre:=Zu hT dD hc hW (hFR ρ Rm) (hex xs hx) iY;(refine hre.upon λx w' akS=> ?_);obtain⟨uW,h⟩:=apu G hI hR hD ur hrel hY rfl rfl akS;exact⟨_,_,uW,h⟩
  .exact(Reaches.bad hk iY).elim
end
section
variable{P:Program}{tt:TT}{C:Cells}{nt:Nat}{ops:Array Oper}{call:aj}{cW:Fr}{h0:T AB}{n0:Pos}{R:List Rec}
theorem aem(G:CH tt nt ops call cW h0 n0 R){nK:Pos->Loc}{w0:World}{D:Nat->Prop}{A B:List Rec}{ρ:Pos->Loc}{a:Act}{w:World}
   (hI:Inv C nt ops cW h0 n0 R nK w0 D A B ρ a w) (o8:∀r∈R,D r.idx):kJ nt nK C { heap:=h0,next:=n0 } w0 (qx cW R) { heap:=lK h0 R,next:=eH n0 R } a w:=by
 obtain⟨hp,hI⟩:=hI;have h:=hI ρ λ_ _=>rfl
 have hZ:∀s∈A,s.c.pV=false:=λs hs=>hp.inA s hs (o8 s (by rw[hp.split];simp[hs]))
 have hnA:∀s∈A,s.nx.toNat<=(eH n0 R).toNat:=λs hs=>by obtain⟨Z1,Z2,hA⟩:=oW hs;have:=G.Gn (X:=[]) (Y:=Z1) (Z:=s::(Z2++B)) (by rw[hp.split,hA];simp);have e:R=Z1++s::(Z2++B):=(by rw[hp.split,hA];simp);rw[<-e]at this;exact this
 have hnB:(eH n0 B).toNat<=(eH n0 R).toNat:=by
   have:=G.Gn (X:=[]) (Y:=A) (Z:=B) (by rw[hp.split];simp)
   rwa [<-hp.split]at this
 have OV:n0.toNat<=(eH n0 R).toNat:=G.akO (X:=[]) rfl;have yp:∀b x,(lK h0 R).get b=some x->(lJ h0 B).get b=some x\/∃s∈A,D s.idx/\s.c= .new b x/\s.nx.toNat<=(eH n0 R).toNat:=λb x hb=>by
   rw[hp.split]at hb;rcases CI hZ hp.bound hb with hb|⟨s,h1,h2⟩
   .exact .inl hb
   .exact .inr ⟨s,h1,o8 s (by rw[hp.split];simp[h1]),h2,hnA s h1⟩
 refine⟨ρ,⟨akR G h hp.split hnB yp,?_,hp.size,hp.defers⟩,h.agree,OV,?_⟩
 . intro p v hv;rcases Vt R p v hv with⟨M,s,T,hM,h2,rfl,h3⟩|⟨h1,h2⟩
   . obtain⟨x,hx,Vu⟩:=h.t1 M s T p hM (o8 s (by rw[hM];simp)) h2 λs' qw _=>h3 s' qw
     refine⟨x,hx,Vu.mono (λ_ _=>rfl) ?_⟩;have:=G.Gn (X:=[]) (Y:=M) (Z:=s::T) (by rw[hM];simp);rw[<-hM]at this;exact this
   . obtain⟨x,hx,Vu⟩:=h.t0 p v h1 λs hs _=>h2 s hs
     exact⟨x,hx,Vu.mono (λ_ _=>rfl) OV⟩
 . refine⟨h.E.os,h.E.tape,h.E.output,h.E.size,h.E.block,λb x hb=> ?_⟩;rcases yp b x hb with hb|⟨s,h1,h2,h3,_⟩
   .exact h.E.yf b x hb
   .exact .inr (h.N s h1 h2 b x h3).2.2.1
def DL(listed:Array Bool)(j:Nat):Prop:=listed.getD j false=true
theorem amL{listed:Array Bool}{i:Nat}(hi:i<listed.size):(λj=>DL listed j\/j=i)=DL (listed.setIfInBounds i true):=by
 funext j;apply propext;unfold DL;by_cases h:j=i
 .subst h;simp[hi]
 .rw[getD_set_ne false (Ne.symm h)];simp[h]
theorem agx{listed:Array Bool}{j:Nat}(h:listed.getD j true=false):¬DL listed j:=by
 unfold DL;intro h';rcases Zj2 j listed.size with hj|hj
 .simp[hj]at h h';rw[h]at h';cases h'
 .simp[Array.getElem?_eq_none hj]at h'
theorem asb{listed:Array Bool}{j:Nat}(hj:j<listed.size)(h:¬DL listed j):listed.getD j true=false:=by unfold DL at h;simp[hj]at h ⊢; exact h
theorem Vy(G:CH tt nt ops call cW h0 n0 R){listed:Array Bool}(hs:listed.size=ops.size)(hr:Region.ready .any ops listed=[]):∀(Y X:List Rec),R=X++Y->∀r∈Y,DL listed r.idx
 |[],_,_,r,oK=>by cases oK
 |r ::Y  ,X,hR,r',oK=>by
  have ih:=Vy G hs hr Y (X++[r]) (by rw[hR];simp);rcases Za9.1 oK with rfl|oK
  . obtain⟨o,ho,_,hB⟩:=G.rel r' (by rw[hR];simp);have aV:r'.idx<ops.size:=(Zd2.1 ho).1;by_cases h:DL listed r'.idx
    .   exact h
    .   exfalso;have:r'.idx∈Region.ready .any ops listed:=mem_ready.2 ⟨asb (by omega) h,o,ho,λe he hb=>by obtain⟨s,h1,h2⟩:=G.cg X r' Y hR _ (hB.1 o ho e he hb);have:=ih s h1;rw[h2]at this;exact this⟩;rw[hr]at this;cases this
  .exact ih r' oK
theorem aen(hT:dh P tt)(dD:iX P C call)(G:CH tt nt ops call cW h0 n0 R){Q:Exit->Act->World->Prop}{nK:Pos->Loc}{w0:World}
  (hQ:∀a' w',kJ nt nK C { heap:=h0,next:=n0 } w0 (qx cW R) { heap:=lK h0 R,next:=eH n0 R } a' w'->Q .normal a' w'):
  ∀ (fuel:Nat)(listed:Array Bool)(U:List Nat)(A B:List Rec)(ρ:Pos->Loc)(a:Act)(w:World),listed.size=ops.size->U.length<=fuel->U.Nodup->(∀j,j<ops.size->¬DL listed j->j∈U)->
    Inv C nt ops cW h0 n0 R nK w0 (DL listed) A B ρ a w->wpAny P .any ops Q fuel listed a w
 |0,listed,U,A,B,ρ,a,w,hs,hU,_,hm,hI=>by
  have hU0:U=[]:=Zc0 (by omega);subst hU0;have hr:Region.ready .any ops listed=[]:=by
    cases h:Region.ready .any ops listed with
    |nil=>rfl
    |   cons i l=>
        have hi:i∈Region.ready .any ops listed:=(by rw[h];simp);obtain⟨h1,o,ho,_⟩:=mem_ready.1 hi;have:=hm i (Zd2.1 ho).1 (agx h1);cases this
  exact⟨hr,hQ a w (aem G hI (Vy G hs hr R [] rfl))⟩
 |fuel+1,listed,U,A,B,ρ,a,w,hs,hU,hnd,hm,hI=>by
  refine⟨λhr=>hQ a w (aem G hI (Vy G hs hr R [] rfl)),λi hi=> ?_⟩;obtain⟨h1,o,ho,h2⟩:=mem_ready.1 hi;have aV:i<ops.size:=(Zd2.1 ho).1;have iY:=apv (Q:=Q) hT dD G hI aV (agx h1) λo' e MO he hb=>by rw[ho]at MO;simp only[H5]at MO;subst MO;exact h2 e he hb
  refine wpOp_mono (λa' w' hh=> ?_) iY;obtain⟨A',B',ρ',hI'⟩:=hh;rw[amL (by omega)]at hI';have hiU:i∈U:=hm i aV (agx h1);refine aen hT dD G hQ fuel _ (U.erase i) A' B' ρ' a' w' (by simp[hs]) ?_ (hnd.erase i) (λj hj hD=> ?_) hI'
  .rw[List.length_erase_of_mem hiU];omega
  . (rw[<-amL (by omega)]at hD;have cN:j≠i:=λe=>hD (.inr e));exact(List.mem_erase_of_ne cN).2 (hm j hj λh=>hD (.inl h))
theorem Rn(hm:P.follows .mixedOrders=true)(hT:dh P tt)(dD:iX P C call)(akT:o9 call):ym P tt C call:=by
 intro nt id ops l Q fr bI st st' ρ a w hl cw h hS hQ;obtain⟨R,hG,hmap,EF,auX,OY⟩:=abH (call:=call) (cW:=fr) (h0:=st.heap) (n0:=st.next) _ [] fr bI st st' h trivial rfl rfl rfl;simp only[Ze1]at hG EF auX OY;have hst':st'={ heap:=lK st.heap R,next:=eH st.next R }:=by cases st';simp_all
 have hlen:l.length=ops.size:=by rw[(wO hl).1,Zi0]
 have abJ:=Zx _ 0 [] cw λb=>by simp
 have hL:A4 (KC 0 l) []=(R.map λr=>(r.idx,r.o)).reverse:=by rw[hmap,List.reverse_reverse]
 have dec:∀{A B:List Rec}{r:Rec},R=A++r::B->A4 (KC 0 l) []=(B.map λr=>(r.idx,r.o)).reverse++(r.idx,r.o)::(A.map λr=>(r.idx,r.o)).reverse:=λe=>by rw[hL,e];simp
 have CJ:∀{B:List Rec}{i:Nat},i∈((B.map λr=>(r.idx,r.o)).reverse).map (·.1)↔ ∃r∈B,r.idx=i:=λ{B i}=>by simp
 have G:CH tt nt ops call fr st.heap st.next R:=by
   refine⟨hG,akT,λA r B e r' oK hi=> ?_,λA r B e b hb=> ?_,λA r B e hc r' oK=> ?_,λA r B e r' oK=> ?_,λr hr=> ?_,λi hi=> ?_⟩
   .exact(abJ.one _ _ _ _ (dec e)).2 (CJ.2 ⟨r',oK,hi⟩)
   . rcases abJ.cg _ _ _ _ (dec e) b hb with h|h
     .cases h
     .exact CJ.1 h
   .exact abJ.bh _ _ _ _ (dec e) hc _ (.inr (CJ.2 ⟨r',oK,rfl⟩))
   .exact abJ.apart _ _ _ _ (dec e) (r'.idx,r'.o) (by simp;exact⟨r',oK,rfl,rfl⟩)
   .obtain⟨A,B,e⟩:=oW hr;have hx:(r.idx,r.o)∈A4 (KC 0 l) []:=(by rw[dec e];simp);have h1:=asa hx;obtain⟨o,h2,h3,h4⟩:=Rb hl _ _ h1;refine⟨o,h2,h3,?_⟩;rw[h4];exact ajw ops.toList [] rfl (Zi1 _) (λi hi=>by simp at hi) _ (Zd2.1 h2).1
   . rcases abJ.all i (by rw[hlen];exact hi)with h|h
     .cases h
     .rw[hL]at h;exact CJ.1 h
 refine wp_region_any hm ?_;rw[hst',EF]at hQ;have hkn:∀b:Pos,b.toNat<st.next.toNat->∀D,Kept st.next R D b:=λb hb D A r B e _=>.inl (Zd1 hb (G.akO (X:=A++[r]) (by rw[e];simp)))
 refine aen (Q:=Q) (nK:=ρ) (w0:=w) hT dD G hQ ops.size _ (List.range ops.size) R [] ρ a _ (by simp) (by simp) List.nodup_range (λj hj _=>Zg3.2 hj) ?_;have lF:∀j,¬DL (Array.replicate ops.size false) j:=λj h=>by
   unfold DL at h;rcases Zj2 j ops.size with hj|hj
   .simp[hj]at h
   .simp[Nat.not_lt.2 hj]at h
 refine⟨⟨by simp,trivial,(λr hr=>by cases hr),λr _ hD=>absurd hD (lF _),λi _ _ hD=>absurd hD (lF _),hS.size,hS.defers⟩,λρ' Fs=> ?_⟩;have xG:∀b:Pos,b.toNat<st.next.toNat->ρ' b=ρ b:=λb hb=>Fs b (hkn b hb _)
 have hW:bV ρ' C st { w with drawn:=w.drawn+1 }:=(hS.W.congr xG).grow (Za3 _) λ_ _=>rfl
 refine⟨hW,λr _ hD=>absurd hD (lF _),λr _ hD=>absurd hD (lF _),λM s T p _ hD=>absurd hD (lF _),λp v hv _=> ?_,⟨rfl,rfl,rfl,Za3 _,λ_ _ _=>rfl,λb x hb=>.inl ⟨b,x,hb,?_⟩⟩,xG⟩
 .obtain⟨x,hx,Vu⟩:=hS.F p v hv;exact⟨x,hx,Vu.mono xG (Za3 _)⟩
 .rw[xG b (hS.W.live b x hb).1]
theorem CL(hm:P.follows .mixedOrders=true)(hT:dh P tt){O:eP}{G:T dM}(hO:vu P C O)(Vz:oG O)(hG:GOk P tt G)(m d:Nat):iX P C (tZ O G m d):=
 Zv hT hO hG m (λd dD=>Rn hm hT dD (CE Vz m d)) d
end
end
section
section
variable{R:Type}
theorem BR{α:Type}:∀(p:Pos)(t:T α),Bj p t=t.get p
 |.h,.e=>rfl
 |.h,.n _ _ _=>rfl
 |.o _,.e=>rfl
 |.o p,.n l _ _=>BR p l
 |.i _,.e=>rfl
 |.i p,.n _ _ r=>BR p r
theorem oa{α:Type}(x:Option α):∀(p:Pos)(t:T α)(k:T α->R),wT x p t k=k (t.put x p)
 |.h,.e,_=>rfl
 |.h,.n _ _ _,_=>rfl
 |.o p,.e,k=>oa x p .e _
 |.o p,.n l _ _,k=>oa x p l _
 |.i p,.e,k=>oa x p .e _
 |.i p,.n _ _ r,k=>oa x p r _
theorem F8(n:Nat)(k:Nat->R):vr n k=k n:=by cases n<;>rfl
theorem aiT(n:Int)(k:Int->R):aap n k=k n:=by cases n<;>simp only[aap,F8]
theorem agy(b:Bool)(k:Bool->R):aeb b k=k b:=by cases b<;>rfl
theorem MU{α:Type}:∀(l:List α)(k:List α->R),Gh l k=k l
 |[],_=>rfl
 |a::l,k=>MU l λt=>k (a::t)
theorem NO:∀(p:Pos)(k:Pos->R),QX p k=k p
 |.h,_=>rfl
 |.o p,k=>NO p λq=>k (.o q)
 |.i p,k=>NO p λq=>k (.i q)
theorem amM(o:Option Nat)(k:Option Nat->R):af9 o k=k o:=by
 cases o with
 |none=>rfl
 |some n=>simp only[af9,F8]
theorem aeo(v:AV)(k:AV->R):Vf v k=k v:=by
 cases v<;>simp only[Vf,agy,aiT,MU,NO,F8,amM]
theorem Ro:∀(l:List AV)(k:List AV->R),X9 l k=k l
 |[],_=>rfl
 |a::l,k=>by
  show Vf a (λa=>X9 l λt=>k (a::t))=_;rw[aeo,Ro l]
theorem MV(v:AV)(k:AV->R):wu v k=k v:=by
 unfold wu;split
 .exact Ro _ _
 .exact aeo _ _
theorem Rp(x:AB)(k:AB->R):Kl x k=k x:=by
 cases x<;>simp only[Kl,MU,F8]
theorem Rq:∀(p:Pos)(k:Pos->R),abr p k=k p.succ
 |.h,_=>rfl
 |.o _,_=>rfl
 |.i p,k=>Rq p λq=>k (.o q)
variable(z:R)
def uu{α:Type}(r:Option α)(k:α->R):R:=match r with
 |some x=>k x
 |none=>z
theorem agz(fr:Fr)(x:gX)(k:AV->R):evK z fr x k=uu z (Gg fr x) k:=by
 cases x with
 |t p=>simp only[evK,BR,Gg,uu];cases T.get p fr<;>rfl
 |c v=>rfl
theorem ade(fr:Fr):∀(xs:List gX)(k:List AV->R),ac2 z fr xs k=uu z (fP fr xs) k
 |[],k=>rfl
 |x::xs,k=>by
  show evK z fr x (λv=>ac2 z fr xs λvs=>k (v::vs))=_;rw[agz];simp only[ade fr xs];simp only[fP];cases Gg fr x with
  |none=>rfl
  |some v=>simp only[uu];cases fP fr xs<;>rfl
theorem abK(fr:Fr)(g:Option (Pos×Bool))(yes no:R):Km z fr g yes no=match cJ fr g with
  |some true=>yes
  |some false=>no
  |none=>z:=by
 unfold Km cJ;cases g with
 |none=>rfl
 |some g=>
  obtain⟨p,want⟩:=g;simp only[BR];cases T.get p fr with
  |none=>rfl
  |some v=>
   (cases v<;>try rfl);rename_i b;cases b<;>cases want<;>rfl
theorem abL(fr:Fr)(d:Option Pos)(v:AV)(k:Fr->R):n7 fr d v k=k (ez fr d v):=by
 cases d with
 |none=>rfl
 |some p=>exact oa _ _ _ _
theorem asc(st:St)(del:Option Pos)(set:Option (Pos×AB))(new:Option AB)(k:St->R):ao5 st del set new k=k (st.bh del set new):=by
 have hdel:∀(h:T AB)(k:T AB->R),delK del h k=k (KB del h):=λh k=>by
  cases del with
  |none=>rfl
  |some b=>exact oa _ _ _ _
 have HZ:∀(h:T AB)(k:T AB->R),ao4 set h k=k (NI set h):=λh k=>by
  cases set with
  |none=>rfl
  |some b=>simp only[ao4,Rp,oa];rfl
 unfold ao5;rw[hdel,HZ];cases new with
 |none=>rfl
 |some x=>simp only[Rp,oa,Rq];rfl
def CK(bW:sy R)(call:aj):Prop:=∀f args st k,bW f args st k=uu z (call f args st) λx=>k x.1 x.2
variable{bW:sy R}{call:aj}
theorem Rr(h:T AB):(λb=>Bj b h)=λb=>h.get b:=funext λb=>BR b h
theorem agA(hc:CK z bW call)(op:aE)(xs:List AV)(st:St)(k:AV->St->R):Ya z bW op xs st k=uu z (cC call op xs st) λx=>k x.1 x.2:=by
 unfold Ya cC;rw[Rr];cases op.run (λb=>st.heap.get b) st.next xs with
 |none=>rfl
 |some r=>
  cases r with
  |val v=>simp only[MV];rfl
  |bh v d s n=>simp only[MV,asc];rfl
  |call f args=>simp only[MU];exact hc f args st k
theorem Yd(hc:CK z bW call):∀(ops:List bS)(fr:Fr)(st:St)(k:Fr->St->R),ac3 z bW ops fr st k=uu z (mE call ops fr st) λx=>k x.1 x.2
 |[],fr,st,k=>rfl
 |o::os,fr,st,k=>by
  show Km z fr o.guard (ac2 z fr o.xs λxs=>Ya z bW o.k xs st λv st=>n7 fr o.dst v λfr=>ac3 z bW os fr st k) (n7 fr o.dst .undef λfr=>ac3 z bW os fr st k)=_;rw[abK,ade];simp only[agA z hc,abL,Yd hc os];simp only[mE];cases cJ fr o.guard with
  |none=>rfl
  |some b=>
   cases b with
   |false=>rfl
   |    true=>
        simp only[];cases fP fr o.xs with
        |none=>rfl
        |some xs=>
         simp only[uu];cases cC call o.k xs st with
         |none=>rfl
         |some x=>rfl
theorem KP(cg:Nat)(h:T AB):∀(recs:List Rec)(k:T AB->R),QY cg h recs k=k (snap cg h recs)
 |[],k=>rfl
 |r::rs,k=>by
  show (match r.c with
   |    .new id aM=>match cg.testBit r.idx with
        |true=>QY cg h rs λh'=>wT (some aM) id h' k
        |false=>QY cg h rs k
   |.bh _ _=>k h
   |.pure=>QY cg h rs k)=_
  unfold snap;cases r.c with
  |pure=>exact KP cg h rs k
  |bh _ _=>rfl
  |new id aM=>
   simp only[];cases cg.testBit r.idx with
   |true=>simp only[KP cg h rs,oa]
   |false=>exact KP cg h rs k
theorem aep(h:T AB):∀(l:List (Pos×AB))(k:T AB->R),aga h l k=k (nG l h)
 |[],k=>rfl
 |(id,aM)::l,k=>by show aga h l (λh'=>wT (some aM) id h' k)=_;rw[aep h l,oa];rfl
theorem CM(cg:Nat)(op:aE)(xs:List AV)(v:AV):∀(recs:List Rec)(up:List (Pos×AB)),uX cg op xs v up recs=nZ cg op xs v up recs
 |[],up=>rfl
 |r::rs,up=>by
  unfold uX nZ;cases r.c with
  |pure=>exact CM cg op xs v rs up
  |new id aM=>simp only[CM cg op xs v rs]<;>(cases cg.testBit r.idx<;>rfl)
  |bh base _=>
   simp only[CM cg op xs v rs,KP,aep];unfold agb oR;simp only[Rr]<;>(cases cg.testBit r.idx<;>rfl)
theorem agB (hc:CK z bW call):∀(ops:List (Nat×bS))(recs:List Rec)(base:T AB)(fr:Fr)(st:St)(k:Fr->St->R),
  QZ z bW ops recs base fr st k=uu z (ei call ops recs base fr st) λx=>k x.1 x.2
 |[],recs,base,fr,st,k=>rfl
 |(j,   o)::  os,recs,base,fr,st,k=>by
  show Km   z fr o.guard
    (ac2 z fr o.xs λxs=>match o.cls with
        | .new=>match o.k.run (λ_=>none) st.next xs with
          |some (.bh v none none (some aM))=>wu v λv=>Kl aM λaM=>n7 fr o.dst v λfr=>abr st.next λn=>wT (some aM) st.next st.heap λh=>
              QZ z bW os ({ idx:=j,o:=o,v:=v,c:= .new st.next aM,nx:=n }::recs) base fr { heap:=h,next:=n } k
          |_=>z
        |.bh=>Ya z bW o.k xs st λv st'=>n7 fr o.dst v λfr=>QZ z bW os ({ idx:=j,o:=o,v:=v,c:= .bh base st'.heap,nx:=st'.next }::recs) st'.heap fr st' k
        | _ =>match o.k.run (λ_=>none) .h xs with
          |some (.val v)=>wu v λv=>n7 fr o.dst v λfr=>QZ z bW os ({ idx:=j,o:=o,v:=v,c:= .pure,nx:=st.next }::recs) base fr st k
          | _ =>QY o.cg base recs λh=>match o.k.run (λb=>Bj b h) .h xs with
            | some (.val v)=>wu v λv=>match uX o.cg o.k xs v [] recs with
              |true=>n7 fr o.dst v λfr=>QZ z bW os ({ idx:=j,o:=o,v:=v,c:= .pure,nx:=st.next }::recs) base fr st k
              |false=>z
            |_=>z)
    (n7 fr o.dst .undef λfr=>QZ z bW os ({ idx:=j,o:=o,v:= .undef,c:= .pure,nx:=st.next }::recs) base fr st k)=_
  rw[abK,ade];simp only[agA z hc,abL,MV,Rp,Rq,oa,KP,CM,Rr,agB hc os];simp only[ei];cases cJ fr o.guard with
  |none=>rfl
  | some b=>
    cases b with
    |false=>rfl
    |   true=>
        simp only[];cases fP fr o.xs with
        |none=>rfl
        | some xs=>
          simp only[uu];cases o.cls with
          | new=>
            simp only[];split<;>simp_all
          | bh=>
            simp only[];cases cC call o.k xs st with
            |none=>rfl
            |some x=>rfl
          | pure=>
            simp only[];split
            .simp_all
            .split<;>simp_all;split<;>simp_all
          | read=>
            simp only[];split
            .simp_all
            .split<;>simp_all;split<;>simp_all
def agC(r:Option (oE×Fr×St))(kn:Fr->St->R)(kx:Nat->Fr->St->R)(kr:Fr->St->R):R:=match r with
 |some (.normal,fr,st)=>kn fr st
 |some (.exit id,fr,st)=>kx id fr st
 |some (.ret,fr,st)=>kr fr st
 |none=>z
theorem aax(hc:CK z bW call):∀(m:Nat)(c:AC)(fr:Fr)(st:St)(kn:Fr->St->R)(kx:Nat->Fr->St->R)(kr:Fr->St->R),
  abt z bW m c fr st kn kx kr=agC z (exec call m c fr st) kn kx kr
 |0,c,fr,st,kn,kx,kr=>rfl
 |m+    1,c,fr,st,kn,kx,kr=>by
  have ih:=aax hc m;show uY z bW (abt z bW m) c fr st kn kx kr=agC z (bC call (exec call m) c fr st) kn kx kr;cases c with
  |skip=>rfl
  |region ops=>
   simp only[uY,bC,Yd z hc];cases mE call ops fr st with
   |none=>rfl
   |some x=>rfl
  |draw ops=>
   simp only[uY,bC,agB z hc];cases ei call ops [] st.heap fr st with
   |none=>rfl
   |some x=>rfl
  |seq a b=>
   simp only[uY,bC,ih];cases exec call m a fr st with
   |none=>rfl
   |    some x=>
        obtain⟨e,eX,bD⟩:=x;cases e<;>rfl
  |cond x a b=>
   simp only[uY,bC,agz];cases Gg fr x with
   |none=>rfl
   |    some v=>
        simp only[uu];(cases v<;>try rfl);rename_i t;cases t<;>simp only[ih]
  |block id a=>
   simp only[uY,bC,ih];cases exec call m a fr st with
   |none=>rfl
   |    some x=>
        obtain⟨e,eX,bD⟩:=x;(cases e<;>try rfl);rename_i xF;simp only[agC];cases Nat.beq xF id<;>rfl
  |loop a=>
   simp only[uY,bC,ih];cases exec call m a fr st with
   |none=>rfl
   |    some x=>
        obtain⟨e,eX,bD⟩:=x;cases e<;>rfl
  |exit id=>rfl
  |ret=>rfl
theorem Rs:∀(vs:List AV)(i:Nat)(fr:Fr)(k:Fr->R),OI vs i fr k=k (params i vs fr)
 |[],i,fr,k=>rfl
 |v::vs,i,fr,k=>by show wT (some v) (key i) fr (λfr=>OI vs (i+1) fr k)=_;rw[oa,Rs vs];rfl
theorem aiU(st:St)(fr:Fr)(rs:List OC)(k:AV->R):Fl z st fr rs k=uu z (gP (λb=>st.heap.get b) fr rs) λvs=>k (zf vs):=by
 unfold Fl;rw[Rr];cases gP (λb=>st.heap.get b) fr rs with
 |none=>rfl
 |some vs=>
  simp only[Ro,uu];cases vs with
  |nil=>rfl
  |cons v vs=>cases vs<;>rfl
theorem Ft (O:eP)(G:T dM)(m:Nat):∀d,CK z (MF z O G m d) (tZ O G m d)
 |0=>λf args st k=>rfl
 |d+    1=>fun f args st k=>by
  have ih:=Ft O G m d;show( match O f with
   |    some s=>match s args st with
        |some (v,st')=>wu v λv=>k v st'
        |none=>z
   |    none=>match Bj (key f) G with
        |some F=>match Nat.beq args.length F.nparams with
         |true=>OI args 0 .e λfr=>abt z (MF z O G m d) m F.code fr st
             (λfr st=>Fl z st fr F.results λv=>k v st)
             (λ_ _ _=>z)
             (λfr st=>Fl z st fr F.results λv=>k v st)
         |false=>z
        |none=>z)=_
  simp only[tZ,MV,BR,Rs,aax z ih,aiU];cases O f with
  |some s=>
   simp only[];cases s args st with
   |none=>rfl
   |some x=>rfl
  |none=>
   simp only[];cases G.get (key f)with
   |none=>rfl
   |    some F=>
        simp only[];cases Nat.beq args.length F.nparams with
        |false=>rfl
        |true=>
         simp only[];cases exec (tZ O G m d) m F.code (params 0 args .e) st with
         |none=>rfl
         |  some x=>
            obtain⟨e,eX,bD⟩:=x;cases e with
            |normal=>
             simp only[agC];cases gP (λb=>bD.heap.get b) eX F.results<;>rfl
            |exit id=>rfl
            |ret=>
             simp only[agC];cases gP (λb=>bD.heap.get b) eX F.results<;>rfl
end
end
section
open Go
def akU (P :Program)(t:Nat)(ti:TI):Bool:=
 match P.underlying t,P.info? t with
 |  some d,some i=>cm ti.k d&&Nat.beq i.size ti.size&&Nat.beq i.bytes ti.bytes&&
    (match ti.zero with
     |none=>true
     |some z=>match i.zero with
      |some v=>(match sx v.cells.toList with
           |some z'=>tC z' z
           |none=>false)&&Nat.beq z.length ti.size&&(match ti.k.isAgg,v with
           |true,.agg _=>true
           |true,_=>false
           |false,.agg _=>false
           |false,_=>true)
      |none=>false)&&(match ti.k with
     |.ptr e=>(P.info? e).isSome
     |_=>true)&&(!ti.A3||(!P.stoodInHeld t&& !P.eqGuardType P.depth t))
 |_,_=>false
theorem apw{P:Program}{t:Nat}{ti:TI}(h:akU P t ti=true):akt P t ti:=by
 unfold akU at h;split at h<;>first|(cases h;done)|skip
 rename_i d i hd hi;simp only[Zb2,Zj3,Zj7]at h;obtain⟨⟨⟨⟨⟨h1,h2⟩,h3⟩,h4⟩,h6⟩,h5⟩:=h;refine⟨⟨d,hd,h1⟩,⟨i,hi,Za7 h2,Za7 h3,λz hz=> ?_⟩,λe he=> ?_,λhe=> ?_⟩
 . rw[hz]at h4;simp only at h4;(split at h4<;>first|(cases h4;done)|skip);rename_i v hv;simp only[Zb2]at h4;obtain⟨⟨g1,g2⟩,g3⟩:=h4;(split at g1<;>first|(cases g1;done)|skip);rename_i z' ML;rw[F7 g1]at ML;refine⟨v,hv,ML,Za7 g2,λha=> ?_,λha=> ?_⟩
   .rw[ha]at g3;cases v<;>first|exact⟨_,rfl⟩|cases g3
   .rw[ha]at g3;cases v<;>first|rfl|cases g3
 .rw[he]at h6;exact Zn4.1 h6
 . rcases h5 with h5|h5
   .rw[he]at h5;cases h5
   .exact h5
def Kn(P:Program):(Pos->Pos)->T TI->Bool
 |_,.e=>true
 |  f,.n l v r=>(match v with
    |some ti=>akU P ((f .h).toNat - 1) ti
    |none=>true)&&Kn P (λp=>f (.o p)) l&&Kn P (λp=>f (.i p)) r
theorem Rt{P:Program}:∀{t:T TI}{f:Pos->Pos},Kn P f t=true->∀p ti,t.get p=some ti->akt P ((f p).toNat - 1) ti
 |.e,f,_,p,ti,h=>by rw[T.dN]at h;cases h
 | .n l v r,f,hc,p,ti,h=>by
   simp only[Kn,Zb2]at hc;cases p with
   |h=>simp only[T.get]at h;rw[h]at hc;exact apw hc.1.1
   |o p=>exact Rt hc.1.2 p ti h
   |i p=>exact Rt hc.2 p ti h
theorem ase{P:Program}{tt:TT}(h:Kn P (λp=>p) tt=true):dh P tt:=λp ti hp=>Rt h p ti hp
end
noncomputable section
open Go
def OZ{α:Type}(g:Nat->Option α):Nat->Nat->Nat->T α
 |0,_,_=>.e
 |d+1,a,m=>.n (OZ g d a (2*m)) (g (a+m - 1)) (OZ g d (a+m) (2*m))
theorem Ru{α:Type}{g:Nat->Option α}:∀{d a m:Nat}{p:Pos}{x:α},(OZ g d a m).get p=some x->g (a+m*p.toNat - 1)=some x
 |0,_,_,p,x,h=>by rw[OZ,T.dN]at h;cases h
 |d+1,a,m,.h,x,h=>by rw[Pos.toNat,Zn8];exact h
 |d+1,a,m,.o p,x,h=>by
  have:=Ru (d:=d) (a:=a) (m:=2*m) (p:=p) (x:=x) h;rw[Pos.toNat];have e:a+m*(2*p.toNat) - 1=a+2*m*p.toNat - 1:=by rw[<-Nat.mul_assoc,Nat.mul_comm m 2]
  rw[e];exact this
 |d+1,a,m,.i p,x,h=>by
  have:=Ru (d:=d) (a:=a+m) (m:=2*m) (p:=p) (x:=x) h;rw[Pos.toNat];have e:a+m*(2*p.toNat+1) - 1=a+m+2*m*p.toNat - 1:=by rw[Nat.mul_add,Zn8, <-Nat.mul_assoc,Nat.mul_comm m 2];omega
  rw[e];exact this
def arI(P:Program)(tt:TT)(i:Nat):Option dM:=match P.funcs[i]? with
 |some fn=>aks tt fn
 |none=>none
def ggOf(P:Program)(tt:TT):T dM:=OZ (arI P tt) 10 0 1
theorem asf{P:Program}{tt:TT}(h:(P.funcs.toList.all λfn=> !(fn.name== "runtime.NumGoroutine"))=true):GOk P tt (ggOf P tt):=λp F hp=>by
 have:=Ru hp;rw[Zb9,Zp7,arI]at this;split at this<;>first|(cases this;done)|skip
 rename_i fn Gm;refine⟨fn,Gm,?_,this⟩;have:=Zg8.1 h fn (by obtain⟨hi,e⟩:=Zd2.1 Gm;exact Array.mem_toList_iff.2 (e ▸Array.getElem_mem hi));simpa using this
def tkOf(P:Program)(t:Nat):TK:=match P.underlying t with
 |some .bool=>.bool
 |some (.int k)=>.int k
 |some .string=>.string
 |some (.pointer e)=>.ptr e
 |some (.slice e)=>.slice e
 |some (.array n e)=>.array n e
 |some (.map k e)=>.map k e
 |some (.struct fs)=>.struct (fs.toList.map λf=>(f.offset,f.type,f.name != "_"))
 |some (.func _ _ _)=>.func
 |some (.interface _)=>.iface
 |some .unsafePointer=>.upt
 |_=>.other
def zeroOf:Option Value->Option (List AV)
 |  some v=>match Nat.ble v.cells.size 64 with
    |true=>sx v.cells.toList
    |false=>none
 |none=>none
def memN(n:Nat):List Nat->Bool
 |[]=>false
 |  m::l=>match Nat.beq m n with
    |true=>true
    |false=>memN n l
def tiOf(P:Program)(eqs:List Nat)(t:Nat):Option TI:=match P.info? t with
 |none=>none
 |some i=>some { k:=tkOf P t,size:=i.size,bytes:=i.bytes,zero:=zeroOf i.zero,A3:=memN t eqs }
def ttOf(P:Program)(eqs:List Nat):T TI:=OZ (tiOf P eqs) 10 0 1
def kI(n:Nat):AV:= .int .i64 (.ofNat n)
def kU(n:Nat):AV:= .int .u8 (.ofNat n)
def kN(p n e:Nat):AV:= .slice (key p) 0 n none e
def kS(p n c e:Nat):AV:= .slice (key p) 0 n (some c) e
end
section
open Go
structure pW(P:Program)(C:Cells)(f:FuncId)(s:List AV->St->Option (AV×St)):Prop where
 mono:∀args st v st',s args st=some (v,st')->st.next.toNat<=st'.next.toNat
 runs:∀(ρ:Pos->Loc)(st:St)(w:World)(args:List AV)(v:AV)(st':St)(bZ:List Value),s args st=some (v,st')->
  bV ρ C st w->aJ ρ st.next.toNat C args bZ->Reaches P (kV ρ C st w v st') ((callFunc f bZ.toArray).run P w)
def vw:List (Nat×(List AV->St->Option (AV×St)))->eP
 |[]=>λ_=>none
 |  (g,s)::l=>λf=>match Nat.beq f g with
    |true=>some s
    |false=>vw l f
theorem yq{P:Program}{C:Cells}:∀{l:List (Nat×(List AV->St->Option (AV×St)))},(∀x∈l,pW P C x.1 x.2)->vu P C (vw l)/\oG (vw l)
 |[],_=>⟨λf s h=>by simp[vw]at h,λf s h=>by simp[vw]at h⟩
 |(g,   s0)::l,hl=>by
  obtain⟨h1,h2⟩:=yq λx hx=>hl x (Zb0 _ hx)
  have h0:=hl _ (Zd6 ..);refine⟨λf s h=> ?_,λf s h=> ?_⟩
  . simp only[vw]at h;split at h
    .   rename_i he;simp only[H5]at h;subst h;have:=Za7 he;subst this;exact h0.runs
    .   exact h1 f s h
  . simp only[vw]at h;split at h
    .   simp only[H5]at h;subst h;exact h0.mono
    .   exact h2 f s h
def Fu:List AV->St->Option (AV×St)
 |  [.str a,.str b],st=>some (.int .i64 (match aO a b with
    |true=>.negSucc 0
    |false=>match aO b a with
     |true=>.ofNat 1
     |false=>.ofNat 0),st)
 |_,_=>none
theorem VC:∀(x y:List UInt8),Lib.compareBytes x y=match aO (x.map UInt8.toNat) (y.map UInt8.toNat)with
  |true=>.negSucc 0
  | false=>match aO (y.map UInt8.toNat) (x.map UInt8.toNat)with
    |true=>.ofNat 1
    |false=>.ofNat 0
 |[],[]=>rfl
 |[],_::_=>rfl
 |_::_,[]=>rfl
 |a ::x  ,b::y=>by
  rw[wM,wM];have ih:=VC x y;rw[wM,wM]at ih;simp only[Lib.compareBytes,Op.bytesLess];by_cases h:a<b
  .simp[h]
  . by_cases h':b<a
    .   have cN:(a==b)=false:=(by rw[Zn1];exact λe=>by subst e;exact h h');simp[h,h',cN]
    .   have he:a=b:=(by apply Zr7.1;rw[Zo8]at h h';omega);subst he;simp only[h,Zh0,ih];simp
theorem apx{P:Program}{C:Cells}{f:FuncId}{fn:Func}(hf:P.funcs[f]? =some fn)(oF:(fn.name== "runtime.NumGoroutine")=false)(hb:fn.body.isNone=true)
  (hx:Extern.findNext fn=none) (he:Extern.find fn=some Extern.BytealgCompare.compare):pW P C f Fu where
 mono args st v st' h:=by unfold Fu at h;split at h<;>cases h;exact Za3 _
 runs ρ st w args v st' bZ h hW hv:=by
  unfold Fu at h;split at h<;>cases h;rename_i a b;obtain⟨x,xs,rfl,h1,h2⟩:=hv.cons_inv;obtain⟨y,ys,rfl,h3,h4⟩:=h2.cons_inv;have:=h4.ku;subst this;obtain⟨s,rfl,hs⟩:=h1.ff;obtain⟨t,rfl,ht⟩:=h3.ff;have dJ:(callFunc f [Value.string s,Value.string t].toArray).run P w= .ok (.value (.int .i64 (Lib.compareBytes s.data.toList t.data.toList))) w:=by rw[run_callFunc_extern hf oF hb hx he];show((Extern.BytealgCompare.compare #[.string s,.string t]).run P w).andThen _=_;rw[Lib.run_compareString];rfl
  rw[dJ];refine⟨ρ,?_,λ_ _=>rfl,Za3 _,hW,oJ.refl _ _ _⟩;rw[VC,hs,ht];exact .int _ _
theorem bV.sub{ρ:Pos->Loc}{C:Cells}{st:St}{w:World}(h:bV ρ C st w){h2:T AB}(hs:∀b x,h2.get b=some x->st.heap.get b=some x):bV ρ C { heap:=h2,next:=st.next } w where
 live b x hb:=h.live b x (hs b x hb)
 inj b b' x x' hb dO he:=h.inj b b' x x' (hs b x hb) (hs b' x' dO) he
 dS a v ha:=⟨(h.dS a v ha).1,λb x hb=>(h.dS a v ha).2 b x (hs b x hb)⟩
 whole:=h.whole
theorem kV.frame{ρ:Pos->Loc}{C:Cells}{st st':St}{w w':World}{v:AV}{x:Value}{h0 h2:T AB}(hW:bV ρ C st w)(yp:∀b y,h0.get b=some y->st.heap.get b=some y)
   (h:kV ρ C { heap:=h0,next:=st.next } w v st' x w')
   (h2s:∀b y,h2.get b=some y->st'.heap.get b=some y\/(st.heap.get b=some y/\h0.get b=none)):
   kV ρ C st w v { heap:=h2,next:=st'.next } x w':=by
 obtain⟨ρ',hv,bE,hn,ji,hE⟩:=h;have hold:∀b y,st.heap.get b=some y->h0.get b=none->∀b' y',h0.get b'=some y'->(ρ b').aM≠(ρ b).aM:=λb y hb yg b' y' dO e=>by have:=hW.inj b' b y' y (yp b' y' dO) hb e;subst this;rw[yg]at dO;cases dO
 have amN:∀b y b' y',st'.heap.get b=some y->st.heap.get b'=some y'->h0.get b'=none->(ρ' b).aM≠(ρ' b').aM:=λb y b' y' hb dO yg e=>by
   rw[bE b' (hW.live b' y' dO).1]at e;rcases hE.yf b y hb with⟨b2,y2,g1,g2⟩|g1
   .exact hold b' y' dO yg b2 y2 g1 (g2.trans e)
   .have:=(hW.live b' y' dO).2.1;omega
 refine⟨ρ',hv,bE,hn,⟨λb y hb=> ?_,λb b' y y' hb dO he=> ?_,λa u ha=>⟨(ji.dS a u ha).1,λb y hb=> ?_⟩,ji.whole⟩,⟨hE.os,hE.tape,hE.output,hE.size,λk hk lF=> ?_,λb y hb=> ?_⟩⟩
 . rcases h2s b y hb with hb|⟨hb,yg⟩
   .exact ji.live b y hb
   . obtain⟨g1,g2,g3⟩:=hW.live b y hb;refine⟨Zd1 g1 hn,?_,?_⟩
     .  rw[bE b g1];exact Zd1 g2 hE.size
     .  rw[bE b g1];exact(g3.mono bE hn).of_heap (hE.block _ g2 λb' y' dO=>hold b y hb yg b' y' dO)
 . rcases h2s b y hb with hb|⟨hb,yg⟩<;>rcases h2s b' y' dO with dO|⟨dO,hb0'⟩
   .exact ji.inj b b' y y' hb dO he
   .exact absurd he (amN b y b' y' hb dO hb0')
   .exact absurd he.symm (amN b' y' b y dO hb yg)
   .rw[bE b (hW.live b y hb).1,bE b' (hW.live b' y' dO).1]at he;exact hW.inj b b' y y' hb dO he
 . rcases h2s b y hb with hb|⟨hb,yg⟩
   .exact(ji.dS a u ha).2 b y hb
   .rw[bE b (hW.live b y hb).1];exact(hW.dS a u ha).2 b y hb
 .exact hE.block k hk λb y hb=>lF b y (yp b y hb)
 . rcases h2s b y hb with hb|⟨hb,yg⟩
   . rcases hE.yf b y hb with⟨b',y',g1,g2⟩|g1
     .  exact .inl ⟨b',y',yp b' y' g1,g2⟩
     .  exact .inr g1
   .exact .inl ⟨b,y,hb,by rw[bE b (hW.live b y hb).1]⟩
def KQ:List AV->List AV->Bool
 |[],[]=>true
 |a::x,b::y=>eO a b&&KQ x y
 |_,_=>false
theorem VD:∀{a b:List AV},KQ a b=true->a=b
 |[],[],_=>rfl
 |[],_::_,h=>by simp[KQ]at h
 |_::_,[],h=>by simp[KQ]at h
 |a::x,b::y,h=>by
  simp only[KQ,Zb2]at h;rw[yo h.1,VD h.2]
def Ye:List (AV×AV×Nat)->List (AV×AV×Nat)->Bool
 |[],[]=>true
 |(a,b,n)::x,(a',b',n')::y=>eO a a'&&eO b b'&&Nat.beq n n'&&Ye x y
 |_,_=>false
theorem agD:∀{a b:List (AV×AV×Nat)},Ye a b=true->a=b
 |[],[],_=>rfl
 |[],_::_,h=>by simp[Ye]at h
 |_::_,[],h=>by simp[Ye]at h
 |(a,b,n)::x,(a',b',n')::y,h=>by
  simp only[Ye,Zb2]at h;obtain⟨⟨⟨h1,h2⟩,h3⟩,h4⟩:=h;rw[yo h1,yo h2,Za7 h3,agD h4]
def abM:AB->AB->Bool
 |.cells cs fz,.cells mJ fz'=>KQ cs mJ&&Nat.beq fz fz'
 |.map es c,.map es' c'=>Ye es es'&&Nat.beq c c'
 |_,_=>false
theorem aay{a b:AB}(h:abM a b=true):a=b:=by
 unfold abM at h;split at h<;>(try simp only[Zb2]at h)
 .rw[VD h.1,Za7 h.2]
 .rw[agD h.1,Za7 h.2]
 .cases h
def hasAll(h:T AB):List (Pos×AB)->Bool
 |[]=>true
 |  (b,x)::l=>(match h.get b with
    |some y=>abM y x
    |none=>false)&&hasAll h l
theorem VE{h:T AB}:∀{l:List (Pos×AB)},hasAll h l=true->∀b x,(b,x)∈l->h.get b=some x
 |[],_,b,x,hm=>by cases hm
 |(b0,x0)::l,hh,b,x,hm=>by
  simp only[hasAll,Zb2]at hh;rcases Za9.1 hm with hm|hm
  .cases hm;have h1:=hh.1;(split at h1<;>first|(cases h1;done)|skip);rename_i y hy;rw[hy,aay h1]
  .exact VE hh.2 b x hm
theorem MW:∀{l:List (Pos×AB)}{h:T AB}{b:Pos}{x:AB},(nG l h).get b=some x->(b,x)∈l\/(h.get b=some x/\∀y∈l,y.1≠b)
 |[],h,b,x,hb=>.inr ⟨hb,λy hy=>by cases hy⟩
 |(b0,x0)::l,h,b,x,hb=>by
  unfold nG at hb;by_cases e:b0=b
  .subst e;rw[T.gy]at hb;simp only[H5]at hb;subst hb;exact .inl (Zd6 ..)
  . rw[T.b9 _ e]at hb;rcases MW hb with h1|⟨h1,h2⟩
    .   exact .inl (Zb0 _ h1)
    .   refine .inr ⟨h1,λy hy=> ?_⟩;rcases Za9.1 hy with rfl|hy
        .exact e
        .exact h2 y hy
structure Lit where
 args:List AV
 n0:Pos
 L0:List (Pos×AB)
 v:AV
 n1:Pos
 L1:List (Pos×AB)
def abN(l m:List (Pos×AB)):Bool:=l.all λx=>m.any λy=>Pos.beq x.1 y.1
def Rv(t:Lit):List AV->St->Option (AV×St):=λargs st=>
 match KQ args t.args&&Pos.beq st.next t.n0&&hasAll st.heap t.L0 with
 |true=>some (t.v,{ heap:=nG t.L1 st.heap,next:=t.n1 })
 |false=>none
noncomputable def abO(t:Lit)(O:eP)(G:T dM)(m d f:Nat):Bool:=
 MF (R:=Bool) false O G m d f t.args { heap:=nG t.L0 .e,next:=t.n0 } λv st=>eO v t.v&&Pos.beq st.next t.n1&&hasAll st.heap t.L1
theorem agE{P:Program}{C:Cells}{t:Lit}{O:eP}{G:T dM}{m d f:Nat}(dD:iX P C (tZ O G m d))(akT:o9 (tZ O G m d))
   (hk:abN t.L0 t.L1=true) (h:abO t O G m d f=true):pW P C f (Rv t):=by
 unfold abO at h;rw[Ft false O G m d]at h;unfold uu at h;split at h<;>first|(cases h;done)|skip
 rename_i x hx;obtain⟨v,bD⟩:=x;simp only[Zb2]at h;obtain⟨⟨h1,h2⟩,h3⟩:=h;have h1:=yo h1;have h2:=Pos.beq_eq.1 h2;subst h1;have unf:∀args st v' st',Rv t args st=some (v',st')->args=t.args/\st.next=t.n0/\hasAll st.heap t.L0=true/\v'=t.v/\st'={ heap:=nG t.L1 st.heap,next:=t.n1 }:=by
   intro args st v' st' hs;unfold Rv at hs;(split at hs<;>first|(cases hs;done)|skip);rename_i hc;simp only[Zb2]at hc;simp only[H5,Zd4]at hs;exact⟨VD hc.1.1,Pos.beq_eq.1 hc.1.2,hc.2,hs.1.symm,hs.2.symm⟩
 refine⟨λargs st v' st' hs=> ?_,λρ st w args v' st' bZ hs hW hv=> ?_⟩
 .obtain⟨rfl,g2,g3,rfl,rfl⟩:=unf _ _ _ _ hs;have:=akT _ _ _ _ _ hx;rw[g2, <-h2];exact this
 . obtain⟨ rfl,g2,g3,rfl,rfl⟩:=unf _ _ _ _ hs;have yp:∀b y,(nG t.L0 T.e).get b=some y->st.heap.get b=some y:=λb y hb=>by
    rcases MW hb with hb|⟨hb,_⟩
    .   exact VE g3 b y hb
    .   rw[T.dN]at hb;cases hb
   have wC:tZ O G m d f t.args { heap:=nG t.L0 .e,next:=st.next }=some (t.v,bD):=(by rw[g2];exact hx);refine Reaches.mono (λx w' hp=> ?_) (dD ρ _ w f t.args t.v bD bZ wC (hW.sub yp) hv);have:=   hp.frame hW yp (h2:=nG t.L1 st.heap) λb y hb=>by
    rcases MW hb with hb|⟨hb,lF⟩
    .   exact .inl (VE h3 b y hb)
    .   refine .inr ⟨hb,?_⟩;cases hg:(nG t.L0 T.e).get b with
        |none=>rfl
        |some u=>
         exfalso;rcases MW hg with hg|⟨hg,_⟩
         .  unfold abN at hk;rw[Zg8]at hk;have:=hk _ hg;rw[List.any_eq_true]at this;obtain⟨y',hy',he⟩:=this;exact lF y' hy' (Pos.beq_eq.1 he).symm
         .  rw[T.dN]at hg;cases hg
   rw[h2]at this;exact this
def orS(s t:List AV->St->Option (AV×St)):List AV->St->Option (AV×St):=λargs st=>match s args st with
 |some r=>some r
 |none=>t args st
theorem agF{P:Program}{C:Cells}{f:FuncId}{s t:List AV->St->Option (AV×St)}(hs:pW P C f s)(ht:pW P C f t):pW P C f (orS s t) where
 mono args st v st' h:=by
  unfold orS at h;split at h
  .rename_i r hr;simp only[H5]at h;subst h;exact hs.mono _ _ _ _ hr
  .exact ht.mono _ _ _ _ h
 runs ρ st w args v st' bZ h hW hv:=by
  unfold orS at h;split at h
  .rename_i r hr;simp only[H5]at h;subst h;exact hs.runs ρ st w args v st' bZ hr hW hv
  .exact ht.runs ρ st w args v st' bZ h hW hv
end
end Go.Ai
