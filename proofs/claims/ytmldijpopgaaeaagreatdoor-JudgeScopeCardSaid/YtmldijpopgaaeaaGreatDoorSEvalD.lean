/- Its calls answer as the model does. -/
import Derived.Test.YtmldijpopgaaeaaGreatDoorSEvalC
import Derived.Lib.Bytealg
set_option linter.all false
namespace Go.Ai
section
open Go Go.RowKit
theorem Lq{a b:AV}(h:fY a b=true):a=b:=by
 unfold fY at h;split at h<;>(try simp only[Zb1,Zf0]at h)<;>try rfl
 .rw[beq_iff_eq.1 h]
 .rename_i k i k' i';have h2:=h.2;rw[oM]at h2;rw[CI h.1,beq_iff_eq.1 h2]
 .rw[kZ.1 h]
 .rw[Pos.beq_eq.1 h.1,Za6 h.2]
 .obtain⟨⟨⟨h1,h2⟩,h3⟩,h4⟩:=h;rw[Pos.beq_eq.1 h1,Za6 h2,Za6 h3,Za6 h4]
 .obtain⟨⟨⟨⟨h1,h2⟩,h3⟩,h4⟩,h5⟩:=h;rw[Pos.beq_eq.1 h1,Za6 h2,Za6 h3,Za6 h4,Za6 h5]
 .rw[Pos.beq_eq.1 h]
theorem Py:∀{a b:List AV},Ca a b=true->a=b
 |[],[],_=>rfl
 |[],_::_,h=>by simp[Ca]at h
 |_::_,[],h=>by simp[Ca]at h
 |a::x,b::y,h=>by
  simp only[Ca,Zb1]at h;rw[Lq h.1,Py h.2]
theorem ahI{f:AV->AV->Bool}(hf:∀{a b},f a b=true->a=b):∀{a b:List AV},Oc f a b=true->a=b
 |[],[],_=>rfl
 |[],_::_,h=>by simp[Oc]at h
 |_::_,[],h=>by simp[Oc]at h
 |a::x,b::y,h=>by
  simp only[Oc,Zb1]at h;rw[hf h.1,ahI hf h.2]
theorem acX{f:AV->AV->Bool}(hf:∀{a b},f a b=true->a=b):∀{a b:List (List AV)},CH f a b=true->a=b
 |[],[],_=>rfl
 |[],_::_,h=>by simp[CH]at h
 |_::_,[],h=>by simp[CH]at h
 |a::x,b::y,h=>by
  simp only[CH,Zb1]at h;rw[ahI hf h.1,acX hf h.2]
theorem ahJ:∀{d:Nat}{a b:AV},Od d a b=true->a=b
 |0,_,_,h=>by unfold Od at h;exact Lq h
 |d +1,a,b,h=>by
  unfold Od at h;split at h
  .rename_i heq;cases heq;simp only[Zb1]at h;rw[acX (λh=>ahJ h) h.1,Za6 h.2]
  .exact Lq h
theorem acY{a b:AV}(h:nK a b=true):a=b:=by
 unfold nK at h;split at h
 .simp only[Zb1]at h;rw[Za6 h.1.1,Py h.1.2,Py h.2]
 .exact ahJ h
 .exact Lq h
theorem HG:∀{a b:List AV},ug a b=true->a=b
 |[],[],_=>rfl
 |[],_::_,h=>by simp[ug]at h
 |_::_,[],h=>by simp[ug]at h
 |a::x,b::y,h=>by
  simp only[ug,Zb1]at h;rw[acY h.1,HG h.2]
theorem zi{a b:AV}(h:eZ a b=true):a=b:=by
 unfold eZ at h;split at h
 .rw[HG h]
 .rw[HG h]
 .exact acY h
theorem aqB {k:aG}{H H':Pos->Option AB}{n n':Pos}{xs:List AV}{v:AV}(h:k.run H n xs=some (.val v))(hm:∀b x,H b=some x->H' b=some x):
  k.run H' n' xs=some (.val v):=by
 cases k<;>simp only[aG.run]at h ⊢ <;>try exact h
 case alloc z=>unfold Sn at h;split at h<;>cases h
 case box=>unfold acI at h;split at h<;>cases h
 case buildSlice es len z p=>unfold xx at h;dsimp only at h;split at h<;>cases h
 case mkMap=>unfold Ss at h;cases h
 case mkSlice es b z=>
  unfold DD at h
  repeat' split at h
  all_goals cases h
 case store m=>
  unfold Mb at h
  repeat' split at h
  all_goals cases h
 case mapSet pk=>
  unfold yW at h
  repeat' split at h
  all_goals cases h
 case load m=>
  unfold Aa at h ⊢;split at h<;>first|(cases h;done)|skip
  split at h<;>first|(cases h;done)|skip
  . (split at h<;>first|(cases h;done)|skip);rename_i cs fz hb;simp only[hm _ _ hb];exact h
  .exact h
 case conv c=>
  unfold Gx at h ⊢;split at h<;>first|(cases h;done)|skip
  split at h<;>first|(cases h;done)|exact h|skip
  rename_i b off m _ _;cases hb:Nat.beq m 0 with
  |true=>simp only[hb]at h ⊢; exact h
  | false=>
    simp only[hb]at h ⊢;cases hH:H b with
    |none=>simp[hH]at h
    |some x=>simp only[hH]at h;simp only[hm _ _ hH];exact h
 case lookup pk z ok=>
  unfold l9 at h ⊢;split at h<;>first|(cases h;done)|skip
  rename_i m k';cases m<;>try exact h
  rename_i b;cases hb:H b with
  |none=>simp[hb]at h
  | some x=>
    simp only[hb]at h;simp only[hm _ _ hb];exact h
 case lenB lk=>
  unfold Qz at h ⊢;split at h<;>first|(cases h;done)|skip
  split at h<;>first|(cases h;done)|exact h|skip
  split at h<;>first|(cases h;done)|skip
  rename_i es c hb;simp only[hm _ _ hb];exact h
 case clearS es z=>
  unfold tD at h ⊢;split at h<;>first|(cases h;done)|skip
  split at h<;>first|(cases h;done)|exact h|skip
  rename_i b off m _ _;cases hb:Nat.beq m 0 with
  |true=>simp only[hb]at h ⊢; exact h
  | false=>
    simp only[hb]at h
    repeat' split at h
    all_goals cases h
 case copyB es=>
  unfold pW at h ⊢;split at h<;>first|(cases h;done)|skip
  rename_i d x;cases hd:dV d with
  |none=>simp[hd]at h
  | some m1=>
    cases hx:dV x with
    |none=>simp[hd,hx]at h
    |   some m2=>
        simp only[hd,hx]at h ⊢;cases hb:Nat.beq (min m2 m1) 0 with
        |true=>simp only[hb]at h ⊢; exact h
        |false=>
         simp only[hb]at h;(split at h<;>first|(cases h;done)|skip);(split at h<;>first|(cases h;done)|skip);split at h<;>cases h
 case append es bytes=>
  unfold iE at h ⊢;split at h<;>first|(cases h;done)|skip
  rename_i s x;cases hd:dV s with
  |none=>simp[hd]at h
  | some m1  =>
    cases hx:dV x with
    |none=>simp[hd,hx]at h
    |   some m2=>
        simp only[hd,hx]at h ⊢;cases h1:Nat.ble ((2*(m1+m2)+768)*bytes) 281474976710656 with
        |false=>simp[h1]at h
        |true=>
         cases h2:Nat.ble (m1+m2) 9223372036854775807 with
         |false=>simp[h1,h2]at h
         |  true=>
            simp only[h1,h2]at h ⊢;cases hb:Nat.beq m2 0 with
            |true=>
             simp only[hb]at h ⊢;split at h<;>first|(cases h;done)|exact h|skip
             all_goals (simp_all;done)
            |false=>
             simp only[hb]at h
             repeat' split at h
             all_goals first
               |(rename_i e;cases e;done)
               |(rename_i e _;cases e;done)
               |(cases h;done)
               |simp_all
inductive SP(n:Pos):AV->AB->Prop where
 |ptr (cs:List AV):SP n (.ptr n 0) (.cells cs 0)
 |slice (len es:Nat) (cap:Option Nat) (cs:List AV) (h:len=0->cap=none\/cap=some 0->cs=[]):SP n (.slice n 0 len cap es) (.cells cs 0)
 |map:SP n (.map n) (.map [] 0)
theorem afy:∀{ps:List (Nat×Nat)}{xs cs:List AV},cK [] ps xs=some cs->cs=[]
 |[],[],cs,h=>by simp[cK]at h;exact h.symm ▸rfl
 |[],_::_,cs,h=>by simp[cK]at h
 |_::_,[],cs,h=>by simp[cK]at h
 |(off,size)::ps,v::vs,cs,h=>by
  unfold cK at h;split at h<;>first|(cases h;done)|skip
  rename_i h1 h2;have h1:=Za6 h1;have h2:=Zb5 h2;have h3:v.cells=[]:=by apply Zc2;simp at h2;omega
  rw[h3]at h;have h4:aU ([]:List AV) off []=[]:=by simp[aU]
  rw[h4]at h;exact afy h
theorem atx {k : aG}{n:Pos}{xs:List AV}{v:AV}{aM:AB}(h:k.run (λ_=>none) n xs=some (.bk v none none (some aM))):SP n v aM:=by
 cases k<;>simp only[aG.run]at h
 case alloc z=>unfold Sn at h;split at h<;>cases h;exact .ptr _
 case box=>unfold acI at h;split at h<;>cases h;exact .ptr _
 case buildSlice es len z p=>
  unfold xx at h;dsimp only at h;split at h<;>cases h;rename_i cs hc;refine .slice _ _ _ _ λh0 _=> ?_
  subst h0;exact afy hc
 case mkMap=>unfold Ss at h;cases h;exact .map
 case mkSlice es b z=>
  unfold DD at h
  repeat' split at h
  all_goals cases h
  refine .slice _ _ _ _ λ_ h1=> ?_
  rcases h1 with h1|h1
  .cases h1
  .simp only[H5]at h1;subst h1;rfl
 case conv c=>
  unfold Gx at h
  repeat' split at h
  all_goals cases h
 case append es bytes=>
  unfold iE at h
  repeat' split at h
  all_goals cases h
  all_goals refine .slice _ _ _ _ λh0 _=> ?_
  all_goals (exfalso;rename_i hb _ _;simp_all)
 case move=>unfold ZB at h;split at h<;>cases h
 case pick=>   unfold aed at h;repeat' split at h
               all_goals cases h
 case build=>unfold Sq at h;dsimp only at h;split at h<;>cases h
 case load=>   unfold Aa at h;repeat' split at h
               all_goals cases h
 case store=>   unfold Mb at h;repeat' split at h
                all_goals cases h
 case nilCheck=>   unfold Pr at h;repeat' split at h
                   all_goals cases h
 case bin=>   unfold jH at h;repeat' split at h
              all_goals cases h
 case un=>   unfold alG at h;repeat' split at h
             all_goals cases h
 case mkIface=>   unfold Sr at h;repeat' split at h
                  all_goals cases h
 case mkFunc=>unfold HP at h;dsimp only at h;cases h
 case lookup=>
  unfold l9 at h;split at h<;>first|(cases h;done)|skip
  dsimp only at h;split at h<;>cases h
 case mapSet=>   unfold yW at h;repeat' split at h
                 all_goals cases h
 case sliceS=>
  unfold WW at h;split at h<;>first|(cases h;done)|skip
  split at h<;>first|(cases h;done)|skip
  dsimp only at h;split at h<;>cases h
 case sliceL=>   unfold iZ at h;repeat' split at h
                 all_goals cases h
 case fieldA=>   unfold WY at h;repeat' split at h
                 all_goals cases h
 case idxA=>   unfold td at h;repeat' split at h
               all_goals cases h
 case field=>   unfold Su at h;repeat' split at h
                all_goals cases h
 case idxS=>   unfold ZC at h;repeat' split at h
               all_goals cases h
 case extract=>   unfold Lp at h;repeat' split at h
                  all_goals cases h
 case callF=>unfold abA at h;dsimp only at h;cases h
 case callV=>   unfold abB at h;repeat' split at h
                all_goals cases h
 case lenB=>   unfold Qz at h;repeat' split at h
               all_goals cases h
 case copyB=>
  unfold pW at h;split at h<;>first|(cases h;done)|skip
  split at h<;>first|(cases h;done)|skip
  dsimp only at h
  repeat' split at h
  all_goals cases h
 case minB=>   unfold LJ at h;repeat' split at h
               all_goals cases h
 case maxB=>   unfold LM at h;repeat' split at h
               all_goals cases h
 case clearS=>   unfold tD at h;repeat' split at h
                 all_goals cases h
 case capB=>cases h
 case bad=>cases h
end
section
def pY(call:aj):Prop:=∀f args st v st',call f args st=some (v,st')->st.next.toNat<=st'.next.toNat
section
variable{call:aj}
theorem SQ(hm:pY call){k:aG}{xs:List AV}{st st':St}{v:AV}(h:cJ call k xs st=some (v,st')):st.next.toNat<=st'.next.toNat:=by
 unfold cJ at h;split at h
 .simp only[H5,Zd2]at h;rw[h.2];exact Za3 _
 .simp only[H5,Zd2]at h;rw[<-h.2];exact St.SL _ _ _ _
 .exact hm _ _ _ _ _ h
 .cases h
theorem Xi(hm:pY call):∀(os:List bV)(fr bI:Fr)(st st':St),mV call os fr st=some (bI,st')->st.next.toNat<=st'.next.toNat
 |[],fr,bI,st,st',h=>by simp only[mV,H5,Zd2]at h;rw[h.2];exact Za3 _
 |o ::os,fr,bI,st,st',h=>by
  unfold mV at h;split at h
  . (split at h<;>first|(cases h;done)|skip);(split at h<;>first|(cases h;done)|skip);rename_i hs;exact Zb2 (SQ hm hs) (Xi hm os _ _ _ _ h)
  .exact Xi hm os _ _ _ _ h
  .cases h
theorem Ad(hm:pY call):∀(os:List (Nat×bV))(recs:List Rec)(base:T AB)(fr bI:Fr)(st st':St),eD call os recs base fr st=some (bI,st')->st.next.toNat<=st'.next.toNat
 |[],recs,base,fr,bI,st,st',h=>by simp only[eD,H5,Zd2]at h;rw[h.2];exact Za3 _
 |(j,   o)::os,recs,base,fr,bI,st,st',h=>by
  have hs:st.next.toNat<=st.next.succ.toNat:=by rw[Pos.aF];omega
  unfold eD at h;split at h
  .exact Ad hm os _ _ _ _ _ _ h
  . (split at h<;>first|(cases h;done)|skip);split at h
    .   (split at h<;>first|(cases h;done)|skip);exact Zb2 hs (Ad hm os _ _ _ _ _ _ h)
    .   (split at h<;>first|(cases h;done)|skip);rename_i hs;exact Zb2 (SQ hm hs) (Ad hm os _ _ _ _ _ _ h)
    .   split at h
        .exact Ad hm os _ _ _ _ _ _ h
        . (split at h<;>first|(cases h;done)|skip);(split at h<;>first|(cases h;done)|skip);exact Ad hm os _ _ _ _ _ _ h
  .cases h
theorem Oq(hm:pY call):∀(m:Nat)(c:AC)(fr bI:Fr)(st st':St)(ex:o6),exec call m c fr st=some (ex,bI,st')->st.next.toNat<=st'.next.toNat
 |0,c,fr,bI,st,st',ex,h=>by simp[exec]at h
 |m +   1,c,fr,bI,st,st',ex,h=>by
  have ih:=Oq hm m;simp only[exec]at h;unfold bD at h;split at h
  .simp only[H5,Zd2]at h;rw[h.2.2];exact Za3 _
  . (split at h<;>first|(cases h;done)|skip);rename_i hs;simp only[H5,Zd2]at h;rw[<-h.2.2];exact Xi hm _ _ _ _ _ hs
  . (split at h<;>first|(cases h;done)|skip);rename_i hs;simp only[H5,Zd2]at h;rw[<-h.2.2];exact Ad hm _ _ _ _ _ _ _ hs
  . split at h
    .   rename_i hs;exact Zb2 (ih _ _ _ _ _ _ hs) (ih _ _ _ _ _ _ h)
    .   exact ih _ _ _ _ _ _ h
  .split at h<;>first|(cases h;done)|exact ih _ _ _ _ _ _ h
  . split at h
    .   rename_i hs;split at h<;>(simp only[H5,Zd2]at h;rw[<-h.2.2];exact ih _ _ _ _ _ _ hs)
    .   exact ih _ _ _ _ _ _ h
  . split at h
    .   rename_i hs;exact Zb2 (ih _ _ _ _ _ _ hs) (ih _ _ _ _ _ _ h)
    .   exact ih _ _ _ _ _ _ h
  .simp only[H5,Zd2]at h;rw[h.2.2];exact Za3 _
  .simp only[H5,Zd2]at h;rw[h.2.2];exact Za3 _
def o8(O:fc):Prop:=∀f s,O f=some s->∀args st v st',s args st=some (v,st')->st.next.toNat<=st'.next.toNat
theorem DT{O:fc}{G:T dR}(hO:o8 O)(m:Nat):∀d,pY (uJ O G m d)
 |0=>λf args st v st' h=>by simp[uJ]at h
 |d +   1=>λf args st v st' h=>by
  have ih:=DT (G:=G) hO m d;unfold uJ at h;split at h
  .rename_i s hs;exact hO f s hs args st v st' h
  . (split at h<;>first|(cases h;done)|skip);(split at h<;>first|(cases h;done)|skip);split at h<;>first|(cases h;done)|skip
    .   rename_i hs;(split at h<;>first|(cases h;done)|skip);simp only[H5,Zd2]at h;rw[<-h.2];exact Oq ih _ _ _ _ _ _ _ hs
    .   rename_i hs;(split at h<;>first|(cases h;done)|skip);simp only[H5,Zd2]at h;rw[<-h.2];exact Oq ih _ _ _ _ _ _ _ hs
end
def rq(dB:Fr):List Rec->Fr
 |[]=>dB
 |r::R=>eF (rq dB R) r.o.dst r.v
def eP(n0:Pos):List Rec->Pos
 |[]=>n0
 |r::_=>r.nx
def RC.qC:RC->Bool
 |.bk _ _=>true
 |_=>false
def mj(h0:T AB):List Rec->T AB
 |[]=>h0
 |  r::R=>match r.c with
    |.bk _ h=>h
    |_=>mj h0 R
def mo(h0:T AB):List Rec->T AB
 |[]=>h0
 |  r::R=>match r.c with
    |.bk _ h=>h
    |.new id aM=>(mo h0 R).put (some aM) id
    |.pure=>mo h0 R
def Ou:List Rec->Prop
 |[]=>True
 |r::_=>r.c.qC=true
def ahK(h0:T AB)(R:List Rec)(o:bV)(xs:List AV)(v:AV):Prop:=
 ∀  A B,R=A++B->Ou B->(∀r∈A,r.c.qC=true->o.cE.testBit r.idx=false)->
    ∃h:T AB,(∀b x,h.get b=some x->(mj h0 B).get b=some x\/∃r∈A,r.c= .new b x/\o.cE.testBit r.idx=true)/\o.k.run (λb=>h.get b) .h xs=some (.val v)
inductive uU(call:aj)(dB:Fr)(h0:T AB)(n0:Pos):Rec->List Rec->Prop where
 |skip (i:Nat) (o:bV) (R:List Rec) (hw:cN (rq dB R) o.guard=some false):
  uU call dB h0 n0 { idx:=i,o:=o,v:= .undef,c:= .pure,nx:=eP n0 R } R
 |pure (i:Nat) (o:bV) (v:AV) (xs:List AV) (R:List Rec) (hw:cN (rq dB R) o.guard=some true) (hx:gu (rq dB R) o.xs=some xs) (hr:ahK h0 R o xs v):
  uU call dB h0 n0 { idx:=i,o:=o,v:=v,c:= .pure,nx:=eP n0 R } R
 |new (i:Nat) (o:bV) (v:AV) (aM:AB) (xs:List AV) (R:List Rec) (hw:cN (rq dB R) o.guard=some true) (hx:gu (rq dB R) o.xs=some xs)
  (hr:o.k.run (λ_=>none) (eP n0 R) xs=some (.bk v none none (some aM))):
  uU call dB h0 n0 { idx:=i,o:=o,v:=v,c:= .new (eP n0 R) aM,nx:=(eP n0 R).succ } R
 |bk (i:Nat) (o:bV) (v:AV) (st':St) (xs:List AV) (R:List Rec) (hc:o.cls= .bk) (hw:cN (rq dB R) o.guard=some true) (hx:gu (rq dB R) o.xs=some xs)
  (hr:cJ call o.k xs { heap:=mo h0 R,next:=eP n0 R }=some (v,st')):
  uU call dB h0 n0 { idx:=i,o:=o,v:=v,c:= .bk (mj h0 R) st'.heap,nx:=st'.next } R
def Good(call:aj)(dB:Fr)(h0:T AB)(n0:Pos):List Rec->Prop
 |[]=>True
 |r::R=>uU call dB h0 n0 r R/\Good call dB h0 n0 R
section
variable{call:aj}{dB:Fr}{h0:T AB}{n0:Pos}
theorem Good.tail:∀{A B:List Rec},Good call dB h0 n0 (A++B)->Good call dB h0 n0 B
 |[],_,h=>h
 |_::_,_,h=>Good.tail h.2
theorem Good.at{A B:List Rec}{r:Rec}(h:Good call dB h0 n0 (A++r::B)):uU call dB h0 n0 r B:=(Good.tail h).1
theorem SS:∀{A B:List Rec},(∀r∈A,r.c.qC=false)->mj h0 (A++B)=mj h0 B
 |[],_,_=>rfl
 |r::A,B,h=>by
  have h1:=h r (Ze2 ..);have ih:=SS (A:=A) (B:=B) λr hr=>h r (Zb0 _ hr)
  simp only[Zd5,mj];split
  .rename_i hc;rw[hc]at h1;cases h1
  .exact ih
theorem abI{cE:Nat}:∀{A B:List Rec}{h:T AB}{b:Pos}{x:AB},(∀r∈A,r.c.qC=false)->Ou B->(snap cE h (A++B)).get b=some x->
  h.get b=some x\/∃r∈A,r.c= .new b x/\cE.testBit r.idx=true
 |[],B,h,b,x,_,hB,hs=>by
  cases B with
  |nil=>exact .inl hs
  | cons r B=>
    simp only[Ou]at hB;simp only[Ze3,snap]at hs;(cases hc:r.c<;>rw[hc]at hB<;>first|(cases hB;done)|skip);rw[hc]at hs;exact .inl hs
 |r ::A   ,B,h,b,x,hA,hB,hs=>by
  have ih:=@abI cE A B h b x (λr hr=>hA r (Zb0 _ hr)) hB;have up:(h.get b=some x\/∃r∈A,r.c= .new b x/\cE.testBit r.idx=true)->h.get b=some x\/∃r'∈r::A,r'.c= .new b x/\cE.testBit r'.idx=true:=λh1=>
    h1.imp id λ⟨r',h2,h3⟩=>⟨r',Zb0 _ h2,h3⟩
  simp only[Zd5,snap]at hs;cases hc:r.c with
  |pure=>rw[hc]at hs;exact up (ih hs)
  |bk b1 h1=>have:=hA r (Ze2 ..);rw[hc]at this;cases this
  | new   id aM=>
    rw[hc]at hs;cases ht:cE.testBit r.idx with
    |false=>simp only[ht]at hs;exact up (ih hs)
    |   true=>
        simp only[ht]at hs;by_cases hid:id=b
        .subst hid;rw[T.gU]at hs;simp only[H5]at hs;subst hs;exact .inr ⟨r,Ze2 ..,hc,ht⟩
        .rw[T.cC _ hid]at hs;exact up (ih hs)
theorem afz:∀{up:List (Pos×AB)}{h:T AB}{b:Pos}{x:AB},(nZ up h).get b=some x->h.get b=some x\/(b,x)∈up
 |[],_,_,_,h=>.inl h
 |(id,aM)::up,h,b,x,hs=>by
  unfold nZ at hs;by_cases hid:id=b
  .subst hid;rw[T.gU]at hs;simp only[H5]at hs;subst hs;exact .inr (Ze2 ..)
  .rw[T.cC _ hid]at hs;exact(afz hs).imp (λh=>h) λh=>Zb0 _ h
theorem SU:∀(A:List Rec),(∀r∈A,r.c.qC=false)\/∃r∈A,r.c.qC=true
 |[]=>.inl λr h=>by cases h
 |r::A=>by
  cases hr:r.c.qC with
  |true=>exact .inr ⟨r,Ze2 ..,hr⟩
  |false=>
   rcases SU A with h|⟨r',h1,h2⟩
   . exact .inl λr' oe=>by
      rcases Za8.1 oe with rfl|h'
      .exact hr
      .exact h r' h'
   .exact .inr ⟨r',Zb0 _ h1,h2⟩
theorem U6{cE:Nat}{k:aG}{xs:List AV}{v:AV}:∀(A B:List Rec)(up:List (Pos×AB)),oJ cE k xs v up (A++B)=true->Good call dB h0 n0 (A++B)->Ou B->
  (∀r∈A,r.c.qC=true->cE.testBit r.idx=false)->(∃r∈A,r.c.qC=true)->
  ∃h:T AB,(∀b x,h.get b=some x->(mj h0 B).get b=some x\/(∃r∈A,r.c= .new b x/\cE.testBit r.idx=true)\/(b,x)∈up)/\k.run (λb=>h.get b) .h xs=some (.val v)
 |[],B,up,_,_,_,_,he=>by obtain⟨r,hr,_⟩:=he;cases hr
 |r::A    , B,up,JX,hG,hB,hn,he=>by
  have hn':∀r∈A,r.c.qC=true->cE.testBit r.idx=false:=λr' oe=>hn r' (Zb0 _ oe)
  have ih:=λup (h2:oJ cE k xs v up (A++B)=true) h3=>U6 A B up h2 hG.2 hB hn' h3
  simp only[Zd5,oJ]at JX;cases hc:r.c with
  |pure=>
   rw[hc]at JX;have sw:∃r∈A,r.c.qC=true:=by
        obtain⟨r',h1,h2⟩:=he;rcases Za8.1 h1 with rfl|h1
        .rw[hc]at h2;cases h2
        .exact⟨r',h1,h2⟩
   obtain⟨h,h1,h2⟩:=ih up JX sw;exact⟨h,λb x hb=>(h1 b x hb).imp (λh=>h) (Or.imp (λ⟨r',h3,h4⟩=>⟨r',Zb0 _ h3,h4⟩) λh=>h),h2⟩
  |new    id aM=>
   rw[hc]at JX;have sw:∃r∈A,r.c.qC=true:=by
        obtain⟨r',h1,h2⟩:=he;rcases Za8.1 h1 with rfl|h1
        .rw[hc]at h2;cases h2
        .exact⟨r',h1,h2⟩
   cases ht:cE.testBit r.idx with
   |    false=>
        simp only[ht]at JX;obtain⟨h,h1,h2⟩:=ih up JX sw;exact⟨h,λb x hb=>(h1 b x hb).imp (λh=>h) (Or.imp (λ⟨r',h3,h4⟩=>⟨r',Zb0 _ h3,h4⟩) λh=>h),h2⟩
   |    true=>
        simp only[ht]at JX;obtain⟨h,h1,h2⟩:=ih _ JX sw;refine⟨h,λb x hb=> ?_,h2⟩;rcases h1 b x hb with h3|⟨r',h3,h4⟩|h3
        .exact .inl h3
        .exact .inr (.inl ⟨r',Zb0 _ h3,h4⟩)
        . rcases Za8.1 h3 with h3|h3
          .simp only[Zd2]at h3;obtain⟨rfl,rfl⟩:=h3;exact .inr (.inl ⟨r,Ze2 ..,hc,ht⟩)
          .exact .inr (.inr h3)
  |bk base h=>
   rw[hc]at JX;have ht:=hn r (Ze2 ..) (by rw[hc];rfl);simp only[ht,Zb1]at JX;rcases SU A with hA|hA
   .    have awk:base=mj h0 B:=(by have hs:=hG.1;(cases hs<;>simp only at hc<;>first|(cases hc;done)|skip);simp only[RC.bk.injEq]at hc;rw[<-hc.1];exact SS hA);have hra:=JX.1;unfold pL at hra;(split at hra<;>first|(cases hra;done)|skip);rename_i u hu;rw[zi hra]at hu;refine⟨_,λb x hb=> ?_,hu⟩;rcases afz hb with hb|hb
        . rcases abI hA hB hb with h3|⟨r',h3,h4⟩
          .rw[<-awk];exact .inl h3
          .exact .inr (.inl ⟨r',Zb0 _ h3,h4⟩)
        .exact .inr (.inr hb)
   .    obtain⟨h,h1,h2⟩:=ih up JX.2 hA;exact⟨h,λb x hb=>(h1 b x hb).imp (λh=>h) (Or.imp (λ⟨r',h3,h4⟩=>⟨r',Zb0 _ h3,h4⟩) λh=>h),h2⟩
theorem acZ:  ∀(L:List (Nat×bV))(R:List Rec)(fr bI:Fr)(st st':St),eD call L R (mj h0 R) fr st=some (bI,st')->Good call dB h0 n0 R->
  fr=rq dB R->st.heap=mo h0 R->st.next=eP n0 R->
  ∃R',Good call dB h0 n0 (R'++R)/\(R'.map λr=>(r.idx,r.o))=L.reverse/\bI=rq dB (R'++R)/\st'.heap=mo h0 (R'++R)/\st'.next=eP n0 (R'++R)
 |[],R,fr,bI,st,st',h,hG,h1,h2,h3=>by
  simp only[eD,H5,Zd2]at h;obtain⟨rfl,rfl⟩:=h;exact⟨[],hG,rfl,h1,h2,h3⟩
 |(j,   o)::  L,R,fr,bI,st,st',h,hG,h1,h2,h3=>by
  have fin:∀(r:Rec)(bE:St)(fh:Fr),r.idx=j->r.o=o->uU call dB h0 n0 r R->fh=rq dB (r::R)->bE.heap=mo h0 (r::R)->bE.next=r.nx->
        eD call L (r::R) (mj h0 (r::R)) fh bE=some (bI,st')->
        ∃R',Good call dB h0 n0 (R'++R)/\(R'.map λr=>(r.idx,r.o))=((j,o)::L).reverse/\bI=rq dB (R'++R)/\st'.heap=mo h0 (R'++R)/\st'.next=eP n0 (R'++R):=by
    intro r bE fh hj ho hs k1 k2 k3 hd;obtain⟨R',g1,g2,g3,g4,g5⟩:=acZ L (r::R) fh bI bE st' hd ⟨hs,hG⟩ k1 k2 k3;have e:R'++r::R=(R'++[r])++R:=(by simp);rw[e]at g1 g3 g4 g5;exact⟨R'++[r],g1,by simp[g2,hj,ho],g3,g4,g5⟩
  unfold eD at h;subst h1;split at h
  .rename_i hw;exact fin _ _ _ rfl rfl (h3 ▸uU.skip j o R hw) rfl h2 rfl h
  . rename_i hw;(split at h<;>first|(cases h;done)|skip);rename_i xs hx;split at h
    .   (split at h<;>first|(cases h;done)|skip);rename_i v aM hr;rw[h3]at hr;have hs:=uU.new (call:=call) (dB:=dB) (h0:=h0) (n0:=n0) j o v aM xs R hw hx hr;rw[<-h3]at hs;refine fin _ _ _ rfl rfl hs rfl ?_ rfl h;simp only[mo,h2]
    .   rename_i aqC;(split at h<;>first|(cases h;done)|skip);rename_i v bE hr;have iQ:st={ heap:=mo h0 R,next:=eP n0 R }:=(by cases st;simp_all);rw[iQ]at hr;exact fin _ bE _ rfl rfl (uU.bk j o v bE xs R aqC hw hx hr) rfl rfl rfl h
    .   split at h
        . rename_i v hr;have hro:ahK h0 R o xs v:=by
           intro A B _ _ _;refine⟨.e,λb x hb=> ?_,?_⟩
           .  rw[T.dS]at hb;cases hb
           .  have e:(λb=>T.get b (T.e:T AB))=λ_=>none:=(by funext b;exact T.dS b);rw[e];exact hr
          exact fin _ _ _ rfl rfl (h3 ▸uU.pure j o v xs R hw hx hro) rfl h2 rfl h
        . (split at h<;>first|(cases h;done)|skip);rename_i v hr;(split at h<;>first|(cases h;done)|skip);rename_i JX;have hro:ahK h0 R o xs v:=by
           intro A B hAB hB hn;subst hAB;rcases SU A with hA|hA
           .  refine⟨_,λb x hb=> ?_,hr⟩;have:=abI hA hB hb;rw[SS hA]at this;exact this
           .  obtain⟨h,k1,k2⟩:=U6 A B [] JX hG hB hn hA;exact⟨h,λb x hb=>(k1 b x hb).imp id λh=>h.resolve_right (by simp),k2⟩
          exact fin _ _ _ rfl rfl (h3 ▸uU.pure j o v xs R hw hx hro) rfl h2 rfl h
  .cases h
end
end
section
open Go
structure Late(m:Nat)(pre:List Nat)(L:List (Nat×bV)):Prop where
 all:∀i,i<m->i∈pre\/i∈L.map (·.1)
 lt:∀x∈L,x.1<m
 one:∀A i o B,L=A++(i,o)::B->i∉pre/\i∉A.map (·.1)
 cE:∀A i o B,L=A++(i,o)::B->∀b,o.cE.testBit b=true->b∈pre\/b∈A.map (·.1)
 bk:∀A i o B,L=A++(i,o)::B->o.cls= .bk->∀b,(b∈pre\/b∈A.map (·.1))->o.cE.testBit b=true
 apart:∀A i o B,L=A++(i,o)::B->∀x∈B,x.2.cE.testBit i=true\/WZ o x.2=true
theorem aaX{m:Nat}:∀(L:List (Nat×bV))(seen:Nat)(pre:List Nat),QF m seen L=true->(∀b,seen.testBit b=true↔b∈pre)->Late m pre L
 |[],seen,pre,h,hs=>by
  simp only[QF]at h;have:=Za6 h;refine⟨λi hi=>.inl ((hs i).1 ?_),λx hx=>(by cases hx),λA i o B h=> ?_,λA i o B h=> ?_,λA i o B h=> ?_,λA i o B h=> ?_⟩
  .rw[this,Nat.testBit_two_pow_sub_one];simpa using hi
  all_goals (cases A<;>cases h)
 |(i,   o)::L,seen,pre,h,hs=>by
  simp only[QF,Zb1]at h;obtain⟨⟨⟨⟨⟨h1,h2⟩,h3⟩,h4⟩,h5⟩,h6⟩:=h;have h1:i<m:=Zb5 h1;have h2:i∉pre:=λhp=>by rw[(hs i).2 hp]at h2;cases h2
  have h3:=Za6 h3;have hb:∀b,o.cE.testBit b=true->b∈pre:=λb hb=>by rw[<-h3,Nat.testBit_and,Zb1]at hb;exact(hs b).1 hb.2
  have he:o.cls= .bk->∀b,b∈pre->o.cE.testBit b=true:=λhc b hp=>by rw[hc]at h4;rw[Za6 h4];exact(hs b).2 hp
  have ih:=aaX L (seen ||| 2 ^ i) (pre++[i]) h6 (λb=>by
    rw[Nat.testBit_or,Nat.testBit_two_pow,Zj8,hs b,Zd7];simp[eq_comm])
  rw[Zh3]at h5;have ag7:∀{A:List (Nat×bV)}{j:Nat}{p:bV}{B:List (Nat×bV)},(i,o)::L=A++(j,p)::B->(A=[]/\i=j/\o=p/\L=B)\/∃A',A=(i,o)::A'/\L=A'++(j,p)::B:=by
    intro A j p B hA;cases A with
    |nil=>simp at hA;exact .inl ⟨rfl,hA.1.1,hA.1.2,hA.2⟩
    |cons x A=>simp at hA;exact .inr ⟨A,by rw[hA.1],hA.2⟩
  refine⟨λj hj=> ?_,λx hx=> ?_,λA j p B hA=> ?_,λA j p B hA=> ?_,λA j p B hA=> ?_,λA j p B hA=> ?_⟩
  . rcases ih.all j hj with h|h
    .   rcases Zd7.1 h with h|h
        .exact .inl h
        .simp at h;exact .inr (by simp[h])
    .   exact .inr (by simp only[Zd1,Za8];exact .inr h)
  . rcases Za8.1 hx with rfl|hx
    .   exact h1
    .   exact ih.lt x hx
  . rcases ag7 hA with⟨rfl,rfl,rfl,rfl⟩|⟨A',rfl,U7⟩
    .   exact⟨h2,by simp⟩
    .   obtain⟨k1,k2⟩:=ih.one A' j p B U7;simp only[Zd7,Zh7,not_or]at k1;exact⟨k1.1,by simp only[Zd1,Za8,not_or];exact⟨k1.2,k2⟩⟩
  . rcases ag7 hA with⟨rfl,rfl,rfl,rfl⟩|⟨A',rfl,U7⟩
    .   exact λb vS=>.inl (hb b vS)
    .   intro b vS;rcases ih.cE A' j p B U7 b vS with h|h
        . rcases Zd7.1 h with h|h
          .exact .inl h
          .simp at h;exact .inr (by simp[h])
        .exact .inr (by simp only[Zd1,Za8];exact .inr h)
  . rcases ag7 hA with⟨rfl,rfl,rfl,rfl⟩|⟨A',rfl,U7⟩
    .   intro hc b vS;rcases vS with h|h
        .exact he hc b h
        .simp at h
    .   intro hc b vS;refine ih.bk A' j p B U7 hc b ?_;rcases vS with h|h
        .exact .inl (Zd7.2 (.inl h))
        . simp only[Zd1,Za8]at h;rcases h with rfl|h
          .exact .inl (by simp)
          .exact .inr h
  . rcases ag7 hA with⟨rfl,rfl,rfl,rfl⟩|⟨A',rfl,U7⟩
    .   intro x hx;have:=h5 x hx
        rwa [Zj8]at this
    .   exact ih.apart A' j p B U7
inductive Reach(ops:Array Oper):Nat->Nat->Prop where
 |edge (i:Nat) (o:Oper) (e:Edge) (ho:ops[i]? =some o) (he:e∈o.after) (hb:Region.binds .any e=true):Reach ops i e.on
 |trans (i:Nat) (o:Oper) (e:Edge) (b:Nat) (ho:ops[i]? =some o) (he:e∈o.after) (hb:Region.binds .any e=true) (h:Reach ops e.on b):Reach ops i b
def al4(ops:Array Oper)(i m:Nat):Prop:=
 (∀o,ops[i]? =some o->∀e∈o.after,Region.binds .any e=true->m.testBit e.on=true)/\∀b,m.testBit b=true->Reach ops i b
theorem aem(acc:List Nat):∀(l:List Edge)(s b:Nat),(l.foldl (λs e=>match Region.binds .any e with
   |true=>s ||| 2 ^ e.on ||| (nth acc e.on).getD 0
   |false=>s) s).testBit b=true↔s.testBit b=true\/∃e∈l,Region.binds .any e=true/\(e.on=b\/((nth acc e.on).getD 0).testBit b=true)
 |[],s,b=>by simp
 |e::l,s,b=>by
  rw[Zs1,aem acc l];cases he:Region.binds .any e with
  |false=>simp[he]
  |true=>
   simp only[Nat.testBit_or,Zj8,Nat.testBit_two_pow,Ze1,Za8,exists_eq_or_imp,he,Zr4];constructor
   .    rintro(((h|h)|h)|h)
        .exact .inl h
        .exact .inr (.inl (.inl h))
        .exact .inr (.inl (.inr h))
        .exact .inr (.inr h)
   .    rintro(h|(h|h)|h)
        .exact .inl (.inl (.inl h))
        .exact .inl (.inl (.inr h))
        .exact .inl (.inr h)
        .exact .inr h
theorem akN {ops:Array Oper}:∀(os:List Oper)(acc:List Nat),os=ops.toList.drop acc.length->acc.length<=ops.size->(∀i,i<acc.length->al4 ops i (acc.getD i 0))->
  ∀i,i<ops.size->al4 ops i ((ahp os acc).getD i 0)
 |[],acc,hos,hl,al5,i,hi=>by
  have h1:(ops.toList.drop acc.length).length=0:=by rw[<-hos];rfl
  have:ops.size<=acc.length:=by simp at h1;omega
  exact al5 i (by omega)
 |o ::os,acc,hos,hl,al5,i,hi=>by
  simp only[ahp];have ho:ops[acc.length]? =some o:=by have:(ops.toList.drop acc.length)[0]? =some o:=(by rw[<-hos];rfl);simpa using this
  have aW:acc.length<ops.size:=(Zd3.1 ho).1;refine akN os _ ?_ (by simp;omega) (λj hj=> ?_) i hi
  .rw[Zd6,Zo6, <-Zl3, <-hos];rfl
  . rcases Zj2 j acc.length with h|h
    .   rw[Zb3,Zc5 h, <-Zb3];exact al5 j h
    .   have Mf:j=acc.length:=(by simp at hj;omega);subst Mf;rw[Zb3,Zc4 (Za3 _)];simp only[Zl1,Za5,Ze8];refine⟨λo' Oo e he hb=> ?_,λb hb=> ?_⟩
        .rw[ho]at Oo;simp only[H5]at Oo;subst Oo;exact(aem acc _ 0 e.on).2 (.inr ⟨e,by simpa using he,hb,.inl rfl⟩)
        . have hb:=(aem acc _ 0 b).1 hb;rcases hb with hb|⟨e,he,vS,hb⟩
          .simp at hb
          . have sw:e∈o.after:=(by simpa using he);rcases hb with rfl|hb
            .exact .edge _ o e ho sw vS
            . refine .trans _ o e b ho sw vS ?_;rw[rf]at hb;rcases Zj2 e.on acc.length with h|h
              .exact(al5 _ h).2 b (by rw[Zb3];exact hb)
              .rw[Zc3 h]at hb;simp at hb
theorem akO:∀(l:List bV)(k:Nat)(x:Nat×bV),x∈Md k l->∃i,x.1=k+i/\l[i]? =some x.2
 |[],k,x,h=>by cases h
 |o ::l,k,x,h=>by
  simp only[Md,Za8]at h;rcases h with rfl|h
  .exact⟨0,rfl,rfl⟩
  .obtain⟨i,h1,h2⟩:=akO l (k+1) x h;exact⟨i+1,by omega,by simpa using h2⟩
theorem Xj:∀(l held:List (Nat×bV))(x:Nat×bV),x∈BS l held->x∈l\/x∈held
 |[],held,x,h=>.inr h
 |(i,   o)::l,held,x,h=>by
  unfold BS at h;split at h
  . rcases Zd7.1 h with h|h
    .   exact .inr (Zk9.1 h).1
    .   rcases Za8.1 h with h|h
        .exact .inl (by rw[h];exact Ze2 ..)
        . rcases Xj l _ x h with h|h
          .exact .inl (Zb0 _ h)
          .exact .inr (Zk9.1 h).1
  . rcases Xj l _ x h with h|h
    .   exact .inl (Zb0 _ h)
    .   rcases Zd7.1 h with h|h
        .exact .inr h
        .simp at h;exact .inl (by rw[h];exact Ze2 ..)
theorem aty{l:List bV}{x:Nat×bV}(h:x∈BS (Md 0 l) []):l[x.1]? =some x.2:=by
 rcases Xj _ _ _ h with h|h
 .obtain⟨i,h1,h2⟩:=akO l 0 x h;rw[h1,Zb8];exact h2
 .cases h
theorem SV{p:Pos}:∀{l:List Pos},QE p l=true↔p∈l
 |[]=>by simp[QE]
 |q::l=>by simp[QE,SV (l:=l),Pos.beq_eq]
theorem Pz{a b:bV}(h:WZ a b=true):
   (∀d,a.dst=some d->d∉b.looks/\b.dst≠some d)/\(∀d,b.dst=some d->d∉a.looks):=by
 unfold WZ at h;rw[Zb1]at h;obtain⟨h1,h2⟩:=h;constructor
 . intro d hd;rw[hd]at h1;simp only[Zb1,Zj6]at h1;refine⟨λhm=> ?_,λhb=> ?_⟩
   .rw[SV.2 hm]at h1;exact absurd h1.1 (by simp)
   .rw[hb]at h1;have:Pos.beq d d=true:=Pos.beq_eq.2 rfl;simp[this]at h1
 .intro d hd hm;rw[hd]at h2;simp only[Zj6]at h2;rw[SV.2 hm]at h2;cases h2
section
variable(P:Program)(tt:TT)(C:Cells)(nt:Nat)(ops:Array Oper)(call:aj)(dB:Fr)(h0:T AB)(n0:Pos)(R:List Rec)
structure DU:Prop where
 abJ:Good call dB h0 n0 R
 mono:pY call
 one:∀A r B,R=A++r::B->∀r'∈B,r'.idx≠r.idx
 cE:∀A r B,R=A++r::B->∀b,r.o.cE.testBit b=true->∃r'∈B,r'.idx=b
 bk:∀A r B,R=A++r::B->r.o.cls= .bk->∀r'∈B,r.o.cE.testBit r'.idx=true
 apart:∀A r B,R=A++r::B->∀r'∈A,r'.o.cE.testBit r.idx=true\/WZ r.o r'.o=true
 rel:∀r∈R,∃o,ops[r.idx]? =some o/\Ac tt nt ops o r.o/\al4 ops r.idx r.o.cE
 all:∀i,i<ops.size->∃r∈R,r.idx=i
def Kept(D:Nat->Prop)(b:Pos):Prop:=∀A r B,R=A++r::B->¬D r.idx->b.toNat<(eP n0 B).toNat\/r.nx.toNat<=b.toNat
def T1(D:Nat->Prop)(ρ:Pos->Loc)(tmps:Array Value):Prop:=
 ∀M s T p,R=M++s::T->D s.idx->s.o.dst=some p->(∀s'∈M,D s'.idx->s'.o.dst≠some p)->∃x,tmps[p.toNat - 1]? =some x/\aC ρ s.nx.toNat C s.v x
def T0(D:Nat->Prop)(ρ:Pos->Loc)(tmps:Array Value):Prop:=
 ∀p v,dB.get p=some v->(∀s∈R,D s.idx->s.o.dst≠some p)->∃x,tmps[p.toNat - 1]? =some x/\aC ρ n0.toNat C v x
structure Pre(D:Nat->Prop)(A B:List Rec)(a:Act):Prop where
 split:R=A++B
 bound:Ou B
 inB:∀r∈B,D r.idx
 inA:∀r∈A,D r.idx->r.c.qC=false
 closed:∀i o e,D i->ops[i]? =some o->e∈o.after->Region.binds .any e=true->D e.on
 size:a.tmps.size=nt
 defers:a.defers=[]
structure Inv0(oh:Pos->Loc)(w0:World)(D:Nat->Prop)(A B:List Rec)(ρ:Pos->Loc)(a:Act)(w:World):Prop where
 W:bZ ρ C { heap:=mj h0 B,next:=eP n0 B } w
 N:∀r∈A,D r.idx->∀id aM,r.c= .new id aM->uh ρ r.nx.toNat C (ρ id) w aM/\(ρ id).aM<w.heap.size/\w0.heap.size<=(ρ id).aM/\
  (∀b x,(mj h0 B).get b=some x->(ρ b).aM≠(ρ id).aM)/\(∀ad v,C ad=some v->(ρ id).aM≠ad.block)
 N2:∀r∈A,D r.idx->∀id aM,r.c= .new id aM->∀r'∈A,D r'.idx->∀yx Jv,r'.c= .new yx Jv->id≠yx->(ρ id).aM≠(ρ yx).aM
 t1:T1 C R D ρ a.tmps
 t0:T0 C dB n0 R D ρ a.tmps
 E:pg oh { heap:=h0,next:=n0 } w0 ρ { heap:=mj h0 B,next:=eP n0 B } w
 agree:∀b:Pos,b.toNat<n0.toNat->ρ b=oh b
def Inv(oh:Pos->Loc)(w0:World)(D:Nat->Prop)(A B:List Rec)(ρ:Pos->Loc)(a:Act)(w:World):Prop:=
 Pre nt ops R D A B a/\∀ρ',(∀b,Kept n0 R D b->ρ' b=ρ b)->Inv0 C dB h0 n0 R oh w0 D A B ρ' a w
end
section
variable{P:Program}{tt:TT}{C:Cells}{nt:Nat}{ops:Array Oper}{call:aj}{dB:Fr}{h0:T AB}{n0:Pos}{R:List Rec}
theorem Mp(h:∀A r B,R=A++r::B->∀r'∈B,r'.idx≠r.idx){X X' Y Y':List Rec}{r r':Rec}(h1:R=X++r::Y)(h2:R=X'++r'::Y')(hi:r.idx=r'.idx):
   X=X'/\r=r'/\Y=Y':=by
 have h3:X++r::Y=X'++r'::Y':=h1.symm.trans h2;rcases List.append_eq_append_iff.1 h3 with⟨Z,hX,hZ⟩|⟨Z,hX,hZ⟩
 . cases Z with
   |nil=>simp at hZ hX;exact⟨hX.symm,hZ.1,hZ.2⟩
   |cons z Z=>
    simp at hZ;exact absurd hi.symm (h X r Y h1 r' (by rw[hZ.2];simp))
 . cases Z with
   |nil=>simp at hZ hX;exact⟨hX,hZ.1.symm,hZ.2.symm⟩
   |cons z Z=>
    simp at hZ;exact absurd hi (h X' r' Y' h2 r (by rw[hZ.2];simp))
theorem pO{r:Rec}(h:r∈R):∃A B,R=A++r::B:=List.append_of_mem h
theorem akP(hm:pY call){r:Rec}{B:List Rec}(h:uU call dB h0 n0 r B):(eP n0 B).toNat<=r.nx.toNat:=by
 cases h with
 |skip=>exact Za3 _
 |pure=>exact Za3 _
 |new=>simp only[Pos.aF];omega
 |bk i o v st' xs _ hc hw hx hr=>exact SQ hm hr
theorem aen(hm:pY call):∀{A B:List Rec},Good call dB h0 n0 (A++B)->(eP n0 B).toNat<=(eP n0 (A++B)).toNat
 |[],_,_=>Za3 _
 |r::A,B,h=>Zb2 (aen hm (A:=A) h.2) (akP hm h.1)
namespace DU
variable(G:DU tt nt ops call dB h0 n0 R)
include G
theorem later{X Y:List Rec}{r r':Rec}(h:R=X++r::Y)(hr:r'∈X):r'.idx≠r.idx:=by
 obtain⟨A,B,rfl⟩:=pO hr;have h':R=A++r'::(B++r::Y):=by rw[h];simp
 exact λe=>G.one _ _ _ h' r (by simp) e.symm
theorem asY{X Y:List Rec}{r:Rec}(h:R=X++r::Y):(eP n0 Y).toNat<=r.nx.toNat:=akP G.mono (Good.at (h ▸G.abJ))
theorem HX{X Y Z:List Rec}(h:R=X++(Y++Z)):(eP n0 Z).toNat<=(eP n0 (Y++Z)).toNat:=aen G.mono (Good.tail (h ▸G.abJ))
theorem al6{X Y:List Rec}(h:R=X++Y):n0.toNat<=(eP n0 Y).toNat:=by have:=aen (n0:=n0) G.mono (A:=Y) (B:=[]) (by rw[Zd9];exact Good.tail (h ▸G.abJ));rw[Zd9]at this;exact this
theorem ac0{D:Nat->Prop}(hc:∀i o e,D i->ops[i]? =some o->e∈o.after->Region.binds .any e=true->D e.on){i b:Nat}(h:Reach ops i b)
  (hi:∀o e,ops[i]? =some o->e∈o.after->Region.binds .any e=true->D e.on):D b:=by
 induction h with
 |edge i o e ho he hb=>exact hi o e ho he hb
 |trans i o e b ho he hb _ ih=>exact ih λo' e' Oo sw dY=>hc _ o' e' (hi o e ho he hb) Oo sw dY
theorem asZ{D:Nat->Prop}{A B:List Rec}{a:Act}(hp:Pre nt ops R D A B a){s:Rec}(hs:s∈R)(hD:D s.idx){b:Nat}(hb:s.o.cE.testBit b=true):D b:=by obtain⟨o,ho,_,hB⟩:=G.rel s hs;exact G.ac0 hp.closed (hB.2 b hb) λo' e Oo he vS=>hp.closed _ o' e hD Oo he vS
end DU
theorem Xk:∀(Y:List Rec)(p:Pos)(v:AV),(rq dB Y).get p=some v->
  (∃M s T,Y=M++s::T/\s.o.dst=some p/\s.v=v/\∀s'∈M,s'.o.dst≠some p)\/(dB.get p=some v/\∀s∈Y,s.o.dst≠some p)
 |[],p,v,h=>.inr ⟨h,λs hs=>by cases hs⟩
 |r ::Y   ,p,v,h=>by
  simp only[rq]at h;by_cases hr:r.o.dst=some p
  .rw[hr]at h;simp only[eF,T.gU,H5]at h;exact .inl ⟨[],r,Y,rfl,hr,h,λs hs=>by cases hs⟩
  . have h':(rq dB Y).get p=some v:=by
        cases hd:r.o.dst with
        |none=>rw[hd]at h;exact h
        | some d=>
          rw[hd]at h;simp only[eF]at h
          rwa [T.cC _ λe=>hr (by rw[hd,e])]at h
    rcases Xk Y p v h' with⟨M,s,T,rfl,h2,h3,h4⟩|⟨h2,h3⟩
    .   refine .inl ⟨r::M,s,T,rfl,h2,h3,λs' rj=> ?_⟩;rcases Za8.1 rj with rfl|rj
        .exact hr
        .exact h4 s' rj
    .   refine .inr ⟨h2,λs hs=> ?_⟩;rcases Za8.1 hs with rfl|hs
        .exact hr
        .exact h3 s hs
theorem look(G:DU tt nt ops call dB h0 n0 R){D:Nat->Prop}{A B:List Rec}{a:Act}(hp:Pre nt ops R D A B a){ρ:Pos->Loc}(h1:T1 C R D ρ a.tmps)(h2:T0 C dB n0 R D ρ a.tmps)
   {X Y:List Rec} {r:Rec} (hR:R=X++r::Y) (hD:¬D r.idx) (aeo:∀b,r.o.cE.testBit b=true->D b) {p:Pos} {v:AV} (hl:p∈r.o.looks) (hv:(rq dB Y).get p=some v):
   ∃x,a.tmps[p.toNat - 1]? =some x/\aC ρ (eP n0 Y).toNat C v x:=by
 have hX:∀s∈X,D s.idx->s.o.dst≠some p:=by
   intro s hs iT hd;rcases G.apart X r Y hR s hs with h|h
   .exact hD (G.asZ hp (by rw[hR];simp[hs]) iT h)
   .exact(Pz h).2 p hd hl
 rcases Xk Y p v hv with⟨M,s,T,rfl,h3,rfl,h4⟩|⟨h3,h4⟩
 . have hR':R=(X++r::M)++s::T:=(by rw[hR];simp);have iT:D s.idx:=by
     rcases G.apart _ s T hR' r (by simp)with h|h
     .  exact aeo _ h
     .  exact absurd hl ((Pz h).1 p h3).1
   obtain⟨x,hx,Xl⟩:=h1 (X++r::M) s T p hR' iT h3 (λs' rj Mq=>by
     rcases Zd7.1 rj with h|h
     .  exact hX s' h Mq
     .  rcases Za8.1 h with rfl|h
        .exact absurd Mq hD
        .exact h4 s' h)
   refine⟨x,hx,Xl.mono (λ_ _=>rfl) ?_⟩;have:=G.HX (X:=X++[r]) (Y:=M) (Z:=s::T) (by rw[hR];simp);exact this
 . obtain⟨x,hx,Xl⟩:=h2 p v h3 (λs hs iT=>by
     rw[hR]at hs;rcases Zd7.1 hs with h|h
     .  exact hX s h iT
     .  rcases Za8.1 h with rfl|h
        .exact absurd iT hD
        .exact h4 s h)
   exact⟨x,hx,Xl.mono (λ_ _=>rfl) (G.al6 (X:=X++[r]) (by rw[hR];simp))⟩
theorem Ov{a:Act}{d:Option Tmp}{x:Value}{p:Pos}(h:d.map key≠some p):(a.put d x).tmps[p.toNat - 1]? =a.tmps[p.toNat - 1]? :=by
 cases d with
 |none=>rfl
 |some e=>
  simp only[Act.put];rw[Zk0];intro he;apply h;simp only[Ze0,H5];apply Pos.toNat_inj;rw[ja];have:=p.toNat_pos;omega
theorem aqD{a:Act}{d:Option Tmp}{x:Value}{p:Pos}(h:d.map key=some p)(hs:a.tmps.size=nt)(hd:∀e,d=some e->e<nt):(a.put d x).tmps[p.toNat - 1]? =some x:=by
 cases d with
 |none=>cases h
 |some e=>
  simp only[Ze0,H5]at h;subst h;simp only[Act.put];rw[ja,Zh6,Zp7];simp[hs,hd e rfl]
theorem al7(G:DU tt nt ops call dB h0 n0 R){D:Nat->Prop}{A B:List Rec}{a:Act}(hp:Pre nt ops R D A B a){ρ:Pos->Loc}(h1:T1 C R D ρ a.tmps)(h2:T0 C dB n0 R D ρ a.tmps)
   {X Y:List Rec} {r:Rec} (hR:R=X++r::Y) (hD:¬D r.idx) {o:Oper} (hrel:Ac tt nt ops o r.o) {x:Value} (hv:aC ρ r.nx.toNat C r.v x):
   T1 C R (λi=>D i\/i=r.idx) ρ (a.put o.dst x).tmps/\T0 C dB n0 R (λi=>D i\/i=r.idx) ρ (a.put o.dst x).tmps:=by
 constructor
 . intro  M s T p hM iT hd od;by_cases hi:s.idx=r.idx
   .obtain⟨_,rfl,_⟩:=Mp G.one hM hR hi;rw[hrel.dst]at hd;exact⟨x,aqD hd hp.size hrel.lt,hv⟩
   . have iT:=iT.resolve_right hi;by_cases Xm:r.o.dst=some p
     .  exfalso;have hs:s∈R:=(by rw[hM];simp);rw[hR]at hs;rcases Zd7.1 hs with h|h
        . rcases G.apart X r Y hR s h with k|k
          .exact hD (G.asZ hp (by rw[hR];simp[h]) iT k)
          .exact((Pz k).1 p Xm).2 hd
        . rcases Za8.1 h with rfl|h
          .exact hi rfl
          .obtain⟨Y1,Y2,rfl⟩:=pO h;have hR':R=(X++r::Y1)++s::Y2:=(by rw[hR];simp);obtain⟨hM',_,_⟩:=Mp G.one hM hR' rfl;exact od r (by rw[hM'];simp) (.inr rfl) Xm
     .  (rw[hrel.dst]at Xm;obtain⟨y,hy,Xd⟩:=h1 M s T p hM iT hd λs' rj Mq=>od s' rj (.inl Mq));exact⟨y,by rw[Ov Xm];exact hy,Xd⟩
 . (intro p v hf od;have hr:r.o.dst≠some p:=od r (by rw[hR];simp) (.inr rfl);rw[hrel.dst]at hr;obtain⟨y,hy,Xd⟩:=h2 p v hf λs hs iT=>od s hs (.inl iT));exact⟨y,by rw[Ov hr];exact hy,Xd⟩
end
section
variable{P:Program}{tt:TT}{C:Cells}{nt:Nat}{ops:Array Oper}{call:aj}{dB:Fr}{h0:T AB}{n0:Pos}{R:List Rec}
theorem bZ.congr{ρ ρ':Pos->Loc}{st:St}{w:World}(h:bZ ρ C st w)(bF:∀b:Pos,b.toNat<st.next.toNat->ρ' b=ρ b):bZ ρ' C st w where
 live b x hb:=by
  obtain⟨h1,h2,h3⟩:=h.live b x hb;rw[bF b h1];exact⟨h1,h2,h3.mono bF (Za3 _)⟩
 inj b b' x x' hb dY he:=by rw[bF b (h.live b x hb).1,bF b' (h.live b' x' dY).1]at he;exact h.inj b b' x x' hb dY he
 dW a v ha:=⟨(h.dW a v ha).1,λb x hb=>by rw[bF b (h.live b x hb).1];exact(h.dW a v ha).2 b x hb⟩
 whole:=h.whole
theorem pg.congr{ρ ki ρ':Pos->Loc}{st st':St}{w w':World}(h:pg ρ st w ki st' w')(bF:∀b x,st'.heap.get b=some x->ρ' b=ki b):pg ρ st w ρ' st' w' where
 os:=h.os
 tape:=h.tape
 output:=h.output
 size:=h.size
 block:=h.block
 yX b x hb:=by rw[bF b x hb];exact h.yX b x hb
namespace DU
variable(G:DU tt nt ops call dB h0 n0 R)
include G
theorem same{r r':Rec}(h:r∈R)(h':r'∈R)(hi:r.idx=r'.idx):r=r':=by obtain⟨A,B,hA⟩:=pO h;obtain⟨A',B',U7⟩:=pO h';exact(Mp G.one hA U7 hi).2.1
theorem cmp{X Y X' Y':List Rec}{r r':Rec}(h1:R=X++r::Y)(h2:R=X'++r'::Y')(hi:r'.idx≠r.idx):
   (∃Z,Y'=Z++r::Y)\/(∃Z,Y=Z++r'::Y'):=by
 have h3:X++r::Y=X'++r'::Y':=h1.symm.trans h2;rcases List.append_eq_append_iff.1 h3 with⟨Z,hX,hZ⟩|⟨Z,hX,hZ⟩
 . cases Z with
   |nil=>simp at hZ;exact absurd (by rw[hZ.1]) hi
   |cons z Z=>simp at hZ;exact .inr ⟨Z,hZ.2⟩
 . cases Z with
   |nil=>simp at hZ;exact absurd (by rw[hZ.1]) hi
   |cons z Z=>simp at hZ;exact .inl ⟨Z,hZ.2⟩
theorem SX{X Y X' Z:List Rec}{r r':Rec}(h1:R=X++r::Y)(h2:R=X'++r'::(Z++r::Y)):r.nx.toNat<=(eP n0 (Z++r::Y)).toNat:=by have:=G.HX (X:=X'++[r']) (Y:=Z) (Z:=r::Y) (by rw[h2];simp);exact this
theorem Lr{X Y' Z:List Rec}{r r':Rec}(h1:R=X++r::(Z++r'::Y')):r'.nx.toNat<=(eP n0 (Z++r'::Y')).toNat:=by have:=G.HX (X:=X++[r]) (Y:=Z) (Z:=r'::Y') (by rw[h1];simp);exact this
theorem Xn{X Y:List Rec}{r:Rec}(h:R=X++r::Y){id:Pos}{aM:AB}(hc:r.c= .new id aM):id=eP n0 Y/\r.nx=id.succ:=by
 have hs:=Good.at (h ▸G.abJ);cases hs<;>simp only at hc<;>first|(cases hc;done)|skip
 simp only[RC.new.injEq]at hc;obtain⟨rfl,_⟩:=hc;exact⟨rfl,rfl⟩
end DU
theorem Kept.up{D D':Nat->Prop}(h:∀i,D i->D' i){b:Pos}(hk:Kept n0 R D b):Kept n0 R D' b:=λA r B hR hD=>hk A r B hR λhd=>hD (h _ hd)
theorem Pre.next(G:DU tt nt ops call dB h0 n0 R){D:Nat->Prop}{A B:List Rec}{a:Act}(hp:Pre nt ops R D A B a){X Y:List Rec}{r:Rec}(hR:R=X++r::Y)
  (uV:∀o e,ops[r.idx]? =some o->e∈o.after->Region.binds .any e=true->D e.on) (hc:r.c.qC=false) (d:Option Tmp) (x:Value):
  Pre nt ops R (λi=>D i\/i=r.idx) A B (a.put d x) where
 split:=hp.split
 bound:=hp.bound
 inB s hs:= .inl (hp.inB s hs)
 inA s hs hD:=by
  rcases hD with hD|hD
  .exact hp.inA s hs hD
  .rw[G.same (by rw[hp.split];simp[hs]) (by rw[hR];simp) hD];exact hc
 closed i o e hD ho he hb:=by
  rcases hD with hD|rfl
  .exact .inl (hp.closed i o e hD ho he hb)
  .exact .inl (uV o e ho he hb)
 size:=by rw[Act.kB];exact hp.size
 defers:=by rw[Act.mT];exact hp.defers
theorem afA(G:DU tt nt ops call dB h0 n0 R){oh:Pos->Loc}{w0:World}{D:Nat->Prop}{A B:List Rec}{ρ:Pos->Loc}{a:Act}{w:World}
  (hI:Inv C nt ops dB h0 n0 R oh w0 D A B ρ a w) {X Y:List Rec} {r:Rec} (hR:R=X++r::Y) (hD:¬D r.idx)
  (uV:∀o e,ops[r.idx]? =some o->e∈o.after->Region.binds .any e=true->D e.on) {o:Oper} (hrel:Ac tt nt ops o r.o) (hc:r.c= .pure) {x:Value}
  (hv:∀ρ',(∀b,Kept n0 R D b->ρ' b=ρ b)->aC ρ' r.nx.toNat C r.v x):
  Inv C nt ops dB h0 n0 R oh w0 (λi=>D i\/i=r.idx) A B ρ (a.put o.dst x) w:=by
 obtain⟨hp,hI⟩:=hI;refine⟨hp.next G hR uV (by rw[hc];rfl) _ _,λρ' GK=> ?_⟩;have hf:∀b,Kept n0 R D b->ρ' b=ρ b:=λb hb=>GK b (hb.up λ_ h=>.inl h)
 have h:=hI ρ' hf;have hnr:∀s∈A,(D s.idx\/s.idx=r.idx)->∀id aM,s.c= .new id aM->D s.idx:=λs hs iT id aM eW=>by
  rcases iT with iT|iT
  .exact iT
  .rw[G.same (by rw[hp.split];simp[hs]) (by rw[hR];simp) iT,hc]at eW;cases eW
 obtain⟨k1,k2⟩:=al7 G hp h.t1 h.t0 hR hD hrel (hv ρ' hf);exact⟨h.W,λs hs iT id aM eW=>h.N s hs (hnr s hs iT id aM eW) id aM eW,
  λs hs iT id aM eW s' rj Mq yx Jv uk=>h.N2 s hs (hnr s hs iT id aM eW) id aM eW s' rj (hnr s' rj Mq yx Jv uk) yx Jv uk,k1,k2,h.E,h.agree⟩
theorem bZ.grow{ρ:Pos->Loc}{st:St}{w w':World}(h:bZ ρ C st w)(hs:w.heap.size<=w'.heap.size)(hb:∀k,k<w.heap.size->w'.heap[k]? =w.heap[k]?):bZ ρ C st w' where
 live b x hx:=let⟨h1,h2,h3⟩:=h.live b x hx;⟨h1,Zd0 h2 hs,h3.of_heap (hb _ h2)⟩
 inj:=h.inj
 dW a v ha:=by
  obtain⟨h1,h2⟩:=h.dW a v ha;exact⟨by rw[World.cell?_of_block (w:=w) (hb _ (World.block_lt_of_cell? _ _ h1))];exact h1,h2⟩
 whole a v ha o ho:=by have sx:a.block<w.heap.size:=World.block_lt_of_cell? _ _ (h.dW a v ha).1;rw[World.cell?_of_block (w:=w) (a:=⟨a.block,o,none⟩) (hb _ sx)];exact h.whole a v ha o ho
theorem aqE(G:DU tt nt ops call dB h0 n0 R){oh:Pos->Loc}{w0:World}{D:Nat->Prop}{A B:List Rec}{ρ:Pos->Loc}{a:Act}{w w':World}
   (hI:Inv C nt ops dB h0 n0 R oh w0 D A B ρ a w) {X Y:List Rec} {r:Rec} (hR:R=X++r::Y) (hD:¬D r.idx)
   (uV:∀o e,ops[r.idx]? =some o->e∈o.after->Region.binds .any e=true->D e.on) {o:Oper} (hrel:Ac tt nt ops o r.o) {id:Pos} {aM:AB} (hc:r.c= .new id aM) {x:Value} {L:Loc}
   (hL:w.heap.size<=L.aM) (hL':L.aM<w'.heap.size) (hos:w'.os=w.os) (awl:w'.tape=w.tape) (hout:w'.output=w.output) (aqF:∀k,k<w.heap.size->w'.heap[k]? =w.heap[k]?)
   (hv:∀ρ',(∀b,Kept n0 R D b->ρ' b=ρ b)->ρ' id=L->aC ρ' r.nx.toNat C r.v x/\uh ρ' r.nx.toNat C L w' aM):
   Inv C nt ops dB h0 n0 R oh w0 (λi=>D i\/i=r.idx) A B (λb=>if b=id then L else ρ b) (a.put o.dst x) w':=by
 obtain⟨hp,hI⟩:=hI;have hrA:r∈A:=by
   have:r∈R:=(by rw[hR];simp);rw[hp.split]at this;exact(Zd7.1 this).resolve_right λh=>hD (hp.inB r h)
 obtain⟨hid,Q3⟩:=G.Xn hR hc;have gw:w.heap.size<=w'.heap.size:=by omega
 refine⟨hp.next G hR uV (by rw[hc];rfl) _ _,λρ' GK=> ?_⟩;have hkid:Kept n0 R (λi=>D i\/i=r.idx) id:=by
   (intro A' r' B' U7 hD';have cY:r'.idx≠r.idx:=λe=>hD' (.inr e));rcases G.cmp hR U7 cY with⟨Z,rfl⟩|⟨Z,rfl⟩
   .left;have:=G.SX hR U7;rw[Q3,Pos.aF]at this;omega
   .right;have:=G.Lr hR;rw[hid];exact this
 have al8:ρ' id=L:=by rw[GK id hkid];simp
 have hf:∀b,Kept n0 R D b->ρ' b=ρ b:=λb hb=>by
   have cY:b≠id:=by
     rintro rfl;rcases hb X r Y hR hD with h|h
     .  rw[hid]at h;omega
     .  rw[Q3,Pos.aF]at h;omega
   rw[GK b (hb.up λ_ h=>.inl h)];exact Za7 cY
 have h:=hI ρ' hf;obtain⟨hv1,QI⟩:=hv ρ' hf al8;obtain⟨k1,k2⟩:=al7 G hp h.t1 h.t0 hR hD hrel hv1;have ag8:∀s∈A,(D s.idx\/s.idx=r.idx)->D s.idx\/s=r:=λs hs iT=>iT.imp (λh=>h) λiT=>G.same (by rw[hp.split];simp[hs]) (by rw[hR];simp) iT
 refine⟨h.W.grow gw aqF,λs hs iT yx Jv eW=> ?_,λs hs iT yx Jv eW s' rj Mq id'' as4 uk cY=> ?_,k1,k2,?_,h.agree⟩
 . rcases ag8 s hs iT with iT|rfl
   .obtain⟨g1,g2,g3,g4,g5⟩:=h.N s hs iT yx Jv eW;exact⟨g1.of_heap (aqF _ g2),by omega,g3,g4,g5⟩
   . rw[hc]at eW;simp only[RC.new.injEq]at eW;obtain⟨rfl,rfl⟩:=eW;rw[al8];refine⟨QI,hL',Zb2 h.E.size hL,λb x hb e=> ?_,λad v ha e=> ?_⟩
     .  have:=(h.W.live b x hb).2.1;omega
     .  have:=World.block_lt_of_cell? _ _ (h.W.dW ad v ha).1;omega
 . rcases ag8 s hs iT with hDk|rfl
   . rcases ag8 s' rj Mq with aqG|rfl
     .  exact h.N2 s hs hDk yx Jv eW s' rj aqG id'' as4 uk cY
     .  rw[hc]at uk;simp only[RC.new.injEq]at uk;obtain⟨rfl,rfl⟩:=uk;have:=(h.N s hs hDk yx Jv eW).2.1;rw[al8];omega
   . rw[hc]at eW;simp only[RC.new.injEq]at eW;obtain⟨rfl,rfl⟩:=eW;rcases ag8 s' rj Mq with aqG|rfl
     .  have:=(h.N s' rj aqG id'' as4 uk).2.1;rw[al8];omega
     .  rw[hc]at uk;simp only[RC.new.injEq]at uk;exact absurd uk.1 cY
 .exact⟨hos.trans h.E.os,awl.trans h.E.tape,hout.trans h.E.output,Zb2 h.E.size gw,λk hk hn=>by rw[aqF k (Zd0 hk h.E.size)];exact h.E.block k hk hn,h.E.yX⟩
theorem al9(G:DU tt nt ops call dB h0 n0 R){oh:Pos->Loc}{w0:World}{D:Nat->Prop}{A B:List Rec}{ρ:Pos->Loc}{a:Act}{w:World}
  (h:Inv0 C dB h0 n0 R oh w0 D A B ρ a w) (avl:R=A++B) {hp:T AB} {N:Pos} (hN:(eP n0 B).toNat<=N.toNat)
  (zj:∀b x,hp.get b=some x->(mj h0 B).get b=some x\/∃s∈A,D s.idx/\s.c= .new b x/\s.nx.toNat<=N.toNat):bZ ρ C { heap:=hp,next:=N } w where
 live b x hb:=by
  rcases zj b x hb with h1|⟨s,hs,hD,hc,hn⟩
  .  obtain⟨g1,g2,g3⟩:=h.W.live b x h1;exact⟨Zd0 g1 hN,g2,g3.mono (λ_ _=>rfl) hN⟩
  .  obtain⟨g1,g2,_⟩:=h.N s hs hD b x hc;obtain⟨M,T,hM⟩:=pO (r:=s) (R:=R) (by rw[avl];simp[hs]);obtain⟨_,e⟩:=G.Xn hM hc;rw[e]at hn;refine⟨?_,g2,g1.mono (λ_ _=>rfl) (by rw[e];exact hn)⟩;rw[Pos.aF]at hn;exact hn
 inj b  b' x x' hb dY he:=by
  rcases zj b x hb with h1|⟨s,hs,hD,hc,hn⟩
  .  rcases zj b' x' dY with h1'|⟨s',rj,hD',hc',hn'⟩
     .  exact h.W.inj b b' x x' h1 h1' he
     .  exact absurd he ((h.N s' rj hD' b' x' hc').2.2.2.1 b x h1)
  .  rcases zj b' x' dY with h1'|⟨s',rj,hD',hc',hn'⟩
     .  exact absurd he.symm ((h.N s hs hD b x hc).2.2.2.1 b' x' h1')
     .  by_cases e:b=b'
        .exact e
        .exact absurd he (h.N2 s hs hD b x hc s' rj hD' b' x' hc' e)
 dW ad v ha:=⟨(h.W.dW ad v ha).1,λb x hb=>by
  rcases zj b x hb with h1|⟨s,hs,hD,hc,hn⟩
  .  exact(h.W.dW ad v ha).2 b x h1
  .  exact(h.N s hs hD b x hc).2.2.2.2 ad v ha⟩
 whole:=h.W.whole
theorem DV:∀{Z B:List Rec}{b:Pos}{x:AB},(∀r∈Z,r.c.qC=false)->Ou B->(mo h0 (Z++B)).get b=some x->
  (mj h0 B).get b=some x\/∃s∈Z,s.c= .new b x
 |[],B,b,x,_,hB,h=>by
  cases B with
  |nil=>exact .inl h
  | cons r B=>
    simp only[Ou]at hB;(cases hc:r.c<;>rw[hc]at hB<;>first|(cases hB;done)|skip);simp only[Ze3,mo,hc]at h;simp only[mj,hc];exact .inl h
 |r ::Z,B,b,x,hZ,hB,h=>by
  have ih:=@DV Z B b x (λs hs=>hZ s (Zb0 _ hs)) hB;have hr:=hZ r (Ze2 ..);simp only[Zd5,mo]at h;cases hc:r.c with
  |pure=>rw[hc]at h;exact(ih h).imp (λh=>h) λ⟨s,h1,h2⟩=>⟨s,Zb0 _ h1,h2⟩
  |bk _ _=>rw[hc]at hr;cases hr
  | new id aM=>
    rw[hc]at h;by_cases e:id=b
    .   subst e;rw[T.gU]at h;simp only[H5]at h;subst h;exact .inr ⟨r,Ze2 ..,hc⟩
    .   rw[T.cC _ e]at h;exact(ih h).imp (λh=>h) λ⟨s,h1,h2⟩=>⟨s,Zb0 _ h1,h2⟩
end
section
variable{P:Program}{tt:TT}{C:Cells}{nt:Nat}{ops:Array Oper}{call:aj}{dB:Fr}{h0:T AB}{n0:Pos}{R:List Rec}
theorem around(G:DU tt nt ops call dB h0 n0 R){D:Nat->Prop}{A B:List Rec}{a:Act}(hp:Pre nt ops R D A B a){X Y:List Rec}{r:Rec}(hR:R=X++r::Y)(hD:¬D r.idx):
  ∃Z,A=X++r::Z/\Y=Z++B:=by
 have hrA:r∈A:=by
  have:r∈R:=by rw[hR];simp
  rw[hp.split]at this;exact(Zd7.1 this).resolve_right λh=>hD (hp.inB r h)
 obtain⟨X',Z,hA⟩:=pO hrA;have h2:R=X'++r::(Z++B):=by rw[hp.split,hA];simp
 obtain⟨rfl,_,rfl⟩:=Mp G.one hR h2 rfl;exact⟨Z,hA,rfl⟩
theorem aqH(G:DU tt nt ops call dB h0 n0 R){oh:Pos->Loc}{w0:World}{D:Nat->Prop}{A B:List Rec}{ρ:Pos->Loc}{a:Act}{w w':World}
   (hI:Inv C nt ops dB h0 n0 R oh w0 D A B ρ a w) {X Y:List Rec} {r:Rec} (hR:R=X++r::Y) (hD:¬D r.idx)
   (uV:∀o e,ops[r.idx]? =some o->e∈o.after->Region.binds .any e=true->D e.on) {o:Oper} (hrel:Ac tt nt ops o r.o)
   (hY:∀s∈Y,D s.idx) {st':St} {b0:T AB} (hc:r.c= .bk b0 st'.heap) (Q3:r.nx=st'.next) {x:Value}
   (ama:lM ρ C { heap:=mo h0 Y,next:=eP n0 Y } w r.v st' x w'):
   ∃vM,Inv C nt ops dB h0 n0 R oh w0 (λi=>D i\/i=r.idx) X (r::Y) vM (a.put o.dst x) w':=by
 obtain⟨hp,hI⟩:=hI;obtain⟨ki,hv,hρ1,hle,hW1,hE1⟩:=ama;simp only at hρ1 hle;obtain⟨Z,hA,rfl⟩:=around G hp hR hD;have hZ:∀s∈Z,s.c.qC=false:=λs hs=>hp.inA s (by rw[hA];simp[hs]) (hY s (by simp[hs]))
 have hXA:∀s∈X,s∈A:=λs hs=>by rw[hA];simp[hs]
 have hXD:∀s∈X,(D s.idx\/s.idx=r.idx)->D s.idx:=λs hs h=>h.resolve_right (G.later hR hs)
 have hnB:(eP n0 B).toNat<=(eP n0 (Z++B)).toNat:=G.HX (X:=X++[r]) (by rw[hR];simp)
 let vM:Pos->Loc:=λb=>if(eP n0 (Z++B)).toNat<=b.toNat/\b.toNat<r.nx.toNat then ki b else ρ b
 have ahL:∀b:Pos,b.toNat<(eP n0 (Z++B)).toNat->Kept n0 R D b:=by
   intro b hb M s T hM iT;left;by_cases hi:s.idx=r.idx
   .obtain⟨_,_,rfl⟩:=Mp G.one hM hR hi;exact hb
   . rcases G.cmp hR hM hi with⟨W,rfl⟩|⟨W,hW⟩
     .  have:=G.SX hR hM;have:=G.asY hR;omega
     .  exact absurd (hY s (by rw[hW];simp)) iT
 refine⟨vM,⟨by rw[hR],by simp[Ou,hc,RC.qC],?_,?_,?_,by rw[Act.kB];exact hp.size,by rw[Act.mT];exact hp.defers⟩,λρ' GK=> ?_⟩
 . intro s hs;rcases Za8.1 hs with rfl|hs
   .exact .inr rfl
   .exact .inl (hY s hs)
 .intro s hs iT;exact hp.inA s (hXA s hs) (hXD s hs iT)
 . intro i o' e hDi ho he hb;rcases hDi with hDi|rfl
   .exact .inl (hp.closed i o' e hDi ho he hb)
   .exact .inl (uV o' e ho he hb)
 have awm:∀b:Pos,b.toNat<r.nx.toNat->Kept n0 R (λi=>D i\/i=r.idx) b:=by
   (intro b hb M s T hM iT;left;have hi:s.idx≠r.idx:=λe=>iT (.inr e));rcases G.cmp hR hM hi with⟨W,rfl⟩|⟨W,hW⟩
   .exact Zd0 hb (G.SX hR hM)
   .exact absurd (.inl (hY s (by rw[hW];simp))) iT
 have hf:∀b,Kept n0 R D b->ρ' b=ρ b:=λb hb=>by rw[GK b (hb.up λ_ h=>.inl h)];refine Za7 ?_;rintro⟨g1,g2⟩;rcases hb X r _ hR hD with h|h<;>omega
 have h:=hI ρ' hf;have h12:∀b:Pos,b.toNat<r.nx.toNat->ρ' b=ki b:=by
   intro b hb;rcases Zj2 b.toNat (eP n0 (Z++B)).toNat with g|g
   .rw[hf b (ahL b g),hρ1 b g]
   .rw[GK b (awm b hb)];exact Zb6 ⟨g,hb⟩
 have QM:aC ρ' r.nx.toNat C r.v x:=by
   rw[Q3]at h12 ⊢;exact hv.mono h12 (Za3 _)
 have jD:bZ ρ' C { heap:=st'.heap,next:=r.nx } w':=by rw[Q3]at h12 ⊢;exact hW1.congr h12
 have hold:∀s∈X,D s.idx->∀id aM,s.c= .new id aM->∀b y,(mo h0 (Z++B)).get b=some y->(ρ b).aM≠(ρ' id).aM:=by
   intro s hs iT id aM eW b y hb;obtain⟨g1,g2,g3,g4,g5⟩:=h.N s (hXA s hs) iT id aM eW;obtain⟨M,T,hM⟩:=pO (r:=s) (R:=R) (by rw[hR];simp[hs]);rcases DV hZ hp.bound hb with hb|⟨s',rj,uk⟩
   .rw[<-hf b (ahL b (Zd0 (h.W.live b y hb).1 hnB))];exact g4 b y hb
   . obtain⟨Z1,Z2,rfl⟩:=pO rj;have hM':R=(X++r::Z1)++s'::(Z2++B):=(by rw[hR];simp);obtain⟨e1,e2⟩:=G.Xn hM' uk;obtain⟨e3,e4⟩:=G.Xn hM eW;have hbn:b.toNat<(eP n0 ((Z1++s'::Z2)++B)).toNat:=(by have:=G.Lr (X:=X) (r:=r) (Z:=Z1) (r':=s') (Y':=Z2++B) (by rw[hR];simp);rw[e2,Pos.aF]at this;simp only[Zf5,Zd5];omega);have hsr:s.idx≠r.idx:=G.later hR hs;have hid:r.nx.toNat<=id.toNat:=by
        rcases G.cmp hR hM hsr with⟨W,rfl⟩|⟨W,hW⟩
        .rw[e3];exact G.SX hR hM
        .obtain⟨A1,A2,hX⟩:=pO hs;have hM2:R=A1++s::(A2++r::((Z1++s'::Z2)++B)):=(by rw[hR,hX];simp);have uS:s∈(Z1++s'::Z2)++B:=(by rw[hW];simp);exact absurd rfl (G.one A1 s _ hM2 s (Zd7.2 (.inr (Zb0 _ uS))))
     have cY:b≠id:=(by rintro rfl;have:=G.asY hR;omega);rw[<-hf b (ahL b hbn)];exact h.N2 s' (by rw[hA];simp) (hY s' (by simp)) b y uk s (hXA s hs) iT id aM eW cY
 have hEa:pg oh { heap:=h0,next:=n0 } w0 ρ { heap:=mo h0 (Z++B),next:=eP n0 (Z++B) } w:=by
   refine⟨h.E.os,h.E.tape,h.E.output,h.E.size,h.E.block,λb y hb=> ?_⟩;rcases DV hZ hp.bound hb with hb|⟨s',rj,uk⟩
   .rw[<-hf b (ahL b (Zd0 (h.W.live b y hb).1 hnB))];exact h.E.yX b y hb
   .obtain⟨Z1,Z2,rfl⟩:=pO rj;have hM':R=(X++r::Z1)++s'::(Z2++B):=(by rw[hR];simp);obtain⟨e1,e2⟩:=G.Xn hM' uk;have hbn:b.toNat<(eP n0 ((Z1++s'::Z2)++B)).toNat:=(by have:=G.Lr (X:=X) (r:=r) (Z:=Z1) (r':=s') (Y':=Z2++B) (by rw[hR];simp);rw[e2,Pos.aF]at this;simp only[Zf5,Zd5];omega);rw[<-hf b (ahL b hbn)];exact .inr (h.N s' (by rw[hA];simp) (hY s' (by simp)) b y uk).2.2.1
 obtain⟨k1,k2⟩:=al7 G hp h.t1 h.t0 hR hD hrel QM;refine⟨?_,λs hs iT id aM eW=> ?_,λs hs iT id aM eW s' rj Mq yx Jv uk cY=> ?_,k1,k2,?_,h.agree⟩
 .simp only[mj,hc,eP];exact jD
 . have iT:=hXD s hs iT;obtain⟨g1,g2,g3,g4,g5⟩:=h.N s (hXA s hs) iT id aM eW;refine⟨g1.of_heap (hE1.block _ g2 (hold s hs iT id aM eW)),Zd0 g2 hE1.size,g3,λb y hb=> ?_,g5⟩;simp only[mj,hc]at hb;rw[h12 b (by rw[Q3];exact(hW1.live b y hb).1)];rcases hE1.yX b y hb with⟨b',y',dY,e⟩|e
   .rw[<-e];exact hold s hs iT id aM eW b' y' dY
   .omega
 .exact h.N2 s (hXA s hs) (hXD s hs iT) id aM eW s' (hXA s' rj) (hXD s' rj Mq) yx Jv uk cY
 . have:=(hEa.trans hE1).congr (ρ':=ρ') λb y hb=>h12 b (by rw[Q3];exact(hW1.live b y hb).1)
   simp only[mj,hc,eP];exact⟨this.os,this.tape,this.output,this.size,this.block,this.yX⟩
end
section
variable{P:Program}{tt:TT}{C:Cells}{nt:Nat}{ops:Array Oper}{call:aj}{dB:Fr}{h0:T AB}{n0:Pos}{R:List Rec}
theorem HZ{ρ:Pos->Loc}{n:Pos}{w:World}(hC:∀ad v,C ad=some v->w.cell? ad=some v)(hC2:∀a v,C a=some v->∀o,C ⟨a.block,o,none⟩=none->w.cell? ⟨a.block,o,none⟩=none):bZ ρ C { heap:= .e,next:=n } w where
 live b x hb:=by rw[T.dS]at hb;cases hb
 inj b b' x x' hb:=by rw[T.dS]at hb;cases hb
 dW a v ha:=⟨hC a v ha,λb x hb=>by rw[T.dS]at hb;cases hb⟩
 whole:=hC2
theorem Yields.eq{N:Next}{x y:Value}(h:Yields N x)(k:Yields N y):x=y:=by
 rcases h with rfl|⟨rfl,rfl⟩<;>rcases k with k|⟨k,rfl⟩
 .simp only[Next.value.injEq]at k;exact k
 .cases k
 .cases k
 .rfl
theorem an3(hT:dG P tt){o:Oper}{k:aG}{xs:List iy}{cls:Cls}(hc:kG tt o.op=some (k,xs,cls)){n:Pos}{vs:List AV}{v:AV}{aM:AB}
  (hr:k.run (λ_=>none) n vs=some (.bk v none none (some aM))) {fr:Fr} (hx:gu fr xs=some vs) {a:Act} {w:World} {Fam:(Pos->Loc)->Prop} {ρ:Pos->Loc} (bF:Fam ρ)
  (hF:∀ρ',Fam ρ'->lF ρ' n.toNat C fr a.tmps) (hC:∀ad v,C ad=some v->w.cell? ad=some v) (hC2:∀a v,C a=some v->∀o,C ⟨a.block,o,none⟩=none->w.cell? ⟨a.block,o,none⟩=none):
  ∃ N x w' L,(execOp a.eval o).run P w= .ok N w'/\Yields N x/\w.heap.size<=L.aM/\L.aM<w'.heap.size/\w'.os=w.os/\w'.tape=w.tape/\w'.output=w.output/\
    (∀k,k<w.heap.size->w'.heap[k]? =w.heap[k]?)/\∀ρ',Fam ρ'->ρ' n=L->aC ρ' n.succ.toNat C v x/\uh ρ' n.succ.toNat C L w' aM:=by
 have dO:k.run (λb=>T.get b (T.e:T AB)) n vs=some (.bk v none none (some aM)):=by
  have e:(λb=>T.get b (T.e:T AB))=λ_=>none:=by funext b;exact T.dS b
  rw[e];exact hr
 have H:=λρ' (hf:Fam ρ')=>ZF hT o.op ρ' C { heap:= .e,next:=n } w k xs cls fr a o vs _ rfl hc (HZ hC hC2) (hF ρ' hf) hx dO
 have key:∀ρ',Fam ρ'->∃N x w' ki,(execOp a.eval o).run P w= .ok N w'/\Yields N x/\(∀b:Pos,b.toNat<n.toNat->ki b=ρ' b)/\aC ki n.succ.toNat C v x/\
    uh ki n.succ.toNat C (ki n) w' aM/\w.heap.size<=(ki n).aM/\(ki n).aM<w'.heap.size/\w'.os=w.os/\w'.tape=w.tape/\w'.output=w.output/\
    (∀k,k<w.heap.size->w'.heap[k]? =w.heap[k]?):=by
  intro ρ' hf;obtain⟨N,x,w',ki,he,hy,h1,h2,h3,h4⟩:=H ρ' hf;have hg:(St.bk { heap:= .e,next:=n } none none (some aM)).heap.get n=some aM:=T.gU _ _ _;obtain⟨g1,g2,g3⟩:=h2.live n aM hg;refine⟨N,x,w',ki,he,hy,h1,h3,g3,?_,g2,h4.os,h4.tape,h4.output,λk hk=>h4.block k hk λb x hb=> ?_⟩
  . rcases h4.yX n aM hg with⟨b',x',dY,_⟩|h
    .   rw[T.dS]at dY;cases dY
    .   exact h
  .rw[T.dS]at hb;cases hb
 obtain⟨N,x,w',ki,he,hy,h1,h2,h3,h4,h5,h6,h7,h8,h9⟩:=key ρ bF;refine⟨N,x,w',ki n,he,hy,h4,h5,h6,h7,h8,h9,λρ' hf hL=> ?_⟩;obtain⟨N',x',w'',vM,sw,hy',k1,k2,k3,_⟩:=key ρ' hf;rw[he]at sw;simp only[Result.ok.injEq]at sw;obtain⟨rfl,rfl⟩:=sw;have hxx:=hy.eq hy';subst hxx;have as5:n.toNat<n.succ.toNat:=by rw[Pos.aF];omega
 have agree:(vM n).aM=(ki n).aM->(vM n).base=(ki n).base->(∃cs fz,aM= .cells cs fz)->aC ρ' n.succ.toNat C v x/\uh ρ' n.succ.toNat C (ki n) w' aM:=by
  intro e1 e2 DH;have e3:(vM n).size=(ki n).size:=by
    obtain⟨cs,fz,rfl⟩:=DH;obtain⟨c,e,fr,g1,g2,_⟩:=h3;obtain⟨c',e',bI,g1',g2',_⟩:=k3;rw[e1,g1]at g1';simp only[H5,Obj.cells.injEq]at g1';rw[<-g2, <-g2',g1'.1]
  have e4:vM n=ki n:=by
    cases hh:vM n;cases hh':ki n;rw[hh,hh']at e1 e2 e3;simp only at e1 e2 e3;rw[e1,e2,e3]
  have pX:∀b:Pos,b.toNat<n.succ.toNat->ρ' b=vM b:=by
    intro b hb;rcases Zj2 b.toNat n.toNat with g|g
    .   exact(k1 b g).symm
    .   have:b=n:=Pos.toNat_inj (by rw[Pos.aF]at hb;omega);subst this;rw[hL,e4]
  refine⟨k2.mono pX (Za3 _),?_⟩;rw[<-e4];exact k3.mono pX (Za3 _)
 cases atx hr with
 |ptr cs=>
  obtain⟨_,g1⟩:=h2.qU;obtain⟨_,g2⟩:=k2.qU;rw[g1]at g2;simp only[Value.pointer.injEq,H5,Addr.mk.injEq,Zf7,Zm5]at g2;exact agree g2.1.symm g2.2.symm ⟨cs,0,rfl⟩
 |slice len es cap cs eW=>
  obtain⟨ad,br,g1,g2,g3,g4⟩:=h2.fM;obtain⟨ad',as6,g1',g2',g3',g4'⟩:=k2.fM;rw[g1]at g1';simp only[Value.slice.injEq,H5,Zr4]at g1';obtain⟨rfl,rfl⟩:=g1';by_cases h0:br=0
  . subst h0;have hl0:len=0:=(by omega);have hcs0:cs=[]:=eW hl0 (by
        cases cap with
        |none=>exact .inl rfl
        |some c=>exact .inr (by rw[g3 c rfl]))
    subst hcs0;refine⟨?_,?_⟩
    .   rw[g1];exact .slice n 0 len cap es 0 ad g2 g3 (λh=>absurd rfl h) (λ_=>as5)
    .   obtain⟨c,e,fr,q1,q2,q3,q4,q5⟩:=h3;exact⟨c,e,fr,q1,q2,q3,aK.nil,q5⟩
  .obtain⟨_,a1,_⟩:=g4 h0;obtain⟨_,a2,_⟩:=g4' h0;rw[a1]at a2;simp only[Addr.mk.injEq,Zf7,Zm5]at a2;exact agree a2.1.symm a2.2.symm ⟨cs,0,rfl⟩
 |map=>
  obtain⟨_,g1⟩:=h2.CJ;refine⟨?_,?_⟩
  .rw[g1, <-hL];exact .map n as5
  .obtain⟨es',q1,q2,q3⟩:=h3;exact⟨es',q1,q2,λi e e' he=>by simp at he⟩
end
section
variable{P:Program}{tt:TT}{C:Cells}{nt:Nat}{ops:Array Oper}{call:aj}{dB:Fr}{h0:T AB}{n0:Pos}{R:List Rec}
def Bl(fr:Fr):List Pos->Fr
 |[]=>.e
 |p::l=>(Bl fr l).put (fr.get p) p
theorem afB{fr:Fr}{p:Pos}:∀{l:List Pos},p∈l->(Bl fr l).get p=fr.get p
 |[],h=>by cases h
 |q ::l,h=>by
  simp only[Bl];by_cases e:q=p
  .subst e;exact T.gU _ _ _
  .rw[T.cC _ e];exact afB ((Za8.1 h).resolve_left λh=>e h.symm)
theorem aaY{fr:Fr}{p:Pos}{v:AV}:∀{l:List Pos},(Bl fr l).get p=some v->p∈l/\fr.get p=some v
 |[],h=>by simp only[Bl]at h;rw[T.dS]at h;cases h
 |q ::l,h=>by
  simp only[Bl]at h;by_cases e:q=p
  .subst e;rw[T.gU]at h;exact⟨by simp,h⟩
  .rw[T.cC _ e]at h;obtain⟨h1,h2⟩:=aaY h;exact⟨by simp[h1],h2⟩
theorem afC{fr:Fr}{l:List Pos}:∀{xs:List iy},(∀p,iy.t p∈xs->p∈l)->gu (Bl fr l) xs=gu fr xs
 |[],_=>rfl
 |x::xs,h=>by
  have h1:HQ (Bl fr l) x=HQ fr x:=by
   cases x with
   |t p=>exact afB (h p (by simp))
   |c v=>rfl
  simp only[gu,h1,afC λp hp=>h p (Zb0 _ hp)]
theorem an4{o:bV}{p:Pos}(h:iy.t p∈o.xs):p∈o.looks:=by
 unfold bV.looks;exact List.mem_append_right _ (List.mem_filterMap.2 ⟨_,h,rfl⟩)
theorem aka{o:bV}{p:Pos}{q:Bool}(h:o.guard=some (p,q)):p∈o.looks:=by unfold bV.looks;rw[h];simp
theorem Yields.upon{o:Oper}{a:Act}{K:Act->World->Prop}{Q:Exit->Act->World->Prop}{N:Next}{x:Value}{w:World}(h:Yields N x)(hk:K (a.put o.dst x) w):o.upon P a K Q (.ok N w):=by rcases h with rfl|⟨rfl,rfl⟩<;>exact hk
theorem aqI(hT:dG P tt)(dI:jt P C call)(G:DU tt nt ops call dB h0 n0 R){Q:Exit->Act->World->Prop}{oh:Pos->Loc}{w0:World}{D:Nat->Prop}{A B:List Rec}{ρ:Pos->Loc}{a:Act}{w:World}
  (hI:Inv C nt ops dB h0 n0 R oh w0 D A B ρ a w) {i:Nat} (hi:i<ops.size) (hD:¬D i)
  (uV:∀o e,ops[i]? =some o->e∈o.after->Region.binds .any e=true->D e.on):
  wpOp P ops Q i (λa' w'=>∃A' B' ρ',Inv C nt ops dB h0 n0 R oh w0 (λj=>D j\/j=i) A' B' ρ' a' w') a w:=by
 obtain⟨r,hr,rfl⟩:=G.all i hi;obtain⟨X,Y,hR⟩:=pO hr;obtain⟨o,ho,hrel,hB⟩:=G.rel r hr;have hp:=hI.1;have aeo:∀b,r.o.cE.testBit b=true->D b:=λb hb=>G.ac0 hp.closed (hB.2 b hb) uV
 obtain⟨Z,hA,hYZ⟩:=around G hp hR hD;have SY:∀ρ',(∀b,Kept n0 R D b->ρ' b=ρ b)->∀p v,p∈r.o.looks->(rq dB Y).get p=some v->∃x,a.tmps[p.toNat - 1]? =some x/\aC ρ' (eP n0 Y).toNat C v x:=
  λρ' hf p v hl hv=>look G hp (hI.2 ρ' hf).t1 (hI.2 ρ' hf).t0 hR hD aeo hl hv
 have hFR:∀ρ',(∀b,Kept n0 R D b->ρ' b=ρ b)->lF ρ' (eP n0 Y).toNat C (Bl (rq dB Y) r.o.looks) a.tmps:=λρ' hf p v hv=>
  let⟨h1,h2⟩:=aaY hv;SY ρ' hf p v h1 h2
 have S6:∀b,Kept n0 R D b->ρ b=ρ b:=λ_ _=>rfl
 have hw:∀b,cN (rq dB Y) r.o.guard=some b->Region.wanted o (yielded ops a.tmps)=b:=λb hb=>
  Ml hrel.guard (λp v hv ⟨q,hq⟩=>SY ρ S6 p v (aka hq) hv) hb
 have hnZ:∀s∈Z,s.nx.toNat<=(eP n0 Y).toNat:=λs hs=>by obtain⟨Z1,Z2,rfl⟩:=pO hs;have:=G.Lr (X:=X) (r:=r) (Z:=Z1) (r':=s) (Y':=Z2++B) (by rw[hR,hYZ];simp);rw[hYZ];simp only[Zf5,Zd5];exact this
 have hnB:(eP n0 B).toNat<=(eP n0 Y).toNat:=by rw[hYZ];exact G.HX (X:=X++[r]) (by rw[hR,hYZ];simp)
 have hs:=Good.at (hR ▸G.abJ);have hex:∀xs,gu (rq dB Y) r.o.xs=some xs->gu (Bl (rq dB Y) r.o.looks) r.o.xs=some xs:=λxs hx=>by rw[afC λp hp=>an4 hp];exact hx
 unfold wpOp;simp only[ho];generalize hrr:r=r0 at*
 cases hs with
 |skip i' o' _ hw'=>
  rw[Za7 (by rw[hw _ hw'];simp)];exact⟨A,B,ρ,afA G hI hR hD uV hrel rfl λρ' _=>.afw⟩
 |pure i' o' v xs _ hw' hx hro=>
  rw[Zb6 (hw _ hw')];refine .inl ?_;rw[hYZ]at hro;obtain⟨h,zj,dO⟩:=hro Z B rfl hp.bound λs hs he=>by
    cases hb:o'.cE.testBit s.idx with
    |false=>rfl
    |   true=>
        have h1:=hp.inA s (by rw[hA];simp[hs]) (aeo _ hb);rw[h1]at he;cases he
  rcases hrel.op with hc|⟨hk,_⟩
  . have H:∀ρ',(∀b,Kept n0 R D b->ρ' b=ρ b)->∃N x,(execOp a.eval o).run P w= .ok N w/\Yields N x/\aC ρ' (eP n0 Y).toNat C v x:=by
        intro ρ' hf;have hW:=al9 G (hI.2 ρ' hf) hp.split (hp:=h) hnB λb y hb=>(zj b y hb).imp (λh=>h) λ⟨s,h1,h2,h3⟩=>
          ⟨s,by rw[hA];simp[h1],aeo _ h3,h2,hnZ s h1⟩
        exact ZF hT o.op ρ' C _ w _ _ _ _ a o _ _ rfl hc hW (hFR ρ' hf) (hex xs hx) (aqB dO λ_ _ h=>h)
    obtain⟨N,x,he,hy,hv⟩:=H ρ S6;unfold Oper.wp;rw[he];refine hy.upon ⟨A,B,ρ,afA G hI hR hD uV hrel rfl λρ' hf=> ?_⟩;obtain⟨N',x',sw,hy',QM⟩:=H ρ' hf;rw[he]at sw;simp only[Result.ok.injEq,Zm5]at sw;subst sw;rw[hy.eq hy'];exact QM
  .rw[hk]at dO;cases dO
 |new   i' o' v aM xs _ hw' hx dO=>
  rw[Zb6 (hw _ hw')];refine .inl ?_;rcases hrel.op with hc|⟨hk,_⟩
  . obtain⟨N,x,w',L,he,hy,h1,h2,h3,h4,h5,h6,h7⟩:=an3 hT hc dO (hex xs hx) (Fam:=λρ'=>∀b,Kept n0 R D b->ρ' b=ρ b) S6 hFR
        (λad v ha=>((hI.2 ρ S6).W.dW ad v ha).1) (hI.2 ρ S6).W.whole
    unfold Oper.wp;rw[he];exact hy.upon ⟨A,B,_,aqE G hI hR hD uV hrel rfl h1 h2 h3 h4 h5 h6 h7⟩
  .rw[hk]at dO;cases dO
 |bk i' o' v st' xs _ aqC hw' hx iQ=>
  rw[Zb6 (hw _ hw')];refine .inl ?_;rcases hrel.op with hc|⟨hk,_⟩
  . have hY:∀s∈Y,D s.idx:=λs hs=>aeo _ (G.bk X _ Y hR aqC s hs)
    have hZ:∀s∈Z,s.c.qC=false:=λs hs=>hp.inA s (by rw[hA];simp[hs]) (hY s (by rw[hYZ];simp[hs]))
    have hW:bZ ρ C { heap:=mo h0 Y,next:=eP n0 Y } w:=al9 G (hI.2 ρ S6) hp.split hnB λb y hb=>by
        rw[hYZ]at hb;rcases DV hZ hp.bound hb with hb|⟨s,h1,h2⟩
        .exact .inl hb
        .exact .inr ⟨s,by rw[hA];simp[h1],hY s (by rw[hYZ];simp[h1]),h2,hnZ s h1⟩
    have hre:=aaV hT dI hc hW (hFR ρ S6) (hex xs hx) iQ;(refine hre.upon λx w' ama=> ?_);obtain⟨vM,h⟩:=aqH G hI hR hD uV hrel hY rfl rfl ama;exact⟨_,_,vM,h⟩
  .exact(Reaches.bad hk iQ).elim
end
section
variable{P:Program}{tt:TT}{C:Cells}{nt:Nat}{ops:Array Oper}{call:aj}{dB:Fr}{h0:T AB}{n0:Pos}{R:List Rec}
theorem afD(G:DU tt nt ops call dB h0 n0 R){oh:Pos->Loc}{w0:World}{D:Nat->Prop}{A B:List Rec}{ρ:Pos->Loc}{a:Act}{w:World}
   (hI:Inv C nt ops dB h0 n0 R oh w0 D A B ρ a w) (pX:∀r∈R,D r.idx):lf nt oh C { heap:=h0,next:=n0 } w0 (rq dB R) { heap:=mo h0 R,next:=eP n0 R } a w:=by
 obtain⟨hp,hI⟩:=hI;have h:=hI ρ λ_ _=>rfl
 have hZ:∀s∈A,s.c.qC=false:=λs hs=>hp.inA s hs (pX s (by rw[hp.split];simp[hs]))
 have hnA:∀s∈A,s.nx.toNat<=(eP n0 R).toNat:=λs hs=>by obtain⟨Z1,Z2,hA⟩:=pO hs;have:=G.HX (X:=[]) (Y:=Z1) (Z:=s::(Z2++B)) (by rw[hp.split,hA];simp);have e:R=Z1++s::(Z2++B):=(by rw[hp.split,hA];simp);rw[<-e]at this;exact this
 have hnB:(eP n0 B).toNat<=(eP n0 R).toNat:=by
   have:=G.HX (X:=[]) (Y:=A) (Z:=B) (by rw[hp.split];simp)
   rwa [<-hp.split]at this
 have QY:n0.toNat<=(eP n0 R).toNat:=G.al6 (X:=[]) rfl;have zj:∀b x,(mo h0 R).get b=some x->(mj h0 B).get b=some x\/∃s∈A,D s.idx/\s.c= .new b x/\s.nx.toNat<=(eP n0 R).toNat:=λb x hb=>by
   rw[hp.split]at hb;rcases DV hZ hp.bound hb with hb|⟨s,h1,h2⟩
   .exact .inl hb
   .exact .inr ⟨s,h1,pX s (by rw[hp.split];simp[h1]),h2,hnA s h1⟩
 refine⟨ρ,⟨al9 G h hp.split hnB zj,?_,hp.size,hp.defers⟩,h.agree,QY,?_⟩
 . intro p v hv;rcases Xk R p v hv with⟨M,s,T,hM,h2,rfl,h3⟩|⟨h1,h2⟩
   . obtain⟨x,hx,Xl⟩:=h.t1 M s T p hM (pX s (by rw[hM];simp)) h2 λs' rj _=>h3 s' rj
     refine⟨x,hx,Xl.mono (λ_ _=>rfl) ?_⟩;have:=G.HX (X:=[]) (Y:=M) (Z:=s::T) (by rw[hM];simp);rw[<-hM]at this;exact this
   . obtain⟨x,hx,Xl⟩:=h.t0 p v h1 λs hs _=>h2 s hs
     exact⟨x,hx,Xl.mono (λ_ _=>rfl) QY⟩
 . refine⟨h.E.os,h.E.tape,h.E.output,h.E.size,h.E.block,λb x hb=> ?_⟩;rcases zj b x hb with hb|⟨s,h1,h2,h3,_⟩
   .exact h.E.yX b x hb
   .exact .inr (h.N s h1 h2 b x h3).2.2.1
def DL(listed:Array Bool)(j:Nat):Prop:=listed.getD j false=true
theorem an5{listed:Array Bool}{i:Nat}(hi:i<listed.size):(λj=>DL listed j\/j=i)=DL (listed.setIfInBounds i true):=by
 funext j;apply propext;unfold DL;by_cases h:j=i
 .subst h;simp[hi]
 .rw[getD_set_ne false (Ne.symm h)];simp[h]
theorem ahM{listed:Array Bool}{j:Nat}(h:listed.getD j true=false):¬DL listed j:=by
 unfold DL;intro h';rcases Zj2 j listed.size with hj|hj
 .simp[hj]at h h';rw[h]at h';cases h'
 .simp[Array.getElem?_eq_none hj]at h'
theorem atz{listed:Array Bool}{j:Nat}(hj:j<listed.size)(h:¬DL listed j):listed.getD j true=false:=by unfold DL at h;simp[hj]at h ⊢; exact h
theorem Xo(G:DU tt nt ops call dB h0 n0 R){listed:Array Bool}(hs:listed.size=ops.size)(hr:Region.ready .any ops listed=[]):∀(Y X:List Rec),R=X++Y->∀r∈Y,DL listed r.idx
 |[],_,_,r,oe=>by cases oe
 |r ::Y  ,X,hR,r',oe=>by
  have ih:=Xo G hs hr Y (X++[r]) (by rw[hR];simp);rcases Za8.1 oe with rfl|oe
  . obtain⟨o,ho,_,hB⟩:=G.rel r' (by rw[hR];simp);have aW:r'.idx<ops.size:=(Zd3.1 ho).1;by_cases h:DL listed r'.idx
    .   exact h
    .   exfalso;have:r'.idx∈Region.ready .any ops listed:=mem_ready.2 ⟨atz (by omega) h,o,ho,λe he hb=>by obtain⟨s,h1,h2⟩:=G.cE X r' Y hR _ (hB.1 o ho e he hb);have:=ih s h1;rw[h2]at this;exact this⟩;rw[hr]at this;cases this
  .exact ih r' oe
theorem afE(hT:dG P tt)(dI:jt P C call)(G:DU tt nt ops call dB h0 n0 R){Q:Exit->Act->World->Prop}{oh:Pos->Loc}{w0:World}
  (hQ:∀a' w',lf nt oh C { heap:=h0,next:=n0 } w0 (rq dB R) { heap:=mo h0 R,next:=eP n0 R } a' w'->Q .normal a' w'):
  ∀ (fuel:Nat)(listed:Array Bool)(U:List Nat)(A B:List Rec)(ρ:Pos->Loc)(a:Act)(w:World),listed.size=ops.size->U.length<=fuel->U.Nodup->(∀j,j<ops.size->¬DL listed j->j∈U)->
    Inv C nt ops dB h0 n0 R oh w0 (DL listed) A B ρ a w->wpAny P .any ops Q fuel listed a w
 |0,listed,U,A,B,ρ,a,w,hs,hU,_,hm,hI=>by
  have hU0:U=[]:=Zc2 (by omega);subst hU0;have hr:Region.ready .any ops listed=[]:=by
    cases h:Region.ready .any ops listed with
    |nil=>rfl
    |   cons i l=>
        have hi:i∈Region.ready .any ops listed:=(by rw[h];simp);obtain⟨h1,o,ho,_⟩:=mem_ready.1 hi;have:=hm i (Zd3.1 ho).1 (ahM h1);cases this
  exact⟨hr,hQ a w (afD G hI (Xo G hs hr R [] rfl))⟩
 |fuel+1,listed,U,A,B,ρ,a,w,hs,hU,hnd,hm,hI=>by
  refine⟨λhr=>hQ a w (afD G hI (Xo G hs hr R [] rfl)),λi hi=> ?_⟩;obtain⟨h1,o,ho,h2⟩:=mem_ready.1 hi;have aW:i<ops.size:=(Zd3.1 ho).1;have iQ:=aqI (Q:=Q) hT dI G hI aW (ahM h1) λo' e Oo he hb=>by rw[ho]at Oo;simp only[H5]at Oo;subst Oo;exact h2 e he hb
  refine wpOp_mono (λa' w' hh=> ?_) iQ;obtain⟨A',B',ρ',hI'⟩:=hh;rw[an5 (by omega)]at hI';have hiU:i∈U:=hm i aW (ahM h1);refine afE hT dI G hQ fuel _ (U.erase i) A' B' ρ' a' w' (by simp[hs]) ?_ (hnd.erase i) (λj hj hD=> ?_) hI'
  .rw[List.length_erase_of_mem hiU];omega
  . (rw[<-an5 (by omega)]at hD;have cY:j≠i:=λe=>hD (.inr e));exact(List.mem_erase_of_ne cY).2 (hm j hj λh=>hD (.inl h))
theorem S7(hm:P.follows .mixedOrders=true)(hT:dG P tt)(dI:jt P C call)(amb:pY call):zh P tt C call:=by
 intro nt id ops l Q fr bI st st' ρ a w hl cH h hS hQ;obtain⟨R,hG,hmap,FT,awn,Q3⟩:=acZ (call:=call) (dB:=fr) (h0:=st.heap) (n0:=st.next) _ [] fr bI st st' h trivial rfl rfl rfl;simp only[Zd9]at hG FT awn Q3;have hst':st'={ heap:=mo st.heap R,next:=eP st.next R }:=by cases st';simp_all
 have hlen:l.length=ops.size:=by rw[(xP hl).1,Zi3]
 have ac1:=aaX _ 0 [] cH λb=>by simp
 have hL:BS (Md 0 l) []=(R.map λr=>(r.idx,r.o)).reverse:=by rw[hmap,List.reverse_reverse]
 have dec:∀{A B:List Rec}{r:Rec},R=A++r::B->BS (Md 0 l) []=(B.map λr=>(r.idx,r.o)).reverse++(r.idx,r.o)::(A.map λr=>(r.idx,r.o)).reverse:=λe=>by rw[hL,e];simp
 have DW:∀{B:List Rec}{i:Nat},i∈((B.map λr=>(r.idx,r.o)).reverse).map (·.1)↔ ∃r∈B,r.idx=i:=λ{B i}=>by simp
 have G:DU tt nt ops call fr st.heap st.next R:=by
   refine⟨hG,amb,λA r B e r' oe hi=> ?_,λA r B e b hb=> ?_,λA r B e hc r' oe=> ?_,λA r B e r' oe=> ?_,λr hr=> ?_,λi hi=> ?_⟩
   .exact(ac1.one _ _ _ _ (dec e)).2 (DW.2 ⟨r',oe,hi⟩)
   . rcases ac1.cE _ _ _ _ (dec e) b hb with h|h
     .cases h
     .exact DW.1 h
   .exact ac1.bk _ _ _ _ (dec e) hc _ (.inr (DW.2 ⟨r',oe,rfl⟩))
   .exact ac1.apart _ _ _ _ (dec e) (r'.idx,r'.o) (by simp;exact⟨r',oe,rfl,rfl⟩)
   .obtain⟨A,B,e⟩:=pO hr;have hx:(r.idx,r.o)∈BS (Md 0 l) []:=(by rw[dec e];simp);have h1:=aty hx;obtain⟨o,h2,h3,h4⟩:=SM hl _ _ h1;refine⟨o,h2,h3,?_⟩;rw[h4];exact akN ops.toList [] rfl (Zi0 _) (λi hi=>by simp at hi) _ (Zd3.1 h2).1
   . rcases ac1.all i (by rw[hlen];exact hi)with h|h
     .cases h
     .rw[hL]at h;exact DW.1 h
 refine wp_region_any hm ?_;rw[hst',FT]at hQ;have hkn:∀b:Pos,b.toNat<st.next.toNat->∀D,Kept st.next R D b:=λb hb D A r B e _=>.inl (Zd0 hb (G.al6 (X:=A++[r]) (by rw[e];simp)))
 refine afE (Q:=Q) (oh:=ρ) (w0:=w) hT dI G hQ ops.size _ (List.range ops.size) R [] ρ a _ (by simp) (by simp) List.nodup_range (λj hj _=>Zg5.2 hj) ?_;have od:∀j,¬DL (Array.replicate ops.size false) j:=λj h=>by
   unfold DL at h;rcases Zj2 j ops.size with hj|hj
   .simp[hj]at h
   .simp[Nat.not_lt.2 hj]at h
 refine⟨⟨by simp,trivial,(λr hr=>by cases hr),λr _ hD=>absurd hD (od _),λi _ _ hD=>absurd hD (od _),hS.size,hS.defers⟩,λρ' GK=> ?_⟩;have yy:∀b:Pos,b.toNat<st.next.toNat->ρ' b=ρ b:=λb hb=>GK b (hkn b hb _)
 have hW:bZ ρ' C st { w with drawn:=w.drawn+1 }:=(hS.W.congr yy).grow (Za3 _) λ_ _=>rfl
 refine⟨hW,λr _ hD=>absurd hD (od _),λr _ hD=>absurd hD (od _),λM s T p _ hD=>absurd hD (od _),λp v hv _=> ?_,⟨rfl,rfl,rfl,Za3 _,λ_ _ _=>rfl,λb x hb=>.inl ⟨b,x,hb,?_⟩⟩,yy⟩
 .obtain⟨x,hx,Xl⟩:=hS.F p v hv;exact⟨x,hx,Xl.mono yy (Za3 _)⟩
 .rw[yy b (hS.W.live b x hb).1]
theorem DX(hm:P.follows .mixedOrders=true)(hT:dG P tt){O:fc}{G:T dR}(hO:wm P C O)(Xp:o8 O)(hG:GOk P tt G)(m d:Nat):jt P C (uJ O G m d):=
 aaW hT hO hG m (λd dI=>S7 hm hT dI (DT Xp m d)) d
end
end
section
section
variable{R:Type}
theorem CM{α:Type}:∀(p:Pos)(t:T α),Cb p t=t.get p
 |.h,.e=>rfl
 |.h,.n _ _ _=>rfl
 |.o _,.e=>rfl
 |.o p,.n l _ _=>CM p l
 |.i _,.e=>rfl
 |.i p,.n _ _ r=>CM p r
theorem oN{α:Type}(x:Option α):∀(p:Pos)(t:T α)(k:T α->R),xV x p t k=k (t.put x p)
 |.h,.e,_=>rfl
 |.h,.n _ _ _,_=>rfl
 |.o p,.e,k=>oN x p .e _
 |.o p,.n l _ _,k=>oN x p l _
 |.i p,.e,k=>oN x p .e _
 |.i p,.n _ _ r,k=>oN x p r _
theorem HJ(n:Nat)(k:Nat->R):we n k=k n:=by cases n<;>rfl
theorem akb(n:Int)(k:Int->R):abC n k=k n:=by cases n<;>simp only[abC,HJ]
theorem ahN(b:Bool)(k:Bool->R):afr b k=k b:=by cases b<;>rfl
theorem Ox{α:Type}:∀(l:List α)(k:List α->R),HR l k=k l
 |[],_=>rfl
 |a::l,k=>Ox l λt=>k (a::t)
theorem PC:∀(p:Pos)(k:Pos->R),Sy p k=k p
 |.h,_=>rfl
 |.o p,k=>PC p λq=>k (.o q)
 |.i p,k=>PC p λq=>k (.i q)
theorem an6(o:Option Nat)(k:Option Nat->R):ahq o k=k o:=by
 cases o with
 |none=>rfl
 |some n=>simp only[ahq,HJ]
theorem afF(v:AV)(k:AV->R):W6 v k=k v:=by
 cases v<;>simp only[W6,ahN,akb,Ox,PC,HJ,an6]
theorem S8:∀(l:List AV)(k:List AV->R),ZD l k=k l
 |[],_=>rfl
 |a::l,k=>by
  show W6 a (λa=>ZD l λt=>k (a::t))=_;rw[afF,S8 l]
theorem Oy(v:AV)(k:AV->R):xz v k=k v:=by
 unfold xz;split
 .exact S8 _ _
 .exact afF _ _
theorem S9(x:AB)(k:AB->R):LN x k=k x:=by
 cases x<;>simp only[LN,Ox,HJ]
theorem Ta:∀(p:Pos)(k:Pos->R),acK p k=k p.succ
 |.h,_=>rfl
 |.o _,_=>rfl
 |.i p,k=>Ta p λq=>k (.o q)
variable(z:R)
def uW{α:Type}(r:Option α)(k:α->R):R:=match r with
 |some x=>k x
 |none=>z
theorem ahO(fr:Fr)(x:iy)(k:AV->R):evK z fr x k=uW z (HQ fr x) k:=by
 cases x with
 |t p=>simp only[evK,CM,HQ,uW];cases T.get p fr<;>rfl
 |c v=>rfl
theorem aep(fr:Fr):∀(xs:List iy)(k:List AV->R),aef z fr xs k=uW z (gu fr xs) k
 |[],k=>rfl
 |x::xs,k=>by
  show evK z fr x (λv=>aef z fr xs λvs=>k (v::vs))=_;rw[ahO];simp only[aep fr xs];simp only[gu];cases HQ fr x with
  |none=>rfl
  |some v=>simp only[uW];cases gu fr xs<;>rfl
theorem ac2(fr:Fr)(g:Option (Pos×Bool))(yes no:R):LO z fr g yes no=match cN fr g with
  |some true=>yes
  |some false=>no
  |none=>z:=by
 unfold LO cN;cases g with
 |none=>rfl
 |some g=>
  obtain⟨p,want⟩:=g;simp only[CM];cases T.get p fr with
  |none=>rfl
  |some v=>
   (cases v<;>try rfl);rename_i b;cases b<;>cases want<;>rfl
theorem ac3(fr:Fr)(d:Option Pos)(v:AV)(k:Fr->R):oK fr d v k=k (eF fr d v):=by
 cases d with
 |none=>rfl
 |some p=>exact oN _ _ _ _
theorem atA(st:St)(del:Option Pos)(set:Option (Pos×AB))(new:Option AB)(k:St->R):aqj st del set new k=k (st.bk del set new):=by
 have hdel:∀(h:T AB)(k:T AB->R),delK del h k=k (Mc del h):=λh k=>by
  cases del with
  |none=>rfl
  |some b=>exact oN _ _ _ _
 have Jw:∀(h:T AB)(k:T AB->R),aqi set h k=k (Pt set h):=λh k=>by
  cases set with
  |none=>rfl
  |some b=>simp only[aqi,S9,oN];rfl
 unfold aqj;rw[hdel,Jw];cases new with
 |none=>rfl
 |some x=>simp only[S9,oN,Ta];rfl
def CK(cg:tF R)(call:aj):Prop:=∀f args st k,cg f args st k=uW z (call f args st) λx=>k x.1 x.2
variable{cg:tF R}{call:aj}
theorem Tb(h:T AB):(λb=>Cb b h)=λb=>h.get b:=funext λb=>CM b h
theorem ahP(hc:CK z cg call)(op:aG)(xs:List AV)(st:St)(k:AV->St->R):ZE z cg op xs st k=uW z (cJ call op xs st) λx=>k x.1 x.2:=by
 unfold ZE cJ;rw[Tb];cases op.run (λb=>st.heap.get b) st.next xs with
 |none=>rfl
 |some r=>
  cases r with
  |val v=>simp only[Oy];rfl
  |bk v d s n=>simp only[Oy,atA];rfl
  |call f args=>simp only[Ox];exact hc f args st k
theorem ZH(hc:CK z cg call):∀(ops:List bV)(fr:Fr)(st:St)(k:Fr->St->R),aeg z cg ops fr st k=uW z (mV call ops fr st) λx=>k x.1 x.2
 |[],fr,st,k=>rfl
 |o::os,fr,st,k=>by
  show LO z fr o.guard (aef z fr o.xs λxs=>ZE z cg o.k xs st λv st=>oK fr o.dst v λfr=>aeg z cg os fr st k) (oK fr o.dst .undef λfr=>aeg z cg os fr st k)=_;rw[ac2,aep];simp only[ahP z hc,ac3,ZH hc os];simp only[mV];cases cN fr o.guard with
  |none=>rfl
  |some b=>
   cases b with
   |false=>rfl
   |    true=>
        simp only[];cases gu fr o.xs with
        |none=>rfl
        |some xs=>
         simp only[uW];cases cJ call o.k xs st with
         |none=>rfl
         |some x=>rfl
theorem Mr(cE:Nat)(h:T AB):∀(recs:List Rec)(k:T AB->R),Sz cE h recs k=k (snap cE h recs)
 |[],k=>rfl
 |r::rs,k=>by
  show (match r.c with
   |    .new id aM=>match cE.testBit r.idx with
        |true=>Sz cE h rs λh'=>xV (some aM) id h' k
        |false=>Sz cE h rs k
   |.bk _ _=>k h
   |.pure=>Sz cE h rs k)=_
  unfold snap;cases r.c with
  |pure=>exact Mr cE h rs k
  |bk _ _=>rfl
  |new id aM=>
   simp only[];cases cE.testBit r.idx with
   |true=>simp only[Mr cE h rs,oN]
   |false=>exact Mr cE h rs k
theorem afG(h:T AB):∀(l:List (Pos×AB))(k:T AB->R),ahr h l k=k (nZ l h)
 |[],k=>rfl
 |(id,aM)::l,k=>by show ahr h l (λh'=>xV (some aM) id h' k)=_;rw[afG h l,oN];rfl
theorem DY(cE:Nat)(op:aG)(xs:List AV)(v:AV):∀(recs:List Rec)(up:List (Pos×AB)),vN cE op xs v up recs=oJ cE op xs v up recs
 |[],up=>rfl
 |r::rs,up=>by
  unfold vN oJ;cases r.c with
  |pure=>exact DY cE op xs v rs up
  |new id aM=>simp only[DY cE op xs v rs]<;>(cases cE.testBit r.idx<;>rfl)
  |bk base _=>
   simp only[DY cE op xs v rs,Mr,afG];unfold ahs pL;simp only[Tb]<;>(cases cE.testBit r.idx<;>rfl)
theorem ahQ (hc:CK z cg call):∀(ops:List (Nat×bV))(recs:List Rec)(base:T AB)(fr:Fr)(st:St)(k:Fr->St->R),
  SA z cg ops recs base fr st k=uW z (eD call ops recs base fr st) λx=>k x.1 x.2
 |[],recs,base,fr,st,k=>rfl
 |(j,   o)::  os,recs,base,fr,st,k=>by
  show LO   z fr o.guard
    (aef z fr o.xs λxs=>match o.cls with
        | .new=>match o.k.run (λ_=>none) st.next xs with
          |some (.bk v none none (some aM))=>xz v λv=>LN aM λaM=>oK fr o.dst v λfr=>acK st.next λn=>xV (some aM) st.next st.heap λh=>
              SA z cg os ({ idx:=j,o:=o,v:=v,c:= .new st.next aM,nx:=n }::recs) base fr { heap:=h,next:=n } k
          |_=>z
        |.bk=>ZE z cg o.k xs st λv st'=>oK fr o.dst v λfr=>SA z cg os ({ idx:=j,o:=o,v:=v,c:= .bk base st'.heap,nx:=st'.next }::recs) st'.heap fr st' k
        | _ =>match o.k.run (λ_=>none) .h xs with
          |some (.val v)=>xz v λv=>oK fr o.dst v λfr=>SA z cg os ({ idx:=j,o:=o,v:=v,c:= .pure,nx:=st.next }::recs) base fr st k
          | _ =>Sz o.cE base recs λh=>match o.k.run (λb=>Cb b h) .h xs with
            | some (.val v)=>xz v λv=>match vN o.cE o.k xs v [] recs with
              |true=>oK fr o.dst v λfr=>SA z cg os ({ idx:=j,o:=o,v:=v,c:= .pure,nx:=st.next }::recs) base fr st k
              |false=>z
            |_=>z)
    (oK fr o.dst .undef λfr=>SA z cg os ({ idx:=j,o:=o,v:= .undef,c:= .pure,nx:=st.next }::recs) base fr st k)=_
  rw[ac2,aep];simp only[ahP z hc,ac3,Oy,S9,Ta,oN,Mr,DY,Tb,ahQ hc os];simp only[eD];cases cN fr o.guard with
  |none=>rfl
  | some b=>
    cases b with
    |false=>rfl
    |   true=>
        simp only[];cases gu fr o.xs with
        |none=>rfl
        | some xs=>
          simp only[uW];cases o.cls with
          | new=>
            simp only[];split<;>simp_all
          | bk=>
            simp only[];cases cJ call o.k xs st with
            |none=>rfl
            |some x=>rfl
          | pure=>
            simp only[];split
            .simp_all
            .split<;>simp_all;split<;>simp_all
          | read=>
            simp only[];split
            .simp_all
            .split<;>simp_all;split<;>simp_all
def ahR(r:Option (o6×Fr×St))(kn:Fr->St->R)(kx:Nat->Fr->St->R)(kr:Fr->St->R):R:=match r with
 |some (.normal,fr,st)=>kn fr st
 |some (.exit id,fr,st)=>kx id fr st
 |some (.ret,fr,st)=>kr fr st
 |none=>z
theorem abK(hc:CK z cg call):∀(m:Nat)(c:AC)(fr:Fr)(st:St)(kn:Fr->St->R)(kx:Nat->Fr->St->R)(kr:Fr->St->R),
  acL z cg m c fr st kn kx kr=ahR z (exec call m c fr st) kn kx kr
 |0,c,fr,st,kn,kx,kr=>rfl
 |m+    1,c,fr,st,kn,kx,kr=>by
  have ih:=abK hc m;show vO z cg (acL z cg m) c fr st kn kx kr=ahR z (bD call (exec call m) c fr st) kn kx kr;cases c with
  |skip=>rfl
  |region ops=>
   simp only[vO,bD,ZH z hc];cases mV call ops fr st with
   |none=>rfl
   |some x=>rfl
  |draw ops=>
   simp only[vO,bD,ahQ z hc];cases eD call ops [] st.heap fr st with
   |none=>rfl
   |some x=>rfl
  |seq a b=>
   simp only[vO,bD,ih];cases exec call m a fr st with
   |none=>rfl
   |    some x=>
        obtain⟨e,fh,bE⟩:=x;cases e<;>rfl
  |cond x a b=>
   simp only[vO,bD,ahO];cases HQ fr x with
   |none=>rfl
   |    some v=>
        simp only[uW];(cases v<;>try rfl);rename_i t;cases t<;>simp only[ih]
  |block id a=>
   simp only[vO,bD,ih];cases exec call m a fr st with
   |none=>rfl
   |    some x=>
        obtain⟨e,fh,bE⟩:=x;(cases e<;>try rfl);rename_i yx;simp only[ahR];cases Nat.beq yx id<;>rfl
  |loop a=>
   simp only[vO,bD,ih];cases exec call m a fr st with
   |none=>rfl
   |    some x=>
        obtain⟨e,fh,bE⟩:=x;cases e<;>rfl
  |exit id=>rfl
  |ret=>rfl
theorem Tc:∀(vs:List AV)(i:Nat)(fr:Fr)(k:Fr->R),QH vs i fr k=k (params i vs fr)
 |[],i,fr,k=>rfl
 |v::vs,i,fr,k=>by show xV (some v) (key i) fr (λfr=>QH vs (i+1) fr k)=_;rw[oN,Tc vs];rfl
theorem akc(st:St)(fr:Fr)(rs:List QC)(k:AV->R):Gz z st fr rs k=uW z (ij (λb=>st.heap.get b) fr rs) λvs=>k (Ab vs):=by
 unfold Gz;rw[Tb];cases ij (λb=>st.heap.get b) fr rs with
 |none=>rfl
 |some vs=>
  simp only[S8,uW];cases vs with
  |nil=>rfl
  |cons v vs=>cases vs<;>rfl
theorem GM (O:fc)(G:T dR)(m:Nat):∀d,CK z (Oe z O G m d) (uJ O G m d)
 |0=>λf args st k=>rfl
 |d+    1=>fun f args st k=>by
  have ih:=GM O G m d;show( match O f with
   |    some s=>match s args st with
        |some (v,st')=>xz v λv=>k v st'
        |none=>z
   |    none=>match Cb (key f) G with
        |some F=>match Nat.beq args.length F.nparams with
         |true=>QH args 0 .e λfr=>acL z (Oe z O G m d) m F.code fr st
             (λfr st=>Gz z st fr F.results λv=>k v st)
             (λ_ _ _=>z)
             (λfr st=>Gz z st fr F.results λv=>k v st)
         |false=>z
        |none=>z)=_
  simp only[uJ,Oy,CM,Tc,abK z ih,akc];cases O f with
  |some s=>
   simp only[];cases s args st with
   |none=>rfl
   |some x=>rfl
  |none=>
   simp only[];cases G.get (key f)with
   |none=>rfl
   |    some F=>
        simp only[];cases Nat.beq args.length F.nparams with
        |false=>rfl
        |true=>
         simp only[];cases exec (uJ O G m d) m F.code (params 0 args .e) st with
         |none=>rfl
         |  some x=>
            obtain⟨e,fh,bE⟩:=x;cases e with
            |normal=>
             simp only[ahR];cases ij (λb=>bE.heap.get b) fh F.results<;>rfl
            |exit id=>rfl
            |ret=>
             simp only[ahR];cases ij (λb=>bE.heap.get b) fh F.results<;>rfl
end
end
section
open Go
def amc (P :Program)(t:Nat)(ti:TI):Bool:=
 match P.underlying t,P.info? t with
 |  some d,some i=>cF ti.k d&&Nat.beq i.size ti.size&&Nat.beq i.bytes ti.bytes&&
    (match ti.zero with
     |none=>true
     |some z=>match i.zero with
      |some v=>(match tE v.cells.toList with
           |some z'=>ug z' z
           |none=>false)&&Nat.beq z.length ti.size&&(match ti.k.isAgg,v with
           |true,.agg _=>true
           |true,_=>false
           |false,.agg _=>false
           |false,_=>true)
      |none=>false)&&(match ti.k with
     |.ptr e=>(P.info? e).isSome
     |_=>true)&&(!ti.BR||(!P.stoodInHeld t&& !P.eqGuardType P.depth t))
 |_,_=>false
theorem aqJ{P:Program}{t:Nat}{ti:TI}(h:amc P t ti=true):alJ P t ti:=by
 unfold amc at h;split at h<;>first|(cases h;done)|skip
 rename_i d i hd hi;simp only[Zb1,Zj8,Zj6]at h;obtain⟨⟨⟨⟨⟨h1,h2⟩,h3⟩,h4⟩,h6⟩,h5⟩:=h;refine⟨⟨d,hd,h1⟩,⟨i,hi,Za6 h2,Za6 h3,λz hz=> ?_⟩,λe he=> ?_,λhe=> ?_⟩
 . rw[hz]at h4;simp only at h4;(split at h4<;>first|(cases h4;done)|skip);rename_i v hv;simp only[Zb1]at h4;obtain⟨⟨g1,g2⟩,g3⟩:=h4;(split at g1<;>first|(cases g1;done)|skip);rename_i z' Ol;rw[HG g1]at Ol;refine⟨v,hv,Ol,Za6 g2,λha=> ?_,λha=> ?_⟩
   .rw[ha]at g3;cases v<;>first|exact⟨_,rfl⟩|cases g3
   .rw[ha]at g3;cases v<;>first|rfl|cases g3
 .rw[he]at h6;exact Zn1.1 h6
 . rcases h5 with h5|h5
   .rw[he]at h5;cases h5
   .exact h5
def LP(P:Program):(Pos->Pos)->T TI->Bool
 |_,.e=>true
 |  f,.n l v r=>(match v with
    |some ti=>amc P ((f .h).toNat - 1) ti
    |none=>true)&&LP P (λp=>f (.o p)) l&&LP P (λp=>f (.i p)) r
theorem Td{P:Program}:∀{t:T TI}{f:Pos->Pos},LP P f t=true->∀p ti,t.get p=some ti->alJ P ((f p).toNat - 1) ti
 |.e,f,_,p,ti,h=>by rw[T.dS]at h;cases h
 | .n l v r,f,hc,p,ti,h=>by
   simp only[LP,Zb1]at hc;cases p with
   |h=>simp only[T.get]at h;rw[h]at hc;exact aqJ hc.1.1
   |o p=>exact Td hc.1.2 p ti h
   |i p=>exact Td hc.2 p ti h
theorem atB{P:Program}{tt:TT}(h:LP P (λp=>p) tt=true):dG P tt:=λp ti hp=>Td h p ti hp
end
noncomputable section
open Go
def Q4{α:Type}(g:Nat->Option α):Nat->Nat->Nat->T α
 |0,_,_=>.e
 |d+1,a,m=>.n (Q4 g d a (2*m)) (g (a+m - 1)) (Q4 g d (a+m) (2*m))
theorem Te{α:Type}{g:Nat->Option α}:∀{d a m:Nat}{p:Pos}{x:α},(Q4 g d a m).get p=some x->g (a+m*p.toNat - 1)=some x
 |0,_,_,p,x,h=>by rw[Q4,T.dS]at h;cases h
 |d+1,a,m,.h,x,h=>by rw[Pos.toNat,Zn5];exact h
 |d+1,a,m,.o p,x,h=>by
  have:=Te (d:=d) (a:=a) (m:=2*m) (p:=p) (x:=x) h;rw[Pos.toNat];have e:a+m*(2*p.toNat) - 1=a+2*m*p.toNat - 1:=by rw[<-Nat.mul_assoc,Nat.mul_comm m 2]
  rw[e];exact this
 |d+1,a,m,.i p,x,h=>by
  have:=Te (d:=d) (a:=a+m) (m:=2*m) (p:=p) (x:=x) h;rw[Pos.toNat];have e:a+m*(2*p.toNat+1) - 1=a+m+2*m*p.toNat - 1:=by rw[Nat.mul_add,Zn5, <-Nat.mul_assoc,Nat.mul_comm m 2];omega
  rw[e];exact this
def as7(P:Program)(tt:TT)(i:Nat):Option dR:=match P.funcs[i]? with
 |some fn=>alI tt fn
 |none=>none
def ggOf(P:Program)(tt:TT):T dR:=Q4 (as7 P tt) 10 0 1
theorem atC{P:Program}{tt:TT}(h:(P.funcs.toList.all λfn=> !(fn.name== "runtime.NumGoroutine"))=true):GOk P tt (ggOf P tt):=λp F hp=>by
 have:=Te hp;rw[Zb8,Zp6,as7]at this;split at this<;>first|(cases this;done)|skip
 rename_i fn HW;refine⟨fn,HW,?_,this⟩;have:=Zh3.1 h fn (by obtain⟨hi,e⟩:=Zd3.1 HW;exact Array.mem_toList_iff.2 (e ▸Array.getElem_mem hi));simpa using this
def tkOf(P:Program)(t:Nat):TK:=match P.underlying t with
 |some .bool=>.bool
 |some (.int k)=>.int k
 |some .string=>.string
 |some (.pointer e)=>.ptr e
 |some (.slice e)=>.slice e
 |some (.array n e)=>.array n e
 |some (.map k e)=>.map k e
 |some (.struct fs)=>.struct (fs.toList.map λf=>(f.offset,f.type,f.name != "_"))
 |some (.func _ _ _)=>.func
 |some (.interface _)=>.iface
 |some .unsafePointer=>.upt
 |_=>.other
def zeroOf:Option Value->Option (List AV)
 |  some v=>match Nat.ble v.cells.size 64 with
    |true=>tE v.cells.toList
    |false=>none
 |none=>none
def memN(n:Nat):List Nat->Bool
 |[]=>false
 |  m::l=>match Nat.beq m n with
    |true=>true
    |false=>memN n l
def tiOf(P:Program)(eqs:List Nat)(t:Nat):Option TI:=match P.info? t with
 |none=>none
 |some i=>some { k:=tkOf P t,size:=i.size,bytes:=i.bytes,zero:=zeroOf i.zero,BR:=memN t eqs }
def ttOf(P:Program)(eqs:List Nat):T TI:=Q4 (tiOf P eqs) 10 0 1
def kI(n:Nat):AV:= .int .i64 (.ofNat n)
def kU(n:Nat):AV:= .int .u8 (.ofNat n)
def kN(p n e:Nat):AV:= .slice (key p) 0 n none e
def kS(p n c e:Nat):AV:= .slice (key p) 0 n (some c) e
end
section
open Go
structure qD(P:Program)(C:Cells)(f:FuncId)(s:List AV->St->Option (AV×St)):Prop where
 mono:∀args st v st',s args st=some (v,st')->st.next.toNat<=st'.next.toNat
 runs:∀(ρ:Pos->Loc)(st:St)(w:World)(args:List AV)(v:AV)(st':St)(cq:List Value),s args st=some (v,st')->
  bZ ρ C st w->aK ρ st.next.toNat C args cq->Reaches P (lM ρ C st w v st') ((callFunc f cq.toArray).run P w)
def wq:List (Nat×(List AV->St->Option (AV×St)))->fc
 |[]=>λ_=>none
 |  (g,s)::l=>λf=>match Nat.beq f g with
    |true=>some s
    |false=>wq l f
theorem zk{P:Program}{C:Cells}:∀{l:List (Nat×(List AV->St->Option (AV×St)))},(∀x∈l,qD P C x.1 x.2)->wm P C (wq l)/\o8 (wq l)
 |[],_=>⟨λf s h=>by simp[wq]at h,λf s h=>by simp[wq]at h⟩
 |(g,   s0)::l,hl=>by
  obtain⟨h1,h2⟩:=zk λx hx=>hl x (Zb0 _ hx)
  have h0:=hl _ (Ze2 ..);refine⟨λf s h=> ?_,λf s h=> ?_⟩
  . simp only[wq]at h;split at h
    .   rename_i he;simp only[H5]at h;subst h;have:=Za6 he;subst this;exact h0.runs
    .   exact h1 f s h
  . simp only[wq]at h;split at h
    .   simp only[H5]at h;subst h;exact h0.mono
    .   exact h2 f s h
def GN:List AV->St->Option (AV×St)
 |  [.str a,.str b],st=>some (.int .i64 (match aO a b with
    |true=>.negSucc 0
    |false=>match aO b a with
     |true=>.ofNat 1
     |false=>.ofNat 0),st)
 |_,_=>none
theorem Xq:∀(x y:List UInt8),Lib.compareBytes x y=match aO (x.map UInt8.toNat) (y.map UInt8.toNat)with
  |true=>.negSucc 0
  | false=>match aO (y.map UInt8.toNat) (x.map UInt8.toNat)with
    |true=>.ofNat 1
    |false=>.ofNat 0
 |[],[]=>rfl
 |[],_::_=>rfl
 |_::_,[]=>rfl
 |a ::x  ,b::y=>by
  rw[xO,xO];have ih:=Xq x y;rw[xO,xO]at ih;simp only[Lib.compareBytes,Op.bytesLess];by_cases h:a<b
  .simp[h]
  . by_cases h':b<a
    .   have cY:(a==b)=false:=(by rw[Zm9];exact λe=>by subst e;exact h h');simp[h,h',cY]
    .   have he:a=b:=(by apply Zr9.1;rw[Zo5]at h h';omega);subst he;simp only[h,Zg7,ih];simp
theorem aqK{P:Program}{C:Cells}{f:FuncId}{fn:Func}(hf:P.funcs[f]? =some fn)(o7:(fn.name== "runtime.NumGoroutine")=false)(hb:fn.body.isNone=true)
  (hx:Extern.findNext fn=none) (he:Extern.find fn=some Extern.BytealgCompare.compare):qD P C f GN where
 mono args st v st' h:=by unfold GN at h;split at h<;>cases h;exact Za3 _
 runs ρ st w args v st' cq h hW hv:=by
  unfold GN at h;split at h<;>cases h;rename_i a b;obtain⟨x,xs,rfl,h1,h2⟩:=hv.cons_inv;obtain⟨y,ys,rfl,h3,h4⟩:=h2.cons_inv;have:=h4.kO;subst this;obtain⟨s,rfl,hs⟩:=h1.fB;obtain⟨t,rfl,ht⟩:=h3.fB;have dO:(callFunc f [Value.string s,Value.string t].toArray).run P w= .ok (.value (.int .i64 (Lib.compareBytes s.data.toList t.data.toList))) w:=by rw[run_callFunc_extern hf o7 hb hx he];show((Extern.BytealgCompare.compare #[.string s,.string t]).run P w).andThen _=_;rw[Lib.run_compareString];rfl
  rw[dO];refine⟨ρ,?_,λ_ _=>rfl,Za3 _,hW,pg.refl _ _ _⟩;rw[Xq,hs,ht];exact .int _ _
theorem bZ.sub{ρ:Pos->Loc}{C:Cells}{st:St}{w:World}(h:bZ ρ C st w){h2:T AB}(hs:∀b x,h2.get b=some x->st.heap.get b=some x):bZ ρ C { heap:=h2,next:=st.next } w where
 live b x hb:=h.live b x (hs b x hb)
 inj b b' x x' hb dY he:=h.inj b b' x x' (hs b x hb) (hs b' x' dY) he
 dW a v ha:=⟨(h.dW a v ha).1,λb x hb=>(h.dW a v ha).2 b x (hs b x hb)⟩
 whole:=h.whole
theorem lM.frame{ρ:Pos->Loc}{C:Cells}{st st':St}{w w':World}{v:AV}{x:Value}{h0 h2:T AB}(hW:bZ ρ C st w)(zj:∀b y,h0.get b=some y->st.heap.get b=some y)
   (h:lM ρ C { heap:=h0,next:=st.next } w v st' x w')
   (h2s:∀b y,h2.get b=some y->st'.heap.get b=some y\/(st.heap.get b=some y/\h0.get b=none)):
   lM ρ C st w v { heap:=h2,next:=st'.next } x w':=by
 obtain⟨ρ',hv,bF,hn,jD,hE⟩:=h;have hold:∀b y,st.heap.get b=some y->h0.get b=none->∀b' y',h0.get b'=some y'->(ρ b').aM≠(ρ b).aM:=λb y hb yY b' y' dY e=>by have:=hW.inj b' b y' y (zj b' y' dY) hb e;subst this;rw[yY]at dY;cases dY
 have an7:∀b y b' y',st'.heap.get b=some y->st.heap.get b'=some y'->h0.get b'=none->(ρ' b).aM≠(ρ' b').aM:=λb y b' y' hb dY yY e=>by
   rw[bF b' (hW.live b' y' dY).1]at e;rcases hE.yX b y hb with⟨b2,y2,g1,g2⟩|g1
   .exact hold b' y' dY yY b2 y2 g1 (g2.trans e)
   .have:=(hW.live b' y' dY).2.1;omega
 refine⟨ρ',hv,bF,hn,⟨λb y hb=> ?_,λb b' y y' hb dY he=> ?_,λa u ha=>⟨(jD.dW a u ha).1,λb y hb=> ?_⟩,jD.whole⟩,⟨hE.os,hE.tape,hE.output,hE.size,λk hk od=> ?_,λb y hb=> ?_⟩⟩
 . rcases h2s b y hb with hb|⟨hb,yY⟩
   .exact jD.live b y hb
   . obtain⟨g1,g2,g3⟩:=hW.live b y hb;refine⟨Zd0 g1 hn,?_,?_⟩
     .  rw[bF b g1];exact Zd0 g2 hE.size
     .  rw[bF b g1];exact(g3.mono bF hn).of_heap (hE.block _ g2 λb' y' dY=>hold b y hb yY b' y' dY)
 . rcases h2s b y hb with hb|⟨hb,yY⟩<;>rcases h2s b' y' dY with dY|⟨dY,hb0'⟩
   .exact jD.inj b b' y y' hb dY he
   .exact absurd he (an7 b y b' y' hb dY hb0')
   .exact absurd he.symm (an7 b' y' b y dY hb yY)
   .rw[bF b (hW.live b y hb).1,bF b' (hW.live b' y' dY).1]at he;exact hW.inj b b' y y' hb dY he
 . rcases h2s b y hb with hb|⟨hb,yY⟩
   .exact(jD.dW a u ha).2 b y hb
   .rw[bF b (hW.live b y hb).1];exact(hW.dW a u ha).2 b y hb
 .exact hE.block k hk λb y hb=>od b y (zj b y hb)
 . rcases h2s b y hb with hb|⟨hb,yY⟩
   . rcases hE.yX b y hb with⟨b',y',g1,g2⟩|g1
     .  exact .inl ⟨b',y',zj b' y' g1,g2⟩
     .  exact .inr g1
   .exact .inl ⟨b,y,hb,by rw[bF b (hW.live b y hb).1]⟩
def Ms:List AV->List AV->Bool
 |[],[]=>true
 |a::x,b::y=>eZ a b&&Ms x y
 |_,_=>false
theorem Xr:∀{a b:List AV},Ms a b=true->a=b
 |[],[],_=>rfl
 |[],_::_,h=>by simp[Ms]at h
 |_::_,[],h=>by simp[Ms]at h
 |a::x,b::y,h=>by
  simp only[Ms,Zb1]at h;rw[zi h.1,Xr h.2]
def ZI:List (AV×AV×Nat)->List (AV×AV×Nat)->Bool
 |[],[]=>true
 |(a,b,n)::x,(a',b',n')::y=>eZ a a'&&eZ b b'&&Nat.beq n n'&&ZI x y
 |_,_=>false
theorem ahS:∀{a b:List (AV×AV×Nat)},ZI a b=true->a=b
 |[],[],_=>rfl
 |[],_::_,h=>by simp[ZI]at h
 |_::_,[],h=>by simp[ZI]at h
 |(a,b,n)::x,(a',b',n')::y,h=>by
  simp only[ZI,Zb1]at h;obtain⟨⟨⟨h1,h2⟩,h3⟩,h4⟩:=h;rw[zi h1,zi h2,Za6 h3,ahS h4]
def ac4:AB->AB->Bool
 |.cells cs fz,.cells mZ fz'=>Ms cs mZ&&Nat.beq fz fz'
 |.map es c,.map es' c'=>ZI es es'&&Nat.beq c c'
 |_,_=>false
theorem abL{a b:AB}(h:ac4 a b=true):a=b:=by
 unfold ac4 at h;split at h<;>(try simp only[Zb1]at h)
 .rw[Xr h.1,Za6 h.2]
 .rw[ahS h.1,Za6 h.2]
 .cases h
def hasAll(h:T AB):List (Pos×AB)->Bool
 |[]=>true
 |  (b,x)::l=>(match h.get b with
    |some y=>ac4 y x
    |none=>false)&&hasAll h l
theorem Xs{h:T AB}:∀{l:List (Pos×AB)},hasAll h l=true->∀b x,(b,x)∈l->h.get b=some x
 |[],_,b,x,hm=>by cases hm
 |(b0,x0)::l,hh,b,x,hm=>by
  simp only[hasAll,Zb1]at hh;rcases Za8.1 hm with hm|hm
  .cases hm;have h1:=hh.1;(split at h1<;>first|(cases h1;done)|skip);rename_i y hy;rw[hy,abL h1]
  .exact Xs hh.2 b x hm
theorem Oz:∀{l:List (Pos×AB)}{h:T AB}{b:Pos}{x:AB},(nZ l h).get b=some x->(b,x)∈l\/(h.get b=some x/\∀y∈l,y.1≠b)
 |[],h,b,x,hb=>.inr ⟨hb,λy hy=>by cases hy⟩
 |(b0,x0)::l,h,b,x,hb=>by
  unfold nZ at hb;by_cases e:b0=b
  .subst e;rw[T.gU]at hb;simp only[H5]at hb;subst hb;exact .inl (Ze2 ..)
  . rw[T.cC _ e]at hb;rcases Oz hb with h1|⟨h1,h2⟩
    .   exact .inl (Zb0 _ h1)
    .   refine .inr ⟨h1,λy hy=> ?_⟩;rcases Za8.1 hy with rfl|hy
        .exact e
        .exact h2 y hy
structure Lit where
 args:List AV
 n0:Pos
 L0:List (Pos×AB)
 v:AV
 n1:Pos
 L1:List (Pos×AB)
def ac5(l m:List (Pos×AB)):Bool:=l.all λx=>m.any λy=>Pos.beq x.1 y.1
def Tf(t:Lit):List AV->St->Option (AV×St):=λargs st=>
 match Ms args t.args&&Pos.beq st.next t.n0&&hasAll st.heap t.L0 with
 |true=>some (t.v,{ heap:=nZ t.L1 st.heap,next:=t.n1 })
 |false=>none
noncomputable def ac6(t:Lit)(O:fc)(G:T dR)(m d f:Nat):Bool:=
 Oe (R:=Bool) false O G m d f t.args { heap:=nZ t.L0 .e,next:=t.n0 } λv st=>eZ v t.v&&Pos.beq st.next t.n1&&hasAll st.heap t.L1
theorem ahT{P:Program}{C:Cells}{t:Lit}{O:fc}{G:T dR}{m d f:Nat}(dI:jt P C (uJ O G m d))(amb:pY (uJ O G m d))
   (hk:ac5 t.L0 t.L1=true) (h:ac6 t O G m d f=true):qD P C f (Tf t):=by
 unfold ac6 at h;rw[GM false O G m d]at h;unfold uW at h;split at h<;>first|(cases h;done)|skip
 rename_i x hx;obtain⟨v,bE⟩:=x;simp only[Zb1]at h;obtain⟨⟨h1,h2⟩,h3⟩:=h;have h1:=zi h1;have h2:=Pos.beq_eq.1 h2;subst h1;have unf:∀args st v' st',Tf t args st=some (v',st')->args=t.args/\st.next=t.n0/\hasAll st.heap t.L0=true/\v'=t.v/\st'={ heap:=nZ t.L1 st.heap,next:=t.n1 }:=by
   intro args st v' st' hs;unfold Tf at hs;(split at hs<;>first|(cases hs;done)|skip);rename_i hc;simp only[Zb1]at hc;simp only[H5,Zd2]at hs;exact⟨Xr hc.1.1,Pos.beq_eq.1 hc.1.2,hc.2,hs.1.symm,hs.2.symm⟩
 refine⟨λargs st v' st' hs=> ?_,λρ st w args v' st' cq hs hW hv=> ?_⟩
 .obtain⟨rfl,g2,g3,rfl,rfl⟩:=unf _ _ _ _ hs;have:=amb _ _ _ _ _ hx;rw[g2, <-h2];exact this
 . obtain⟨ rfl,g2,g3,rfl,rfl⟩:=unf _ _ _ _ hs;have zj:∀b y,(nZ t.L0 T.e).get b=some y->st.heap.get b=some y:=λb y hb=>by
    rcases Oz hb with hb|⟨hb,_⟩
    .   exact Xs g3 b y hb
    .   rw[T.dS]at hb;cases hb
   have xB:uJ O G m d f t.args { heap:=nZ t.L0 .e,next:=st.next }=some (t.v,bE):=(by rw[g2];exact hx);refine Reaches.mono (λx w' hp=> ?_) (dI ρ _ w f t.args t.v bE cq xB (hW.sub zj) hv);have:=   hp.frame hW zj (h2:=nZ t.L1 st.heap) λb y hb=>by
    rcases Oz hb with hb|⟨hb,od⟩
    .   exact .inl (Xs h3 b y hb)
    .   refine .inr ⟨hb,?_⟩;cases hg:(nZ t.L0 T.e).get b with
        |none=>rfl
        |some u=>
         exfalso;rcases Oz hg with hg|⟨hg,_⟩
         .  unfold ac5 at hk;rw[Zh3]at hk;have:=hk _ hg;rw[Zm8]at this;obtain⟨y',hy',he⟩:=this;exact od y' hy' (Pos.beq_eq.1 he).symm
         .  rw[T.dS]at hg;cases hg
   rw[h2]at this;exact this
def orS(s t:List AV->St->Option (AV×St)):List AV->St->Option (AV×St):=λargs st=>match s args st with
 |some r=>some r
 |none=>t args st
theorem ahU{P:Program}{C:Cells}{f:FuncId}{s t:List AV->St->Option (AV×St)}(hs:qD P C f s)(ht:qD P C f t):qD P C f (orS s t) where
 mono args st v st' h:=by
  unfold orS at h;split at h
  .rename_i r hr;simp only[H5]at h;subst h;exact hs.mono _ _ _ _ hr
  .exact ht.mono _ _ _ _ h
 runs ρ st w args v st' cq h hW hv:=by
  unfold orS at h;split at h
  .rename_i r hr;simp only[H5]at h;subst h;exact hs.runs ρ st w args v st' cq hr hW hv
  .exact ht.runs ρ st w args v st' cq h hW hv
end
end Go.Ai
