/- Its calls answer as the model does. -/
import Derived.Test.YtgihekklfnjkiaaGreatDoorGEvalC
import Derived.Lib.Bytealg
set_option linter.all false
set_option linter.unusedSectionVars false
set_option linter.deprecated false
namespace Go.Ai
section
open Go Go.RowKit
theorem Kf{a b:AV}(h:fH a b=true):a=b:=by
 unfold fH at h;split at h<;>(try simp only[Zb5,Zf5]at h)<;>try rfl
 . rw[beq_iff_eq.1 h]
 . rename_i k i k' i';have h2:=h.2;rw[mK]at h2;rw[BU h.1,beq_iff_eq.1 h2]
 . rw[mL.1 h]
 . rw[Pos.beq_eq.1 h.1,Za6 h.2]
 . obtain⟨⟨⟨h1,h2⟩,h3⟩,h4⟩:=h;rw[Pos.beq_eq.1 h1,Za6 h2,Za6 h3,Za6 h4]
 . obtain⟨⟨⟨⟨h1,h2⟩,h3⟩,h4⟩,h5⟩:=h;rw[Pos.beq_eq.1 h1,Za6 h2,Za6 h3,Za6 h4,Za6 h5]
 . rw[Pos.beq_eq.1 h]
theorem NV:∀{a b:List AV},Bq a b=true->a=b
 |[],[],_=>rfl
 |[],_::_,h=>by simp[Bq]at h
 |_::_,[],h=>by simp[Bq]at h
 |a::x,b::y,h=>by
  simp only[Bq,Zb5]at h;rw[Kf h.1,NV h.2]
theorem agE{f:AV->AV->Bool}(hf:∀{a b},f a b=true->a=b):∀{a b:List AV},MH f a b=true->a=b
 |[],[],_=>rfl
 |[],_::_,h=>by simp[MH]at h
 |_::_,[],h=>by simp[MH]at h
 |a::x,b::y,h=>by
  simp only[MH,Zb5]at h;rw[hf h.1,agE hf h.2]
theorem abK{f:AV->AV->Bool}(hf:∀{a b},f a b=true->a=b):∀{a b:List (List AV)},BS f a b=true->a=b
 |[],[],_=>rfl
 |[],_::_,h=>by simp[BS]at h
 |_::_,[],h=>by simp[BS]at h
 |a::x,b::y,h=>by
  simp only[BS,Zb5]at h;rw[agE hf h.1,abK hf h.2]
theorem agF:∀{d:Nat}{a b:AV},MI d a b=true->a=b
 |0,_,_,h=>by unfold MI at h;exact Kf h
 |d +1,a,b,h=>by
  unfold MI at h;split at h
  . rename_i heq;cases heq;simp only[Zb5]at h;rw[abK (λh=>agF h) h.1,Za6 h.2]
  . exact Kf h
theorem abL{a b:AV}(h:lM a b=true):a=b:=by
 unfold lM at h;split at h
 . simp only[Zb5]at h;rw[Za6 h.1.1,NV h.1.2,NV h.2]
 . exact agF h
 . exact Kf h
theorem Gf:∀{a b:List AV},tL a b=true->a=b
 |[],[],_=>rfl
 |[],_::_,h=>by simp[tL]at h
 |_::_,[],h=>by simp[tL]at h
 |a::x,b::y,h=>by
  simp only[tL,Zb5]at h;rw[abL h.1,Gf h.2]
theorem yu{a b:AV}(h:ey a b=true):a=b:=by
 unfold ey at h;split at h
 . rw[Gf h]
 . rw[Gf h]
 . exact abL h
theorem aoY {k:aG}{H H':Pos->Option AB}{n n':Pos}{xs:List AV}{v:AV}(h:k.run H n xs=some (.val v))(hm:∀b x,H b=some x->H' b=some x):
  k.run H' n' xs=some (.val v):=by
 cases k<;>simp only[aG.run]at h ⊢ <;>try exact h
 case alloc z=>unfold QL at h;split at h<;>cases h
 case box=>unfold abv at h;split at h<;>cases h
 case buildSlice es len z p=>unfold wu at h;dsimp only at h;split at h<;>cases h
 case mkMap=>unfold QO at h;cases h
 case mkSlice es b z=>
  unfold Cw at h
  repeat' split at h
  all_goals cases h
 case store m=>
  unfold KM at h
  repeat' split at h
  all_goals cases h
 case mapSet pk=>
  unfold yf at h
  repeat' split at h
  all_goals cases h
 case load m=>
  unfold zh at h ⊢;split at h<;>first|(cases h;done)|skip
  split at h<;>first|(cases h;done)|skip
  . (split at h<;>first|(cases h;done)|skip);rename_i cs fz hb;simp only[hm _ _ hb];exact h
  . exact h
 case conv c=>
  unfold Ft at h ⊢;split at h<;>first|(cases h;done)|skip
  split at h<;>first|(cases h;done)|exact h|skip
  rename_i b off m _ _;cases hb:Nat.beq m 0 with
  |true=>simp only[hb]at h ⊢; exact h
  | false=>
    simp only[hb]at h ⊢;cases hH:H b with
    |none=>simp[hH]at h
    |some x=>simp only[hH]at h;simp only[hm _ _ hH];exact h
 case lookup pk z ok=>
  unfold lH at h ⊢;split at h<;>first|(cases h;done)|skip
  rename_i m k';cases m<;>try exact h
  rename_i b;cases hb:H b with
  |none=>simp[hb]at h
  | some x=>
    simp only[hb]at h;simp only[hm _ _ hb];exact h
 case lenB lk=>
  unfold OK at h ⊢;split at h<;>first|(cases h;done)|skip
  split at h<;>first|(cases h;done)|exact h|skip
  split at h<;>first|(cases h;done)|skip
  rename_i es c hb;simp only[hm _ _ hb];exact h
 case clearS es z=>
  unfold sK at h ⊢;split at h<;>first|(cases h;done)|skip
  split at h<;>first|(cases h;done)|exact h|skip
  rename_i b off m _ _;cases hb:Nat.beq m 0 with
  |true=>simp only[hb]at h ⊢; exact h
  | false=>
    simp only[hb]at h
    repeat' split at h
    all_goals cases h
 case copyB es=>
  unfold pE at h ⊢;split at h<;>first|(cases h;done)|skip
  rename_i d x;cases hd:eH d with
  |none=>simp[hd]at h
  | some m1=>
    cases hx:eH x with
    |none=>simp[hd,hx]at h
    |   some m2=>
        simp only[hd,hx]at h ⊢;cases hb:Nat.beq (min m2 m1) 0 with
        |true=>simp only[hb]at h ⊢; exact h
        |false=>
         simp only[hb]at h;(split at h<;>first|(cases h;done)|skip);(split at h<;>first|(cases h;done)|skip);split at h<;>cases h
 case append es bytes=>
  unfold lK at h ⊢;split at h<;>first|(cases h;done)|skip
  rename_i s x;cases hd:eH s with
  |none=>simp[hd]at h
  | some m1  =>
    cases hx:eH x with
    |none=>simp[hd,hx]at h
    |   some m2=>
        simp only[hd,hx]at h ⊢;cases h1:Nat.ble ((2*(m1+m2)+768)*bytes) 281474976710656 with
        |false=>simp[h1]at h
        |true=>
         cases h2:Nat.ble (m1+m2) 9223372036854775807 with
         |false=>simp[h1,h2]at h
         |  true=>
            simp only[h1,h2]at h ⊢;cases hb:Nat.beq m2 0 with
            |true=>
             simp only[hb]at h ⊢;split at h<;>first|(cases h;done)|exact h|skip
             all_goals (simp_all;done)
            |false=>
             simp only[hb]at h
             repeat' split at h
             all_goals first
               |(rename_i e;cases e;done)
               |(rename_i e _;cases e;done)
               |(cases h;done)
               |simp_all
inductive Re(n:Pos):AV->AB->Prop where
 |ptr (cs:List AV):Re n (.ptr n 0) (.cells cs 0)
 |slice (len es:Nat) (cap:Option Nat) (cs:List AV) (h:len=0->cap=none\/cap=some 0->cs=[]):Re n (.slice n 0 len cap es) (.cells cs 0)
 |map:Re n (.map n) (.map [] 0)
theorem aen:∀{ps:List (Nat×Nat)}{xs cs:List AV},cE [] ps xs=some cs->cs=[]
 |[],[],cs,h=>by simp[cE]at h;exact h.symm ▸rfl
 |[],_::_,cs,h=>by simp[cE]at h
 |_::_,[],cs,h=>by simp[cE]at h
 |(off,size)::ps,v::vs,cs,h=>by
  unfold cE at h;split at h<;>first|(cases h;done)|skip
  rename_i h1 h2;have h1:=Za6 h1;have h2:=Zb4 h2;have h3:v.cells=[]:=by apply Zc4;simp at h2;omega
  rw[h3]at h;have h4:aX ([]:List AV) off []=[]:=by simp[aX]
  rw[h4]at h;exact aen h
theorem arL {k : aG}{n:Pos}{xs:List AV}{v:AV}{aM:AB}(h:k.run (λ_=>none) n xs=some (.bk v none none (some aM))):Re n v aM:=by
 cases k<;>simp only[aG.run]at h
 case alloc z=>unfold QL at h;split at h<;>cases h;exact .ptr _
 case box=>unfold abv at h;split at h<;>cases h;exact .ptr _
 case buildSlice es len z p=>
  unfold wu at h;dsimp only at h;split at h<;>cases h;rename_i cs hc;refine .slice _ _ _ _ λh0 _=> ?_
  subst h0;exact aen hc
 case mkMap=>unfold QO at h;cases h;exact .map
 case mkSlice es b z=>
  unfold Cw at h
  repeat' split at h
  all_goals cases h
  refine .slice _ _ _ _ λ_ h1=> ?_
  rcases h1 with h1|h1
  . cases h1
  . simp only[H5]at h1;subst h1;rfl
 case conv c=>
  unfold Ft at h
  repeat' split at h
  all_goals cases h
 case append es bytes=>
  unfold lK at h
  repeat' split at h
  all_goals cases h
  all_goals refine .slice _ _ _ _ λh0 _=> ?_
  all_goals (exfalso;rename_i hb _ _;simp_all)
 case move=>unfold Yd at h;split at h<;>cases h
 case pick=>   unfold ac8 at h;repeat' split at h
               all_goals cases h
 case build=>unfold QM at h;dsimp only at h;split at h<;>cases h
 case load=>   unfold zh at h;repeat' split at h
               all_goals cases h
 case store=>   unfold KM at h;repeat' split at h
                all_goals cases h
 case nilCheck=>   unfold NR at h;repeat' split at h
                   all_goals cases h
 case bin=>   unfold ju at h;repeat' split at h
              all_goals cases h
 case un=>   unfold ako at h;repeat' split at h
             all_goals cases h
 case mkIface=>   unfold QN at h;repeat' split at h
                  all_goals cases h
 case mkFunc=>unfold Gm at h;dsimp only at h;cases h
 case lookup=>
  unfold lH at h;split at h<;>first|(cases h;done)|skip
  dsimp only at h;split at h<;>cases h
 case mapSet=>   unfold yf at h;repeat' split at h
                 all_goals cases h
 case sliceS=>
  unfold Vd at h;split at h<;>first|(cases h;done)|skip
  split at h<;>first|(cases h;done)|skip
  dsimp only at h;split at h<;>cases h
 case sliceL=>   unfold iP at h;repeat' split at h
                 all_goals cases h
 case fieldA=>   unfold Ve at h;repeat' split at h
                 all_goals cases h
 case idxA=>   unfold sw at h;repeat' split at h
               all_goals cases h
 case field=>   unfold QT at h;repeat' split at h
                all_goals cases h
 case idxS=>   unfold Ye at h;repeat' split at h
               all_goals cases h
 case extract=>   unfold Kc at h;repeat' split at h
                  all_goals cases h
 case callF=>unfold aat at h;dsimp only at h;cases h
 case callV=>   unfold aau at h;repeat' split at h
                all_goals cases h
 case lenB=>   unfold OK at h;repeat' split at h
               all_goals cases h
 case copyB=>
  unfold pE at h;split at h<;>first|(cases h;done)|skip
  split at h<;>first|(cases h;done)|skip
  dsimp only at h
  repeat' split at h
  all_goals cases h
 case minB=>   unfold Ku at h;repeat' split at h
               all_goals cases h
 case maxB=>   unfold Kv at h;repeat' split at h
               all_goals cases h
 case clearS=>   unfold sK at h;repeat' split at h
                 all_goals cases h
 case capB=>cases h
 case bad=>cases h
end
section
def pG(call:aj):Prop:=∀f args st v st',call f args st=some (v,st')->st.next.toNat<=st'.next.toNat
section
variable{call : aj}
theorem Rf(hm:pG call){k:aG}{xs:List AV}{st st':St}{v:AV}(h:cH call k xs st=some (v,st')):st.next.toNat<=st'.next.toNat:=by
 unfold cH at h;split at h
 . simp only[H5,Zc9]at h;rw[h.2];exact Za3 _
 . simp only[H5,Zc9]at h;rw[<-h.2];exact St.Ra _ _ _ _
 . exact hm _ _ _ _ _ h
 . cases h
theorem Vx(hm:pG call):∀(os:List bQ)(fr bH:Fr)(st st':St),mH call os fr st=some (bH,st')->st.next.toNat<=st'.next.toNat
 |[],fr,bH,st,st',h=>by simp only[mH,H5,Zc9]at h;rw[h.2];exact Za3 _
 |o ::os,fr,bH,st,st',h=>by
  unfold mH at h;split at h
  . (split at h<;>first|(cases h;done)|skip);(split at h<;>first|(cases h;done)|skip);rename_i hs;exact Zb2 (Rf hm hs) (Vx hm os _ _ _ _ h)
  . exact Vx hm os _ _ _ _ h
  . cases h
theorem zk(hm:pG call):∀(os:List (Nat×bQ))(recs:List Rec)(base:T AB)(fr bH:Fr)(st st':St),dY call os recs base fr st=some (bH,st')->st.next.toNat<=st'.next.toNat
 |[],recs,base,fr,bH,st,st',h=>by simp only[dY,H5,Zc9]at h;rw[h.2];exact Za3 _
 |(j,   o)::os,recs,base,fr,bH,st,st',h=>by
  have hs:st.next.toNat<=st.next.succ.toNat:=by rw[Pos.aF];omega
  unfold dY at h;split at h
  . exact zk hm os _ _ _ _ _ _ h
  . (split at h<;>first|(cases h;done)|skip);split at h
    .   (split at h<;>first|(cases h;done)|skip);exact Zb2 hs (zk hm os _ _ _ _ _ _ h)
    .   (split at h<;>first|(cases h;done)|skip);rename_i hs;exact Zb2 (Rf hm hs) (zk hm os _ _ _ _ _ _ h)
    .   split at h
        . exact zk hm os _ _ _ _ _ _ h
        . (split at h<;>first|(cases h;done)|skip);(split at h<;>first|(cases h;done)|skip);exact zk hm os _ _ _ _ _ _ h
  . cases h
theorem MU(hm:pG call):∀(m:Nat)(c:AC)(fr bH:Fr)(st st':St)(ex:oH),exec call m c fr st=some (ex,bH,st')->st.next.toNat<=st'.next.toNat
 |0,c,fr,bH,st,st',ex,h=>by simp[exec]at h
 |m +   1,c,fr,bH,st,st',ex,h=>by
  have ih:=MU hm m;simp only[exec]at h;unfold bC at h;split at h
  . simp only[H5,Zc9]at h;rw[h.2.2];exact Za3 _
  . (split at h<;>first|(cases h;done)|skip);rename_i hs;simp only[H5,Zc9]at h;rw[<-h.2.2];exact Vx hm _ _ _ _ _ hs
  . (split at h<;>first|(cases h;done)|skip);rename_i hs;simp only[H5,Zc9]at h;rw[<-h.2.2];exact zk hm _ _ _ _ _ _ _ hs
  . split at h
    .   rename_i hs;exact Zb2 (ih _ _ _ _ _ _ hs) (ih _ _ _ _ _ _ h)
    .   exact ih _ _ _ _ _ _ h
  . split at h<;>first|(cases h;done)|exact ih _ _ _ _ _ _ h
  . split at h
    .   rename_i hs;split at h<;>(simp only[H5,Zc9]at h;rw[<-h.2.2];exact ih _ _ _ _ _ _ hs)
    .   exact ih _ _ _ _ _ _ h
  . split at h
    .   rename_i hs;exact Zb2 (ih _ _ _ _ _ _ hs) (ih _ _ _ _ _ _ h)
    .   exact ih _ _ _ _ _ _ h
  . simp only[H5,Zc9]at h;rw[h.2.2];exact Za3 _
  . simp only[H5,Zc9]at h;rw[h.2.2];exact Za3 _
def oI(O:eP):Prop:=∀f s,O f=some s->∀args st v st',s args st=some (v,st')->st.next.toNat<=st'.next.toNat
theorem CL{O:eP}{G:T dN}(hO:oI O)(m:Nat):∀d,pG (um O G m d)
 |0=>λf args st v st' h=>by simp[um]at h
 |d +   1=>λf args st v st' h=>by
  have ih:=CL (G:=G) hO m d;unfold um at h;split at h
  . rename_i s hs;exact hO f s hs args st v st' h
  . (split at h<;>first|(cases h;done)|skip);(split at h<;>first|(cases h;done)|skip);split at h<;>first|(cases h;done)|skip
    .   rename_i hs;(split at h<;>first|(cases h;done)|skip);simp only[H5,Zc9]at h;rw[<-h.2];exact MU ih _ _ _ _ _ _ _ hs
    .   rename_i hs;(split at h<;>first|(cases h;done)|skip);simp only[H5,Zc9]at h;rw[<-h.2];exact MU ih _ _ _ _ _ _ _ hs
end
def qK(cW:Fr):List Rec->Fr
 |[]=>cW
 |r::R=>eu (qK cW R) r.o.dst r.v
def eI(n0:Pos):List Rec->Pos
 |[]=>n0
 |r::_=>r.nx
def RC.qe:RC->Bool
 | .bk _ _=>true
 |_=>false
def lR(h0:T AB):List Rec->T AB
 |[]=>h0
 |  r::R=>match r.c with
    | .bk _ h=>h
    |_=>lR h0 R
def lS(h0:T AB):List Rec->T AB
 |[]=>h0
 |  r::R=>match r.c with
    | .bk _ h=>h
    | .new id aM=>(lS h0 R).put (some aM) id
    | .pure=>lS h0 R
def MV:List Rec->Prop
 |[]=>True
 |r::_=>r.c.qe=true
def agG(h0:T AB)(R:List Rec)(o:bQ)(xs:List AV)(v:AV):Prop:=
 ∀  A B,R=A++B->MV B->(∀r∈A,r.c.qe=true->o.bY.testBit r.idx=false)->
    ∃h:T AB,(∀b x,h.get b=some x->(lR h0 B).get b=some x\/∃r∈A,r.c= .new b x/\o.bY.testBit r.idx=true)/\o.k.run (λb=>h.get b) .h xs=some (.val v)
inductive uy(call:aj)(cW:Fr)(h0:T AB)(n0:Pos):Rec->List Rec->Prop where
 |skip (i:Nat) (o:bQ) (R:List Rec) (hw:cK (qK cW R) o.guard=some false):
  uy call cW h0 n0 { idx:=i,o:=o,v:= .undef,c:= .pure,nx:=eI n0 R } R
 |pure (i:Nat) (o:bQ) (v:AV) (xs:List AV) (R:List Rec) (hw:cK (qK cW R) o.guard=some true) (hx:fS (qK cW R) o.xs=some xs) (hr:agG h0 R o xs v):
  uy call cW h0 n0 { idx:=i,o:=o,v:=v,c:= .pure,nx:=eI n0 R } R
 |new (i:Nat) (o:bQ) (v:AV) (aM:AB) (xs:List AV) (R:List Rec) (hw:cK (qK cW R) o.guard=some true) (hx:fS (qK cW R) o.xs=some xs)
  (hr:o.k.run (λ_=>none) (eI n0 R) xs=some (.bk v none none (some aM))):
  uy call cW h0 n0 { idx:=i,o:=o,v:=v,c:= .new (eI n0 R) aM,nx:=(eI n0 R).succ } R
 |bk (i:Nat) (o:bQ) (v:AV) (st':St) (xs:List AV) (R:List Rec) (hc:o.cls= .bk) (hw:cK (qK cW R) o.guard=some true) (hx:fS (qK cW R) o.xs=some xs)
  (hr:cH call o.k xs { heap:=lS h0 R,next:=eI n0 R }=some (v,st')):
  uy call cW h0 n0 { idx:=i,o:=o,v:=v,c:= .bk (lR h0 R) st'.heap,nx:=st'.next } R
def Good(call:aj)(cW:Fr)(h0:T AB)(n0:Pos):List Rec->Prop
 |[]=>True
 |r::R=>uy call cW h0 n0 r R/\Good call cW h0 n0 R
section
variable{call : aj}{cW : Fr}{h0 : T AB}{n0 : Pos}
theorem Good.tail:∀{A B:List Rec},Good call cW h0 n0 (A++B)->Good call cW h0 n0 B
 |[],_,h=>h
 |_::_,_,h=>Good.tail h.2
theorem Good.at{A B:List Rec}{r:Rec}(h:Good call cW h0 n0 (A++r::B)):uy call cW h0 n0 r B:=(Good.tail h).1
theorem Rg:∀{A B:List Rec},(∀r∈A,r.c.qe=false)->lR h0 (A++B)=lR h0 B
 |[],_,_=>rfl
 |r::A,B,h=>by
  have h1:=h r (Zd2 ..);have ih:=Rg (A:=A) (B:=B) λr hr=>h r (Za9 _ hr)
  simp only[Zd9,lR];split
  . rename_i hc;rw[hc]at h1;cases h1
  . exact ih
theorem aaA{bY:Nat}:∀{A B:List Rec}{h:T AB}{b:Pos}{x:AB},(∀r∈A,r.c.qe=false)->MV B->(snap bY h (A++B)).get b=some x->
  h.get b=some x\/∃r∈A,r.c= .new b x/\bY.testBit r.idx=true
 |[],B,h,b,x,_,hB,hs=>by
  cases B with
  |nil=>exact .inl hs
  | cons r B=>
    simp only[MV]at hB;simp only[Ze3,snap]at hs;(cases hc:r.c<;>rw[hc]at hB<;>first|(cases hB;done)|skip);rw[hc]at hs;exact .inl hs
 |r ::A   ,B,h,b,x,hA,hB,hs=>by
  have ih:=@aaA bY A B h b x (λr hr=>hA r (Za9 _ hr)) hB;have up:(h.get b=some x\/∃r∈A,r.c= .new b x/\bY.testBit r.idx=true)->h.get b=some x\/∃r'∈r::A,r'.c= .new b x/\bY.testBit r'.idx=true:=λh1=>
    h1.imp id λ⟨r',h2,h3⟩=>⟨r',Za9 _ h2,h3⟩
  simp only[Zd9,snap]at hs;cases hc:r.c with
  |pure=>rw[hc]at hs;exact up (ih hs)
  |bk b1 h1=>have:=hA r (Zd2 ..);rw[hc]at this;cases this
  | new   id aM=>
    rw[hc]at hs;cases ht:bY.testBit r.idx with
    |false=>simp only[ht]at hs;exact up (ih hs)
    |   true=>
        simp only[ht]at hs;by_cases hid:id=b
        . subst hid;rw[T.gH]at hs;simp only[H5]at hs;subst hs;exact .inr ⟨r,Zd2 ..,hc,ht⟩
        . rw[T.bX _ hid]at hs;exact up (ih hs)
theorem aeo:∀{up:List (Pos×AB)}{h:T AB}{b:Pos}{x:AB},(nK up h).get b=some x->h.get b=some x\/(b,x)∈up
 |[],_,_,_,h=> .inl h
 |(id,aM)::up,h,b,x,hs=>by
  unfold nK at hs;by_cases hid:id=b
  . subst hid;rw[T.gH]at hs;simp only[H5]at hs;subst hs;exact .inr (Zd2 ..)
  . rw[T.bX _ hid]at hs;exact(aeo hs).imp (λh=>h) λh=>Za9 _ h
theorem Rh:∀(A:List Rec),(∀r∈A,r.c.qe=false)\/∃r∈A,r.c.qe=true
 |[]=> .inl λr h=>by cases h
 |r::A=>by
  cases hr:r.c.qe with
  |true=>exact .inr ⟨r,Zd2 ..,hr⟩
  |false=>
   rcases Rh A with h|⟨r',h1,h2⟩
   . exact .inl λr' nR=>by
      rcases Zb0.1 nR with rfl|h'
      . exact hr
      . exact h r' h'
   . exact .inr ⟨r',Za9 _ h1,h2⟩
theorem Tv{bY:Nat}{k:aG}{xs:List AV}{v:AV}:∀(A B:List Rec)(up:List (Pos×AB)),od bY k xs v up (A++B)=true->Good call cW h0 n0 (A++B)->MV B->
  (∀r∈A,r.c.qe=true->bY.testBit r.idx=false)->(∃r∈A,r.c.qe=true)->
  ∃h:T AB,(∀b x,h.get b=some x->(lR h0 B).get b=some x\/(∃r∈A,r.c= .new b x/\bY.testBit r.idx=true)\/(b,x)∈up)/\k.run (λb=>h.get b) .h xs=some (.val v)
 |[],B,up,_,_,_,_,he=>by obtain⟨r,hr,_⟩:=he;cases hr
 |r::A    , B,up,MW,hG,hB,hn,he=>by
  have hn':∀r∈A,r.c.qe=true->bY.testBit r.idx=false:=λr' nR=>hn r' (Za9 _ nR)
  have ih:=λup (h2:od bY k xs v up (A++B)=true) h3=>Tv A B up h2 hG.2 hB hn' h3
  simp only[Zd9,od]at MW;cases hc:r.c with
  |pure=>
   rw[hc]at MW;have rH:∃r∈A,r.c.qe=true:=by
        obtain⟨r',h1,h2⟩:=he;rcases Zb0.1 h1 with rfl|h1
        . rw[hc]at h2;cases h2
        . exact⟨r',h1,h2⟩
   obtain⟨h,h1,h2⟩:=ih up MW rH;exact⟨h,λb x hb=>(h1 b x hb).imp (λh=>h) (Or.imp (λ⟨r',h3,h4⟩=>⟨r',Za9 _ h3,h4⟩) λh=>h),h2⟩
  |new    id aM=>
   rw[hc]at MW;have rH:∃r∈A,r.c.qe=true:=by
        obtain⟨r',h1,h2⟩:=he;rcases Zb0.1 h1 with rfl|h1
        . rw[hc]at h2;cases h2
        . exact⟨r',h1,h2⟩
   cases ht:bY.testBit r.idx with
   |    false=>
        simp only[ht]at MW;obtain⟨h,h1,h2⟩:=ih up MW rH;exact⟨h,λb x hb=>(h1 b x hb).imp (λh=>h) (Or.imp (λ⟨r',h3,h4⟩=>⟨r',Za9 _ h3,h4⟩) λh=>h),h2⟩
   |    true=>
        simp only[ht]at MW;obtain⟨h,h1,h2⟩:=ih _ MW rH;refine⟨h,λb x hb=> ?_,h2⟩;rcases h1 b x hb with h3|⟨r',h3,h4⟩|h3
        . exact .inl h3
        . exact .inr (.inl ⟨r',Za9 _ h3,h4⟩)
        . rcases Zb0.1 h3 with h3|h3
          . simp only[Zc9]at h3;obtain⟨rfl,rfl⟩:=h3;exact .inr (.inl ⟨r,Zd2 ..,hc,ht⟩)
          . exact .inr (.inr h3)
  |bk base h=>
   rw[hc]at MW;have ht:=hn r (Zd2 ..) (by rw[hc];rfl);simp only[ht,Zb5]at MW;rcases Rh A with hA|hA
   .    have aur:base=lR h0 B:=(by have hs:=hG.1;(cases hs<;>simp only at hc<;>first|(cases hc;done)|skip);simp only[RC.bk.injEq]at hc;rw[<-hc.1];exact Rg hA);have hra:=MW.1;unfold oY at hra;(split at hra<;>first|(cases hra;done)|skip);rename_i u hu;rw[yu hra]at hu;refine⟨_,λb x hb=> ?_,hu⟩;rcases aeo hb with hb|hb
        . rcases aaA hA hB hb with h3|⟨r',h3,h4⟩
          . rw[<-aur];exact .inl h3
          . exact .inr (.inl ⟨r',Za9 _ h3,h4⟩)
        . exact .inr (.inr hb)
   .    obtain⟨h,h1,h2⟩:=ih up MW.2 hA;exact⟨h,λb x hb=>(h1 b x hb).imp (λh=>h) (Or.imp (λ⟨r',h3,h4⟩=>⟨r',Za9 _ h3,h4⟩) λh=>h),h2⟩
theorem abM:  ∀(L:List (Nat×bQ))(R:List Rec)(fr bH:Fr)(st st':St),dY call L R (lR h0 R) fr st=some (bH,st')->Good call cW h0 n0 R->
  fr=qK cW R->st.heap=lS h0 R->st.next=eI n0 R->
  ∃R',Good call cW h0 n0 (R'++R)/\(R'.map λr=>(r.idx,r.o))=L.reverse/\bH=qK cW (R'++R)/\st'.heap=lS h0 (R'++R)/\st'.next=eI n0 (R'++R)
 |[],R,fr,bH,st,st',h,hG,h1,h2,h3=>by
  simp only[dY,H5,Zc9]at h;obtain⟨rfl,rfl⟩:=h;exact⟨[],hG,rfl,h1,h2,h3⟩
 |(j,   o)::  L,R,fr,bH,st,st',h,hG,h1,h2,h3=>by
  have fin:∀(r:Rec)(bD:St)(eZ:Fr),r.idx=j->r.o=o->uy call cW h0 n0 r R->eZ=qK cW (r::R)->bD.heap=lS h0 (r::R)->bD.next=r.nx->
        dY call L (r::R) (lR h0 (r::R)) eZ bD=some (bH,st')->
        ∃R',Good call cW h0 n0 (R'++R)/\(R'.map λr=>(r.idx,r.o))=((j,o)::L).reverse/\bH=qK cW (R'++R)/\st'.heap=lS h0 (R'++R)/\st'.next=eI n0 (R'++R):=by
    intro r bD eZ hj ho hs k1 k2 k3 hd;obtain⟨R',g1,g2,g3,g4,g5⟩:=abM L (r::R) eZ bH bD st' hd ⟨hs,hG⟩ k1 k2 k3;have e:R'++r::R=(R'++[r])++R:=(by simp);rw[e]at g1 g3 g4 g5;exact⟨R'++[r],g1,by simp[g2,hj,ho],g3,g4,g5⟩
  unfold dY at h;subst h1;split at h
  . rename_i hw;exact fin _ _ _ rfl rfl (h3 ▸uy.skip j o R hw) rfl h2 rfl h
  . rename_i hw;(split at h<;>first|(cases h;done)|skip);rename_i xs hx;split at h
    .   (split at h<;>first|(cases h;done)|skip);rename_i v aM hr;rw[h3]at hr;have hs:=uy.new (call:=call) (cW:=cW) (h0:=h0) (n0:=n0) j o v aM xs R hw hx hr;rw[<-h3]at hs;refine fin _ _ _ rfl rfl hs rfl ?_ rfl h;simp only[lS,h2]
    .   rename_i aoZ;(split at h<;>first|(cases h;done)|skip);rename_i v bD hr;have fT:st={ heap:=lS h0 R,next:=eI n0 R }:=(by cases st;simp_all);rw[fT]at hr;exact fin _ bD _ rfl rfl (uy.bk j o v bD xs R aoZ hw hx hr) rfl rfl rfl h
    .   split at h
        . rename_i v hr;have ZC:agG h0 R o xs v:=by
           intro A B _ _ _;refine⟨.e,λb x hb=> ?_,?_⟩
           .  rw[T.dO]at hb;cases hb
           .  have e:(λb=>T.get b (T.e:T AB))=λ_=>none:=(by funext b;exact T.dO b);rw[e];exact hr
          exact fin _ _ _ rfl rfl (h3 ▸uy.pure j o v xs R hw hx ZC) rfl h2 rfl h
        . (split at h<;>first|(cases h;done)|skip);rename_i v hr;(split at h<;>first|(cases h;done)|skip);rename_i MW;have ZC:agG h0 R o xs v:=by
           intro A B hAB hB hn;subst hAB;rcases Rh A with hA|hA
           .  refine⟨_,λb x hb=> ?_,hr⟩;have:=aaA hA hB hb;rw[Rg hA]at this;exact this
           .  obtain⟨h,k1,k2⟩:=Tv A B [] MW hG hB hn hA;exact⟨h,λb x hb=>(k1 b x hb).imp id λh=>h.resolve_right (by simp),k2⟩
          exact fin _ _ _ rfl rfl (h3 ▸uy.pure j o v xs R hw hx ZC) rfl h2 rfl h
  . cases h
end
end
section
open Go
structure Late(m:Nat)(pre:List Nat)(L:List (Nat×bQ)):Prop where
 all:∀i,i<m->i∈pre\/i∈L.map (·.1)
 lt:∀x∈L,x.1<m
 one:∀A i o B,L=A++(i,o)::B->i∉pre/\i∉A.map (·.1)
 bY:∀A i o B,L=A++(i,o)::B->∀b,o.bY.testBit b=true->b∈pre\/b∈A.map (·.1)
 bk:∀A i o B,L=A++(i,o)::B->o.cls= .bk->∀b,(b∈pre\/b∈A.map (·.1))->o.bY.testBit b=true
 apart:∀A i o B,L=A++(i,o)::B->∀x∈B,x.2.bY.testBit i=true\/Vf o x.2=true
theorem ZD{m:Nat}:∀(L:List (Nat×bQ))(seen:Nat)(pre:List Nat),OO m seen L=true->(∀b,seen.testBit b=true↔b∈pre)->Late m pre L
 |[],seen,pre,h,hs=>by
  simp only[OO]at h;have:=Za6 h;refine⟨λi hi=> .inl ((hs i).1 ?_),λx hx=>(by cases hx),λA i o B h=> ?_,λA i o B h=> ?_,λA i o B h=> ?_,λA i o B h=> ?_⟩
  . rw[this,Nat.testBit_two_pow_sub_one];simpa using hi
  all_goals (cases A<;>cases h)
 |(i,   o)::L,seen,pre,h,hs=>by
  simp only[OO,Zb5]at h;obtain⟨⟨⟨⟨⟨h1,h2⟩,h3⟩,h4⟩,h5⟩,h6⟩:=h;have h1:i<m:=Zb4 h1;have h2:i∉pre:=λhp=>by rw[(hs i).2 hp]at h2;cases h2
  have h3:=Za6 h3;have hb:∀b,o.bY.testBit b=true->b∈pre:=λb hb=>by rw[<-h3,Nat.testBit_and,Zb5]at hb;exact(hs b).1 hb.2
  have he:o.cls= .bk->∀b,b∈pre->o.bY.testBit b=true:=λhc b hp=>by rw[hc]at h4;rw[Za6 h4];exact(hs b).2 hp
  have ih:=ZD L (seen ||| 2 ^ i) (pre++[i]) h6 (λb=>by
    rw[Nat.testBit_or,Nat.testBit_two_pow,Zj4,hs b,Zd8];simp[eq_comm])
  rw[Zg9]at h5;have af0:∀{A:List (Nat×bQ)}{j:Nat}{p:bQ}{B:List (Nat×bQ)},(i,o)::L=A++(j,p)::B->(A=[]/\i=j/\o=p/\L=B)\/∃A',A=(i,o)::A'/\L=A'++(j,p)::B:=by
    intro A j p B hA;cases A with
    |nil=>simp at hA;exact .inl ⟨rfl,hA.1.1,hA.1.2,hA.2⟩
    |cons x A=>simp at hA;exact .inr ⟨A,by rw[hA.1],hA.2⟩
  refine⟨λj hj=> ?_,λx hx=> ?_,λA j p B hA=> ?_,λA j p B hA=> ?_,λA j p B hA=> ?_,λA j p B hA=> ?_⟩
  . rcases ih.all j hj with h|h
    .   rcases Zd8.1 h with h|h
        . exact .inl h
        . simp at h;exact .inr (by simp[h])
    .   exact .inr (by simp only[Zd5,Zb0];exact .inr h)
  . rcases Zb0.1 hx with rfl|hx
    .   exact h1
    .   exact ih.lt x hx
  . rcases af0 hA with⟨rfl,rfl,rfl,rfl⟩|⟨A',rfl,Tw⟩
    .   exact⟨h2,by simp⟩
    .   obtain⟨k1,k2⟩:=ih.one A' j p B Tw;simp only[Zd8,Zh9,not_or]at k1;exact⟨k1.1,by simp only[Zd5,Zb0,not_or];exact⟨k1.2,k2⟩⟩
  . rcases af0 hA with⟨rfl,rfl,rfl,rfl⟩|⟨A',rfl,Tw⟩
    .   exact λb ve=> .inl (hb b ve)
    .   intro b ve;rcases ih.bY A' j p B Tw b ve with h|h
        . rcases Zd8.1 h with h|h
          . exact .inl h
          . simp at h;exact .inr (by simp[h])
        . exact .inr (by simp only[Zd5,Zb0];exact .inr h)
  . rcases af0 hA with⟨rfl,rfl,rfl,rfl⟩|⟨A',rfl,Tw⟩
    .   intro hc b ve;rcases ve with h|h
        . exact he hc b h
        . simp at h
    .   intro hc b ve;refine ih.bk A' j p B Tw hc b ?_;rcases ve with h|h
        . exact .inl (Zd8.2 (.inl h))
        . simp only[Zd5,Zb0]at h;rcases h with rfl|h
          . exact .inl (by simp)
          . exact .inr h
  . rcases af0 hA with⟨rfl,rfl,rfl,rfl⟩|⟨A',rfl,Tw⟩
    .   intro x hx;have:=h5 x hx
        rwa [Zj4]at this
    .   exact ih.apart A' j p B Tw
inductive Reach(ops:Array Oper):Nat->Nat->Prop where
 |edge (i:Nat) (o:Oper) (e:Edge) (ho:ops[i]? =some o) (he:e∈o.after) (hb:Region.binds .any e=true):Reach ops i e.on
 |trans (i:Nat) (o:Oper) (e:Edge) (b:Nat) (ho:ops[i]? =some o) (he:e∈o.after) (hb:Region.binds .any e=true) (h:Reach ops e.on b):Reach ops i b
def akK(ops:Array Oper)(i m:Nat):Prop:=
 (∀o,ops[i]? =some o->∀e∈o.after,Region.binds .any e=true->m.testBit e.on=true)/\∀b,m.testBit b=true->Reach ops i b
theorem adj(acc:List Nat):∀(l:List Edge)(s b:Nat),(l.foldl (λs e=>match Region.binds .any e with
   |true=>s ||| 2 ^ e.on ||| (nth acc e.on).getD 0
   |false=>s) s).testBit b=true↔s.testBit b=true\/∃e∈l,Region.binds .any e=true/\(e.on=b\/((nth acc e.on).getD 0).testBit b=true)
 |[],s,b=>by simp
 |e::l,s,b=>by
  rw[Zr5,adj acc l];cases he:Region.binds .any e with
  |false=>simp[he]
  |true=>
   simp only[Nat.testBit_or,Zj4,Nat.testBit_two_pow,Ze4,Zb0,exists_eq_or_imp,he,Zs0];constructor
   .    rintro(((h|h)|h)|h)
        . exact .inl h
        . exact .inr (.inl (.inl h))
        . exact .inr (.inl (.inr h))
        . exact .inr (.inr h)
   .    rintro(h|(h|h)|h)
        . exact .inl (.inl (.inl h))
        . exact .inl (.inl (.inr h))
        . exact .inl (.inr h)
        . exact .inr h
theorem ajz {ops:Array Oper}:∀(os:List Oper)(acc:List Nat),os=ops.toList.drop acc.length->acc.length<=ops.size->(∀i,i<acc.length->akK ops i (acc.getD i 0))->
  ∀i,i<ops.size->akK ops i ((agk os acc).getD i 0)
 |[],acc,hos,hl,akL,i,hi=>by
  have h1:(ops.toList.drop acc.length).length=0:=by rw[<-hos];rfl
  have:ops.size<=acc.length:=by simp at h1;omega
  exact akL i (by omega)
 |o ::os,acc,hos,hl,akL,i,hi=>by
  simp only[agk];have ho:ops[acc.length]? =some o:=by have:(ops.toList.drop acc.length)[0]? =some o:=(by rw[<-hos];rfl);simpa using this
  have aS:acc.length<ops.size:=(Zd1.1 ho).1;refine ajz os _ ?_ (by simp;omega) (λj hj=> ?_) i hi
  . rw[Ze8,List.length_singleton, <-Zl7, <-hos];rfl
  . rcases Zi8 j acc.length with h|h
    .   rw[Zb1,Zc3 h, <-Zb1];exact akL j h
    .   have KQ:j=acc.length:=(by simp at hj;omega);subst KQ;rw[Zb1,Zc2 (Za3 _)];simp only[Zk8,Za5,Zf1];refine⟨λo' MT e he hb=> ?_,λb hb=> ?_⟩
        . rw[ho]at MT;simp only[H5]at MT;subst MT;exact(adj acc _ 0 e.on).2 (.inr ⟨e,by simpa using he,hb,.inl rfl⟩)
        . have hb:=(adj acc _ 0 b).1 hb;rcases hb with hb|⟨e,he,ve,hb⟩
          . simp at hb
          . have rH:e∈o.after:=(by simpa using he);rcases hb with rfl|hb
            . exact .edge _ o e ho rH ve
            . refine .trans _ o e b ho rH ve ?_;rw[qI]at hb;rcases Zi8 e.on acc.length with h|h
              . exact(akL _ h).2 b (by rw[Zb1];exact hb)
              . rw[Zc1 h]at hb;simp at hb
theorem ajA:∀(l:List bQ)(k:Nat)(x:Nat×bQ),x∈KO k l->∃i,x.1=k+i/\l[i]? =some x.2
 |[],k,x,h=>by cases h
 |o ::l,k,x,h=>by
  simp only[KO,Zb0]at h;rcases h with rfl|h
  . exact⟨0,rfl,rfl⟩
  . obtain⟨i,h1,h2⟩:=ajA l (k+1) x h;exact⟨i+1,by omega,by simpa using h2⟩
theorem Vy:∀(l held:List (Nat×bQ))(x:Nat×bQ),x∈Be l held->x∈l\/x∈held
 |[],held,x,h=> .inr h
 |(i,   o)::l,held,x,h=>by
  unfold Be at h;split at h
  . rcases Zd8.1 h with h|h
    .   exact .inr (Zm1.1 h).1
    .   rcases Zb0.1 h with h|h
        . exact .inl (by rw[h];exact Zd2 ..)
        . rcases Vy l _ x h with h|h
          . exact .inl (Za9 _ h)
          . exact .inr (Zm1.1 h).1
  . rcases Vy l _ x h with h|h
    .   exact .inl (Za9 _ h)
    .   rcases Zd8.1 h with h|h
        . exact .inr h
        . simp at h;exact .inl (by rw[h];exact Zd2 ..)
theorem arM{l:List bQ}{x:Nat×bQ}(h:x∈Be (KO 0 l) []):l[x.1]? =some x.2:=by
 rcases Vy _ _ _ h with h|h
 . obtain⟨i,h1,h2⟩:=ajA l 0 x h;rw[h1,Zb6];exact h2
 . cases h
theorem Ri{p:Pos}:∀{l:List Pos},ON p l=true↔p∈l
 |[]=>by simp[ON]
 |q::l=>by simp[ON,Ri (l:=l),Pos.beq_eq]
theorem NW{a b:bQ}(h:Vf a b=true):
   (∀d,a.dst=some d->d∉b.looks/\b.dst≠some d)/\(∀d,b.dst=some d->d∉a.looks):=by
 unfold Vf at h;rw[Zb5]at h;obtain⟨h1,h2⟩:=h;constructor
 . intro d hd;rw[hd]at h1;simp only[Zb5,Zk5]at h1;refine⟨λhm=> ?_,λhb=> ?_⟩
   . rw[Ri.2 hm]at h1;exact absurd h1.1 (by simp)
   . rw[hb]at h1;have:Pos.beq d d=true:=Pos.beq_eq.2 rfl;simp[this]at h1
 . intro d hd hm;rw[hd]at h2;simp only[Zk5]at h2;rw[Ri.2 hm]at h2;cases h2
section
variable(P : Program)(tt : TT)(C : Cells)(nt : Nat)(ops : Array Oper)(call : aj)(cW : Fr)(h0 : T AB)(n0 : Pos)(R : List Rec)
structure CM:Prop where
 aaB:Good call cW h0 n0 R
 mono:pG call
 one:∀A r B,R=A++r::B->∀r'∈B,r'.idx≠r.idx
 bY:∀A r B,R=A++r::B->∀b,r.o.bY.testBit b=true->∃r'∈B,r'.idx=b
 bk:∀A r B,R=A++r::B->r.o.cls= .bk->∀r'∈B,r.o.bY.testBit r'.idx=true
 apart:∀A r B,R=A++r::B->∀r'∈A,r'.o.bY.testBit r.idx=true\/Vf r.o r'.o=true
 rel:∀r∈R,∃o,ops[r.idx]? =some o/\zj tt nt ops o r.o/\akK ops r.idx r.o.bY
 all:∀i,i<ops.size->∃r∈R,r.idx=i
def Kept(D:Nat->Prop)(b:Pos):Prop:=∀A r B,R=A++r::B->¬D r.idx->b.toNat<(eI n0 B).toNat\/r.nx.toNat<=b.toNat
def T1(D:Nat->Prop)(ρ:Pos->Loc)(tmps:Array Value):Prop:=
 ∀M s T p,R=M++s::T->D s.idx->s.o.dst=some p->(∀s'∈M,D s'.idx->s'.o.dst≠some p)->∃x,tmps[p.toNat - 1]? =some x/\aC ρ s.nx.toNat C s.v x
def T0(D:Nat->Prop)(ρ:Pos->Loc)(tmps:Array Value):Prop:=
 ∀p v,cW.get p=some v->(∀s∈R,D s.idx->s.o.dst≠some p)->∃x,tmps[p.toNat - 1]? =some x/\aC ρ n0.toNat C v x
structure Pre(D:Nat->Prop)(A B:List Rec)(a:Act):Prop where
 split:R=A++B
 bound:MV B
 inB:∀r∈B,D r.idx
 inA:∀r∈A,D r.idx->r.c.qe=false
 closed:∀i o e,D i->ops[i]? =some o->e∈o.after->Region.binds .any e=true->D e.on
 size:a.tmps.size=nt
 defers:a.defers=[]
structure Inv0(nS:Pos->Loc)(w0:World)(D:Nat->Prop)(A B:List Rec)(ρ:Pos->Loc)(a:Act)(w:World):Prop where
 W:cq ρ C { heap:=lR h0 B,next:=eI n0 B } w
 N:∀r∈A,D r.idx->∀id aM,r.c= .new id aM->tM ρ r.nx.toNat C (ρ id) w aM/\(ρ id).aM<w.heap.size/\w0.heap.size<=(ρ id).aM/\
  (∀b x,(lR h0 B).get b=some x->(ρ b).aM≠(ρ id).aM)/\(∀ad v,C ad=some v->(ρ id).aM≠ad.block)
 N2:∀r∈A,D r.idx->∀id aM,r.c= .new id aM->∀r'∈A,D r'.idx->∀xH Ii,r'.c= .new xH Ii->id≠xH->(ρ id).aM≠(ρ xH).aM
 t1:T1 C R D ρ a.tmps
 t0:T0 C cW n0 R D ρ a.tmps
 E:qm nS { heap:=h0,next:=n0 } w0 ρ { heap:=lR h0 B,next:=eI n0 B } w
 agree:∀b:Pos,b.toNat<n0.toNat->ρ b=nS b
def Inv(nS:Pos->Loc)(w0:World)(D:Nat->Prop)(A B:List Rec)(ρ:Pos->Loc)(a:Act)(w:World):Prop:=
 Pre nt ops R D A B a/\∀ρ',(∀b,Kept n0 R D b->ρ' b=ρ b)->Inv0 C cW h0 n0 R nS w0 D A B ρ' a w
end
section
variable{P : Program}{tt : TT}{C : Cells}{nt : Nat}{ops : Array Oper}{call : aj}{cW : Fr}{h0 : T AB}{n0 : Pos}{R : List Rec}
theorem KZ(h:∀A r B,R=A++r::B->∀r'∈B,r'.idx≠r.idx){X X' Y Y':List Rec}{r r':Rec}(h1:R=X++r::Y)(h2:R=X'++r'::Y')(hi:r.idx=r'.idx):
   X=X'/\r=r'/\Y=Y':=by
 have h3:X++r::Y=X'++r'::Y':=h1.symm.trans h2;rcases List.append_eq_append_iff.1 h3 with⟨Z,hX,hZ⟩|⟨Z,hX,hZ⟩
 . cases Z with
   |nil=>simp at hZ hX;exact⟨hX.symm,hZ.1,hZ.2⟩
   |cons z Z=>
    simp at hZ;exact absurd hi.symm (h X r Y h1 r' (by rw[hZ.2];simp))
 . cases Z with
   |nil=>simp at hZ hX;exact⟨hX,hZ.1.symm,hZ.2.symm⟩
   |cons z Z=>
    simp at hZ;exact absurd hi (h X' r' Y' h2 r (by rw[hZ.2];simp))
theorem o7{r:Rec}(h:r∈R):∃A B,R=A++r::B:=List.append_of_mem h
theorem ajB(hm:pG call){r:Rec}{B:List Rec}(h:uy call cW h0 n0 r B):(eI n0 B).toNat<=r.nx.toNat:=by
 cases h with
 |skip=>exact Za3 _
 |pure=>exact Za3 _
 |new=>simp only[Pos.aF];omega
 |bk i o v st' xs _ hc hw hx hr=>exact Rf hm hr
theorem adk(hm:pG call):∀{A B:List Rec},Good call cW h0 n0 (A++B)->(eI n0 B).toNat<=(eI n0 (A++B)).toNat
 |[],_,_=>Za3 _
 |r::A,B,h=>Zb2 (adk hm (A:=A) h.2) (ajB hm h.1)
namespace CM
variable(G : CM tt nt ops call cW h0 n0 R)
include G
theorem later{X Y:List Rec}{r r':Rec}(h:R=X++r::Y)(hr:r'∈X):r'.idx≠r.idx:=by
 obtain⟨A,B,rfl⟩:=o7 hr;have h':R=A++r'::(B++r::Y):=by rw[h];simp
 exact λe=>G.one _ _ _ h' r (by simp) e.symm
theorem aq7{X Y:List Rec}{r:Rec}(h:R=X++r::Y):(eI n0 Y).toNat<=r.nx.toNat:=ajB G.mono (Good.at (h ▸G.aaB))
theorem Gv{X Y Z:List Rec}(h:R=X++(Y++Z)):(eI n0 Z).toNat<=(eI n0 (Y++Z)).toNat:=adk G.mono (Good.tail (h ▸G.aaB))
theorem akM{X Y:List Rec}(h:R=X++Y):n0.toNat<=(eI n0 Y).toNat:=by have:=adk (n0:=n0) G.mono (A:=Y) (B:=[]) (by rw[Ze0];exact Good.tail (h ▸G.aaB));rw[Ze0]at this;exact this
theorem abN{D:Nat->Prop}(hc:∀i o e,D i->ops[i]? =some o->e∈o.after->Region.binds .any e=true->D e.on){i b:Nat}(h:Reach ops i b)
  (hi:∀o e,ops[i]? =some o->e∈o.after->Region.binds .any e=true->D e.on):D b:=by
 induction h with
 |edge i o e ho he hb=>exact hi o e ho he hb
 |trans i o e b ho he hb _ ih=>exact ih λo' e' MT rH eN=>hc _ o' e' (hi o e ho he hb) MT rH eN
theorem aq8{D:Nat->Prop}{A B:List Rec}{a:Act}(hp:Pre nt ops R D A B a){s:Rec}(hs:s∈R)(hD:D s.idx){b:Nat}(hb:s.o.bY.testBit b=true):D b:=by obtain⟨o,ho,_,hB⟩:=G.rel s hs;exact G.abN hp.closed (hB.2 b hb) λo' e MT he ve=>hp.closed _ o' e hD MT he ve
end CM
theorem Vz:∀(Y:List Rec)(p:Pos)(v:AV),(qK cW Y).get p=some v->
  (∃M s T,Y=M++s::T/\s.o.dst=some p/\s.v=v/\∀s'∈M,s'.o.dst≠some p)\/(cW.get p=some v/\∀s∈Y,s.o.dst≠some p)
 |[],p,v,h=> .inr ⟨h,λs hs=>by cases hs⟩
 |r ::Y   ,p,v,h=>by
  simp only[qK]at h;by_cases hr:r.o.dst=some p
  . rw[hr]at h;simp only[eu,T.gH,H5]at h;exact .inl ⟨[],r,Y,rfl,hr,h,λs hs=>by cases hs⟩
  . have h':(qK cW Y).get p=some v:=by
        cases hd:r.o.dst with
        |none=>rw[hd]at h;exact h
        | some d=>
          rw[hd]at h;simp only[eu]at h
          rwa [T.bX _ λe=>hr (by rw[hd,e])]at h
    rcases Vz Y p v h' with⟨M,s,T,rfl,h2,h3,h4⟩|⟨h2,h3⟩
    .   refine .inl ⟨r::M,s,T,rfl,h2,h3,λs' qJ=> ?_⟩;rcases Zb0.1 qJ with rfl|qJ
        . exact hr
        . exact h4 s' qJ
    .   refine .inr ⟨h2,λs hs=> ?_⟩;rcases Zb0.1 hs with rfl|hs
        . exact hr
        . exact h3 s hs
theorem look(G:CM tt nt ops call cW h0 n0 R){D:Nat->Prop}{A B:List Rec}{a:Act}(hp:Pre nt ops R D A B a){ρ:Pos->Loc}(h1:T1 C R D ρ a.tmps)(h2:T0 C cW n0 R D ρ a.tmps)
   {X Y:List Rec} {r:Rec} (hR:R=X++r::Y) (hD:¬D r.idx) (adl:∀b,r.o.bY.testBit b=true->D b) {p:Pos} {v:AV} (hl:p∈r.o.looks) (hv:(qK cW Y).get p=some v):
   ∃x,a.tmps[p.toNat - 1]? =some x/\aC ρ (eI n0 Y).toNat C v x:=by
 have hX:∀s∈X,D s.idx->s.o.dst≠some p:=by
   intro s hs iG hd;rcases G.apart X r Y hR s hs with h|h
   . exact hD (G.aq8 hp (by rw[hR];simp[hs]) iG h)
   . exact(NW h).2 p hd hl
 rcases Vz Y p v hv with⟨M,s,T,rfl,h3,rfl,h4⟩|⟨h3,h4⟩
 . have hR':R=(X++r::M)++s::T:=(by rw[hR];simp);have iG:D s.idx:=by
     rcases G.apart _ s T hR' r (by simp)with h|h
     .  exact adl _ h
     .  exact absurd hl ((NW h).1 p h3).1
   obtain⟨x,hx,VC⟩:=h1 (X++r::M) s T p hR' iG h3 (λs' qJ K7=>by
     rcases Zd8.1 qJ with h|h
     .  exact hX s' h K7
     .  rcases Zb0.1 h with rfl|h
        . exact absurd K7 hD
        . exact h4 s' h)
   refine⟨x,hx,VC.mono (λ_ _=>rfl) ?_⟩;have:=G.Gv (X:=X++[r]) (Y:=M) (Z:=s::T) (by rw[hR];simp);exact this
 . obtain⟨x,hx,VC⟩:=h2 p v h3 (λs hs iG=>by
     rw[hR]at hs;rcases Zd8.1 hs with h|h
     .  exact hX s h iG
     .  rcases Zb0.1 h with rfl|h
        . exact absurd iG hD
        . exact h4 s h)
   exact⟨x,hx,VC.mono (λ_ _=>rfl) (G.akM (X:=X++[r]) (by rw[hR];simp))⟩
theorem MX{a:Act}{d:Option Tmp}{x:Value}{p:Pos}(h:d.map key≠some p):(a.put d x).tmps[p.toNat - 1]? =a.tmps[p.toNat - 1]? :=by
 cases d with
 |none=>rfl
 |some e=>
  simp only[Act.put];rw[Zj6];intro he;apply h;simp only[Ze5,H5];apply Pos.toNat_inj;rw[iQ];have:=p.toNat_pos;omega
theorem ao0{a:Act}{d:Option Tmp}{x:Value}{p:Pos}(h:d.map key=some p)(hs:a.tmps.size=nt)(hd:∀e,d=some e->e<nt):(a.put d x).tmps[p.toNat - 1]? =some x:=by
 cases d with
 |none=>cases h
 |some e=>
  simp only[Ze5,H5]at h;subst h;simp only[Act.put];rw[iQ,Zh4,Zp3];simp[hs,hd e rfl]
theorem akN(G:CM tt nt ops call cW h0 n0 R){D:Nat->Prop}{A B:List Rec}{a:Act}(hp:Pre nt ops R D A B a){ρ:Pos->Loc}(h1:T1 C R D ρ a.tmps)(h2:T0 C cW n0 R D ρ a.tmps)
   {X Y:List Rec} {r:Rec} (hR:R=X++r::Y) (hD:¬D r.idx) {o:Oper} (hrel:zj tt nt ops o r.o) {x:Value} (hv:aC ρ r.nx.toNat C r.v x):
   T1 C R (λi=>D i\/i=r.idx) ρ (a.put o.dst x).tmps/\T0 C cW n0 R (λi=>D i\/i=r.idx) ρ (a.put o.dst x).tmps:=by
 constructor
 . intro  M s T p hM iG hd nQ;by_cases hi:s.idx=r.idx
   . obtain⟨_,rfl,_⟩:=KZ G.one hM hR hi;rw[hrel.dst]at hd;exact⟨x,ao0 hd hp.size hrel.lt,hv⟩
   . have iG:=iG.resolve_right hi;by_cases VD:r.o.dst=some p
     .  exfalso;have hs:s∈R:=(by rw[hM];simp);rw[hR]at hs;rcases Zd8.1 hs with h|h
        . rcases G.apart X r Y hR s h with k|k
          . exact hD (G.aq8 hp (by rw[hR];simp[h]) iG k)
          . exact((NW k).1 p VD).2 hd
        . rcases Zb0.1 h with rfl|h
          . exact hi rfl
          . obtain⟨Y1,Y2,rfl⟩:=o7 h;have hR':R=(X++r::Y1)++s::Y2:=(by rw[hR];simp);obtain⟨hM',_,_⟩:=KZ G.one hM hR' rfl;exact nQ r (by rw[hM'];simp) (.inr rfl) VD
     .  (rw[hrel.dst]at VD;obtain⟨y,hy,Vn⟩:=h1 M s T p hM iG hd λs' qJ K7=>nQ s' qJ (.inl K7));exact⟨y,by rw[MX VD];exact hy,Vn⟩
 . (intro p v hf nQ;have hr:r.o.dst≠some p:=nQ r (by rw[hR];simp) (.inr rfl);rw[hrel.dst]at hr;obtain⟨y,hy,Vn⟩:=h2 p v hf λs hs iG=>nQ s hs (.inl iG));exact⟨y,by rw[MX hr];exact hy,Vn⟩
end
section
variable{P : Program}{tt : TT}{C : Cells}{nt : Nat}{ops : Array Oper}{call : aj}{cW : Fr}{h0 : T AB}{n0 : Pos}{R : List Rec}
theorem cq.congr{ρ ρ':Pos->Loc}{st:St}{w:World}(h:cq ρ C st w)(bE:∀b:Pos,b.toNat<st.next.toNat->ρ' b=ρ b):cq ρ' C st w where
 live b x hb:=by
  obtain⟨h1,h2,h3⟩:=h.live b x hb;rw[bE b h1];exact⟨h1,h2,h3.mono bE (Za3 _)⟩
 inj b b' x x' hb eN he:=by rw[bE b (h.live b x hb).1,bE b' (h.live b' x' eN).1]at he;exact h.inj b b' x x' hb eN he
 ei a v ha:=⟨(h.ei a v ha).1,λb x hb=>by rw[bE b (h.live b x hb).1];exact(h.ei a v ha).2 b x hb⟩
 whole:=h.whole
theorem qm.congr{ρ jX ρ':Pos->Loc}{st st':St}{w w':World}(h:qm ρ st w jX st' w')(bE:∀b x,st'.heap.get b=some x->ρ' b=jX b):qm ρ st w ρ' st' w' where
 os:=h.os
 tape:=h.tape
 output:=h.output
 size:=h.size
 block:=h.block
 yh b x hb:=by rw[bE b x hb];exact h.yh b x hb
namespace CM
variable(G : CM tt nt ops call cW h0 n0 R)
include G
theorem same{r r':Rec}(h:r∈R)(h':r'∈R)(hi:r.idx=r'.idx):r=r':=by obtain⟨A,B,hA⟩:=o7 h;obtain⟨A',B',Tw⟩:=o7 h';exact(KZ G.one hA Tw hi).2.1
theorem cmp{X Y X' Y':List Rec}{r r':Rec}(h1:R=X++r::Y)(h2:R=X'++r'::Y')(hi:r'.idx≠r.idx):
   (∃Z,Y'=Z++r::Y)\/(∃Z,Y=Z++r'::Y'):=by
 have h3:X++r::Y=X'++r'::Y':=h1.symm.trans h2;rcases List.append_eq_append_iff.1 h3 with⟨Z,hX,hZ⟩|⟨Z,hX,hZ⟩
 . cases Z with
   |nil=>simp at hZ;exact absurd (by rw[hZ.1]) hi
   |cons z Z=>simp at hZ;exact .inr ⟨Z,hZ.2⟩
 . cases Z with
   |nil=>simp at hZ;exact absurd (by rw[hZ.1]) hi
   |cons z Z=>simp at hZ;exact .inl ⟨Z,hZ.2⟩
theorem Rj{X Y X' Z:List Rec}{r r':Rec}(h1:R=X++r::Y)(h2:R=X'++r'::(Z++r::Y)):r.nx.toNat<=(eI n0 (Z++r::Y)).toNat:=by have:=G.Gv (X:=X'++[r']) (Y:=Z) (Z:=r::Y) (by rw[h2];simp);exact this
theorem Kg{X Y' Z:List Rec}{r r':Rec}(h1:R=X++r::(Z++r'::Y')):r'.nx.toNat<=(eI n0 (Z++r'::Y')).toNat:=by have:=G.Gv (X:=X++[r]) (Y:=Z) (Z:=r'::Y') (by rw[h1];simp);exact this
theorem VE{X Y:List Rec}{r:Rec}(h:R=X++r::Y){id:Pos}{aM:AB}(hc:r.c= .new id aM):id=eI n0 Y/\r.nx=id.succ:=by
 have hs:=Good.at (h ▸G.aaB);cases hs<;>simp only at hc<;>first|(cases hc;done)|skip
 simp only[RC.new.injEq]at hc;obtain⟨rfl,_⟩:=hc;exact⟨rfl,rfl⟩
end CM
theorem Kept.up{D D':Nat->Prop}(h:∀i,D i->D' i){b:Pos}(hk:Kept n0 R D b):Kept n0 R D' b:=λA r B hR hD=>hk A r B hR λhd=>hD (h _ hd)
theorem Pre.next(G:CM tt nt ops call cW h0 n0 R){D:Nat->Prop}{A B:List Rec}{a:Act}(hp:Pre nt ops R D A B a){X Y:List Rec}{r:Rec}(hR:R=X++r::Y)
  (uz:∀o e,ops[r.idx]? =some o->e∈o.after->Region.binds .any e=true->D e.on) (hc:r.c.qe=false) (d:Option Tmp) (x:Value):
  Pre nt ops R (λi=>D i\/i=r.idx) A B (a.put d x) where
 split:=hp.split
 bound:=hp.bound
 inB s hs:= .inl (hp.inB s hs)
 inA s hs hD:=by
  rcases hD with hD|hD
  . exact hp.inA s hs hD
  . rw[G.same (by rw[hp.split];simp[hs]) (by rw[hR];simp) hD];exact hc
 closed i o e hD ho he hb:=by
  rcases hD with hD|rfl
  . exact .inl (hp.closed i o e hD ho he hb)
  . exact .inl (uz o e ho he hb)
 size:=by rw[Act.j9];exact hp.size
 defers:=by rw[Act.mF];exact hp.defers
theorem aep(G:CM tt nt ops call cW h0 n0 R){nS:Pos->Loc}{w0:World}{D:Nat->Prop}{A B:List Rec}{ρ:Pos->Loc}{a:Act}{w:World}
  (hI:Inv C nt ops cW h0 n0 R nS w0 D A B ρ a w) {X Y:List Rec} {r:Rec} (hR:R=X++r::Y) (hD:¬D r.idx)
  (uz:∀o e,ops[r.idx]? =some o->e∈o.after->Region.binds .any e=true->D e.on) {o:Oper} (hrel:zj tt nt ops o r.o) (hc:r.c= .pure) {x:Value}
  (hv:∀ρ',(∀b,Kept n0 R D b->ρ' b=ρ b)->aC ρ' r.nx.toNat C r.v x):
  Inv C nt ops cW h0 n0 R nS w0 (λi=>D i\/i=r.idx) A B ρ (a.put o.dst x) w:=by
 obtain⟨hp,hI⟩:=hI;refine⟨hp.next G hR uz (by rw[hc];rfl) _ _,λρ' FA=> ?_⟩;have hf:∀b,Kept n0 R D b->ρ' b=ρ b:=λb hb=>FA b (hb.up λ_ h=> .inl h)
 have h:=hI ρ' hf;have hnr:∀s∈A,(D s.idx\/s.idx=r.idx)->∀id aM,s.c= .new id aM->D s.idx:=λs hs iG id aM eX=>by
  rcases iG with iG|iG
  . exact iG
  . rw[G.same (by rw[hp.split];simp[hs]) (by rw[hR];simp) iG,hc]at eX;cases eX
 obtain⟨k1,k2⟩:=akN G hp h.t1 h.t0 hR hD hrel (hv ρ' hf);exact⟨h.W,λs hs iG id aM eX=>h.N s hs (hnr s hs iG id aM eX) id aM eX,
  λs hs iG id aM eX s' qJ K7 xH Ii tP=>h.N2 s hs (hnr s hs iG id aM eX) id aM eX s' qJ (hnr s' qJ K7 xH Ii tP) xH Ii tP,k1,k2,h.E,h.agree⟩
theorem cq.grow{ρ:Pos->Loc}{st:St}{w w':World}(h:cq ρ C st w)(hs:w.heap.size<=w'.heap.size)(hb:∀k,k<w.heap.size->w'.heap[k]? =w.heap[k]?):cq ρ C st w' where
 live b x hx:=let⟨h1,h2,h3⟩:=h.live b x hx;⟨h1,Zc8 h2 hs,h3.of_heap (hb _ h2)⟩
 inj:=h.inj
 ei a v ha:=by
  obtain⟨h1,h2⟩:=h.ei a v ha;exact⟨by rw[World.cell?_of_block (w:=w) (hb _ (World.block_lt_of_cell? _ _ h1))];exact h1,h2⟩
 whole a v ha o ho:=by have u6:a.block<w.heap.size:=World.block_lt_of_cell? _ _ (h.ei a v ha).1;rw[World.cell?_of_block (w:=w) (a:=⟨a.block,o,none⟩) (hb _ u6)];exact h.whole a v ha o ho
theorem ao1(G:CM tt nt ops call cW h0 n0 R){nS:Pos->Loc}{w0:World}{D:Nat->Prop}{A B:List Rec}{ρ:Pos->Loc}{a:Act}{w w':World}
   (hI:Inv C nt ops cW h0 n0 R nS w0 D A B ρ a w) {X Y:List Rec} {r:Rec} (hR:R=X++r::Y) (hD:¬D r.idx)
   (uz:∀o e,ops[r.idx]? =some o->e∈o.after->Region.binds .any e=true->D e.on) {o:Oper} (hrel:zj tt nt ops o r.o) {id:Pos} {aM:AB} (hc:r.c= .new id aM) {x:Value} {L:Loc}
   (hL:w.heap.size<=L.aM) (hL':L.aM<w'.heap.size) (hos:w'.os=w.os) (aus:w'.tape=w.tape) (hout:w'.output=w.output) (ao2:∀k,k<w.heap.size->w'.heap[k]? =w.heap[k]?)
   (hv:∀ρ',(∀b,Kept n0 R D b->ρ' b=ρ b)->ρ' id=L->aC ρ' r.nx.toNat C r.v x/\tM ρ' r.nx.toNat C L w' aM):
   Inv C nt ops cW h0 n0 R nS w0 (λi=>D i\/i=r.idx) A B (λb=>if b=id then L else ρ b) (a.put o.dst x) w':=by
 obtain⟨hp,hI⟩:=hI;have hrA:r∈A:=by
   have:r∈R:=(by rw[hR];simp);rw[hp.split]at this;exact(Zd8.1 this).resolve_right λh=>hD (hp.inB r h)
 obtain⟨hid,VF⟩:=G.VE hR hc;have gR:w.heap.size<=w'.heap.size:=by omega
 refine⟨hp.next G hR uz (by rw[hc];rfl) _ _,λρ' FA=> ?_⟩;have hkid:Kept n0 R (λi=>D i\/i=r.idx) id:=by
   (intro A' r' B' Tw hD';have dJ:r'.idx≠r.idx:=λe=>hD' (.inr e));rcases G.cmp hR Tw dJ with⟨Z,rfl⟩|⟨Z,rfl⟩
   . left;have:=G.Rj hR Tw;rw[VF,Pos.aF]at this;omega
   . right;have:=G.Kg hR;rw[hid];exact this
 have akO:ρ' id=L:=by rw[FA id hkid];simp
 have hf:∀b,Kept n0 R D b->ρ' b=ρ b:=λb hb=>by
   have dJ:b≠id:=by
     rintro rfl;rcases hb X r Y hR hD with h|h
     .  rw[hid]at h;omega
     .  rw[VF,Pos.aF]at h;omega
   rw[FA b (hb.up λ_ h=> .inl h)];exact Za7 dJ
 have h:=hI ρ' hf;obtain⟨hv1,OR⟩:=hv ρ' hf akO;obtain⟨k1,k2⟩:=akN G hp h.t1 h.t0 hR hD hrel hv1;have af1:∀s∈A,(D s.idx\/s.idx=r.idx)->D s.idx\/s=r:=λs hs iG=>iG.imp (λh=>h) λiG=>G.same (by rw[hp.split];simp[hs]) (by rw[hR];simp) iG
 refine⟨h.W.grow gR ao2,λs hs iG xH Ii eX=> ?_,λs hs iG xH Ii eX s' qJ K7 id'' aq9 tP dJ=> ?_,k1,k2,?_,h.agree⟩
 . rcases af1 s hs iG with iG|rfl
   . obtain⟨g1,g2,g3,g4,g5⟩:=h.N s hs iG xH Ii eX;exact⟨g1.of_heap (ao2 _ g2),by omega,g3,g4,g5⟩
   . rw[hc]at eX;simp only[RC.new.injEq]at eX;obtain⟨rfl,rfl⟩:=eX;rw[akO];refine⟨OR,hL',Zb2 h.E.size hL,λb x hb e=> ?_,λad v ha e=> ?_⟩
     .  have:=(h.W.live b x hb).2.1;omega
     .  have:=World.block_lt_of_cell? _ _ (h.W.ei ad v ha).1;omega
 . rcases af1 s hs iG with hDk|rfl
   . rcases af1 s' qJ K7 with ao3|rfl
     .  exact h.N2 s hs hDk xH Ii eX s' qJ ao3 id'' aq9 tP dJ
     .  rw[hc]at tP;simp only[RC.new.injEq]at tP;obtain⟨rfl,rfl⟩:=tP;have:=(h.N s hs hDk xH Ii eX).2.1;rw[akO];omega
   . rw[hc]at eX;simp only[RC.new.injEq]at eX;obtain⟨rfl,rfl⟩:=eX;rcases af1 s' qJ K7 with ao3|rfl
     .  have:=(h.N s' qJ ao3 id'' aq9 tP).2.1;rw[akO];omega
     .  rw[hc]at tP;simp only[RC.new.injEq]at tP;exact absurd tP.1 dJ
 . exact⟨hos.trans h.E.os,aus.trans h.E.tape,hout.trans h.E.output,Zb2 h.E.size gR,λk hk hn=>by rw[ao2 k (Zc8 hk h.E.size)];exact h.E.block k hk hn,h.E.yh⟩
theorem akP(G:CM tt nt ops call cW h0 n0 R){nS:Pos->Loc}{w0:World}{D:Nat->Prop}{A B:List Rec}{ρ:Pos->Loc}{a:Act}{w:World}
  (h:Inv0 C cW h0 n0 R nS w0 D A B ρ a w) (atr:R=A++B) {hp:T AB} {N:Pos} (hN:(eI n0 B).toNat<=N.toNat)
  (yw:∀b x,hp.get b=some x->(lR h0 B).get b=some x\/∃s∈A,D s.idx/\s.c= .new b x/\s.nx.toNat<=N.toNat):cq ρ C { heap:=hp,next:=N } w where
 live b x hb:=by
  rcases yw b x hb with h1|⟨s,hs,hD,hc,hn⟩
  .  obtain⟨g1,g2,g3⟩:=h.W.live b x h1;exact⟨Zc8 g1 hN,g2,g3.mono (λ_ _=>rfl) hN⟩
  .  obtain⟨g1,g2,_⟩:=h.N s hs hD b x hc;obtain⟨M,T,hM⟩:=o7 (r:=s) (R:=R) (by rw[atr];simp[hs]);obtain⟨_,e⟩:=G.VE hM hc;rw[e]at hn;refine⟨?_,g2,g1.mono (λ_ _=>rfl) (by rw[e];exact hn)⟩;rw[Pos.aF]at hn;exact hn
 inj b  b' x x' hb eN he:=by
  rcases yw b x hb with h1|⟨s,hs,hD,hc,hn⟩
  .  rcases yw b' x' eN with h1'|⟨s',qJ,hD',Zz,hn'⟩
     .  exact h.W.inj b b' x x' h1 h1' he
     .  exact absurd he ((h.N s' qJ hD' b' x' Zz).2.2.2.1 b x h1)
  .  rcases yw b' x' eN with h1'|⟨s',qJ,hD',Zz,hn'⟩
     .  exact absurd he.symm ((h.N s hs hD b x hc).2.2.2.1 b' x' h1')
     .  by_cases e:b=b'
        . exact e
        . exact absurd he (h.N2 s hs hD b x hc s' qJ hD' b' x' Zz e)
 ei ad v ha:=⟨(h.W.ei ad v ha).1,λb x hb=>by
  rcases yw b x hb with h1|⟨s,hs,hD,hc,hn⟩
  .  exact(h.W.ei ad v ha).2 b x h1
  .  exact(h.N s hs hD b x hc).2.2.2.2 ad v ha⟩
 whole:=h.W.whole
theorem CN:∀{Z B:List Rec}{b:Pos}{x:AB},(∀r∈Z,r.c.qe=false)->MV B->(lS h0 (Z++B)).get b=some x->
  (lR h0 B).get b=some x\/∃s∈Z,s.c= .new b x
 |[],B,b,x,_,hB,h=>by
  cases B with
  |nil=>exact .inl h
  | cons r B=>
    simp only[MV]at hB;(cases hc:r.c<;>rw[hc]at hB<;>first|(cases hB;done)|skip);simp only[Ze3,lS,hc]at h;simp only[lR,hc];exact .inl h
 |r ::Z,B,b,x,hZ,hB,h=>by
  have ih:=@CN Z B b x (λs hs=>hZ s (Za9 _ hs)) hB;have hr:=hZ r (Zd2 ..);simp only[Zd9,lS]at h;cases hc:r.c with
  |pure=>rw[hc]at h;exact(ih h).imp (λh=>h) λ⟨s,h1,h2⟩=>⟨s,Za9 _ h1,h2⟩
  |bk _ _=>rw[hc]at hr;cases hr
  | new id aM=>
    rw[hc]at h;by_cases e:id=b
    .   subst e;rw[T.gH]at h;simp only[H5]at h;subst h;exact .inr ⟨r,Zd2 ..,hc⟩
    .   rw[T.bX _ e]at h;exact(ih h).imp (λh=>h) λ⟨s,h1,h2⟩=>⟨s,Za9 _ h1,h2⟩
end
section
variable{P : Program}{tt : TT}{C : Cells}{nt : Nat}{ops : Array Oper}{call : aj}{cW : Fr}{h0 : T AB}{n0 : Pos}{R : List Rec}
theorem around(G:CM tt nt ops call cW h0 n0 R){D:Nat->Prop}{A B:List Rec}{a:Act}(hp:Pre nt ops R D A B a){X Y:List Rec}{r:Rec}(hR:R=X++r::Y)(hD:¬D r.idx):
  ∃Z,A=X++r::Z/\Y=Z++B:=by
 have hrA:r∈A:=by
  have:r∈R:=by rw[hR];simp
  rw[hp.split]at this;exact(Zd8.1 this).resolve_right λh=>hD (hp.inB r h)
 obtain⟨X',Z,hA⟩:=o7 hrA;have h2:R=X'++r::(Z++B):=by rw[hp.split,hA];simp
 obtain⟨rfl,_,rfl⟩:=KZ G.one hR h2 rfl;exact⟨Z,hA,rfl⟩
theorem ao4(G:CM tt nt ops call cW h0 n0 R){nS:Pos->Loc}{w0:World}{D:Nat->Prop}{A B:List Rec}{ρ:Pos->Loc}{a:Act}{w w':World}
   (hI:Inv C nt ops cW h0 n0 R nS w0 D A B ρ a w) {X Y:List Rec} {r:Rec} (hR:R=X++r::Y) (hD:¬D r.idx)
   (uz:∀o e,ops[r.idx]? =some o->e∈o.after->Region.binds .any e=true->D e.on) {o:Oper} (hrel:zj tt nt ops o r.o)
   (hY:∀s∈Y,D s.idx) {st':St} {b0:T AB} (hc:r.c= .bk b0 st'.heap) (VF:r.nx=st'.next) {x:Value}
   (akQ:oh ρ C { heap:=lS h0 Y,next:=eI n0 Y } w r.v st' x w'):
   ∃uX,Inv C nt ops cW h0 n0 R nS w0 (λi=>D i\/i=r.idx) X (r::Y) uX (a.put o.dst x) w':=by
 obtain⟨hp,hI⟩:=hI;obtain⟨jX,hv,hρ1,hle,hW1,hE1⟩:=akQ;simp only at hρ1 hle;obtain⟨Z,hA,rfl⟩:=around G hp hR hD;have hZ:∀s∈Z,s.c.qe=false:=λs hs=>hp.inA s (by rw[hA];simp[hs]) (hY s (by simp[hs]))
 have hXA:∀s∈X,s∈A:=λs hs=>by rw[hA];simp[hs]
 have hXD:∀s∈X,(D s.idx\/s.idx=r.idx)->D s.idx:=λs hs h=>h.resolve_right (G.later hR hs)
 have hnB:(eI n0 B).toNat<=(eI n0 (Z++B)).toNat:=G.Gv (X:=X++[r]) (by rw[hR];simp)
 let uX:Pos->Loc:=λb=>if(eI n0 (Z++B)).toNat<=b.toNat/\b.toNat<r.nx.toNat then jX b else ρ b
 have agH:∀b:Pos,b.toNat<(eI n0 (Z++B)).toNat->Kept n0 R D b:=by
   intro b hb M s T hM iG;left;by_cases hi:s.idx=r.idx
   . obtain⟨_,_,rfl⟩:=KZ G.one hM hR hi;exact hb
   . rcases G.cmp hR hM hi with⟨W,rfl⟩|⟨W,hW⟩
     .  have:=G.Rj hR hM;have:=G.aq7 hR;omega
     .  exact absurd (hY s (by rw[hW];simp)) iG
 refine⟨uX,⟨by rw[hR],by simp[MV,hc,RC.qe],?_,?_,?_,by rw[Act.j9];exact hp.size,by rw[Act.mF];exact hp.defers⟩,λρ' FA=> ?_⟩
 . intro s hs;rcases Zb0.1 hs with rfl|hs
   . exact .inr rfl
   . exact .inl (hY s hs)
 . intro s hs iG;exact hp.inA s (hXA s hs) (hXD s hs iG)
 . intro i o' e hDi ho he hb;rcases hDi with hDi|rfl
   . exact .inl (hp.closed i o' e hDi ho he hb)
   . exact .inl (uz o' e ho he hb)
 have aut:∀b:Pos,b.toNat<r.nx.toNat->Kept n0 R (λi=>D i\/i=r.idx) b:=by
   (intro b hb M s T hM iG;left;have hi:s.idx≠r.idx:=λe=>iG (.inr e));rcases G.cmp hR hM hi with⟨W,rfl⟩|⟨W,hW⟩
   . exact Zc8 hb (G.Rj hR hM)
   . exact absurd (.inl (hY s (by rw[hW];simp))) iG
 have hf:∀b,Kept n0 R D b->ρ' b=ρ b:=λb hb=>by rw[FA b (hb.up λ_ h=> .inl h)];refine Za7 ?_;rintro⟨g1,g2⟩;rcases hb X r _ hR hD with h|h<;>omega
 have h:=hI ρ' hf;have h12:∀b:Pos,b.toNat<r.nx.toNat->ρ' b=jX b:=by
   intro b hb;rcases Zi8 b.toNat (eI n0 (Z++B)).toNat with g|g
   . rw[hf b (agH b g),hρ1 b g]
   . rw[FA b (aut b hb)];exact Zb3 ⟨g,hb⟩
 have OV:aC ρ' r.nx.toNat C r.v x:=by
   rw[VF]at h12 ⊢;exact hv.mono h12 (Za3 _)
 have jk:cq ρ' C { heap:=st'.heap,next:=r.nx } w':=by rw[VF]at h12 ⊢;exact hW1.congr h12
 have hold:∀s∈X,D s.idx->∀id aM,s.c= .new id aM->∀b y,(lS h0 (Z++B)).get b=some y->(ρ b).aM≠(ρ' id).aM:=by
   intro s hs iG id aM eX b y hb;obtain⟨g1,g2,g3,g4,g5⟩:=h.N s (hXA s hs) iG id aM eX;obtain⟨M,T,hM⟩:=o7 (r:=s) (R:=R) (by rw[hR];simp[hs]);rcases CN hZ hp.bound hb with hb|⟨s',qJ,tP⟩
   . rw[<-hf b (agH b (Zc8 (h.W.live b y hb).1 hnB))];exact g4 b y hb
   . obtain⟨Z1,Z2,rfl⟩:=o7 qJ;have hM':R=(X++r::Z1)++s'::(Z2++B):=(by rw[hR];simp);obtain⟨e1,e2⟩:=G.VE hM' tP;obtain⟨e3,e4⟩:=G.VE hM eX;have hbn:b.toNat<(eI n0 ((Z1++s'::Z2)++B)).toNat:=(by have:=G.Kg (X:=X) (r:=r) (Z:=Z1) (r':=s') (Y':=Z2++B) (by rw[hR];simp);rw[e2,Pos.aF]at this;simp only[Zf4,Zd9];omega);have hsr:s.idx≠r.idx:=G.later hR hs;have hid:r.nx.toNat<=id.toNat:=by
        rcases G.cmp hR hM hsr with⟨W,rfl⟩|⟨W,hW⟩
        . rw[e3];exact G.Rj hR hM
        . obtain⟨A1,A2,hX⟩:=o7 hs;have hM2:R=A1++s::(A2++r::((Z1++s'::Z2)++B)):=(by rw[hR,hX];simp);have zD:s∈(Z1++s'::Z2)++B:=(by rw[hW];simp);exact absurd rfl (G.one A1 s _ hM2 s (Zd8.2 (.inr (Za9 _ zD))))
     have dJ:b≠id:=(by rintro rfl;have:=G.aq7 hR;omega);rw[<-hf b (agH b hbn)];exact h.N2 s' (by rw[hA];simp) (hY s' (by simp)) b y tP s (hXA s hs) iG id aM eX dJ
 have hEa:qm nS { heap:=h0,next:=n0 } w0 ρ { heap:=lS h0 (Z++B),next:=eI n0 (Z++B) } w:=by
   refine⟨h.E.os,h.E.tape,h.E.output,h.E.size,h.E.block,λb y hb=> ?_⟩;rcases CN hZ hp.bound hb with hb|⟨s',qJ,tP⟩
   . rw[<-hf b (agH b (Zc8 (h.W.live b y hb).1 hnB))];exact h.E.yh b y hb
   . obtain⟨Z1,Z2,rfl⟩:=o7 qJ;have hM':R=(X++r::Z1)++s'::(Z2++B):=(by rw[hR];simp);obtain⟨e1,e2⟩:=G.VE hM' tP;have hbn:b.toNat<(eI n0 ((Z1++s'::Z2)++B)).toNat:=(by have:=G.Kg (X:=X) (r:=r) (Z:=Z1) (r':=s') (Y':=Z2++B) (by rw[hR];simp);rw[e2,Pos.aF]at this;simp only[Zf4,Zd9];omega);rw[<-hf b (agH b hbn)];exact .inr (h.N s' (by rw[hA];simp) (hY s' (by simp)) b y tP).2.2.1
 obtain⟨k1,k2⟩:=akN G hp h.t1 h.t0 hR hD hrel OV;refine⟨?_,λs hs iG id aM eX=> ?_,λs hs iG id aM eX s' qJ K7 xH Ii tP dJ=> ?_,k1,k2,?_,h.agree⟩
 . simp only[lR,hc,eI];exact jk
 . have iG:=hXD s hs iG;obtain⟨g1,g2,g3,g4,g5⟩:=h.N s (hXA s hs) iG id aM eX;refine⟨g1.of_heap (hE1.block _ g2 (hold s hs iG id aM eX)),Zc8 g2 hE1.size,g3,λb y hb=> ?_,g5⟩;simp only[lR,hc]at hb;rw[h12 b (by rw[VF];exact(hW1.live b y hb).1)];rcases hE1.yh b y hb with⟨b',y',eN,e⟩|e
   . rw[<-e];exact hold s hs iG id aM eX b' y' eN
   . omega
 . exact h.N2 s (hXA s hs) (hXD s hs iG) id aM eX s' (hXA s' qJ) (hXD s' qJ K7) xH Ii tP dJ
 . have:=(hEa.trans hE1).congr (ρ':=ρ') λb y hb=>h12 b (by rw[VF];exact(hW1.live b y hb).1)
   simp only[lR,hc,eI];exact⟨this.os,this.tape,this.output,this.size,this.block,this.yh⟩
end
section
variable{P : Program}{tt : TT}{C : Cells}{nt : Nat}{ops : Array Oper}{call : aj}{cW : Fr}{h0 : T AB}{n0 : Pos}{R : List Rec}
theorem Gw{ρ:Pos->Loc}{n:Pos}{w:World}(hC:∀ad v,C ad=some v->w.cell? ad=some v)(hC2:∀a v,C a=some v->∀o,C ⟨a.block,o,none⟩=none->w.cell? ⟨a.block,o,none⟩=none):cq ρ C { heap:= .e,next:=n } w where
 live b x hb:=by rw[T.dO]at hb;cases hb
 inj b b' x x' hb:=by rw[T.dO]at hb;cases hb
 ei a v ha:=⟨hC a v ha,λb x hb=>by rw[T.dO]at hb;cases hb⟩
 whole:=hC2
theorem Yields.eq{N:Next}{x y:Value}(h:Yields N x)(k:Yields N y):x=y:=by
 rcases h with rfl|⟨rfl,rfl⟩<;>rcases k with k|⟨k,rfl⟩
 . simp only[Next.value.injEq]at k;exact k
 . cases k
 . cases k
 . rfl
theorem amD(hT:dy P tt){o:Oper}{k:aG}{xs:List ic}{cls:Cls}(hc:kg tt o.op=some (k,xs,cls)){n:Pos}{vs:List AV}{v:AV}{aM:AB}
  (hr:k.run (λ_=>none) n vs=some (.bk v none none (some aM))) {fr:Fr} (hx:fS fr xs=some vs) {a:Act} {w:World} {Fam:(Pos->Loc)->Prop} {ρ:Pos->Loc} (bE:Fam ρ)
  (hF:∀ρ',Fam ρ'->kV ρ' n.toNat C fr a.tmps) (hC:∀ad v,C ad=some v->w.cell? ad=some v) (hC2:∀a v,C a=some v->∀o,C ⟨a.block,o,none⟩=none->w.cell? ⟨a.block,o,none⟩=none):
  ∃ N x w' L,(execOp a.eval o).run P w= .ok N w'/\Yields N x/\w.heap.size<=L.aM/\L.aM<w'.heap.size/\w'.os=w.os/\w'.tape=w.tape/\w'.output=w.output/\
    (∀k,k<w.heap.size->w'.heap[k]? =w.heap[k]?)/\∀ρ',Fam ρ'->ρ' n=L->aC ρ' n.succ.toNat C v x/\tM ρ' n.succ.toNat C L w' aM:=by
 have dP:k.run (λb=>T.get b (T.e:T AB)) n vs=some (.bk v none none (some aM)):=by
  have e:(λb=>T.get b (T.e:T AB))=λ_=>none:=by funext b;exact T.dO b
  rw[e];exact hr
 have H:=λρ' (hf:Fam ρ')=>Yh hT o.op ρ' C { heap:= .e,next:=n } w k xs cls fr a o vs _ rfl hc (Gw hC hC2) (hF ρ' hf) hx dP
 have key:∀ρ',Fam ρ'->∃N x w' jX,(execOp a.eval o).run P w= .ok N w'/\Yields N x/\(∀b:Pos,b.toNat<n.toNat->jX b=ρ' b)/\aC jX n.succ.toNat C v x/\
    tM jX n.succ.toNat C (jX n) w' aM/\w.heap.size<=(jX n).aM/\(jX n).aM<w'.heap.size/\w'.os=w.os/\w'.tape=w.tape/\w'.output=w.output/\
    (∀k,k<w.heap.size->w'.heap[k]? =w.heap[k]?):=by
  intro ρ' hf;obtain⟨N,x,w',jX,he,hy,h1,h2,h3,h4⟩:=H ρ' hf;have hg:(St.bk { heap:= .e,next:=n } none none (some aM)).heap.get n=some aM:=T.gH _ _ _;obtain⟨g1,g2,g3⟩:=h2.live n aM hg;refine⟨N,x,w',jX,he,hy,h1,h3,g3,?_,g2,h4.os,h4.tape,h4.output,λk hk=>h4.block k hk λb x hb=> ?_⟩
  . rcases h4.yh n aM hg with⟨b',x',eN,_⟩|h
    .   rw[T.dO]at eN;cases eN
    .   exact h
  . rw[T.dO]at hb;cases hb
 obtain⟨N,x,w',jX,he,hy,h1,h2,h3,h4,h5,h6,h7,h8,h9⟩:=key ρ bE;refine⟨N,x,w',jX n,he,hy,h4,h5,h6,h7,h8,h9,λρ' hf hL=> ?_⟩;obtain⟨N',x',w'',uX,rH,hy',k1,k2,k3,_⟩:=key ρ' hf;rw[he]at rH;simp only[Result.ok.injEq]at rH;obtain⟨rfl,rfl⟩:=rH;have hxx:=hy.eq hy';subst hxx;have ara:n.toNat<n.succ.toNat:=by rw[Pos.aF];omega
 have agree:(uX n).aM=(jX n).aM->(uX n).base=(jX n).base->(∃cs fz,aM= .cells cs fz)->aC ρ' n.succ.toNat C v x/\tM ρ' n.succ.toNat C (jX n) w' aM:=by
  intro e1 e2 Vk;have e3:(uX n).size=(jX n).size:=by
    obtain⟨cs,fz,rfl⟩:=Vk;obtain⟨c,e,fr,g1,g2,_⟩:=h3;obtain⟨c',e',bH,g1',g2',_⟩:=k3;rw[e1,g1]at g1';simp only[H5,Obj.cells.injEq]at g1';rw[<-g2, <-g2',g1'.1]
  have e4:uX n=jX n:=by
    cases hh:uX n;cases hh':jX n;rw[hh,hh']at e1 e2 e3;simp only at e1 e2 e3;rw[e1,e2,e3]
  have pF:∀b:Pos,b.toNat<n.succ.toNat->ρ' b=uX b:=by
    intro b hb;rcases Zi8 b.toNat n.toNat with g|g
    .   exact(k1 b g).symm
    .   have:b=n:=Pos.toNat_inj (by rw[Pos.aF]at hb;omega);subst this;rw[hL,e4]
  refine⟨k2.mono pF (Za3 _),?_⟩;rw[<-e4];exact k3.mono pF (Za3 _)
 cases arL hr with
 |ptr cs=>
  obtain⟨_,g1⟩:=h2.qz;obtain⟨_,g2⟩:=k2.qz;rw[g1]at g2;simp only[Value.pointer.injEq,H5,Addr.mk.injEq,Zf8,Zp1]at g2;exact agree g2.1.symm g2.2.symm ⟨cs,0,rfl⟩
 |slice len es cap cs eX=>
  obtain⟨ad,bu,g1,g2,g3,g4⟩:=h2.gL;obtain⟨ad',arb,g1',g2',g3',g4'⟩:=k2.gL;rw[g1]at g1';simp only[Value.slice.injEq,H5,Zs0]at g1';obtain⟨rfl,rfl⟩:=g1';by_cases h0:bu=0
  . subst h0;have hl0:len=0:=(by omega);have hcs0:cs=[]:=eX hl0 (by
        cases cap with
        |none=>exact .inl rfl
        |some c=>exact .inr (by rw[g3 c rfl]))
    subst hcs0;refine⟨?_,?_⟩
    .   rw[g1];exact .slice n 0 len cap es 0 ad g2 g3 (λh=>absurd rfl h) (λ_=>ara)
    .   obtain⟨c,e,fr,q1,q2,q3,q4,q5⟩:=h3;exact⟨c,e,fr,q1,q2,q3,aK.nil,q5⟩
  . obtain⟨_,a1,_⟩:=g4 h0;obtain⟨_,a2,_⟩:=g4' h0;rw[a1]at a2;simp only[Addr.mk.injEq,Zf8,Zp1]at a2;exact agree a2.1.symm a2.2.symm ⟨cs,0,rfl⟩
 |map=>
  obtain⟨_,g1⟩:=h2.BV;refine⟨?_,?_⟩
  . rw[g1, <-hL];exact .map n ara
  . obtain⟨es',q1,q2,q3⟩:=h3;exact⟨es',q1,q2,λi e e' he=>by simp at he⟩
end
section
variable{P : Program}{tt : TT}{C : Cells}{nt : Nat}{ops : Array Oper}{call : aj}{cW : Fr}{h0 : T AB}{n0 : Pos}{R : List Rec}
def Ay(fr:Fr):List Pos->Fr
 |[]=> .e
 |p::l=>(Ay fr l).put (fr.get p) p
theorem aeq{fr:Fr}{p:Pos}:∀{l:List Pos},p∈l->(Ay fr l).get p=fr.get p
 |[],h=>by cases h
 |q ::l,h=>by
  simp only[Ay];by_cases e:q=p
  . subst e;exact T.gH _ _ _
  . rw[T.bX _ e];exact aeq ((Zb0.1 h).resolve_left λh=>e h.symm)
theorem ZE{fr:Fr}{p:Pos}{v:AV}:∀{l:List Pos},(Ay fr l).get p=some v->p∈l/\fr.get p=some v
 |[],h=>by simp only[Ay]at h;rw[T.dO]at h;cases h
 |q ::l,h=>by
  simp only[Ay]at h;by_cases e:q=p
  . subst e;rw[T.gH]at h;exact⟨by simp,h⟩
  . rw[T.bX _ e]at h;obtain⟨h1,h2⟩:=ZE h;exact⟨by simp[h1],h2⟩
theorem aer{fr:Fr}{l:List Pos}:∀{xs:List ic},(∀p,ic.t p∈xs->p∈l)->fS (Ay fr l) xs=fS fr xs
 |[],_=>rfl
 |x::xs,h=>by
  have h1:Gn (Ay fr l) x=Gn fr x:=by
   cases x with
   |t p=>exact aeq (h p (by simp))
   |c v=>rfl
  simp only[fS,h1,aer λp hp=>h p (Za9 _ hp)]
theorem amE{o:bQ}{p:Pos}(h:ic.t p∈o.xs):p∈o.looks:=by
 unfold bQ.looks;exact List.mem_append_right _ (List.mem_filterMap.2 ⟨_,h,rfl⟩)
theorem aiZ{o:bQ}{p:Pos}{q:Bool}(h:o.guard=some (p,q)):p∈o.looks:=by unfold bQ.looks;rw[h];simp
theorem Yields.upon{o:Oper}{a:Act}{K:Act->World->Prop}{Q:Exit->Act->World->Prop}{N:Next}{x:Value}{w:World}(h:Yields N x)(hk:K (a.put o.dst x) w):o.upon P a K Q (.ok N w):=by rcases h with rfl|⟨rfl,rfl⟩<;>exact hk
theorem ao5(hT:dy P tt)(cV:iZ P C call)(G:CM tt nt ops call cW h0 n0 R){Q:Exit->Act->World->Prop}{nS:Pos->Loc}{w0:World}{D:Nat->Prop}{A B:List Rec}{ρ:Pos->Loc}{a:Act}{w:World}
  (hI:Inv C nt ops cW h0 n0 R nS w0 D A B ρ a w) {i:Nat} (hi:i<ops.size) (hD:¬D i)
  (uz:∀o e,ops[i]? =some o->e∈o.after->Region.binds .any e=true->D e.on):
  wpOp P ops Q i (λa' w'=>∃A' B' ρ',Inv C nt ops cW h0 n0 R nS w0 (λj=>D j\/j=i) A' B' ρ' a' w') a w:=by
 obtain⟨r,hr,rfl⟩:=G.all i hi;obtain⟨X,Y,hR⟩:=o7 hr;obtain⟨o,ho,hrel,hB⟩:=G.rel r hr;have hp:=hI.1;have adl:∀b,r.o.bY.testBit b=true->D b:=λb hb=>G.abN hp.closed (hB.2 b hb) uz
 obtain⟨Z,hA,hYZ⟩:=around G hp hR hD;have Rk:∀ρ',(∀b,Kept n0 R D b->ρ' b=ρ b)->∀p v,p∈r.o.looks->(qK cW Y).get p=some v->∃x,a.tmps[p.toNat - 1]? =some x/\aC ρ' (eI n0 Y).toNat C v x:=
  λρ' hf p v hl hv=>look G hp (hI.2 ρ' hf).t1 (hI.2 ρ' hf).t0 hR hD adl hl hv
 have hFR:∀ρ',(∀b,Kept n0 R D b->ρ' b=ρ b)->kV ρ' (eI n0 Y).toNat C (Ay (qK cW Y) r.o.looks) a.tmps:=λρ' hf p v hv=>
  let⟨h1,h2⟩:=ZE hv;Rk ρ' hf p v h1 h2
 have Rm:∀b,Kept n0 R D b->ρ b=ρ b:=λ_ _=>rfl
 have hw:∀b,cK (qK cW Y) r.o.guard=some b->Region.wanted o (yielded ops a.tmps)=b:=λb hb=>
  KV hrel.guard (λp v hv ⟨q,hq⟩=>Rk ρ Rm p v (aiZ hq) hv) hb
 have hnZ:∀s∈Z,s.nx.toNat<=(eI n0 Y).toNat:=λs hs=>by obtain⟨Z1,Z2,rfl⟩:=o7 hs;have:=G.Kg (X:=X) (r:=r) (Z:=Z1) (r':=s) (Y':=Z2++B) (by rw[hR,hYZ];simp);rw[hYZ];simp only[Zf4,Zd9];exact this
 have hnB:(eI n0 B).toNat<=(eI n0 Y).toNat:=by rw[hYZ];exact G.Gv (X:=X++[r]) (by rw[hR,hYZ];simp)
 have hs:=Good.at (hR ▸G.aaB);have hex:∀xs,fS (qK cW Y) r.o.xs=some xs->fS (Ay (qK cW Y) r.o.looks) r.o.xs=some xs:=λxs hx=>by rw[aer λp hp=>amE hp];exact hx
 unfold wpOp;simp only[ho];generalize hrr:r=r0 at*
 cases hs with
 |skip i' o' _ hw'=>
  rw[Za7 (by rw[hw _ hw'];simp)];exact⟨A,B,ρ,aep G hI hR hD uz hrel rfl λρ' _=> .ael⟩
 |pure i' o' v xs _ hw' hx ZC=>
  rw[Zb3 (hw _ hw')];refine .inl ?_;rw[hYZ]at ZC;obtain⟨h,yw,dP⟩:=ZC Z B rfl hp.bound λs hs he=>by
    cases hb:o'.bY.testBit s.idx with
    |false=>rfl
    |   true=>
        have h1:=hp.inA s (by rw[hA];simp[hs]) (adl _ hb);rw[h1]at he;cases he
  rcases hrel.op with hc|⟨hk,_⟩
  . have H:∀ρ',(∀b,Kept n0 R D b->ρ' b=ρ b)->∃N x,(execOp a.eval o).run P w= .ok N w/\Yields N x/\aC ρ' (eI n0 Y).toNat C v x:=by
        intro ρ' hf;have hW:=akP G (hI.2 ρ' hf) hp.split (hp:=h) hnB λb y hb=>(yw b y hb).imp (λh=>h) λ⟨s,h1,h2,h3⟩=>
          ⟨s,by rw[hA];simp[h1],adl _ h3,h2,hnZ s h1⟩
        exact Yh hT o.op ρ' C _ w _ _ _ _ a o _ _ rfl hc hW (hFR ρ' hf) (hex xs hx) (aoY dP λ_ _ h=>h)
    obtain⟨N,x,he,hy,hv⟩:=H ρ Rm;unfold Oper.wp;rw[he];refine hy.upon ⟨A,B,ρ,aep G hI hR hD uz hrel rfl λρ' hf=> ?_⟩;obtain⟨N',x',rH,hy',OV⟩:=H ρ' hf;rw[he]at rH;simp only[Result.ok.injEq,Zp1]at rH;subst rH;rw[hy.eq hy'];exact OV
  . rw[hk]at dP;cases dP
 |new   i' o' v aM xs _ hw' hx dP=>
  rw[Zb3 (hw _ hw')];refine .inl ?_;rcases hrel.op with hc|⟨hk,_⟩
  . obtain⟨N,x,w',L,he,hy,h1,h2,h3,h4,h5,h6,h7⟩:=amD hT hc dP (hex xs hx) (Fam:=λρ'=>∀b,Kept n0 R D b->ρ' b=ρ b) Rm hFR
        (λad v ha=>((hI.2 ρ Rm).W.ei ad v ha).1) (hI.2 ρ Rm).W.whole
    unfold Oper.wp;rw[he];exact hy.upon ⟨A,B,_,ao1 G hI hR hD uz hrel rfl h1 h2 h3 h4 h5 h6 h7⟩
  . rw[hk]at dP;cases dP
 |bk i' o' v st' xs _ aoZ hw' hx fT=>
  rw[Zb3 (hw _ hw')];refine .inl ?_;rcases hrel.op with hc|⟨hk,_⟩
  . have hY:∀s∈Y,D s.idx:=λs hs=>adl _ (G.bk X _ Y hR aoZ s hs)
    have hZ:∀s∈Z,s.c.qe=false:=λs hs=>hp.inA s (by rw[hA];simp[hs]) (hY s (by rw[hYZ];simp[hs]))
    have hW:cq ρ C { heap:=lS h0 Y,next:=eI n0 Y } w:=akP G (hI.2 ρ Rm) hp.split hnB λb y hb=>by
        rw[hYZ]at hb;rcases CN hZ hp.bound hb with hb|⟨s,h1,h2⟩
        . exact .inl hb
        . exact .inr ⟨s,by rw[hA];simp[h1],hY s (by rw[hYZ];simp[h1]),h2,hnZ s h1⟩
    have hre:=ZA hT cV hc hW (hFR ρ Rm) (hex xs hx) fT;(refine hre.upon λx w' akQ=> ?_);obtain⟨uX,h⟩:=ao4 G hI hR hD uz hrel hY rfl rfl akQ;exact⟨_,_,uX,h⟩
  . exact(Reaches.bad hk fT).elim
end
section
variable{P : Program}{tt : TT}{C : Cells}{nt : Nat}{ops : Array Oper}{call : aj}{cW : Fr}{h0 : T AB}{n0 : Pos}{R : List Rec}
theorem aes(G:CM tt nt ops call cW h0 n0 R){nS:Pos->Loc}{w0:World}{D:Nat->Prop}{A B:List Rec}{ρ:Pos->Loc}{a:Act}{w:World}
   (hI:Inv C nt ops cW h0 n0 R nS w0 D A B ρ a w) (pF:∀r∈R,D r.idx):kJ nt nS C { heap:=h0,next:=n0 } w0 (qK cW R) { heap:=lS h0 R,next:=eI n0 R } a w:=by
 obtain⟨hp,hI⟩:=hI;have h:=hI ρ λ_ _=>rfl
 have hZ:∀s∈A,s.c.qe=false:=λs hs=>hp.inA s hs (pF s (by rw[hp.split];simp[hs]))
 have hnA:∀s∈A,s.nx.toNat<=(eI n0 R).toNat:=λs hs=>by obtain⟨Z1,Z2,hA⟩:=o7 hs;have:=G.Gv (X:=[]) (Y:=Z1) (Z:=s::(Z2++B)) (by rw[hp.split,hA];simp);have e:R=Z1++s::(Z2++B):=(by rw[hp.split,hA];simp);rw[<-e]at this;exact this
 have hnB:(eI n0 B).toNat<=(eI n0 R).toNat:=by
   have:=G.Gv (X:=[]) (Y:=A) (Z:=B) (by rw[hp.split];simp)
   rwa [<-hp.split]at this
 have KU:n0.toNat<=(eI n0 R).toNat:=G.akM (X:=[]) rfl;have yw:∀b x,(lS h0 R).get b=some x->(lR h0 B).get b=some x\/∃s∈A,D s.idx/\s.c= .new b x/\s.nx.toNat<=(eI n0 R).toNat:=λb x hb=>by
   rw[hp.split]at hb;rcases CN hZ hp.bound hb with hb|⟨s,h1,h2⟩
   . exact .inl hb
   . exact .inr ⟨s,h1,pF s (by rw[hp.split];simp[h1]),h2,hnA s h1⟩
 refine⟨ρ,⟨akP G h hp.split hnB yw,?_,hp.size,hp.defers⟩,h.agree,KU,?_⟩
 . intro p v hv;rcases Vz R p v hv with⟨M,s,T,hM,h2,rfl,h3⟩|⟨h1,h2⟩
   . obtain⟨x,hx,VC⟩:=h.t1 M s T p hM (pF s (by rw[hM];simp)) h2 λs' qJ _=>h3 s' qJ
     refine⟨x,hx,VC.mono (λ_ _=>rfl) ?_⟩;have:=G.Gv (X:=[]) (Y:=M) (Z:=s::T) (by rw[hM];simp);rw[<-hM]at this;exact this
   . obtain⟨x,hx,VC⟩:=h.t0 p v h1 λs hs _=>h2 s hs
     exact⟨x,hx,VC.mono (λ_ _=>rfl) KU⟩
 . refine⟨h.E.os,h.E.tape,h.E.output,h.E.size,h.E.block,λb x hb=> ?_⟩;rcases yw b x hb with hb|⟨s,h1,h2,h3,_⟩
   . exact h.E.yh b x hb
   . exact .inr (h.N s h1 h2 b x h3).2.2.1
def DL(listed:Array Bool)(j:Nat):Prop:=listed.getD j false=true
theorem amF{listed:Array Bool}{i:Nat}(hi:i<listed.size):(λj=>DL listed j\/j=i)=DL (listed.setIfInBounds i true):=by
 funext j;apply propext;unfold DL;by_cases h:j=i
 . subst h;simp[hi]
 . rw[getD_set_ne false (Ne.symm h)];simp[h]
theorem agI{listed:Array Bool}{j:Nat}(h:listed.getD j true=false):¬DL listed j:=by
 unfold DL;intro h';rcases Zi8 j listed.size with hj|hj
 . simp[hj]at h h';rw[h]at h';cases h'
 . simp[Array.getElem?_eq_none hj]at h'
theorem arN{listed:Array Bool}{j:Nat}(hj:j<listed.size)(h:¬DL listed j):listed.getD j true=false:=by unfold DL at h;simp[hj]at h ⊢; exact h
theorem VG(G:CM tt nt ops call cW h0 n0 R){listed:Array Bool}(hs:listed.size=ops.size)(hr:Region.ready .any ops listed=[]):∀(Y X:List Rec),R=X++Y->∀r∈Y,DL listed r.idx
 |[],_,_,r,nR=>by cases nR
 |r ::Y  ,X,hR,r',nR=>by
  have ih:=VG G hs hr Y (X++[r]) (by rw[hR];simp);rcases Zb0.1 nR with rfl|nR
  . obtain⟨o,ho,_,hB⟩:=G.rel r' (by rw[hR];simp);have aS:r'.idx<ops.size:=(Zd1.1 ho).1;by_cases h:DL listed r'.idx
    .   exact h
    .   exfalso;have:r'.idx∈Region.ready .any ops listed:=mem_ready.2 ⟨arN (by omega) h,o,ho,λe he hb=>by obtain⟨s,h1,h2⟩:=G.bY X r' Y hR _ (hB.1 o ho e he hb);have:=ih s h1;rw[h2]at this;exact this⟩;rw[hr]at this;cases this
  . exact ih r' nR
theorem aet(hT:dy P tt)(cV:iZ P C call)(G:CM tt nt ops call cW h0 n0 R){Q:Exit->Act->World->Prop}{nS:Pos->Loc}{w0:World}
  (hQ:∀a' w',kJ nt nS C { heap:=h0,next:=n0 } w0 (qK cW R) { heap:=lS h0 R,next:=eI n0 R } a' w'->Q .normal a' w'):
  ∀ (fuel:Nat)(listed:Array Bool)(U:List Nat)(A B:List Rec)(ρ:Pos->Loc)(a:Act)(w:World),listed.size=ops.size->U.length<=fuel->U.Nodup->(∀j,j<ops.size->¬DL listed j->j∈U)->
    Inv C nt ops cW h0 n0 R nS w0 (DL listed) A B ρ a w->wpAny P .any ops Q fuel listed a w
 |0,listed,U,A,B,ρ,a,w,hs,hU,_,hm,hI=>by
  have hU0:U=[]:=Zc4 (by omega);subst hU0;have hr:Region.ready .any ops listed=[]:=by
    cases h:Region.ready .any ops listed with
    |nil=>rfl
    |   cons i l=>
        have hi:i∈Region.ready .any ops listed:=(by rw[h];simp);obtain⟨h1,o,ho,_⟩:=mem_ready.1 hi;have:=hm i (Zd1.1 ho).1 (agI h1);cases this
  exact⟨hr,hQ a w (aes G hI (VG G hs hr R [] rfl))⟩
 |fuel+1,listed,U,A,B,ρ,a,w,hs,hU,hnd,hm,hI=>by
  refine⟨λhr=>hQ a w (aes G hI (VG G hs hr R [] rfl)),λi hi=> ?_⟩;obtain⟨h1,o,ho,h2⟩:=mem_ready.1 hi;have aS:i<ops.size:=(Zd1.1 ho).1;have fT:=ao5 (Q:=Q) hT cV G hI aS (agI h1) λo' e MT he hb=>by rw[ho]at MT;simp only[H5]at MT;subst MT;exact h2 e he hb
  refine wpOp_mono (λa' w' hh=> ?_) fT;obtain⟨A',B',ρ',hI'⟩:=hh;rw[amF (by omega)]at hI';have hiU:i∈U:=hm i aS (agI h1);refine aet hT cV G hQ fuel _ (U.erase i) A' B' ρ' a' w' (by simp[hs]) ?_ (hnd.erase i) (λj hj hD=> ?_) hI'
  . rw[List.length_erase_of_mem hiU];omega
  . (rw[<-amF (by omega)]at hD;have dJ:j≠i:=λe=>hD (.inr e));exact(List.mem_erase_of_ne dJ).2 (hm j hj λh=>hD (.inl h))
theorem Rn(hm:P.follows .mixedOrders=true)(hT:dy P tt)(cV:iZ P C call)(akR:pG call):yq P tt C call:=by
 intro nt id ops l Q fr bH st st' ρ a w hl cG h hS hQ;obtain⟨R,hG,hmap,sO,auu,VF⟩:=abM (call:=call) (cW:=fr) (h0:=st.heap) (n0:=st.next) _ [] fr bH st st' h trivial rfl rfl rfl;simp only[Ze0]at hG sO auu VF;have hst':st'={ heap:=lS st.heap R,next:=eI st.next R }:=by cases st';simp_all
 have hlen:l.length=ops.size:=by rw[(wR hl).1,Zi7]
 have abO:=ZD _ 0 [] cG λb=>by simp
 have hL:Be (KO 0 l) []=(R.map λr=>(r.idx,r.o)).reverse:=by rw[hmap,List.reverse_reverse]
 have dec:∀{A B:List Rec}{r:Rec},R=A++r::B->Be (KO 0 l) []=(B.map λr=>(r.idx,r.o)).reverse++(r.idx,r.o)::(A.map λr=>(r.idx,r.o)).reverse:=λe=>by rw[hL,e];simp
 have yx:∀{B:List Rec}{i:Nat},i∈((B.map λr=>(r.idx,r.o)).reverse).map (·.1)↔ ∃r∈B,r.idx=i:=λ{B i}=>by simp
 have G:CM tt nt ops call fr st.heap st.next R:=by
   refine⟨hG,akR,λA r B e r' nR hi=> ?_,λA r B e b hb=> ?_,λA r B e hc r' nR=> ?_,λA r B e r' nR=> ?_,λr hr=> ?_,λi hi=> ?_⟩
   . exact(abO.one _ _ _ _ (dec e)).2 (yx.2 ⟨r',nR,hi⟩)
   . rcases abO.bY _ _ _ _ (dec e) b hb with h|h
     . cases h
     . exact yx.1 h
   . exact abO.bk _ _ _ _ (dec e) hc _ (.inr (yx.2 ⟨r',nR,rfl⟩))
   . exact abO.apart _ _ _ _ (dec e) (r'.idx,r'.o) (by simp;exact⟨r',nR,rfl,rfl⟩)
   . obtain⟨A,B,e⟩:=o7 hr;have hx:(r.idx,r.o)∈Be (KO 0 l) []:=(by rw[dec e];simp);have h1:=arM hx;obtain⟨o,h2,h3,h4⟩:=Rb hl _ _ h1;refine⟨o,h2,h3,?_⟩;rw[h4];exact ajz ops.toList [] rfl (Zi0 _) (λi hi=>by simp at hi) _ (Zd1.1 h2).1
   . rcases abO.all i (by rw[hlen];exact hi)with h|h
     . cases h
     . rw[hL]at h;exact yx.1 h
 refine wp_region_any hm ?_;rw[hst',sO]at hQ;have hkn:∀b:Pos,b.toNat<st.next.toNat->∀D,Kept st.next R D b:=λb hb D A r B e _=> .inl (Zc8 hb (G.akM (X:=A++[r]) (by rw[e];simp)))
 refine aet (Q:=Q) (nS:=ρ) (w0:=w) hT cV G hQ ops.size _ (List.range ops.size) R [] ρ a _ (by simp) (by simp) List.nodup_range (λj hj _=>Zh3.2 hj) ?_;have nQ:∀j,¬DL (Array.replicate ops.size false) j:=λj h=>by
   unfold DL at h;rcases Zi8 j ops.size with hj|hj
   . simp[hj]at h
   . simp[Nat.not_lt.2 hj]at h
 refine⟨⟨by simp,trivial,(λr hr=>by cases hr),λr _ hD=>absurd hD (nQ _),λi _ _ hD=>absurd hD (nQ _),hS.size,hS.defers⟩,λρ' FA=> ?_⟩;have xI:∀b:Pos,b.toNat<st.next.toNat->ρ' b=ρ b:=λb hb=>FA b (hkn b hb _)
 have hW:cq ρ' C st { w with drawn:=w.drawn+1 }:=(hS.W.congr xI).grow (Za3 _) λ_ _=>rfl
 refine⟨hW,λr _ hD=>absurd hD (nQ _),λr _ hD=>absurd hD (nQ _),λM s T p _ hD=>absurd hD (nQ _),λp v hv _=> ?_,⟨rfl,rfl,rfl,Za3 _,λ_ _ _=>rfl,λb x hb=> .inl ⟨b,x,hb,?_⟩⟩,xI⟩
 . obtain⟨x,hx,VC⟩:=hS.F p v hv;exact⟨x,hx,VC.mono xI (Za3 _)⟩
 . rw[xI b (hS.W.live b x hb).1]
theorem CO(hm:P.follows .mixedOrders=true)(hT:dy P tt){O:eP}{G:T dN}(hO:vz P C O)(VH:oI O)(hG:GOk P tt G)(m d:Nat):iZ P C (um O G m d):=
 ZB hT hO hG m (λd cV=>Rn hm hT cV (CL VH m d)) d
end
end
section
section
variable{R : Type}
theorem BX{α:Type}:∀(p:Pos)(t:T α),Br p t=t.get p
 | .h,.e=>rfl
 | .h,.n _ _ _=>rfl
 | .o _,.e=>rfl
 | .o p,.n l _ _=>BX p l
 | .i _,.e=>rfl
 | .i p,.n _ _ r=>BX p r
theorem om{α:Type}(x:Option α):∀(p:Pos)(t:T α)(k:T α->R),wY x p t k=k (t.put x p)
 | .h,.e,_=>rfl
 | .h,.n _ _ _,_=>rfl
 | .o p,.e,k=>om x p .e _
 | .o p,.n l _ _,k=>om x p l _
 | .i p,.e,k=>om x p .e _
 | .i p,.n _ _ r,k=>om x p r _
theorem Gg(n:Nat)(k:Nat->R):vu n k=k n:=by cases n<;>rfl
theorem ai0(n:Int)(k:Int->R):aav n k=k n:=by cases n<;>simp only[aav,Gg]
theorem agJ(b:Bool)(k:Bool->R):aeg b k=k b:=by cases b<;>rfl
theorem MY{α:Type}:∀(l:List α)(k:List α->R),Gp l k=k l
 |[],_=>rfl
 |a::l,k=>MY l λt=>k (a::t)
theorem NX:∀(p:Pos)(k:Pos->R),QX p k=k p
 | .h,_=>rfl
 | .o p,k=>NX p λq=>k (.o q)
 | .i p,k=>NX p λq=>k (.i q)
theorem amG(o:Option Nat)(k:Option Nat->R):agl o k=k o:=by
 cases o with
 |none=>rfl
 |some n=>simp only[agl,Gg]
theorem aeu(v:AV)(k:AV->R):Vh v k=k v:=by
 cases v<;>simp only[Vh,agJ,ai0,MY,NX,Gg,amG]
theorem Ro:∀(l:List AV)(k:List AV->R),Yf l k=k l
 |[],_=>rfl
 |a::l,k=>by
  show Vh a (λa=>Yf l λt=>k (a::t))=_;rw[aeu,Ro l]
theorem MZ(v:AV)(k:AV->R):wz v k=k v:=by
 unfold wz;split
 . exact Ro _ _
 . exact aeu _ _
theorem Rp(x:AB)(k:AB->R):Kw x k=k x:=by
 cases x<;>simp only[Kw,MY,Gg]
theorem Rq:∀(p:Pos)(k:Pos->R),abx p k=k p.succ
 | .h,_=>rfl
 | .o _,_=>rfl
 | .i p,k=>Rq p λq=>k (.o q)
variable(z : R)
def uA{α:Type}(r:Option α)(k:α->R):R:=match r with
 |some x=>k x
 |none=>z
theorem agK(fr:Fr)(x:ic)(k:AV->R):evK z fr x k=uA z (Gn fr x) k:=by
 cases x with
 |t p=>simp only[evK,BX,Gn,uA];cases T.get p fr<;>rfl
 |c v=>rfl
theorem adm(fr:Fr):∀(xs:List ic)(k:List AV->R),ada z fr xs k=uA z (fS fr xs) k
 |[],k=>rfl
 |x::xs,k=>by
  show evK z fr x (λv=>ada z fr xs λvs=>k (v::vs))=_;rw[agK];simp only[adm fr xs];simp only[fS];cases Gn fr x with
  |none=>rfl
  |some v=>simp only[uA];cases fS fr xs<;>rfl
theorem abP(fr:Fr)(g:Option (Pos×Bool))(yes no:R):Ky z fr g yes no=match cK fr g with
  |some true=>yes
  |some false=>no
  |none=>z:=by
 unfold Ky cK;cases g with
 |none=>rfl
 |some g=>
  obtain⟨p,want⟩:=g;simp only[BX];cases T.get p fr with
  |none=>rfl
  |some v=>
   (cases v<;>try rfl);rename_i b;cases b<;>cases want<;>rfl
theorem abQ(fr:Fr)(d:Option Pos)(v:AV)(k:Fr->R):oe fr d v k=k (eu fr d v):=by
 cases d with
 |none=>rfl
 |some p=>exact om _ _ _ _
theorem arO(st:St)(del:Option Pos)(set:Option (Pos×AB))(new:Option AB)(k:St->R):aoH st del set new k=k (st.bk del set new):=by
 have hdel:∀(h:T AB)(k:T AB->R),delK del h k=k (KN del h):=λh k=>by
  cases del with
  |none=>rfl
  |some b=>exact om _ _ _ _
 have Ij:∀(h:T AB)(k:T AB->R),aoG set h k=k (NS set h):=λh k=>by
  cases set with
  |none=>rfl
  |some b=>simp only[aoG,Rp,om];rfl
 unfold aoH;rw[hdel,Ij];cases new with
 |none=>rfl
 |some x=>simp only[Rp,om,Rq];rfl
def CK(bU:sN R)(call:aj):Prop:=∀f args st k,bU f args st k=uA z (call f args st) λx=>k x.1 x.2
variable{bU : sN R}{call : aj}
theorem Rr(h:T AB):(λb=>Br b h)=λb=>h.get b:=funext λb=>BX b h
theorem agL(hc:CK z bU call)(op:aG)(xs:List AV)(st:St)(k:AV->St->R):Yg z bU op xs st k=uA z (cH call op xs st) λx=>k x.1 x.2:=by
 unfold Yg cH;rw[Rr];cases op.run (λb=>st.heap.get b) st.next xs with
 |none=>rfl
 |some r=>
  cases r with
  |val v=>simp only[MZ];rfl
  |bk v d s n=>simp only[MZ,arO];rfl
  |call f args=>simp only[MY];exact hc f args st k
theorem Yj(hc:CK z bU call):∀(ops:List bQ)(fr:Fr)(st:St)(k:Fr->St->R),adb z bU ops fr st k=uA z (mH call ops fr st) λx=>k x.1 x.2
 |[],fr,st,k=>rfl
 |o::os,fr,st,k=>by
  show Ky z fr o.guard (ada z fr o.xs λxs=>Yg z bU o.k xs st λv st=>oe fr o.dst v λfr=>adb z bU os fr st k) (oe fr o.dst .undef λfr=>adb z bU os fr st k)=_;rw[abP,adm];simp only[agL z hc,abQ,Yj hc os];simp only[mH];cases cK fr o.guard with
  |none=>rfl
  |some b=>
   cases b with
   |false=>rfl
   |    true=>
        simp only[];cases fS fr o.xs with
        |none=>rfl
        |some xs=>
         simp only[uA];cases cH call o.k xs st with
         |none=>rfl
         |some x=>rfl
theorem K8(bY:Nat)(h:T AB):∀(recs:List Rec)(k:T AB->R),QY bY h recs k=k (snap bY h recs)
 |[],k=>rfl
 |r::rs,k=>by
  show (match r.c with
   |    .new id aM=>match bY.testBit r.idx with
        |true=>QY bY h rs λh'=>wY (some aM) id h' k
        |false=>QY bY h rs k
   | .bk _ _=>k h
   | .pure=>QY bY h rs k)=_
  unfold snap;cases r.c with
  |pure=>exact K8 bY h rs k
  |bk _ _=>rfl
  |new id aM=>
   simp only[];cases bY.testBit r.idx with
   |true=>simp only[K8 bY h rs,om]
   |false=>exact K8 bY h rs k
theorem aev(h:T AB):∀(l:List (Pos×AB))(k:T AB->R),agm h l k=k (nK l h)
 |[],k=>rfl
 |(id,aM)::l,k=>by show agm h l (λh'=>wY (some aM) id h' k)=_;rw[aev h l,om];rfl
theorem CP(bY:Nat)(op:aG)(xs:List AV)(v:AV):∀(recs:List Rec)(up:List (Pos×AB)),uY bY op xs v up recs=od bY op xs v up recs
 |[],up=>rfl
 |r::rs,up=>by
  unfold uY od;cases r.c with
  |pure=>exact CP bY op xs v rs up
  |new id aM=>simp only[CP bY op xs v rs]<;>(cases bY.testBit r.idx<;>rfl)
  |bk base _=>
   simp only[CP bY op xs v rs,K8,aev];unfold ago oY;simp only[Rr]<;>(cases bY.testBit r.idx<;>rfl)
theorem agM (hc:CK z bU call):∀(ops:List (Nat×bQ))(recs:List Rec)(base:T AB)(fr:Fr)(st:St)(k:Fr->St->R),
  QZ z bU ops recs base fr st k=uA z (dY call ops recs base fr st) λx=>k x.1 x.2
 |[],recs,base,fr,st,k=>rfl
 |(j,   o)::  os,recs,base,fr,st,k=>by
  show Ky   z fr o.guard
    (ada z fr o.xs λxs=>match o.cls with
        | .new=>match o.k.run (λ_=>none) st.next xs with
          |some (.bk v none none (some aM))=>wz v λv=>Kw aM λaM=>oe fr o.dst v λfr=>abx st.next λn=>wY (some aM) st.next st.heap λh=>
              QZ z bU os ({ idx:=j,o:=o,v:=v,c:= .new st.next aM,nx:=n }::recs) base fr { heap:=h,next:=n } k
          |_=>z
        | .bk=>Yg z bU o.k xs st λv st'=>oe fr o.dst v λfr=>QZ z bU os ({ idx:=j,o:=o,v:=v,c:= .bk base st'.heap,nx:=st'.next }::recs) st'.heap fr st' k
        | _ =>match o.k.run (λ_=>none) .h xs with
          |some (.val v)=>wz v λv=>oe fr o.dst v λfr=>QZ z bU os ({ idx:=j,o:=o,v:=v,c:= .pure,nx:=st.next }::recs) base fr st k
          | _ =>QY o.bY base recs λh=>match o.k.run (λb=>Br b h) .h xs with
            | some (.val v)=>wz v λv=>match uY o.bY o.k xs v [] recs with
              |true=>oe fr o.dst v λfr=>QZ z bU os ({ idx:=j,o:=o,v:=v,c:= .pure,nx:=st.next }::recs) base fr st k
              |false=>z
            |_=>z)
    (oe fr o.dst .undef λfr=>QZ z bU os ({ idx:=j,o:=o,v:= .undef,c:= .pure,nx:=st.next }::recs) base fr st k)=_
  rw[abP,adm];simp only[agL z hc,abQ,MZ,Rp,Rq,om,K8,CP,Rr,agM hc os];simp only[dY];cases cK fr o.guard with
  |none=>rfl
  | some b=>
    cases b with
    |false=>rfl
    |   true=>
        simp only[];cases fS fr o.xs with
        |none=>rfl
        | some xs=>
          simp only[uA];cases o.cls with
          | new=>
            simp only[];split<;>simp_all
          | bk=>
            simp only[];cases cH call o.k xs st with
            |none=>rfl
            |some x=>rfl
          | pure=>
            simp only[];split
            . simp_all
            . split<;>simp_all;split<;>simp_all
          | read=>
            simp only[];split
            . simp_all
            . split<;>simp_all;split<;>simp_all
def agN(r:Option (oH×Fr×St))(kn:Fr->St->R)(kx:Nat->Fr->St->R)(kr:Fr->St->R):R:=match r with
 |some (.normal,fr,st)=>kn fr st
 |some (.exit id,fr,st)=>kx id fr st
 |some (.ret,fr,st)=>kr fr st
 |none=>z
theorem aaC(hc:CK z bU call):∀(m:Nat)(c:AC)(fr:Fr)(st:St)(kn:Fr->St->R)(kx:Nat->Fr->St->R)(kr:Fr->St->R),
  aby z bU m c fr st kn kx kr=agN z (exec call m c fr st) kn kx kr
 |0,c,fr,st,kn,kx,kr=>rfl
 |m+    1,c,fr,st,kn,kx,kr=>by
  have ih:=aaC hc m;show uZ z bU (aby z bU m) c fr st kn kx kr=agN z (bC call (exec call m) c fr st) kn kx kr;cases c with
  |skip=>rfl
  |region ops=>
   simp only[uZ,bC,Yj z hc];cases mH call ops fr st with
   |none=>rfl
   |some x=>rfl
  |draw ops=>
   simp only[uZ,bC,agM z hc];cases dY call ops [] st.heap fr st with
   |none=>rfl
   |some x=>rfl
  |seq a b=>
   simp only[uZ,bC,ih];cases exec call m a fr st with
   |none=>rfl
   |    some x=>
        obtain⟨e,eZ,bD⟩:=x;cases e<;>rfl
  |cond x a b=>
   simp only[uZ,bC,agK];cases Gn fr x with
   |none=>rfl
   |    some v=>
        simp only[uA];(cases v<;>try rfl);rename_i t;cases t<;>simp only[ih]
  |block id a=>
   simp only[uZ,bC,ih];cases exec call m a fr st with
   |none=>rfl
   |    some x=>
        obtain⟨e,eZ,bD⟩:=x;(cases e<;>try rfl);rename_i xH;simp only[agN];cases Nat.beq xH id<;>rfl
  |loop a=>
   simp only[uZ,bC,ih];cases exec call m a fr st with
   |none=>rfl
   |    some x=>
        obtain⟨e,eZ,bD⟩:=x;cases e<;>rfl
  |exit id=>rfl
  |ret=>rfl
theorem Rs:∀(vs:List AV)(i:Nat)(fr:Fr)(k:Fr->R),OQ vs i fr k=k (params i vs fr)
 |[],i,fr,k=>rfl
 |v::vs,i,fr,k=>by show wY (some v) (key i) fr (λfr=>OQ vs (i+1) fr k)=_;rw[om,Rs vs];rfl
theorem ai1(st:St)(fr:Fr)(rs:List OL)(k:AV->R):Fv z st fr rs k=uA z (gQ (λb=>st.heap.get b) fr rs) λvs=>k (zi vs):=by
 unfold Fv;rw[Rr];cases gQ (λb=>st.heap.get b) fr rs with
 |none=>rfl
 |some vs=>
  simp only[Ro,uA];cases vs with
  |nil=>rfl
  |cons v vs=>cases vs<;>rfl
theorem FB (O:eP)(G:T dN)(m:Nat):∀d,CK z (MJ z O G m d) (um O G m d)
 |0=>λf args st k=>rfl
 |d+    1=>fun f args st k=>by
  have ih:=FB O G m d;show( match O f with
   |    some s=>match s args st with
        |some (v,st')=>wz v λv=>k v st'
        |none=>z
   |    none=>match Br (key f) G with
        |some F=>match Nat.beq args.length F.nparams with
         |true=>OQ args 0 .e λfr=>aby z (MJ z O G m d) m F.code fr st
             (λfr st=>Fv z st fr F.results λv=>k v st)
             (λ_ _ _=>z)
             (λfr st=>Fv z st fr F.results λv=>k v st)
         |false=>z
        |none=>z)=_
  simp only[um,MZ,BX,Rs,aaC z ih,ai1];cases O f with
  |some s=>
   simp only[];cases s args st with
   |none=>rfl
   |some x=>rfl
  |none=>
   simp only[];cases G.get (key f)with
   |none=>rfl
   |    some F=>
        simp only[];cases Nat.beq args.length F.nparams with
        |false=>rfl
        |true=>
         simp only[];cases exec (um O G m d) m F.code (params 0 args .e) st with
         |none=>rfl
         |  some x=>
            obtain⟨e,eZ,bD⟩:=x;cases e with
            |normal=>
             simp only[agN];cases gQ (λb=>bD.heap.get b) eZ F.results<;>rfl
            |exit id=>rfl
            |ret=>
             simp only[agN];cases gQ (λb=>bD.heap.get b) eZ F.results<;>rfl
end
end
section
open Go
def akS (P :Program)(t:Nat)(ti:TI):Bool:=
 match P.underlying t,P.info? t with
 |  some d,some i=>bZ ti.k d&&Nat.beq i.size ti.size&&Nat.beq i.bytes ti.bytes&&
    (match ti.zero with
     |none=>true
     |some z=>match i.zero with
      |some v=>(match sM v.cells.toList with
           |some z'=>tL z' z
           |none=>false)&&Nat.beq z.length ti.size&&(match ti.k.isAgg,v with
           |true,.agg _=>true
           |true,_=>false
           |false,.agg _=>false
           |false,_=>true)
      |none=>false)&&(match ti.k with
     | .ptr e=>(P.info? e).isSome
     |_=>true)&&(!ti.Bc||(!P.stoodInHeld t&& !P.eqGuardType P.depth t))
 |_,_=>false
theorem ao6{P:Program}{t:Nat}{ti:TI}(h:akS P t ti=true):akr P t ti:=by
 unfold akS at h;split at h<;>first|(cases h;done)|skip
 rename_i d i hd hi;simp only[Zb5,Zj4,Zk5]at h;obtain⟨⟨⟨⟨⟨h1,h2⟩,h3⟩,h4⟩,h6⟩,h5⟩:=h;refine⟨⟨d,hd,h1⟩,⟨i,hi,Za6 h2,Za6 h3,λz hz=> ?_⟩,λe he=> ?_,λhe=> ?_⟩
 . rw[hz]at h4;simp only at h4;(split at h4<;>first|(cases h4;done)|skip);rename_i v hv;simp only[Zb5]at h4;obtain⟨⟨g1,g2⟩,g3⟩:=h4;(split at g1<;>first|(cases g1;done)|skip);rename_i z' MP;rw[Gf g1]at MP;refine⟨v,hv,MP,Za6 g2,λha=> ?_,λha=> ?_⟩
   . rw[ha]at g3;cases v<;>first|exact⟨_,rfl⟩|cases g3
   . rw[ha]at g3;cases v<;>first|rfl|cases g3
 . rw[he]at h6;exact Zn2.1 h6
 . rcases h5 with h5|h5
   . rw[he]at h5;cases h5
   . exact h5
def Kz(P:Program):(Pos->Pos)->T TI->Bool
 |_,.e=>true
 |  f,.n l v r=>(match v with
    |some ti=>akS P ((f .h).toNat - 1) ti
    |none=>true)&&Kz P (λp=>f (.o p)) l&&Kz P (λp=>f (.i p)) r
theorem Rt{P:Program}:∀{t:T TI}{f:Pos->Pos},Kz P f t=true->∀p ti,t.get p=some ti->akr P ((f p).toNat - 1) ti
 | .e,f,_,p,ti,h=>by rw[T.dO]at h;cases h
 | .n l v r,f,hc,p,ti,h=>by
   simp only[Kz,Zb5]at hc;cases p with
   |h=>simp only[T.get]at h;rw[h]at hc;exact ao6 hc.1.1
   |o p=>exact Rt hc.1.2 p ti h
   |i p=>exact Rt hc.2 p ti h
theorem arP{P:Program}{tt:TT}(h:Kz P (λp=>p) tt=true):dy P tt:=λp ti hp=>Rt h p ti hp
end
noncomputable section
open Go
def Pc{α:Type}(g:Nat->Option α):Nat->Nat->Nat->T α
 |0,_,_=> .e
 |d+1,a,m=> .n (Pc g d a (2*m)) (g (a+m - 1)) (Pc g d (a+m) (2*m))
theorem Ru{α:Type}{g:Nat->Option α}:∀{d a m:Nat}{p:Pos}{x:α},(Pc g d a m).get p=some x->g (a+m*p.toNat - 1)=some x
 |0,_,_,p,x,h=>by rw[Pc,T.dO]at h;cases h
 |d+1,a,m,.h,x,h=>by rw[Pos.toNat,Zk4];exact h
 |d+1,a,m,.o p,x,h=>by
  have:=Ru (d:=d) (a:=a) (m:=2*m) (p:=p) (x:=x) h;rw[Pos.toNat];have e:a+m*(2*p.toNat) - 1=a+2*m*p.toNat - 1:=by rw[<-Nat.mul_assoc,Nat.mul_comm m 2]
  rw[e];exact this
 |d+1,a,m,.i p,x,h=>by
  have:=Ru (d:=d) (a:=a+m) (m:=2*m) (p:=p) (x:=x) h;rw[Pos.toNat];have e:a+m*(2*p.toNat+1) - 1=a+m+2*m*p.toNat - 1:=by rw[Nat.mul_add,Zk4, <-Nat.mul_assoc,Nat.mul_comm m 2];omega
  rw[e];exact this
def arc(P:Program)(tt:TT)(i:Nat):Option dN:=match P.funcs[i]? with
 |some fn=>akq tt fn
 |none=>none
def ggOf(P:Program)(tt:TT):T dN:=Pc (arc P tt) 10 0 1
theorem arQ{P:Program}{tt:TT}(h:(P.funcs.toList.all λfn=> !(fn.name== "runtime.NumGoroutine"))=true):GOk P tt (ggOf P tt):=λp F hp=>by
 have:=Ru hp;rw[Zb6,Zp0,arc]at this;split at this<;>first|(cases this;done)|skip
 rename_i fn Gu;refine⟨fn,Gu,?_,this⟩;have:=Zg9.1 h fn (by obtain⟨hi,e⟩:=Zd1.1 Gu;exact Array.mem_toList_iff.2 (e ▸Array.getElem_mem hi));simpa using this
def tkOf(P:Program)(t:Nat):TK:=match P.underlying t with
 |some .bool=> .bool
 |some (.int k)=> .int k
 |some .string=> .string
 |some (.pointer e)=> .ptr e
 |some (.slice e)=> .slice e
 |some (.array n e)=> .array n e
 |some (.map k e)=> .map k e
 |some (.struct fs)=> .struct (fs.toList.map λf=>(f.offset,f.type,f.name != "_"))
 |some (.func _ _ _)=> .func
 |some (.interface _)=> .iface
 |some .unsafePointer=> .upt
 |_=> .other
def zeroOf:Option Value->Option (List AV)
 |  some v=>match Nat.ble v.cells.size 64 with
    |true=>sM v.cells.toList
    |false=>none
 |none=>none
def memN(n:Nat):List Nat->Bool
 |[]=>false
 |  m::l=>match Nat.beq m n with
    |true=>true
    |false=>memN n l
def tiOf(P:Program)(eqs:List Nat)(t:Nat):Option TI:=match P.info? t with
 |none=>none
 |some i=>some { k:=tkOf P t,size:=i.size,bytes:=i.bytes,zero:=zeroOf i.zero,Bc:=memN t eqs }
def ttOf(P:Program)(eqs:List Nat):T TI:=Pc (tiOf P eqs) 10 0 1
def kI(n:Nat):AV:= .int .i64 (.ofNat n)
def kU(n:Nat):AV:= .int .u8 (.ofNat n)
def kN(p n e:Nat):AV:= .slice (key p) 0 n none e
def kS(p n c e:Nat):AV:= .slice (key p) 0 n (some c) e
end
section
open Go
structure tQ(P:Program)(C:Cells)(f:FuncId)(s:List AV->St->Option (AV×St)):Prop where
 mono:∀args st v st',s args st=some (v,st')->st.next.toNat<=st'.next.toNat
 runs:∀(ρ:Pos->Loc)(st:St)(w:World)(args:List AV)(v:AV)(st':St)(cM:List Value),s args st=some (v,st')->
  cq ρ C st w->aK ρ st.next.toNat C args cM->Reaches P (oh ρ C st w v st') ((callFunc f cM.toArray).run P w)
def vC:List (Nat×(List AV->St->Option (AV×St)))->eP
 |[]=>λ_=>none
 |  (g,s)::l=>λf=>match Nat.beq f g with
    |true=>some s
    |false=>vC l f
theorem yy{P:Program}{C:Cells}:∀{l:List (Nat×(List AV->St->Option (AV×St)))},(∀x∈l,tQ P C x.1 x.2)->vz P C (vC l)/\oI (vC l)
 |[],_=>⟨λf s h=>by simp[vC]at h,λf s h=>by simp[vC]at h⟩
 |(g,   s0)::l,hl=>by
  obtain⟨h1,h2⟩:=yy λx hx=>hl x (Za9 _ hx)
  have h0:=hl _ (Zd2 ..);refine⟨λf s h=> ?_,λf s h=> ?_⟩
  . simp only[vC]at h;split at h
    .   rename_i he;simp only[H5]at h;subst h;have:=Za6 he;subst this;exact h0.runs
    .   exact h1 f s h
  . simp only[vC]at h;split at h
    .   simp only[H5]at h;subst h;exact h0.mono
    .   exact h2 f s h
def FC:List AV->St->Option (AV×St)
 |  [.str a,.str b],st=>some (.int .i64 (match aN a b with
    |true=> .negSucc 0
    |false=>match aN b a with
     |true=> .ofNat 1
     |false=> .ofNat 0),st)
 |_,_=>none
theorem VI:∀(x y:List UInt8),Lib.compareBytes x y=match aN (x.map UInt8.toNat) (y.map UInt8.toNat)with
  |true=> .negSucc 0
  | false=>match aN (y.map UInt8.toNat) (x.map UInt8.toNat)with
    |true=> .ofNat 1
    |false=> .ofNat 0
 |[],[]=>rfl
 |[],_::_=>rfl
 |_::_,[]=>rfl
 |a ::x  ,b::y=>by
  rw[wQ,wQ];have ih:=VI x y;rw[wQ,wQ]at ih;simp only[Lib.compareBytes,Op.bytesLess];by_cases h:a<b
  . simp[h]
  . by_cases h':b<a
    .   have dJ:(a==b)=false:=(by rw[Zn1];exact λe=>by subst e;exact h h');simp[h,h',dJ]
    .   have he:a=b:=(by apply Zr3.1;rw[Zo3]at h h';omega);subst he;simp only[h,Zh2,ih];simp
theorem ao7{P:Program}{C:Cells}{f:FuncId}{fn:Func}(hf:P.funcs[f]? =some fn)(qd:(fn.name== "runtime.NumGoroutine")=false)(hb:fn.body.isNone=true)
  (hx:Extern.findNext fn=none) (he:Extern.find fn=some Extern.BytealgCompare.compare):tQ P C f FC where
 mono args st v st' h:=by unfold FC at h;split at h<;>cases h;exact Za3 _
 runs ρ st w args v st' cM h hW hv:=by
  unfold FC at h;split at h<;>cases h;rename_i a b;obtain⟨x,xs,rfl,h1,h2⟩:=hv.cons_inv;obtain⟨y,ys,rfl,h3,h4⟩:=h2.cons_inv;have:=h4.qy;subst this;obtain⟨s,rfl,hs⟩:=h1.fu;obtain⟨t,rfl,ht⟩:=h3.fu;have dP:(callFunc f [Value.string s,Value.string t].toArray).run P w= .ok (.value (.int .i64 (Lib.compareBytes s.data.toList t.data.toList))) w:=by rw[run_callFunc_extern hf qd hb hx he];show((Extern.BytealgCompare.compare #[.string s,.string t]).run P w).andThen _=_;rw[Lib.run_compareString];rfl
  rw[dP];refine⟨ρ,?_,λ_ _=>rfl,Za3 _,hW,qm.refl _ _ _⟩;rw[VI,hs,ht];exact .int _ _
theorem cq.sub{ρ:Pos->Loc}{C:Cells}{st:St}{w:World}(h:cq ρ C st w){h2:T AB}(hs:∀b x,h2.get b=some x->st.heap.get b=some x):cq ρ C { heap:=h2,next:=st.next } w where
 live b x hb:=h.live b x (hs b x hb)
 inj b b' x x' hb eN he:=h.inj b b' x x' (hs b x hb) (hs b' x' eN) he
 ei a v ha:=⟨(h.ei a v ha).1,λb x hb=>(h.ei a v ha).2 b x (hs b x hb)⟩
 whole:=h.whole
theorem oh.frame{ρ:Pos->Loc}{C:Cells}{st st':St}{w w':World}{v:AV}{x:Value}{h0 h2:T AB}(hW:cq ρ C st w)(yw:∀b y,h0.get b=some y->st.heap.get b=some y)
   (h:oh ρ C { heap:=h0,next:=st.next } w v st' x w')
   (h2s:∀b y,h2.get b=some y->st'.heap.get b=some y\/(st.heap.get b=some y/\h0.get b=none)):
   oh ρ C st w v { heap:=h2,next:=st'.next } x w':=by
 obtain⟨ρ',hv,bE,hn,jk,hE⟩:=h;have hold:∀b y,st.heap.get b=some y->h0.get b=none->∀b' y',h0.get b'=some y'->(ρ b').aM≠(ρ b).aM:=λb y hb yj b' y' eN e=>by have:=hW.inj b' b y' y (yw b' y' eN) hb e;subst this;rw[yj]at eN;cases eN
 have amH:∀b y b' y',st'.heap.get b=some y->st.heap.get b'=some y'->h0.get b'=none->(ρ' b).aM≠(ρ' b').aM:=λb y b' y' hb eN yj e=>by
   rw[bE b' (hW.live b' y' eN).1]at e;rcases hE.yh b y hb with⟨b2,y2,g1,g2⟩|g1
   . exact hold b' y' eN yj b2 y2 g1 (g2.trans e)
   . have:=(hW.live b' y' eN).2.1;omega
 refine⟨ρ',hv,bE,hn,⟨λb y hb=> ?_,λb b' y y' hb eN he=> ?_,λa u ha=>⟨(jk.ei a u ha).1,λb y hb=> ?_⟩,jk.whole⟩,⟨hE.os,hE.tape,hE.output,hE.size,λk hk nQ=> ?_,λb y hb=> ?_⟩⟩
 . rcases h2s b y hb with hb|⟨hb,yj⟩
   . exact jk.live b y hb
   . obtain⟨g1,g2,g3⟩:=hW.live b y hb;refine⟨Zc8 g1 hn,?_,?_⟩
     .  rw[bE b g1];exact Zc8 g2 hE.size
     .  rw[bE b g1];exact(g3.mono bE hn).of_heap (hE.block _ g2 λb' y' eN=>hold b y hb yj b' y' eN)
 . rcases h2s b y hb with hb|⟨hb,yj⟩<;>rcases h2s b' y' eN with eN|⟨eN,hb0'⟩
   . exact jk.inj b b' y y' hb eN he
   . exact absurd he (amH b y b' y' hb eN hb0')
   . exact absurd he.symm (amH b' y' b y eN hb yj)
   . rw[bE b (hW.live b y hb).1,bE b' (hW.live b' y' eN).1]at he;exact hW.inj b b' y y' hb eN he
 . rcases h2s b y hb with hb|⟨hb,yj⟩
   . exact(jk.ei a u ha).2 b y hb
   . rw[bE b (hW.live b y hb).1];exact(hW.ei a u ha).2 b y hb
 . exact hE.block k hk λb y hb=>nQ b y (yw b y hb)
 . rcases h2s b y hb with hb|⟨hb,yj⟩
   . rcases hE.yh b y hb with⟨b',y',g1,g2⟩|g1
     .  exact .inl ⟨b',y',yw b' y' g1,g2⟩
     .  exact .inr g1
   . exact .inl ⟨b,y,hb,by rw[bE b (hW.live b y hb).1]⟩
def K9:List AV->List AV->Bool
 |[],[]=>true
 |a::x,b::y=>ey a b&&K9 x y
 |_,_=>false
theorem VJ:∀{a b:List AV},K9 a b=true->a=b
 |[],[],_=>rfl
 |[],_::_,h=>by simp[K9]at h
 |_::_,[],h=>by simp[K9]at h
 |a::x,b::y,h=>by
  simp only[K9,Zb5]at h;rw[yu h.1,VJ h.2]
def Yk:List (AV×AV×Nat)->List (AV×AV×Nat)->Bool
 |[],[]=>true
 |(a,b,n)::x,(a',b',n')::y=>ey a a'&&ey b b'&&Nat.beq n n'&&Yk x y
 |_,_=>false
theorem agO:∀{a b:List (AV×AV×Nat)},Yk a b=true->a=b
 |[],[],_=>rfl
 |[],_::_,h=>by simp[Yk]at h
 |_::_,[],h=>by simp[Yk]at h
 |(a,b,n)::x,(a',b',n')::y,h=>by
  simp only[Yk,Zb5]at h;obtain⟨⟨⟨h1,h2⟩,h3⟩,h4⟩:=h;rw[yu h1,yu h2,Za6 h3,agO h4]
def abR:AB->AB->Bool
 | .cells cs fz,.cells nv fz'=>K9 cs nv&&Nat.beq fz fz'
 | .map es c,.map es' c'=>Yk es es'&&Nat.beq c c'
 |_,_=>false
theorem aaD{a b:AB}(h:abR a b=true):a=b:=by
 unfold abR at h;split at h<;>(try simp only[Zb5]at h)
 . rw[VJ h.1,Za6 h.2]
 . rw[agO h.1,Za6 h.2]
 . cases h
def hasAll(h:T AB):List (Pos×AB)->Bool
 |[]=>true
 |  (b,x)::l=>(match h.get b with
    |some y=>abR y x
    |none=>false)&&hasAll h l
theorem VK{h:T AB}:∀{l:List (Pos×AB)},hasAll h l=true->∀b x,(b,x)∈l->h.get b=some x
 |[],_,b,x,hm=>by cases hm
 |(b0,x0)::l,hh,b,x,hm=>by
  simp only[hasAll,Zb5]at hh;rcases Zb0.1 hm with hm|hm
  . cases hm;have h1:=hh.1;(split at h1<;>first|(cases h1;done)|skip);rename_i y hy;rw[hy,aaD h1]
  . exact VK hh.2 b x hm
theorem M7:∀{l:List (Pos×AB)}{h:T AB}{b:Pos}{x:AB},(nK l h).get b=some x->(b,x)∈l\/(h.get b=some x/\∀y∈l,y.1≠b)
 |[],h,b,x,hb=> .inr ⟨hb,λy hy=>by cases hy⟩
 |(b0,x0)::l,h,b,x,hb=>by
  unfold nK at hb;by_cases e:b0=b
  . subst e;rw[T.gH]at hb;simp only[H5]at hb;subst hb;exact .inl (Zd2 ..)
  . rw[T.bX _ e]at hb;rcases M7 hb with h1|⟨h1,h2⟩
    .   exact .inl (Za9 _ h1)
    .   refine .inr ⟨h1,λy hy=> ?_⟩;rcases Zb0.1 hy with rfl|hy
        . exact e
        . exact h2 y hy
structure Lit where
 args:List AV
 n0:Pos
 L0:List (Pos×AB)
 v:AV
 n1:Pos
 L1:List (Pos×AB)
def abS(l m:List (Pos×AB)):Bool:=l.all λx=>m.any λy=>Pos.beq x.1 y.1
def Rv(t:Lit):List AV->St->Option (AV×St):=λargs st=>
 match K9 args t.args&&Pos.beq st.next t.n0&&hasAll st.heap t.L0 with
 |true=>some (t.v,{ heap:=nK t.L1 st.heap,next:=t.n1 })
 |false=>none
noncomputable def abT(t:Lit)(O:eP)(G:T dN)(m d f:Nat):Bool:=
 MJ (R:=Bool) false O G m d f t.args { heap:=nK t.L0 .e,next:=t.n0 } λv st=>ey v t.v&&Pos.beq st.next t.n1&&hasAll st.heap t.L1
theorem agP{P:Program}{C:Cells}{t:Lit}{O:eP}{G:T dN}{m d f:Nat}(cV:iZ P C (um O G m d))(akR:pG (um O G m d))
   (hk:abS t.L0 t.L1=true) (h:abT t O G m d f=true):tQ P C f (Rv t):=by
 unfold abT at h;rw[FB false O G m d]at h;unfold uA at h;split at h<;>first|(cases h;done)|skip
 rename_i x hx;obtain⟨v,bD⟩:=x;simp only[Zb5]at h;obtain⟨⟨h1,h2⟩,h3⟩:=h;have h1:=yu h1;have h2:=Pos.beq_eq.1 h2;subst h1;have unf:∀args st v' st',Rv t args st=some (v',st')->args=t.args/\st.next=t.n0/\hasAll st.heap t.L0=true/\v'=t.v/\st'={ heap:=nK t.L1 st.heap,next:=t.n1 }:=by
   intro args st v' st' hs;unfold Rv at hs;(split at hs<;>first|(cases hs;done)|skip);rename_i hc;simp only[Zb5]at hc;simp only[H5,Zc9]at hs;exact⟨VJ hc.1.1,Pos.beq_eq.1 hc.1.2,hc.2,hs.1.symm,hs.2.symm⟩
 refine⟨λargs st v' st' hs=> ?_,λρ st w args v' st' cM hs hW hv=> ?_⟩
 . obtain⟨rfl,g2,g3,rfl,rfl⟩:=unf _ _ _ _ hs;have:=akR _ _ _ _ _ hx;rw[g2, <-h2];exact this
 . obtain⟨ rfl,g2,g3,rfl,rfl⟩:=unf _ _ _ _ hs;have yw:∀b y,(nK t.L0 T.e).get b=some y->st.heap.get b=some y:=λb y hb=>by
    rcases M7 hb with hb|⟨hb,_⟩
    .   exact VK g3 b y hb
    .   rw[T.dO]at hb;cases hb
   have wD:um O G m d f t.args { heap:=nK t.L0 .e,next:=st.next }=some (t.v,bD):=(by rw[g2];exact hx);refine Reaches.mono (λx w' hp=> ?_) (cV ρ _ w f t.args t.v bD cM wD (hW.sub yw) hv);have:=   hp.frame hW yw (h2:=nK t.L1 st.heap) λb y hb=>by
    rcases M7 hb with hb|⟨hb,nQ⟩
    .   exact .inl (VK h3 b y hb)
    .   refine .inr ⟨hb,?_⟩;cases hg:(nK t.L0 T.e).get b with
        |none=>rfl
        |some u=>
         exfalso;rcases M7 hg with hg|⟨hg,_⟩
         .  unfold abS at hk;rw[Zg9]at hk;have:=hk _ hg;rw[List.any_eq_true]at this;obtain⟨y',hy',he⟩:=this;exact nQ y' hy' (Pos.beq_eq.1 he).symm
         .  rw[T.dO]at hg;cases hg
   rw[h2]at this;exact this
def orS(s t:List AV->St->Option (AV×St)):List AV->St->Option (AV×St):=λargs st=>match s args st with
 |some r=>some r
 |none=>t args st
theorem agQ{P:Program}{C:Cells}{f:FuncId}{s t:List AV->St->Option (AV×St)}(hs:tQ P C f s)(ht:tQ P C f t):tQ P C f (orS s t) where
 mono args st v st' h:=by
  unfold orS at h;split at h
  . rename_i r hr;simp only[H5]at h;subst h;exact hs.mono _ _ _ _ hr
  . exact ht.mono _ _ _ _ h
 runs ρ st w args v st' cM h hW hv:=by
  unfold orS at h;split at h
  . rename_i r hr;simp only[H5]at h;subst h;exact hs.runs ρ st w args v st' cM hr hW hv
  . exact ht.runs ρ st w args v st' cM h hW hv
end
end Go.Ai
