/- Its calls answer as the model does. -/
import Derived.Test.YtngcejgciomphaaGreatDoorNEvalC
import Derived.Lib.Bytealg
set_option linter.all false
namespace Go.Ai
section
open Go Go.RowKit
theorem G8{a b:AV}(h:gq a b=true):a=b:=by
 unfold gq at h;split at h<;>(try simp only[Zb6,Zd3]at h)<;>try rfl
 .rw[beq_iff_eq.1 h]
 .rename_i k i k' i';have h2:=h.2;rw[pI]at h2;rw[Bm h.1,beq_iff_eq.1 h2]
 .rw[qN.1 h]
 .rw[Pos.beq_eq.1 h.1,Za7 h.2]
 .obtain⟨⟨⟨h1,h2⟩,h3⟩,h4⟩:=h;rw[Pos.beq_eq.1 h1,Za7 h2,Za7 h3,Za7 h4]
 .obtain⟨⟨⟨⟨h1,h2⟩,h3⟩,h4⟩,h5⟩:=h;rw[Pos.beq_eq.1 h1,Za7 h2,Za7 h3,Za7 h4,Za7 h5]
 .rw[Pos.beq_eq.1 h]
theorem Ll:∀{a b:List AV},AW a b=true->a=b
 |[],[],_=>rfl
 |[],_::_,h=>by simp[AW]at h
 |_::_,[],h=>by simp[AW]at h
 |a::x,b::y,h=>by
  simp only[AW,Zb6]at h;rw[G8 h.1,Ll h.2]
theorem abK{f:AV->AV->Bool}(hf:∀{a b},f a b=true->a=b):∀{a b:List AV},J0 f a b=true->a=b
 |[],[],_=>rfl
 |[],_::_,h=>by simp[J0]at h
 |_::_,[],h=>by simp[J0]at h
 |a::x,b::y,h=>by
  simp only[J0,Zb6]at h;rw[hf h.1,abK hf h.2]
theorem W7{f:AV->AV->Bool}(hf:∀{a b},f a b=true->a=b):∀{a b:List (List AV)},Bl f a b=true->a=b
 |[],[],_=>rfl
 |[],_::_,h=>by simp[Bl]at h
 |_::_,[],h=>by simp[Bl]at h
 |a::x,b::y,h=>by
  simp only[Bl,Zb6]at h;rw[abK hf h.1,W7 hf h.2]
theorem abL:∀{d:Nat}{a b:AV},J5 d a b=true->a=b
 |0,_,_,h=>by unfold J5 at h;exact G8 h
 |d +1,a,b,h=>by
  unfold J5 at h;split at h
  .rename_i heq;cases heq;simp only[Zb6]at h;rw[W7 (λh=>abL h) h.1,Za7 h.2]
  .exact G8 h
theorem W8{a b:AV}(h:nG a b=true):a=b:=by
 unfold nG at h;split at h
 .simp only[Zb6]at h;rw[Za7 h.1.1,Ll h.1.2,Ll h.2]
 .exact abL h
 .exact G8 h
theorem EO:∀{a b:List AV},pF a b=true->a=b
 |[],[],_=>rfl
 |[],_::_,h=>by simp[pF]at h
 |_::_,[],h=>by simp[pF]at h
 |a::x,b::y,h=>by
  simp only[pF,Zb6]at h;rw[W8 h.1,EO h.2]
theorem xS{a b:AV}(h:dO a b=true):a=b:=by
 unfold dO at h;split at h
 .rw[EO h]
 .rw[EO h]
 .exact W8 h
theorem aiA {k:aJ}{H H':Pos->Option AB}{n n':Pos}{xs:List AV}{v:AV}(h:k.run H n xs=some (.val v))(hm:∀b x,H b=some x->H' b=some x):
  k.run H' n' xs=some (.val v):=by
 cases k<;>simp only[aJ.run]at h ⊢ <;>try exact h
 case alloc z=>unfold NO at h;split at h<;>cases h
 case box=>unfold WD at h;split at h<;>cases h
 case buildSlice es len z p=>unfold vr at h;dsimp only at h;split at h<;>cases h
 case mkMap=>unfold NR at h;cases h
 case mkSlice es b z=>
  unfold Cl at h
  repeat' split at h
  all_goals cases h
 case store m=>
  unfold HV at h
  repeat' split at h
  all_goals cases h
 case mapSet pk=>
  unfold Bj at h
  repeat' split at h
  all_goals cases h
 case load m=>
  unfold yX at h ⊢;split at h<;>first|(cases h;done)|skip
  split at h<;>first|(cases h;done)|skip
  . (split at h<;>first|(cases h;done)|skip);rename_i cs fz hb;simp only[hm _ _ hb];exact h
  .exact h
 case conv c=>
  unfold Hz at h ⊢;split at h<;>first|(cases h;done)|skip
  split at h<;>first|(cases h;done)|exact h|skip
  rename_i b off m _ _;cases hb:Nat.beq m 0 with
  |true=>simp only[hb]at h ⊢; exact h
  | false=>
    simp only[hb]at h ⊢;cases hH:H b with
    |none=>simp[hH]at h
    |some x=>simp only[hH]at h;simp only[hm _ _ hH];exact h
 case lookup pk z ok=>
  unfold Bi at h ⊢;split at h<;>first|(cases h;done)|skip
  rename_i m k';cases m<;>try exact h
  rename_i b;cases hb:H b with
  |none=>simp[hb]at h
  | some x=>
    simp only[hb]at h;simp only[hm _ _ hb];exact h
 case lenB lk=>
  unfold Mj at h ⊢;split at h<;>first|(cases h;done)|skip
  split at h<;>first|(cases h;done)|exact h|skip
  split at h<;>first|(cases h;done)|skip
  rename_i es c hb;simp only[hm _ _ hb];exact h
 case clearS es z=>
  unfold Bk at h ⊢;split at h<;>first|(cases h;done)|skip
  split at h<;>first|(cases h;done)|exact h|skip
  rename_i b off m _ _;cases hb:Nat.beq m 0 with
  |true=>simp only[hb]at h ⊢; exact h
  | false=>
    simp only[hb]at h
    repeat' split at h
    all_goals cases h
 case copyB es=>
  unfold Ef at h ⊢;split at h<;>first|(cases h;done)|skip
  rename_i d x;cases hd:dX d with
  |none=>simp[hd]at h
  | some m1=>
    cases hx:dX x with
    |none=>simp[hd,hx]at h
    |   some m2=>
        simp only[hd,hx]at h ⊢;cases hb:Nat.beq (min m2 m1) 0 with
        |true=>simp only[hb]at h ⊢; exact h
        |false=>
         simp only[hb]at h;(split at h<;>first|(cases h;done)|skip);(split at h<;>first|(cases h;done)|skip);split at h<;>cases h
 case append es bytes=>
  unfold gR at h ⊢;split at h<;>first|(cases h;done)|skip
  rename_i s x;cases hd:dX s with
  |none=>simp[hd]at h
  | some m1  =>
    cases hx:dX x with
    |none=>simp[hd,hx]at h
    |   some m2=>
        simp only[hd,hx]at h ⊢;cases h1:Nat.ble ((2*(m1+m2)+768)*bytes) 281474976710656 with
        |false=>simp[h1]at h
        |true=>
         cases h2:Nat.ble (m1+m2) 9223372036854775807 with
         |false=>simp[h1,h2]at h
         |  true=>
            simp only[h1,h2]at h ⊢;cases hb:Nat.beq m2 0 with
            |true=>
             simp only[hb]at h ⊢;split at h<;>first|(cases h;done)|exact h|skip
             all_goals (simp_all;done)
            |false=>
             simp only[hb]at h
             repeat' split at h
             all_goals first
               |(rename_i e;cases e;done)
               |(rename_i e _;cases e;done)
               |(cases h;done)
               |simp_all
inductive Od(n:Pos):AV->AB->Prop where
 |ptr (cs:List AV):Od n (.ptr n 0) (.cells cs 0)
 |slice (len es:Nat) (cap:Option Nat) (cs:List AV) (h:len=0->cap=none\/cap=some 0->cs=[]):Od n (.slice n 0 len cap es) (.cells cs 0)
 |map:Od n (.map n) (.map [] 0)
theorem ZH:∀{ps:List (Nat×Nat)}{xs cs:List AV},cH [] ps xs=some cs->cs=[]
 |[],[],cs,h=>by simp[cH]at h;exact h.symm ▸rfl
 |[],_::_,cs,h=>by simp[cH]at h
 |_::_,[],cs,h=>by simp[cH]at h
 |(off,size)::ps,v::vs,cs,h=>by
  unfold cH at h;split at h<;>first|(cases h;done)|skip
  rename_i h1 h2;have h1:=Za7 h1;have h2:=Za9 h2;have h3:v.cells=[]:=by apply Zc1;simp at h2;omega
  rw[h3]at h;have h4:aZ ([]:List AV) off []=[]:=by simp[aZ]
  rw[h4]at h;exact ZH h
theorem akR {k : aJ}{n:Pos}{xs:List AV}{v:AV}{aQ:AB}(h:k.run (λ_=>none) n xs=some (.br v none none (some aQ))):Od n v aQ:=by
 cases k<;>simp only[aJ.run]at h
 case alloc z=>unfold NO at h;split at h<;>cases h;exact .ptr _
 case box=>unfold WD at h;split at h<;>cases h;exact .ptr _
 case buildSlice es len z p=>
  unfold vr at h;dsimp only at h;split at h<;>cases h;rename_i cs hc;refine .slice _ _ _ _ λh0 _=> ?_
  subst h0;exact ZH hc
 case mkMap=>unfold NR at h;cases h;exact .map
 case mkSlice es b z=>
  unfold Cl at h
  repeat' split at h
  all_goals cases h
  refine .slice _ _ _ _ λ_ h1=> ?_
  rcases h1 with h1|h1
  .cases h1
  .simp only[H0]at h1;subst h1;rfl
 case conv c=>
  unfold Hz at h
  repeat' split at h
  all_goals cases h
 case append es bytes=>
  unfold gR at h
  repeat' split at h
  all_goals cases h
  all_goals refine .slice _ _ _ _ λh0 _=> ?_
  all_goals (exfalso;rename_i hb _ _;simp_all)
 case move=>unfold TD at h;split at h<;>cases h
 case pick=>   unfold Yt at h;repeat' split at h
               all_goals cases h
 case build=>unfold NP at h;dsimp only at h;split at h<;>cases h
 case load=>   unfold yX at h;repeat' split at h
               all_goals cases h
 case store=>   unfold HV at h;repeat' split at h
                all_goals cases h
 case nilCheck=>   unfold Lf at h;repeat' split at h
                   all_goals cases h
 case bin=>   unfold jg at h;repeat' split at h
              all_goals cases h
 case un=>   unfold aeY at h;repeat' split at h
             all_goals cases h
 case mkIface=>   unfold NQ at h;repeat' split at h
                  all_goals cases h
 case mkFunc=>unfold JZ at h;dsimp only at h;cases h
 case lookup=>
  unfold Bi at h;split at h<;>first|(cases h;done)|skip
  dsimp only at h;split at h<;>cases h
 case mapSet=>   unfold Bj at h;repeat' split at h
                 all_goals cases h
 case sliceS=>
  unfold Ri at h;split at h<;>first|(cases h;done)|skip
  split at h<;>first|(cases h;done)|skip
  dsimp only at h;split at h<;>cases h
 case sliceL=>   unfold qI at h;repeat' split at h
                 all_goals cases h
 case fieldA=>   unfold Rj at h;repeat' split at h
                 all_goals cases h
 case idxA=>   unfold qC at h;repeat' split at h
               all_goals cases h
 case field=>   unfold VE at h;repeat' split at h
                all_goals cases h
 case idxS=>   unfold TE at h;repeat' split at h
               all_goals cases h
 case extract=>   unfold G4 at h;repeat' split at h
                  all_goals cases h
 case callF=>unfold VF at h;dsimp only at h;cases h
 case callV=>   unfold VG at h;repeat' split at h
                all_goals cases h
 case lenB=>   unfold Mj at h;repeat' split at h
               all_goals cases h
 case copyB=>
  unfold Ef at h;split at h<;>first|(cases h;done)|skip
  split at h<;>first|(cases h;done)|skip
  dsimp only at h
  repeat' split at h
  all_goals cases h
 case minB=>   unfold HA at h;repeat' split at h
               all_goals cases h
 case maxB=>   unfold HC at h;repeat' split at h
               all_goals cases h
 case clearS=>   unfold Bk at h;repeat' split at h
                 all_goals cases h
 case capB=>cases h
 case bad=>cases h
end
section
def nU(call:aq):Prop:=∀f args st v st',call f args st=some (v,st')->st.next.toNat<=st'.next.toNat
section
variable{call:aq}
theorem Oe(hm:nU call){k:aJ}{xs:List AV}{st st':St}{v:AV}(h:cJ call k xs st=some (v,st')):st.next.toNat<=st'.next.toNat:=by
 unfold cJ at h;split at h
 .simp only[H0,Zc7]at h;rw[h.2];exact Za6 _
 .simp only[H0,Zc7]at h;rw[<-h.2];exact St.Oa _ _ _ _
 .exact hm _ _ _ _ _ h
 .cases h
theorem RB(hm:nU call):∀(os:List bR)(fr bK:Fr)(st st':St),lK call os fr st=some (bK,st')->st.next.toNat<=st'.next.toNat
 |[],fr,bK,st,st',h=>by simp only[lK,H0,Zc7]at h;rw[h.2];exact Za6 _
 |o ::os,fr,bK,st,st',h=>by
  unfold lK at h;split at h
  . (split at h<;>first|(cases h;done)|skip);(split at h<;>first|(cases h;done)|skip);rename_i hs;exact Zb7 (Oe hm hs) (RB hm os _ _ _ _ h)
  .exact RB hm os _ _ _ _ h
  .cases h
theorem y6(hm:nU call):∀(os:List (Nat×bR))(recs:List Rec)(base:T AB)(fr bK:Fr)(st st':St),dV call os recs base fr st=some (bK,st')->st.next.toNat<=st'.next.toNat
 |[],recs,base,fr,bK,st,st',h=>by simp only[dV,H0,Zc7]at h;rw[h.2];exact Za6 _
 |(j,   o)::os,recs,base,fr,bK,st,st',h=>by
  have hs:st.next.toNat<=st.next.succ.toNat:=by rw[Pos.aK];omega
  unfold dV at h;split at h
  .exact y6 hm os _ _ _ _ _ _ h
  . (split at h<;>first|(cases h;done)|skip);split at h
    .   (split at h<;>first|(cases h;done)|skip);exact Zb7 hs (y6 hm os _ _ _ _ _ _ h)
    .   (split at h<;>first|(cases h;done)|skip);rename_i hs;exact Zb7 (Oe hm hs) (y6 hm os _ _ _ _ _ _ h)
    .   split at h
        .exact y6 hm os _ _ _ _ _ _ h
        . (split at h<;>first|(cases h;done)|skip);(split at h<;>first|(cases h;done)|skip);exact y6 hm os _ _ _ _ _ _ h
  .cases h
theorem Ki(hm:nU call):∀(m:Nat)(c:AC)(fr bK:Fr)(st st':St)(ex:mY),exec call m c fr st=some (ex,bK,st')->st.next.toNat<=st'.next.toNat
 |0,c,fr,bK,st,st',ex,h=>by simp[exec]at h
 |m +   1,c,fr,bK,st,st',ex,h=>by
  have ih:=Ki hm m;simp only[exec]at h;unfold bF at h;split at h
  .simp only[H0,Zc7]at h;rw[h.2.2];exact Za6 _
  . (split at h<;>first|(cases h;done)|skip);rename_i hs;simp only[H0,Zc7]at h;rw[<-h.2.2];exact RB hm _ _ _ _ _ hs
  . (split at h<;>first|(cases h;done)|skip);rename_i hs;simp only[H0,Zc7]at h;rw[<-h.2.2];exact y6 hm _ _ _ _ _ _ _ hs
  . split at h
    .   rename_i hs;exact Zb7 (ih _ _ _ _ _ _ hs) (ih _ _ _ _ _ _ h)
    .   exact ih _ _ _ _ _ _ h
  .split at h<;>first|(cases h;done)|exact ih _ _ _ _ _ _ h
  . split at h
    .   rename_i hs;split at h<;>(simp only[H0,Zc7]at h;rw[<-h.2.2];exact ih _ _ _ _ _ _ hs)
    .   exact ih _ _ _ _ _ _ h
  . split at h
    .   rename_i hs;exact Zb7 (ih _ _ _ _ _ _ hs) (ih _ _ _ _ _ _ h)
    .   exact ih _ _ _ _ _ _ h
  .simp only[H0,Zc7]at h;rw[h.2.2];exact Za6 _
  .simp only[H0,Zc7]at h;rw[h.2.2];exact Za6 _
def mZ(O:eE):Prop:=∀f s,O f=some s->∀args st v st',s args st=some (v,st')->st.next.toNat<=st'.next.toNat
theorem CA{O:eE}{G:T dF}(hO:mZ O)(m:Nat):∀d,nU (sr O G m d)
 |0=>λf args st v st' h=>by simp[sr]at h
 |d +   1=>λf args st v st' h=>by
  have ih:=CA (G:=G) hO m d;unfold sr at h;split at h
  .rename_i s hs;exact hO f s hs args st v st' h
  . (split at h<;>first|(cases h;done)|skip);(split at h<;>first|(cases h;done)|skip);split at h<;>first|(cases h;done)|skip
    .   rename_i hs;(split at h<;>first|(cases h;done)|skip);simp only[H0,Zc7]at h;rw[<-h.2];exact Ki ih _ _ _ _ _ _ _ hs
    .   rename_i hs;(split at h<;>first|(cases h;done)|skip);simp only[H0,Zc7]at h;rw[<-h.2];exact Ki ih _ _ _ _ _ _ _ hs
end
def pK(cM:Fr):List Rec->Fr
 |[]=>cM
 |r::R=>dZ (pK cM R) r.o.dst r.v
def eA(n0:Pos):List Rec->Pos
 |[]=>n0
 |r::_=>r.nx
def RC.oO:RC->Bool
 |.br _ _=>true
 |_=>false
def kP(h0:T AB):List Rec->T AB
 |[]=>h0
 |  r::R=>match r.c with
    |.br _ h=>h
    |_=>kP h0 R
def kQ(h0:T AB):List Rec->T AB
 |[]=>h0
 |  r::R=>match r.c with
    |.br _ h=>h
    |.new id aQ=>(kQ h0 R).put (some aQ) id
    |.pure=>kQ h0 R
def Kj:List Rec->Prop
 |[]=>True
 |r::_=>r.c.oO=true
def abM(h0:T AB)(R:List Rec)(o:bR)(xs:List AV)(v:AV):Prop:=
 ∀  A B,R=A++B->Kj B->(∀r∈A,r.c.oO=true->o.bZ.testBit r.idx=false)->
    ∃h:T AB,(∀b x,h.get b=some x->(kP h0 B).get b=some x\/∃r∈A,r.c= .new b x/\o.bZ.testBit r.idx=true)/\o.k.run (λb=>h.get b) .h xs=some (.val v)
inductive sJ(call:aq)(cM:Fr)(h0:T AB)(n0:Pos):Rec->List Rec->Prop where
 |skip (i:Nat) (o:bR) (R:List Rec) (hw:cw (pK cM R) o.guard=some false):
  sJ call cM h0 n0 { idx:=i,o:=o,v:= .undef,c:= .pure,nx:=eA n0 R } R
 |pure (i:Nat) (o:bR) (v:AV) (xs:List AV) (R:List Rec) (hw:cw (pK cM R) o.guard=some true) (hx:fE (pK cM R) o.xs=some xs) (hr:abM h0 R o xs v):
  sJ call cM h0 n0 { idx:=i,o:=o,v:=v,c:= .pure,nx:=eA n0 R } R
 |new (i:Nat) (o:bR) (v:AV) (aQ:AB) (xs:List AV) (R:List Rec) (hw:cw (pK cM R) o.guard=some true) (hx:fE (pK cM R) o.xs=some xs)
  (hr:o.k.run (λ_=>none) (eA n0 R) xs=some (.br v none none (some aQ))):
  sJ call cM h0 n0 { idx:=i,o:=o,v:=v,c:= .new (eA n0 R) aQ,nx:=(eA n0 R).succ } R
 |br (i:Nat) (o:bR) (v:AV) (st':St) (xs:List AV) (R:List Rec) (hc:o.cls= .br) (hw:cw (pK cM R) o.guard=some true) (hx:fE (pK cM R) o.xs=some xs)
  (hr:cJ call o.k xs { heap:=kQ h0 R,next:=eA n0 R }=some (v,st')):
  sJ call cM h0 n0 { idx:=i,o:=o,v:=v,c:= .br (kP h0 R) st'.heap,nx:=st'.next } R
def Good(call:aq)(cM:Fr)(h0:T AB)(n0:Pos):List Rec->Prop
 |[]=>True
 |r::R=>sJ call cM h0 n0 r R/\Good call cM h0 n0 R
section
variable{call:aq}{cM:Fr}{h0:T AB}{n0:Pos}
theorem Good.tail:∀{A B:List Rec},Good call cM h0 n0 (A++B)->Good call cM h0 n0 B
 |[],_,h=>h
 |_::_,_,h=>Good.tail h.2
theorem Good.at{A B:List Rec}{r:Rec}(h:Good call cM h0 n0 (A++r::B)):sJ call cM h0 n0 r B:=(Good.tail h).1
theorem Of:∀{A B:List Rec},(∀r∈A,r.c.oO=false)->kP h0 (A++B)=kP h0 B
 |[],_,_=>rfl
 |r::A,B,h=>by
  have h1:=h r (Ze1 ..);have ih:=Of (A:=A) (B:=B) λr hr=>h r (Za8 _ hr)
  simp only[Ze3,kP];split
  .rename_i hc;rw[hc]at h1;cases h1
  .exact ih
theorem VN{bZ:Nat}:∀{A B:List Rec}{h:T AB}{b:Pos}{x:AB},(∀r∈A,r.c.oO=false)->Kj B->(snap bZ h (A++B)).get b=some x->
  h.get b=some x\/∃r∈A,r.c= .new b x/\bZ.testBit r.idx=true
 |[],B,h,b,x,_,hB,hs=>by
  cases B with
  |nil=>exact .inl hs
  | cons r B=>
    simp only[Kj]at hB;simp only[Zg3,snap]at hs;(cases hc:r.c<;>rw[hc]at hB<;>first|(cases hB;done)|skip);rw[hc]at hs;exact .inl hs
 |r ::A   ,B,h,b,x,hA,hB,hs=>by
  have ih:=@VN bZ A B h b x (λr hr=>hA r (Za8 _ hr)) hB;have up:(h.get b=some x\/∃r∈A,r.c= .new b x/\bZ.testBit r.idx=true)->h.get b=some x\/∃r'∈r::A,r'.c= .new b x/\bZ.testBit r'.idx=true:=λh1=>
    h1.imp id λ⟨r',h2,h3⟩=>⟨r',Za8 _ h2,h3⟩
  simp only[Ze3,snap]at hs;cases hc:r.c with
  |pure=>rw[hc]at hs;exact up (ih hs)
  |br b1 h1=>have:=hA r (Ze1 ..);rw[hc]at this;cases this
  | new   id aQ=>
    rw[hc]at hs;cases ht:bZ.testBit r.idx with
    |false=>simp only[ht]at hs;exact up (ih hs)
    |   true=>
        simp only[ht]at hs;by_cases hid:id=b
        .subst hid;rw[T.fP]at hs;simp only[H0]at hs;subst hs;exact .inr ⟨r,Ze1 ..,hc,ht⟩
        .rw[T.bY _ hid]at hs;exact up (ih hs)
theorem ZI:∀{up:List (Pos×AB)}{h:T AB}{b:Pos}{x:AB},(jU up h).get b=some x->h.get b=some x\/(b,x)∈up
 |[],_,_,_,h=>.inl h
 |(id,aQ)::up,h,b,x,hs=>by
  unfold jU at hs;by_cases hid:id=b
  .subst hid;rw[T.fP]at hs;simp only[H0]at hs;subst hs;exact .inr (Ze1 ..)
  .rw[T.bY _ hid]at hs;exact(ZI hs).imp (λh=>h) λh=>Za8 _ h
theorem Og:∀(A:List Rec),(∀r∈A,r.c.oO=false)\/∃r∈A,r.c.oO=true
 |[]=>.inl λr h=>by cases h
 |r::A=>by
  cases hr:r.c.oO with
  |true=>exact .inr ⟨r,Ze1 ..,hr⟩
  |false=>
   rcases Og A with h|⟨r',h1,h2⟩
   . exact .inl λr' ni=>by
      rcases Zb4.1 ni with rfl|h'
      .exact hr
      .exact h r' h'
   .exact .inr ⟨r',Za8 _ h1,h2⟩
theorem PW{bZ:Nat}{k:aJ}{xs:List AV}{v:AV}:∀(A B:List Rec)(up:List (Pos×AB)),mL bZ k xs v up (A++B)=true->Good call cM h0 n0 (A++B)->Kj B->
  (∀r∈A,r.c.oO=true->bZ.testBit r.idx=false)->(∃r∈A,r.c.oO=true)->
  ∃h:T AB,(∀b x,h.get b=some x->(kP h0 B).get b=some x\/(∃r∈A,r.c= .new b x/\bZ.testBit r.idx=true)\/(b,x)∈up)/\k.run (λb=>h.get b) .h xs=some (.val v)
 |[],B,up,_,_,_,_,he=>by obtain⟨r,hr,_⟩:=he;cases hr
 |r::A    , B,up,Gg,hG,hB,hn,he=>by
  have hn':∀r∈A,r.c.oO=true->bZ.testBit r.idx=false:=λr' ni=>hn r' (Za8 _ ni)
  have ih:=λup (h2:mL bZ k xs v up (A++B)=true) h3=>PW A B up h2 hG.2 hB hn' h3
  simp only[Ze3,mL]at Gg;cases hc:r.c with
  |pure=>
   rw[hc]at Gg;have qf:∃r∈A,r.c.oO=true:=by
        obtain⟨r',h1,h2⟩:=he;rcases Zb4.1 h1 with rfl|h1
        .rw[hc]at h2;cases h2
        .exact⟨r',h1,h2⟩
   obtain⟨h,h1,h2⟩:=ih up Gg qf;exact⟨h,λb x hb=>(h1 b x hb).imp (λh=>h) (Or.imp (λ⟨r',h3,h4⟩=>⟨r',Za8 _ h3,h4⟩) λh=>h),h2⟩
  |new    id aQ=>
   rw[hc]at Gg;have qf:∃r∈A,r.c.oO=true:=by
        obtain⟨r',h1,h2⟩:=he;rcases Zb4.1 h1 with rfl|h1
        .rw[hc]at h2;cases h2
        .exact⟨r',h1,h2⟩
   cases ht:bZ.testBit r.idx with
   |    false=>
        simp only[ht]at Gg;obtain⟨h,h1,h2⟩:=ih up Gg qf;exact⟨h,λb x hb=>(h1 b x hb).imp (λh=>h) (Or.imp (λ⟨r',h3,h4⟩=>⟨r',Za8 _ h3,h4⟩) λh=>h),h2⟩
   |    true=>
        simp only[ht]at Gg;obtain⟨h,h1,h2⟩:=ih _ Gg qf;refine⟨h,λb x hb=> ?_,h2⟩;rcases h1 b x hb with h3|⟨r',h3,h4⟩|h3
        .exact .inl h3
        .exact .inr (.inl ⟨r',Za8 _ h3,h4⟩)
        . rcases Zb4.1 h3 with h3|h3
          .simp only[Zc7]at h3;obtain⟨rfl,rfl⟩:=h3;exact .inr (.inl ⟨r,Ze1 ..,hc,ht⟩)
          .exact .inr (.inr h3)
  |br base h=>
   rw[hc]at Gg;have ht:=hn r (Ze1 ..) (by rw[hc];rfl);simp only[ht,Zb6]at Gg;rcases Og A with hA|hA
   .    have anb:base=kP h0 B:=(by have hs:=hG.1;(cases hs<;>simp only at hc<;>first|(cases hc;done)|skip);simp only[RC.br.injEq]at hc;rw[<-hc.1];exact Of hA);have hra:=Gg.1;unfold jA at hra;(split at hra<;>first|(cases hra;done)|skip);rename_i u hu;rw[xS hra]at hu;refine⟨_,λb x hb=> ?_,hu⟩;rcases ZI hb with hb|hb
        . rcases VN hA hB hb with h3|⟨r',h3,h4⟩
          .rw[<-anb];exact .inl h3
          .exact .inr (.inl ⟨r',Za8 _ h3,h4⟩)
        .exact .inr (.inr hb)
   .    obtain⟨h,h1,h2⟩:=ih up Gg.2 hA;exact⟨h,λb x hb=>(h1 b x hb).imp (λh=>h) (Or.imp (λ⟨r',h3,h4⟩=>⟨r',Za8 _ h3,h4⟩) λh=>h),h2⟩
theorem W9:∀(L:List (Nat×bR))(R:List Rec)(fr bK:Fr)(st st':St),dV call L R (kP h0 R) fr st=some (bK,st')->Good call cM h0 n0 R->
  fr=pK cM R->st.heap=kQ h0 R->st.next=eA n0 R->
  ∃R',Good call cM h0 n0 (R'++R)/\(R'.map λr=>(r.idx,r.o))=L.reverse/\bK=pK cM (R'++R)/\st'.heap=kQ h0 (R'++R)/\st'.next=eA n0 (R'++R)
 |[],R,fr,bK,st,st',h,hG,h1,h2,h3=>by
  simp only[dV,H0,Zc7]at h;obtain⟨rfl,rfl⟩:=h;exact⟨[],hG,rfl,h1,h2,h3⟩
 |(j,   o)::  L,R,fr,bK,st,st',h,hG,h1,h2,h3=>by
  have fin:∀(r:Rec)(bQ:St)(eG:Fr),r.idx=j->r.o=o->sJ call cM h0 n0 r R->eG=pK cM (r::R)->bQ.heap=kQ h0 (r::R)->bQ.next=r.nx->
        dV call L (r::R) (kP h0 (r::R)) eG bQ=some (bK,st')->
        ∃R',Good call cM h0 n0 (R'++R)/\(R'.map λr=>(r.idx,r.o))=((j,o)::L).reverse/\bK=pK cM (R'++R)/\st'.heap=kQ h0 (R'++R)/\st'.next=eA n0 (R'++R):=by
    intro r bQ eG hj ho hs k1 k2 k3 hd;obtain⟨R',g1,g2,g3,g4,g5⟩:=W9 L (r::R) eG bK bQ st' hd ⟨hs,hG⟩ k1 k2 k3;have e:R'++r::R=(R'++[r])++R:=(by simp);rw[e]at g1 g3 g4 g5;exact⟨R'++[r],g1,by simp[g2,hj,ho],g3,g4,g5⟩
  unfold dV at h;subst h1;split at h
  .rename_i hw;exact fin _ _ _ rfl rfl (h3 ▸sJ.skip j o R hw) rfl h2 rfl h
  . rename_i hw;(split at h<;>first|(cases h;done)|skip);rename_i xs hx;split at h
    .   (split at h<;>first|(cases h;done)|skip);rename_i v aQ hr;rw[h3]at hr;have hs:=sJ.new (call:=call) (cM:=cM) (h0:=h0) (n0:=n0) j o v aQ xs R hw hx hr;rw[<-h3]at hs;refine fin _ _ _ rfl rfl hs rfl ?_ rfl h;simp only[kQ,h2]
    .   rename_i aiB;(split at h<;>first|(cases h;done)|skip);rename_i v bQ hr;have nj:st={ heap:=kQ h0 R,next:=eA n0 R }:=(by cases st;simp_all);rw[nj]at hr;exact fin _ bQ _ rfl rfl (sJ.br j o v bQ xs R aiB hw hx hr) rfl rfl rfl h
    .   split at h
        . rename_i v hr;have UP:abM h0 R o xs v:=by
           intro A B _ _ _;refine⟨.e,λb x hb=> ?_,?_⟩
           .  rw[T.eV]at hb;cases hb
           .  have e:(λb=>T.get b (T.e:T AB))=λ_=>none:=(by funext b;exact T.eV b);rw[e];exact hr
          exact fin _ _ _ rfl rfl (h3 ▸sJ.pure j o v xs R hw hx UP) rfl h2 rfl h
        . (split at h<;>first|(cases h;done)|skip);rename_i v hr;(split at h<;>first|(cases h;done)|skip);rename_i Gg;have UP:abM h0 R o xs v:=by
           intro A B hAB hB hn;subst hAB;rcases Og A with hA|hA
           .  refine⟨_,λb x hb=> ?_,hr⟩;have:=VN hA hB hb;rw[Of hA]at this;exact this
           .  obtain⟨h,k1,k2⟩:=PW A B [] Gg hG hB hn hA;exact⟨h,λb x hb=>(k1 b x hb).imp id λh=>h.resolve_right (by simp),k2⟩
          exact fin _ _ _ rfl rfl (h3 ▸sJ.pure j o v xs R hw hx UP) rfl h2 rfl h
  .cases h
end
end
section
open Go
structure Late(m:Nat)(pre:List Nat)(L:List (Nat×bR)):Prop where
 all:∀i,i<m->i∈pre\/i∈L.map (·.1)
 lt:∀x∈L,x.1<m
 one:∀A i o B,L=A++(i,o)::B->i∉pre/\i∉A.map (·.1)
 bZ:∀A i o B,L=A++(i,o)::B->∀b,o.bZ.testBit b=true->b∈pre\/b∈A.map (·.1)
 br:∀A i o B,L=A++(i,o)::B->o.cls= .br->∀b,(b∈pre\/b∈A.map (·.1))->o.bZ.testBit b=true
 apart:∀A i o B,L=A++(i,o)::B->∀x∈B,x.2.bZ.testBit i=true\/Rk o x.2=true
theorem UQ{m:Nat}:∀(L:List (Nat×bR))(seen:Nat)(pre:List Nat),Mo m seen L=true->(∀b,seen.testBit b=true↔b∈pre)->Late m pre L
 |[],seen,pre,h,hs=>by
  simp only[Mo]at h;have:=Za7 h;refine⟨λi hi=>.inl ((hs i).1 ?_),λx hx=>(by cases hx),λA i o B h=> ?_,λA i o B h=> ?_,λA i o B h=> ?_,λA i o B h=> ?_⟩
  .rw[this,Nat.testBit_two_pow_sub_one];simpa using hi
  all_goals (cases A<;>cases h)
 |(i,   o)::L,seen,pre,h,hs=>by
  simp only[Mo,Zb6]at h;obtain⟨⟨⟨⟨⟨h1,h2⟩,h3⟩,h4⟩,h5⟩,h6⟩:=h;have h1:i<m:=Za9 h1;have h2:i∉pre:=λhp=>by rw[(hs i).2 hp]at h2;cases h2
  have h3:=Za7 h3;have hb:∀b,o.bZ.testBit b=true->b∈pre:=λb hb=>by rw[<-h3,Nat.testBit_and,Zb6]at hb;exact(hs b).1 hb.2
  have he:o.cls= .br->∀b,b∈pre->o.bZ.testBit b=true:=λhc b hp=>by rw[hc]at h4;rw[Za7 h4];exact(hs b).2 hp
  have ih:=UQ L (seen ||| 2 ^ i) (pre++[i]) h6 (λb=>by
    rw[Nat.testBit_or,Nat.testBit_two_pow,Zg5,hs b,Ze7];simp[eq_comm])
  rw[Zj3]at h5;have abf:∀{A:List (Nat×bR)}{j:Nat}{p:bR}{B:List (Nat×bR)},(i,o)::L=A++(j,p)::B->(A=[]/\i=j/\o=p/\L=B)\/∃A',A=(i,o)::A'/\L=A'++(j,p)::B:=by
    intro A j p B hA;cases A with
    |nil=>simp at hA;exact .inl ⟨rfl,hA.1.1,hA.1.2,hA.2⟩
    |cons x A=>simp at hA;exact .inr ⟨A,by rw[hA.1],hA.2⟩
  refine⟨λj hj=> ?_,λx hx=> ?_,λA j p B hA=> ?_,λA j p B hA=> ?_,λA j p B hA=> ?_,λA j p B hA=> ?_⟩
  . rcases ih.all j hj with h|h
    .   rcases Ze7.1 h with h|h
        .exact .inl h
        .simp at h;exact .inr (by simp[h])
    .   exact .inr (by simp only[Zb1,Zb4];exact .inr h)
  . rcases Zb4.1 hx with rfl|hx
    .   exact h1
    .   exact ih.lt x hx
  . rcases abf hA with⟨rfl,rfl,rfl,rfl⟩|⟨A',rfl,PY⟩
    .   exact⟨h2,by simp⟩
    .   obtain⟨k1,k2⟩:=ih.one A' j p B PY;simp only[Ze7,Zf1,not_or]at k1;exact⟨k1.1,by simp only[Zb1,Zb4,not_or];exact⟨k1.2,k2⟩⟩
  . rcases abf hA with⟨rfl,rfl,rfl,rfl⟩|⟨A',rfl,PY⟩
    .   exact λb tW=>.inl (hb b tW)
    .   intro b tW;rcases ih.bZ A' j p B PY b tW with h|h
        . rcases Ze7.1 h with h|h
          .exact .inl h
          .simp at h;exact .inr (by simp[h])
        .exact .inr (by simp only[Zb1,Zb4];exact .inr h)
  . rcases abf hA with⟨rfl,rfl,rfl,rfl⟩|⟨A',rfl,PY⟩
    .   intro hc b tW;rcases tW with h|h
        .exact he hc b h
        .simp at h
    .   intro hc b tW;refine ih.br A' j p B PY hc b ?_;rcases tW with h|h
        .exact .inl (Ze7.2 (.inl h))
        . simp only[Zb1,Zb4]at h;rcases h with rfl|h
          .exact .inl (by simp)
          .exact .inr h
  . rcases abf hA with⟨rfl,rfl,rfl,rfl⟩|⟨A',rfl,PY⟩
    .   intro x hx;have:=h5 x hx
        rwa [Zg5]at this
    .   exact ih.apart A' j p B PY
inductive Reach(ops:Array Oper):Nat->Nat->Prop where
 |edge (i:Nat) (o:Oper) (e:Edge) (ho:ops[i]? =some o) (he:e∈o.after) (hb:Region.binds .any e=true):Reach ops i e.on
 |trans (i:Nat) (o:Oper) (e:Edge) (b:Nat) (ho:ops[i]? =some o) (he:e∈o.after) (hb:Region.binds .any e=true) (h:Reach ops e.on b):Reach ops i b
def afj(ops:Array Oper)(i m:Nat):Prop:=
 (∀o,ops[i]? =some o->∀e∈o.after,Region.binds .any e=true->m.testBit e.on=true)/\∀b,m.testBit b=true->Reach ops i b
theorem YD(acc:List Nat):∀(l:List Edge)(s b:Nat),(l.foldl (λs e=>match Region.binds .any e with
   |true=>s ||| 2 ^ e.on ||| (nth acc e.on).getD 0
   |false=>s) s).testBit b=true↔s.testBit b=true\/∃e∈l,Region.binds .any e=true/\(e.on=b\/((nth acc e.on).getD 0).testBit b=true)
 |[],s,b=>by simp
 |e::l,s,b=>by
  rw[Zr3,YD acc l];cases he:Region.binds .any e with
  |false=>simp[he]
  |true=>
   simp only[Nat.testBit_or,Zg5,Nat.testBit_two_pow,Zd1,Zb4,exists_eq_or_imp,he,true_and];constructor
   .    rintro(((h|h)|h)|h)
        .exact .inl h
        .exact .inr (.inl (.inl h))
        .exact .inr (.inl (.inr h))
        .exact .inr (.inr h)
   .    rintro(h|(h|h)|h)
        .exact .inl (.inl (.inl h))
        .exact .inl (.inl (.inr h))
        .exact .inl (.inr h)
        .exact .inr h
theorem aej {ops:Array Oper}:∀(os:List Oper)(acc:List Nat),os=ops.toList.drop acc.length->acc.length<=ops.size->(∀i,i<acc.length->afj ops i (acc.getD i 0))->
  ∀i,i<ops.size->afj ops i ((abq os acc).getD i 0)
 |[],acc,hos,hl,afk,i,hi=>by
  have h1:(ops.toList.drop acc.length).length=0:=by rw[<-hos];rfl
  have:ops.size<=acc.length:=by simp at h1;omega
  exact afk i (by omega)
 |o ::os,acc,hos,hl,afk,i,hi=>by
  simp only[abq];have ho:ops[acc.length]? =some o:=by have:(ops.toList.drop acc.length)[0]? =some o:=(by rw[<-hos];rfl);simpa using this
  have aW:acc.length<ops.size:=(Zc4.1 ho).1;refine aej os _ ?_ (by simp;omega) (λj hj=> ?_) i hi
  .rw[Zc9,Zo0, <-Zn1, <-hos];rfl
  . rcases Zj9 j acc.length with h|h
    .   rw[Ze4,Zd9 h, <-Ze4];exact afk j h
    .   have J8:j=acc.length:=(by simp at hj;omega);subst J8;rw[Ze4,Zd6 (Za6 _)];simp only[Zk3,Zb0,Zj8];refine⟨λo' Kh e he hb=> ?_,λb hb=> ?_⟩
        .rw[ho]at Kh;simp only[H0]at Kh;subst Kh;exact(YD acc _ 0 e.on).2 (.inr ⟨e,by simpa using he,hb,.inl rfl⟩)
        . have hb:=(YD acc _ 0 b).1 hb;rcases hb with hb|⟨e,he,tW,hb⟩
          .simp at hb
          . have qf:e∈o.after:=(by simpa using he);rcases hb with rfl|hb
            .exact .edge _ o e ho qf tW
            . refine .trans _ o e b ho qf tW ?_;rw[qL]at hb;rcases Zj9 e.on acc.length with h|h
              .exact(afk _ h).2 b (by rw[Ze4];exact hb)
              .rw[Zc6 h]at hb;simp at hb
theorem aek:∀(l:List bR)(k:Nat)(x:Nat×bR),x∈HX k l->∃i,x.1=k+i/\l[i]? =some x.2
 |[],k,x,h=>by cases h
 |o ::l,k,x,h=>by
  simp only[HX,Zb4]at h;rcases h with rfl|h
  .exact⟨0,rfl,rfl⟩
  .obtain⟨i,h1,h2⟩:=aek l (k+1) x h;exact⟨i+1,by omega,by simpa using h2⟩
theorem RD:∀(l held:List (Nat×bR))(x:Nat×bR),x∈AP l held->x∈l\/x∈held
 |[],held,x,h=>.inr h
 |(i,   o)::l,held,x,h=>by
  unfold AP at h;split at h
  . rcases Ze7.1 h with h|h
    .   exact .inr (Zk2.1 h).1
    .   rcases Zb4.1 h with h|h
        .exact .inl (by rw[h];exact Ze1 ..)
        . rcases RD l _ x h with h|h
          .exact .inl (Za8 _ h)
          .exact .inr (Zk2.1 h).1
  . rcases RD l _ x h with h|h
    .   exact .inl (Za8 _ h)
    .   rcases Ze7.1 h with h|h
        .exact .inr h
        .simp at h;exact .inl (by rw[h];exact Ze1 ..)
theorem akS{l:List bR}{x:Nat×bR}(h:x∈AP (HX 0 l) []):l[x.1]? =some x.2:=by
 rcases RD _ _ _ h with h|h
 .obtain⟨i,h1,h2⟩:=aek l 0 x h;rw[h1,Za5];exact h2
 .cases h
theorem Oh{p:Pos}:∀{l:List Pos},Mn p l=true↔p∈l
 |[]=>by simp[Mn]
 |q::l=>by simp[Mn,Oh (l:=l),Pos.beq_eq]
theorem Lm{a b:bR}(h:Rk a b=true):
   (∀d,a.dst=some d->d∉b.looks/\b.dst≠some d)/\(∀d,b.dst=some d->d∉a.looks):=by
 unfold Rk at h;rw[Zb6]at h;obtain⟨h1,h2⟩:=h;constructor
 . intro d hd;rw[hd]at h1;simp only[Zb6,Zk1]at h1;refine⟨λhm=> ?_,λhb=> ?_⟩
   .rw[Oh.2 hm]at h1;exact absurd h1.1 (by simp)
   .rw[hb]at h1;have:Pos.beq d d=true:=Pos.beq_eq.2 rfl;simp[this]at h1
 .intro d hd hm;rw[hd]at h2;simp only[Zk1]at h2;rw[Oh.2 hm]at h2;cases h2
section
variable(P:Program)(tt:TT)(C:Cells)(nt:Nat)(ops:Array Oper)(call:aq)(cM:Fr)(h0:T AB)(n0:Pos)(R:List Rec)
structure CB:Prop where
 VO:Good call cM h0 n0 R
 mono:nU call
 one:∀A r B,R=A++r::B->∀r'∈B,r'.idx≠r.idx
 bZ:∀A r B,R=A++r::B->∀b,r.o.bZ.testBit b=true->∃r'∈B,r'.idx=b
 br:∀A r B,R=A++r::B->r.o.cls= .br->∀r'∈B,r.o.bZ.testBit r'.idx=true
 apart:∀A r B,R=A++r::B->∀r'∈A,r'.o.bZ.testBit r.idx=true\/Rk r.o r'.o=true
 rel:∀r∈R,∃o,ops[r.idx]? =some o/\yZ tt nt ops o r.o/\afj ops r.idx r.o.bZ
 all:∀i,i<ops.size->∃r∈R,r.idx=i
def Kept(D:Nat->Prop)(b:Pos):Prop:=∀A r B,R=A++r::B->¬D r.idx->b.toNat<(eA n0 B).toNat\/r.nx.toNat<=b.toNat
def T1(D:Nat->Prop)(ρ:Pos->Loc)(tmps:Array Value):Prop:=
 ∀M s T p,R=M++s::T->D s.idx->s.o.dst=some p->(∀s'∈M,D s'.idx->s'.o.dst≠some p)->∃x,tmps[p.toNat - 1]? =some x/\aC ρ s.nx.toNat C s.v x
def T0(D:Nat->Prop)(ρ:Pos->Loc)(tmps:Array Value):Prop:=
 ∀p v,cM.get p=some v->(∀s∈R,D s.idx->s.o.dst≠some p)->∃x,tmps[p.toNat - 1]? =some x/\aC ρ n0.toNat C v x
structure ZJ(D:Nat->Prop)(A B:List Rec)(a:Act):Prop where
 split:R=A++B
 bound:Kj B
 inB:∀r∈B,D r.idx
 inA:∀r∈A,D r.idx->r.c.oO=false
 closed:∀i o e,D i->ops[i]? =some o->e∈o.after->Region.binds .any e=true->D e.on
 size:a.tmps.size=nt
 defers:a.defers=[]
structure Inv0(mG:Pos->Loc)(w0:World)(D:Nat->Prop)(A B:List Rec)(ρ:Pos->Loc)(a:Act)(w:World):Prop where
 W:bS ρ C { heap:=kP h0 B,next:=eA n0 B } w
 N:∀r∈A,D r.idx->∀id aQ,r.c= .new id aQ->ri ρ r.nx.toNat C (ρ id) w aQ/\(ρ id).aQ<w.heap.size/\w0.heap.size<=(ρ id).aQ/\
  (∀b x,(kP h0 B).get b=some x->(ρ b).aQ≠(ρ id).aQ)/\(∀ad v,C ad=some v->(ρ id).aQ≠ad.block)
 N2:∀r∈A,D r.idx->∀id aQ,r.c= .new id aQ->∀r'∈A,D r'.idx->∀wL FG,r'.c= .new wL FG->id≠wL->(ρ id).aQ≠(ρ wL).aQ
 t1:T1 C R D ρ a.tmps
 t0:T0 C cM n0 R D ρ a.tmps
 E:nh mG { heap:=h0,next:=n0 } w0 ρ { heap:=kP h0 B,next:=eA n0 B } w
 agree:∀b:Pos,b.toNat<n0.toNat->ρ b=mG b
def Inv(mG:Pos->Loc)(w0:World)(D:Nat->Prop)(A B:List Rec)(ρ:Pos->Loc)(a:Act)(w:World):Prop:=
 ZJ nt ops R D A B a/\∀ρ',(∀b,Kept n0 R D b->ρ' b=ρ b)->Inv0 C cM h0 n0 R mG w0 D A B ρ' a w
end
section
variable{P:Program}{tt:TT}{C:Cells}{nt:Nat}{ops:Array Oper}{call:aq}{cM:Fr}{h0:T AB}{n0:Pos}{R:List Rec}
theorem Ih(h:∀A r B,R=A++r::B->∀r'∈B,r'.idx≠r.idx){X X' Y Y':List Rec}{r r':Rec}(h1:R=X++r::Y)(h2:R=X'++r'::Y')(hi:r.idx=r'.idx):
   X=X'/\r=r'/\Y=Y':=by
 have h3:X++r::Y=X'++r'::Y':=h1.symm.trans h2;rcases List.append_eq_append_iff.1 h3 with⟨Z,hX,hZ⟩|⟨Z,hX,hZ⟩
 . cases Z with
   |nil=>simp at hZ hX;exact⟨hX.symm,hZ.1,hZ.2⟩
   |cons z Z=>
    simp at hZ;exact absurd hi.symm (h X r Y h1 r' (by rw[hZ.2];simp))
 . cases Z with
   |nil=>simp at hZ hX;exact⟨hX,hZ.1.symm,hZ.2.symm⟩
   |cons z Z=>
    simp at hZ;exact absurd hi (h X' r' Y' h2 r (by rw[hZ.2];simp))
theorem nJ{r:Rec}(h:r∈R):∃A B,R=A++r::B:=List.append_of_mem h
theorem ael(hm:nU call){r:Rec}{B:List Rec}(h:sJ call cM h0 n0 r B):(eA n0 B).toNat<=r.nx.toNat:=by
 cases h with
 |skip=>exact Za6 _
 |pure=>exact Za6 _
 |new=>simp only[Pos.aK];omega
 |br i o v st' xs _ hc hw hx hr=>exact Oe hm hr
theorem YE(hm:nU call):∀{A B:List Rec},Good call cM h0 n0 (A++B)->(eA n0 B).toNat<=(eA n0 (A++B)).toNat
 |[],_,_=>Za6 _
 |r::A,B,h=>Zb7 (YE hm (A:=A) h.2) (ael hm h.1)
namespace CB
variable(G:CB tt nt ops call cM h0 n0 R)
include G
theorem later{X Y:List Rec}{r r':Rec}(h:R=X++r::Y)(hr:r'∈X):r'.idx≠r.idx:=by
 obtain⟨A,B,rfl⟩:=nJ hr;have h':R=A++r'::(B++r::Y):=by rw[h];simp
 exact λe=>G.one _ _ _ h' r (by simp) e.symm
theorem aks{X Y:List Rec}{r:Rec}(h:R=X++r::Y):(eA n0 Y).toNat<=r.nx.toNat:=ael G.mono (Good.at (h ▸G.VO))
theorem EZ{X Y Z:List Rec}(h:R=X++(Y++Z)):(eA n0 Z).toNat<=(eA n0 (Y++Z)).toNat:=YE G.mono (Good.tail (h ▸G.VO))
theorem afl{X Y:List Rec}(h:R=X++Y):n0.toNat<=(eA n0 Y).toNat:=by have:=YE (n0:=n0) G.mono (A:=Y) (B:=[]) (by rw[Zd4];exact Good.tail (h ▸G.VO));rw[Zd4]at this;exact this
theorem Xa{D:Nat->Prop}(hc:∀i o e,D i->ops[i]? =some o->e∈o.after->Region.binds .any e=true->D e.on){i b:Nat}(h:Reach ops i b)
  (hi:∀o e,ops[i]? =some o->e∈o.after->Region.binds .any e=true->D e.on):D b:=by
 induction h with
 |edge i o e ho he hb=>exact hi o e ho he hb
 |trans i o e b ho he hb _ ih=>exact ih λo' e' Kh qf gK=>hc _ o' e' (hi o e ho he hb) Kh qf gK
theorem akt{D:Nat->Prop}{A B:List Rec}{a:Act}(hp:ZJ nt ops R D A B a){s:Rec}(hs:s∈R)(hD:D s.idx){b:Nat}(hb:s.o.bZ.testBit b=true):D b:=by obtain⟨o,ho,_,hB⟩:=G.rel s hs;exact G.Xa hp.closed (hB.2 b hb) λo' e Kh he tW=>hp.closed _ o' e hD Kh he tW
end CB
theorem RE:∀(Y:List Rec)(p:Pos)(v:AV),(pK cM Y).get p=some v->
  (∃M s T,Y=M++s::T/\s.o.dst=some p/\s.v=v/\∀s'∈M,s'.o.dst≠some p)\/(cM.get p=some v/\∀s∈Y,s.o.dst≠some p)
 |[],p,v,h=>.inr ⟨h,λs hs=>by cases hs⟩
 |r ::Y   ,p,v,h=>by
  simp only[pK]at h;by_cases hr:r.o.dst=some p
  .rw[hr]at h;simp only[dZ,T.fP,H0]at h;exact .inl ⟨[],r,Y,rfl,hr,h,λs hs=>by cases hs⟩
  . have h':(pK cM Y).get p=some v:=by
        cases hd:r.o.dst with
        |none=>rw[hd]at h;exact h
        | some d=>
          rw[hd]at h;simp only[dZ]at h
          rwa [T.bY _ λe=>hr (by rw[hd,e])]at h
    rcases RE Y p v h' with⟨M,s,T,rfl,h2,h3,h4⟩|⟨h2,h3⟩
    .   refine .inl ⟨r::M,s,T,rfl,h2,h3,λs' pJ=> ?_⟩;rcases Zb4.1 pJ with rfl|pJ
        .exact hr
        .exact h4 s' pJ
    .   refine .inr ⟨h2,λs hs=> ?_⟩;rcases Zb4.1 hs with rfl|hs
        .exact hr
        .exact h3 s hs
theorem look(G:CB tt nt ops call cM h0 n0 R){D:Nat->Prop}{A B:List Rec}{a:Act}(hp:ZJ nt ops R D A B a){ρ:Pos->Loc}(h1:T1 C R D ρ a.tmps)(h2:T0 C cM n0 R D ρ a.tmps)
   {X Y:List Rec} {r:Rec} (hR:R=X++r::Y) (hD:¬D r.idx) (YF:∀b,r.o.bZ.testBit b=true->D b) {p:Pos} {v:AV} (hl:p∈r.o.looks) (hv:(pK cM Y).get p=some v):
   ∃x,a.tmps[p.toNat - 1]? =some x/\aC ρ (eA n0 Y).toNat C v x:=by
 have hX:∀s∈X,D s.idx->s.o.dst≠some p:=by
   intro s hs ia hd;rcases G.apart X r Y hR s hs with h|h
   .exact hD (G.akt hp (by rw[hR];simp[hs]) ia h)
   .exact(Lm h).2 p hd hl
 rcases RE Y p v hv with⟨M,s,T,rfl,h3,rfl,h4⟩|⟨h3,h4⟩
 . have hR':R=(X++r::M)++s::T:=(by rw[hR];simp);have ia:D s.idx:=by
     rcases G.apart _ s T hR' r (by simp)with h|h
     .  exact YF _ h
     .  exact absurd hl ((Lm h).1 p h3).1
   obtain⟨x,hx,RF⟩:=h1 (X++r::M) s T p hR' ia h3 (λs' pJ Ii=>by
     rcases Ze7.1 pJ with h|h
     .  exact hX s' h Ii
     .  rcases Zb4.1 h with rfl|h
        .exact absurd Ii hD
        .exact h4 s' h)
   refine⟨x,hx,RF.mono (λ_ _=>rfl) ?_⟩;have:=G.EZ (X:=X++[r]) (Y:=M) (Z:=s::T) (by rw[hR];simp);exact this
 . obtain⟨x,hx,RF⟩:=h2 p v h3 (λs hs ia=>by
     rw[hR]at hs;rcases Ze7.1 hs with h|h
     .  exact hX s h ia
     .  rcases Zb4.1 h with rfl|h
        .exact absurd ia hD
        .exact h4 s h)
   exact⟨x,hx,RF.mono (λ_ _=>rfl) (G.afl (X:=X++[r]) (by rw[hR];simp))⟩
theorem Kk{a:Act}{d:Option Tmp}{x:Value}{p:Pos}(h:d.map key≠some p):(a.put d x).tmps[p.toNat - 1]? =a.tmps[p.toNat - 1]? :=by
 cases d with
 |none=>rfl
 |some e=>
  simp only[Act.put];rw[Zj7];intro he;apply h;simp only[Zd8,H0];apply Pos.toNat_inj;rw[iB];have:=p.toNat_pos;omega
theorem aiC{a:Act}{d:Option Tmp}{x:Value}{p:Pos}(h:d.map key=some p)(hs:a.tmps.size=nt)(hd:∀e,d=some e->e<nt):(a.put d x).tmps[p.toNat - 1]? =some x:=by
 cases d with
 |none=>cases h
 |some e=>
  simp only[Zd8,H0]at h;subst h;simp only[Act.put];rw[iB,Zg6,Zp4];simp[hs,hd e rfl]
theorem afm(G:CB tt nt ops call cM h0 n0 R){D:Nat->Prop}{A B:List Rec}{a:Act}(hp:ZJ nt ops R D A B a){ρ:Pos->Loc}(h1:T1 C R D ρ a.tmps)(h2:T0 C cM n0 R D ρ a.tmps)
   {X Y:List Rec} {r:Rec} (hR:R=X++r::Y) (hD:¬D r.idx) {o:Oper} (hrel:yZ tt nt ops o r.o) {x:Value} (hv:aC ρ r.nx.toNat C r.v x):
   T1 C R (λi=>D i\/i=r.idx) ρ (a.put o.dst x).tmps/\T0 C cM n0 R (λi=>D i\/i=r.idx) ρ (a.put o.dst x).tmps:=by
 constructor
 . intro  M s T p hM ia hd oY;by_cases hi:s.idx=r.idx
   .obtain⟨_,rfl,_⟩:=Ih G.one hM hR hi;rw[hrel.dst]at hd;exact⟨x,aiC hd hp.size hrel.lt,hv⟩
   . have ia:=ia.resolve_right hi;by_cases RH:r.o.dst=some p
     .  exfalso;have hs:s∈R:=(by rw[hM];simp);rw[hR]at hs;rcases Ze7.1 hs with h|h
        . rcases G.apart X r Y hR s h with k|k
          .exact hD (G.akt hp (by rw[hR];simp[h]) ia k)
          .exact((Lm k).1 p RH).2 hd
        . rcases Zb4.1 h with rfl|h
          .exact hi rfl
          .obtain⟨Y1,Y2,rfl⟩:=nJ h;have hR':R=(X++r::Y1)++s::Y2:=(by rw[hR];simp);obtain⟨hM',_,_⟩:=Ih G.one hM hR' rfl;exact oY r (by rw[hM'];simp) (.inr rfl) RH
     .  (rw[hrel.dst]at RH;obtain⟨y,hy,Ru⟩:=h1 M s T p hM ia hd λs' pJ Ii=>oY s' pJ (.inl Ii));exact⟨y,by rw[Kk RH];exact hy,Ru⟩
 . (intro p v hf oY;have hr:r.o.dst≠some p:=oY r (by rw[hR];simp) (.inr rfl);rw[hrel.dst]at hr;obtain⟨y,hy,Ru⟩:=h2 p v hf λs hs ia=>oY s hs (.inl ia));exact⟨y,by rw[Kk hr];exact hy,Ru⟩
end
section
variable{P:Program}{tt:TT}{C:Cells}{nt:Nat}{ops:Array Oper}{call:aq}{cM:Fr}{h0:T AB}{n0:Pos}{R:List Rec}
theorem bS.congr{ρ ρ':Pos->Loc}{st:St}{w:World}(h:bS ρ C st w)(bG:∀b:Pos,b.toNat<st.next.toNat->ρ' b=ρ b):bS ρ' C st w where
 live b x hb:=by
  obtain⟨h1,h2,h3⟩:=h.live b x hb;rw[bG b h1];exact⟨h1,h2,h3.mono bG (Za6 _)⟩
 inj b b' x x' hb gK he:=by rw[bG b (h.live b x hb).1,bG b' (h.live b' x' gK).1]at he;exact h.inj b b' x x' hb gK he
 dH a v ha:=⟨(h.dH a v ha).1,λb x hb=>by rw[bG b (h.live b x hb).1];exact(h.dH a v ha).2 b x hb⟩
 whole:=h.whole
theorem nh.congr{ρ jH ρ':Pos->Loc}{st st':St}{w w':World}(h:nh ρ st w jH st' w')(bG:∀b x,st'.heap.get b=some x->ρ' b=jH b):nh ρ st w ρ' st' w' where
 os:=h.os
 tape:=h.tape
 output:=h.output
 size:=h.size
 block:=h.block
 xL b x hb:=by rw[bG b x hb];exact h.xL b x hb
namespace CB
variable(G:CB tt nt ops call cM h0 n0 R)
include G
theorem same{r r':Rec}(h:r∈R)(h':r'∈R)(hi:r.idx=r'.idx):r=r':=by obtain⟨A,B,hA⟩:=nJ h;obtain⟨A',B',PY⟩:=nJ h';exact(Ih G.one hA PY hi).2.1
theorem cmp{X Y X' Y':List Rec}{r r':Rec}(h1:R=X++r::Y)(h2:R=X'++r'::Y')(hi:r'.idx≠r.idx):
   (∃Z,Y'=Z++r::Y)\/(∃Z,Y=Z++r'::Y'):=by
 have h3:X++r::Y=X'++r'::Y':=h1.symm.trans h2;rcases List.append_eq_append_iff.1 h3 with⟨Z,hX,hZ⟩|⟨Z,hX,hZ⟩
 . cases Z with
   |nil=>simp at hZ;exact absurd (by rw[hZ.1]) hi
   |cons z Z=>simp at hZ;exact .inr ⟨Z,hZ.2⟩
 . cases Z with
   |nil=>simp at hZ;exact absurd (by rw[hZ.1]) hi
   |cons z Z=>simp at hZ;exact .inl ⟨Z,hZ.2⟩
theorem Oi{X Y X' Z:List Rec}{r r':Rec}(h1:R=X++r::Y)(h2:R=X'++r'::(Z++r::Y)):r.nx.toNat<=(eA n0 (Z++r::Y)).toNat:=by have:=G.EZ (X:=X'++[r']) (Y:=Z) (Z:=r::Y) (by rw[h2];simp);exact this
theorem He{X Y' Z:List Rec}{r r':Rec}(h1:R=X++r::(Z++r'::Y')):r'.nx.toNat<=(eA n0 (Z++r'::Y')).toNat:=by have:=G.EZ (X:=X++[r]) (Y:=Z) (Z:=r'::Y') (by rw[h1];simp);exact this
theorem RI{X Y:List Rec}{r:Rec}(h:R=X++r::Y){id:Pos}{aQ:AB}(hc:r.c= .new id aQ):id=eA n0 Y/\r.nx=id.succ:=by
 have hs:=Good.at (h ▸G.VO);cases hs<;>simp only at hc<;>first|(cases hc;done)|skip
 simp only[RC.new.injEq]at hc;obtain⟨rfl,_⟩:=hc;exact⟨rfl,rfl⟩
end CB
theorem Kept.up{D D':Nat->Prop}(h:∀i,D i->D' i){b:Pos}(hk:Kept n0 R D b):Kept n0 R D' b:=λA r B hR hD=>hk A r B hR λhd=>hD (h _ hd)
theorem ZJ.next(G:CB tt nt ops call cM h0 n0 R){D:Nat->Prop}{A B:List Rec}{a:Act}(hp:ZJ nt ops R D A B a){X Y:List Rec}{r:Rec}(hR:R=X++r::Y)
  (sK:∀o e,ops[r.idx]? =some o->e∈o.after->Region.binds .any e=true->D e.on) (hc:r.c.oO=false) (d:Option Tmp) (x:Value):
  ZJ nt ops R (λi=>D i\/i=r.idx) A B (a.put d x) where
 split:=hp.split
 bound:=hp.bound
 inB s hs:= .inl (hp.inB s hs)
 inA s hs hD:=by
  rcases hD with hD|hD
  .exact hp.inA s hs hD
  .rw[G.same (by rw[hp.split];simp[hs]) (by rw[hR];simp) hD];exact hc
 closed i o e hD ho he hb:=by
  rcases hD with hD|rfl
  .exact .inl (hp.closed i o e hD ho he hb)
  .exact .inl (sK o e ho he hb)
 size:=by rw[Act.jQ];exact hp.size
 defers:=by rw[Act.lH];exact hp.defers
theorem ZK(G:CB tt nt ops call cM h0 n0 R){mG:Pos->Loc}{w0:World}{D:Nat->Prop}{A B:List Rec}{ρ:Pos->Loc}{a:Act}{w:World}
  (hI:Inv C nt ops cM h0 n0 R mG w0 D A B ρ a w) {X Y:List Rec} {r:Rec} (hR:R=X++r::Y) (hD:¬D r.idx)
  (sK:∀o e,ops[r.idx]? =some o->e∈o.after->Region.binds .any e=true->D e.on) {o:Oper} (hrel:yZ tt nt ops o r.o) (hc:r.c= .pure) {x:Value}
  (hv:∀ρ',(∀b,Kept n0 R D b->ρ' b=ρ b)->aC ρ' r.nx.toNat C r.v x):
  Inv C nt ops cM h0 n0 R mG w0 (λi=>D i\/i=r.idx) A B ρ (a.put o.dst x) w:=by
 obtain⟨hp,hI⟩:=hI;refine⟨hp.next G hR sK (by rw[hc];rfl) _ _,λρ' Em=> ?_⟩;have hf:∀b,Kept n0 R D b->ρ' b=ρ b:=λb hb=>Em b (hb.up λ_ h=>.inl h)
 have h:=hI ρ' hf;have hnr:∀s∈A,(D s.idx\/s.idx=r.idx)->∀id aQ,s.c= .new id aQ->D s.idx:=λs hs ia id aQ gM=>by
  rcases ia with ia|ia
  .exact ia
  .rw[G.same (by rw[hp.split];simp[hs]) (by rw[hR];simp) ia,hc]at gM;cases gM
 obtain⟨k1,k2⟩:=afm G hp h.t1 h.t0 hR hD hrel (hv ρ' hf);exact⟨h.W,λs hs ia id aQ gM=>h.N s hs (hnr s hs ia id aQ gM) id aQ gM,
  λs hs ia id aQ gM s' pJ Ii wL FG uB=>h.N2 s hs (hnr s hs ia id aQ gM) id aQ gM s' pJ (hnr s' pJ Ii wL FG uB) wL FG uB,k1,k2,h.E,h.agree⟩
theorem bS.grow{ρ:Pos->Loc}{st:St}{w w':World}(h:bS ρ C st w)(hs:w.heap.size<=w'.heap.size)(hb:∀k,k<w.heap.size->w'.heap[k]? =w.heap[k]?):bS ρ C st w' where
 live b x hx:=let⟨h1,h2,h3⟩:=h.live b x hx;⟨h1,Zc5 h2 hs,h3.of_heap (hb _ h2)⟩
 inj:=h.inj
 dH a v ha:=by
  obtain⟨h1,h2⟩:=h.dH a v ha;exact⟨by rw[World.cell?_of_block (w:=w) (hb _ (World.block_lt_of_cell? _ _ h1))];exact h1,h2⟩
 whole a v ha o ho:=by have gx:a.block<w.heap.size:=World.block_lt_of_cell? _ _ (h.dH a v ha).1;rw[World.cell?_of_block (w:=w) (a:=⟨a.block,o,none⟩) (hb _ gx)];exact h.whole a v ha o ho
theorem aiD(G:CB tt nt ops call cM h0 n0 R){mG:Pos->Loc}{w0:World}{D:Nat->Prop}{A B:List Rec}{ρ:Pos->Loc}{a:Act}{w w':World}
   (hI:Inv C nt ops cM h0 n0 R mG w0 D A B ρ a w) {X Y:List Rec} {r:Rec} (hR:R=X++r::Y) (hD:¬D r.idx)
   (sK:∀o e,ops[r.idx]? =some o->e∈o.after->Region.binds .any e=true->D e.on) {o:Oper} (hrel:yZ tt nt ops o r.o) {id:Pos} {aQ:AB} (hc:r.c= .new id aQ) {x:Value} {L:Loc}
   (hL:w.heap.size<=L.aQ) (hL':L.aQ<w'.heap.size) (hos:w'.os=w.os) (anc:w'.tape=w.tape) (hout:w'.output=w.output) (aiE:∀k,k<w.heap.size->w'.heap[k]? =w.heap[k]?)
   (hv:∀ρ',(∀b,Kept n0 R D b->ρ' b=ρ b)->ρ' id=L->aC ρ' r.nx.toNat C r.v x/\ri ρ' r.nx.toNat C L w' aQ):
   Inv C nt ops cM h0 n0 R mG w0 (λi=>D i\/i=r.idx) A B (λb=>if b=id then L else ρ b) (a.put o.dst x) w':=by
 obtain⟨hp,hI⟩:=hI;have hrA:r∈A:=by
   have:r∈R:=(by rw[hR];simp);rw[hp.split]at this;exact(Ze7.1 this).resolve_right λh=>hD (hp.inB r h)
 obtain⟨hid,RJ⟩:=G.RI hR hc;have fC:w.heap.size<=w'.heap.size:=by omega
 refine⟨hp.next G hR sK (by rw[hc];rfl) _ _,λρ' Em=> ?_⟩;have hkid:Kept n0 R (λi=>D i\/i=r.idx) id:=by
   (intro A' r' B' PY hD';have cA:r'.idx≠r.idx:=λe=>hD' (.inr e));rcases G.cmp hR PY cA with⟨Z,rfl⟩|⟨Z,rfl⟩
   .left;have:=G.Oi hR PY;rw[RJ,Pos.aK]at this;omega
   .right;have:=G.He hR;rw[hid];exact this
 have afn:ρ' id=L:=by rw[Em id hkid];simp
 have hf:∀b,Kept n0 R D b->ρ' b=ρ b:=λb hb=>by
   have cA:b≠id:=by
     rintro rfl;rcases hb X r Y hR hD with h|h
     .  rw[hid]at h;omega
     .  rw[RJ,Pos.aK]at h;omega
   rw[Em b (hb.up λ_ h=>.inl h)];exact Zb2 cA
 have h:=hI ρ' hf;obtain⟨hv1,Rq⟩:=hv ρ' hf afn;obtain⟨k1,k2⟩:=afm G hp h.t1 h.t0 hR hD hrel hv1;have abg:∀s∈A,(D s.idx\/s.idx=r.idx)->D s.idx\/s=r:=λs hs ia=>ia.imp (λh=>h) λia=>G.same (by rw[hp.split];simp[hs]) (by rw[hR];simp) ia
 refine⟨h.W.grow fC aiE,λs hs ia wL FG gM=> ?_,λs hs ia wL FG gM s' pJ Ii id'' aku uB cA=> ?_,k1,k2,?_,h.agree⟩
 . rcases abg s hs ia with ia|rfl
   .obtain⟨g1,g2,g3,g4,g5⟩:=h.N s hs ia wL FG gM;exact⟨g1.of_heap (aiE _ g2),by omega,g3,g4,g5⟩
   . rw[hc]at gM;simp only[RC.new.injEq]at gM;obtain⟨rfl,rfl⟩:=gM;rw[afn];refine⟨Rq,hL',Zb7 h.E.size hL,λb x hb e=> ?_,λad v ha e=> ?_⟩
     .  have:=(h.W.live b x hb).2.1;omega
     .  have:=World.block_lt_of_cell? _ _ (h.W.dH ad v ha).1;omega
 . rcases abg s hs ia with hDk|rfl
   . rcases abg s' pJ Ii with aiF|rfl
     .  exact h.N2 s hs hDk wL FG gM s' pJ aiF id'' aku uB cA
     .  rw[hc]at uB;simp only[RC.new.injEq]at uB;obtain⟨rfl,rfl⟩:=uB;have:=(h.N s hs hDk wL FG gM).2.1;rw[afn];omega
   . rw[hc]at gM;simp only[RC.new.injEq]at gM;obtain⟨rfl,rfl⟩:=gM;rcases abg s' pJ Ii with aiF|rfl
     .  have:=(h.N s' pJ aiF id'' aku uB).2.1;rw[afn];omega
     .  rw[hc]at uB;simp only[RC.new.injEq]at uB;exact absurd uB.1 cA
 .exact⟨hos.trans h.E.os,anc.trans h.E.tape,hout.trans h.E.output,Zb7 h.E.size fC,λk hk hn=>by rw[aiE k (Zc5 hk h.E.size)];exact h.E.block k hk hn,h.E.xL⟩
theorem afo(G:CB tt nt ops call cM h0 n0 R){mG:Pos->Loc}{w0:World}{D:Nat->Prop}{A B:List Rec}{ρ:Pos->Loc}{a:Act}{w:World}
  (h:Inv0 C cM h0 n0 R mG w0 D A B ρ a w) (amn:R=A++B) {hp:T AB} {N:Pos} (hN:(eA n0 B).toNat<=N.toNat)
  (xT:∀b x,hp.get b=some x->(kP h0 B).get b=some x\/∃s∈A,D s.idx/\s.c= .new b x/\s.nx.toNat<=N.toNat):bS ρ C { heap:=hp,next:=N } w where
 live b x hb:=by
  rcases xT b x hb with h1|⟨s,hs,hD,hc,hn⟩
  .  obtain⟨g1,g2,g3⟩:=h.W.live b x h1;exact⟨Zc5 g1 hN,g2,g3.mono (λ_ _=>rfl) hN⟩
  .  obtain⟨g1,g2,_⟩:=h.N s hs hD b x hc;obtain⟨M,T,hM⟩:=nJ (r:=s) (R:=R) (by rw[amn];simp[hs]);obtain⟨_,e⟩:=G.RI hM hc;rw[e]at hn;refine⟨?_,g2,g1.mono (λ_ _=>rfl) (by rw[e];exact hn)⟩;rw[Pos.aK]at hn;exact hn
 inj b  b' x x' hb gK he:=by
  rcases xT b x hb with h1|⟨s,hs,hD,hc,hn⟩
  .  rcases xT b' x' gK with h1'|⟨s',pJ,hD',UM,hn'⟩
     .  exact h.W.inj b b' x x' h1 h1' he
     .  exact absurd he ((h.N s' pJ hD' b' x' UM).2.2.2.1 b x h1)
  .  rcases xT b' x' gK with h1'|⟨s',pJ,hD',UM,hn'⟩
     .  exact absurd he.symm ((h.N s hs hD b x hc).2.2.2.1 b' x' h1')
     .  by_cases e:b=b'
        .exact e
        .exact absurd he (h.N2 s hs hD b x hc s' pJ hD' b' x' UM e)
 dH ad v ha:=⟨(h.W.dH ad v ha).1,λb x hb=>by
  rcases xT b x hb with h1|⟨s,hs,hD,hc,hn⟩
  .  exact(h.W.dH ad v ha).2 b x h1
  .  exact(h.N s hs hD b x hc).2.2.2.2 ad v ha⟩
 whole:=h.W.whole
theorem CC:∀{Z B:List Rec}{b:Pos}{x:AB},(∀r∈Z,r.c.oO=false)->Kj B->(kQ h0 (Z++B)).get b=some x->
  (kP h0 B).get b=some x\/∃s∈Z,s.c= .new b x
 |[],B,b,x,_,hB,h=>by
  cases B with
  |nil=>exact .inl h
  | cons r B=>
    simp only[Kj]at hB;(cases hc:r.c<;>rw[hc]at hB<;>first|(cases hB;done)|skip);simp only[Zg3,kQ,hc]at h;simp only[kP,hc];exact .inl h
 |r ::Z,B,b,x,hZ,hB,h=>by
  have ih:=@CC Z B b x (λs hs=>hZ s (Za8 _ hs)) hB;have hr:=hZ r (Ze1 ..);simp only[Ze3,kQ]at h;cases hc:r.c with
  |pure=>rw[hc]at h;exact(ih h).imp (λh=>h) λ⟨s,h1,h2⟩=>⟨s,Za8 _ h1,h2⟩
  |br _ _=>rw[hc]at hr;cases hr
  | new id aQ=>
    rw[hc]at h;by_cases e:id=b
    .   subst e;rw[T.fP]at h;simp only[H0]at h;subst h;exact .inr ⟨r,Ze1 ..,hc⟩
    .   rw[T.bY _ e]at h;exact(ih h).imp (λh=>h) λ⟨s,h1,h2⟩=>⟨s,Za8 _ h1,h2⟩
end
section
variable{P:Program}{tt:TT}{C:Cells}{nt:Nat}{ops:Array Oper}{call:aq}{cM:Fr}{h0:T AB}{n0:Pos}{R:List Rec}
theorem around(G:CB tt nt ops call cM h0 n0 R){D:Nat->Prop}{A B:List Rec}{a:Act}(hp:ZJ nt ops R D A B a){X Y:List Rec}{r:Rec}(hR:R=X++r::Y)(hD:¬D r.idx):
  ∃Z,A=X++r::Z/\Y=Z++B:=by
 have hrA:r∈A:=by
  have:r∈R:=by rw[hR];simp
  rw[hp.split]at this;exact(Ze7.1 this).resolve_right λh=>hD (hp.inB r h)
 obtain⟨X',Z,hA⟩:=nJ hrA;have h2:R=X'++r::(Z++B):=by rw[hp.split,hA];simp
 obtain⟨rfl,_,rfl⟩:=Ih G.one hR h2 rfl;exact⟨Z,hA,rfl⟩
theorem aiG(G:CB tt nt ops call cM h0 n0 R){mG:Pos->Loc}{w0:World}{D:Nat->Prop}{A B:List Rec}{ρ:Pos->Loc}{a:Act}{w w':World}
   (hI:Inv C nt ops cM h0 n0 R mG w0 D A B ρ a w) {X Y:List Rec} {r:Rec} (hR:R=X++r::Y) (hD:¬D r.idx)
   (sK:∀o e,ops[r.idx]? =some o->e∈o.after->Region.binds .any e=true->D e.on) {o:Oper} (hrel:yZ tt nt ops o r.o)
   (hY:∀s∈Y,D s.idx) {st':St} {b0:T AB} (hc:r.c= .br b0 st'.heap) (RJ:r.nx=st'.next) {x:Value}
   (afp:kE ρ C { heap:=kQ h0 Y,next:=eA n0 Y } w r.v st' x w'):
   ∃tQ,Inv C nt ops cM h0 n0 R mG w0 (λi=>D i\/i=r.idx) X (r::Y) tQ (a.put o.dst x) w':=by
 obtain⟨hp,hI⟩:=hI;obtain⟨jH,hv,hρ1,hle,hW1,hE1⟩:=afp;simp only at hρ1 hle;obtain⟨Z,hA,rfl⟩:=around G hp hR hD;have hZ:∀s∈Z,s.c.oO=false:=λs hs=>hp.inA s (by rw[hA];simp[hs]) (hY s (by simp[hs]))
 have hXA:∀s∈X,s∈A:=λs hs=>by rw[hA];simp[hs]
 have hXD:∀s∈X,(D s.idx\/s.idx=r.idx)->D s.idx:=λs hs h=>h.resolve_right (G.later hR hs)
 have hnB:(eA n0 B).toNat<=(eA n0 (Z++B)).toNat:=G.EZ (X:=X++[r]) (by rw[hR];simp)
 let tQ:Pos->Loc:=λb=>if(eA n0 (Z++B)).toNat<=b.toNat/\b.toNat<r.nx.toNat then jH b else ρ b
 have abN:∀b:Pos,b.toNat<(eA n0 (Z++B)).toNat->Kept n0 R D b:=by
   intro b hb M s T hM ia;left;by_cases hi:s.idx=r.idx
   .obtain⟨_,_,rfl⟩:=Ih G.one hM hR hi;exact hb
   . rcases G.cmp hR hM hi with⟨W,rfl⟩|⟨W,hW⟩
     .  have:=G.Oi hR hM;have:=G.aks hR;omega
     .  exact absurd (hY s (by rw[hW];simp)) ia
 refine⟨tQ,⟨by rw[hR],by simp[Kj,hc,RC.oO],?_,?_,?_,by rw[Act.jQ];exact hp.size,by rw[Act.lH];exact hp.defers⟩,λρ' Em=> ?_⟩
 . intro s hs;rcases Zb4.1 hs with rfl|hs
   .exact .inr rfl
   .exact .inl (hY s hs)
 .intro s hs ia;exact hp.inA s (hXA s hs) (hXD s hs ia)
 . intro i o' e hDi ho he hb;rcases hDi with hDi|rfl
   .exact .inl (hp.closed i o' e hDi ho he hb)
   .exact .inl (sK o' e ho he hb)
 have ane:∀b:Pos,b.toNat<r.nx.toNat->Kept n0 R (λi=>D i\/i=r.idx) b:=by
   (intro b hb M s T hM ia;left;have hi:s.idx≠r.idx:=λe=>ia (.inr e));rcases G.cmp hR hM hi with⟨W,rfl⟩|⟨W,hW⟩
   .exact Zc5 hb (G.Oi hR hM)
   .exact absurd (.inl (hY s (by rw[hW];simp))) ia
 have hf:∀b,Kept n0 R D b->ρ' b=ρ b:=λb hb=>by rw[Em b (hb.up λ_ h=>.inl h)];refine Zb2 ?_;rintro⟨g1,g2⟩;rcases hb X r _ hR hD with h|h<;>omega
 have h:=hI ρ' hf;have ZL:∀b:Pos,b.toNat<r.nx.toNat->ρ' b=jH b:=by
   intro b hb;rcases Zj9 b.toNat (eA n0 (Z++B)).toNat with g|g
   .rw[hf b (abN b g),hρ1 b g]
   .rw[Em b (ane b hb)];exact Zb5 ⟨g,hb⟩
 have Gd:aC ρ' r.nx.toNat C r.v x:=by
   rw[RJ]at ZL ⊢;exact hv.mono ZL (Za6 _)
 have iW:bS ρ' C { heap:=st'.heap,next:=r.nx } w':=by rw[RJ]at ZL ⊢;exact hW1.congr ZL
 have hold:∀s∈X,D s.idx->∀id aQ,s.c= .new id aQ->∀b y,(kQ h0 (Z++B)).get b=some y->(ρ b).aQ≠(ρ' id).aQ:=by
   intro s hs ia id aQ gM b y hb;obtain⟨g1,g2,g3,g4,g5⟩:=h.N s (hXA s hs) ia id aQ gM;obtain⟨M,T,hM⟩:=nJ (r:=s) (R:=R) (by rw[hR];simp[hs]);rcases CC hZ hp.bound hb with hb|⟨s',pJ,uB⟩
   .rw[<-hf b (abN b (Zc5 (h.W.live b y hb).1 hnB))];exact g4 b y hb
   . obtain⟨Z1,Z2,rfl⟩:=nJ pJ;have hM':R=(X++r::Z1)++s'::(Z2++B):=(by rw[hR];simp);obtain⟨e1,e2⟩:=G.RI hM' uB;obtain⟨e3,e4⟩:=G.RI hM gM;have hbn:b.toNat<(eA n0 ((Z1++s'::Z2)++B)).toNat:=(by have:=G.He (X:=X) (r:=r) (Z:=Z1) (r':=s') (Y':=Z2++B) (by rw[hR];simp);rw[e2,Pos.aK]at this;simp only[Zg4,Ze3];omega);have hsr:s.idx≠r.idx:=G.later hR hs;have hid:r.nx.toNat<=id.toNat:=by
        rcases G.cmp hR hM hsr with⟨W,rfl⟩|⟨W,hW⟩
        .rw[e3];exact G.Oi hR hM
        .obtain⟨A1,A2,hX⟩:=nJ hs;have hM2:R=A1++s::(A2++r::((Z1++s'::Z2)++B)):=(by rw[hR,hX];simp);have rV:s∈(Z1++s'::Z2)++B:=(by rw[hW];simp);exact absurd rfl (G.one A1 s _ hM2 s (Ze7.2 (.inr (Za8 _ rV))))
     have cA:b≠id:=(by rintro rfl;have:=G.aks hR;omega);rw[<-hf b (abN b hbn)];exact h.N2 s' (by rw[hA];simp) (hY s' (by simp)) b y uB s (hXA s hs) ia id aQ gM cA
 have hEa:nh mG { heap:=h0,next:=n0 } w0 ρ { heap:=kQ h0 (Z++B),next:=eA n0 (Z++B) } w:=by
   refine⟨h.E.os,h.E.tape,h.E.output,h.E.size,h.E.block,λb y hb=> ?_⟩;rcases CC hZ hp.bound hb with hb|⟨s',pJ,uB⟩
   .rw[<-hf b (abN b (Zc5 (h.W.live b y hb).1 hnB))];exact h.E.xL b y hb
   .obtain⟨Z1,Z2,rfl⟩:=nJ pJ;have hM':R=(X++r::Z1)++s'::(Z2++B):=(by rw[hR];simp);obtain⟨e1,e2⟩:=G.RI hM' uB;have hbn:b.toNat<(eA n0 ((Z1++s'::Z2)++B)).toNat:=(by have:=G.He (X:=X) (r:=r) (Z:=Z1) (r':=s') (Y':=Z2++B) (by rw[hR];simp);rw[e2,Pos.aK]at this;simp only[Zg4,Ze3];omega);rw[<-hf b (abN b hbn)];exact .inr (h.N s' (by rw[hA];simp) (hY s' (by simp)) b y uB).2.2.1
 obtain⟨k1,k2⟩:=afm G hp h.t1 h.t0 hR hD hrel Gd;refine⟨?_,λs hs ia id aQ gM=> ?_,λs hs ia id aQ gM s' pJ Ii wL FG uB cA=> ?_,k1,k2,?_,h.agree⟩
 .simp only[kP,hc,eA];exact iW
 . have ia:=hXD s hs ia;obtain⟨g1,g2,g3,g4,g5⟩:=h.N s (hXA s hs) ia id aQ gM;refine⟨g1.of_heap (hE1.block _ g2 (hold s hs ia id aQ gM)),Zc5 g2 hE1.size,g3,λb y hb=> ?_,g5⟩;simp only[kP,hc]at hb;rw[ZL b (by rw[RJ];exact(hW1.live b y hb).1)];rcases hE1.xL b y hb with⟨b',y',gK,e⟩|e
   .rw[<-e];exact hold s hs ia id aQ gM b' y' gK
   .omega
 .exact h.N2 s (hXA s hs) (hXD s hs ia) id aQ gM s' (hXA s' pJ) (hXD s' pJ Ii) wL FG uB cA
 . have:=(hEa.trans hE1).congr (ρ':=ρ') λb y hb=>ZL b (by rw[RJ];exact(hW1.live b y hb).1)
   simp only[kP,hc,eA];exact⟨this.os,this.tape,this.output,this.size,this.block,this.xL⟩
end
section
variable{P:Program}{tt:TT}{C:Cells}{nt:Nat}{ops:Array Oper}{call:aq}{cM:Fr}{h0:T AB}{n0:Pos}{R:List Rec}
theorem E0{ρ:Pos->Loc}{n:Pos}{w:World}(hC:∀ad v,C ad=some v->w.cell? ad=some v)(hC2:∀a v,C a=some v->∀o,C ⟨a.block,o,none⟩=none->w.cell? ⟨a.block,o,none⟩=none):bS ρ C { heap:= .e,next:=n } w where
 live b x hb:=by rw[T.eV]at hb;cases hb
 inj b b' x x' hb:=by rw[T.eV]at hb;cases hb
 dH a v ha:=⟨hC a v ha,λb x hb=>by rw[T.eV]at hb;cases hb⟩
 whole:=hC2
theorem Yields.eq{N:Next}{x y:Value}(h:Yields N x)(k:Yields N y):x=y:=by
 rcases h with rfl|⟨rfl,rfl⟩<;>rcases k with k|⟨k,rfl⟩
 .simp only[Next.value.injEq]at k;exact k
 .cases k
 .cases k
 .rfl
theorem agL(hT:cQ P tt){o:Oper}{k:aJ}{xs:List gO}{cls:Cls}(hc:jV tt o.op=some (k,xs,cls)){n:Pos}{vs:List AV}{v:AV}{aQ:AB}
  (hr:k.run (λ_=>none) n vs=some (.br v none none (some aQ))) {fr:Fr} (hx:fE fr xs=some vs) {a:Act} {w:World} {Fam:(Pos->Loc)->Prop} {ρ:Pos->Loc} (bG:Fam ρ)
  (hF:∀ρ',Fam ρ'->kC ρ' n.toNat C fr a.tmps) (hC:∀ad v,C ad=some v->w.cell? ad=some v) (hC2:∀a v,C a=some v->∀o,C ⟨a.block,o,none⟩=none->w.cell? ⟨a.block,o,none⟩=none):
  ∃ N x w' L,(execOp a.eval o).run P w= .ok N w'/\Yields N x/\w.heap.size<=L.aQ/\L.aQ<w'.heap.size/\w'.os=w.os/\w'.tape=w.tape/\w'.output=w.output/\
    (∀k,k<w.heap.size->w'.heap[k]? =w.heap[k]?)/\∀ρ',Fam ρ'->ρ' n=L->aC ρ' n.succ.toNat C v x/\ri ρ' n.succ.toNat C L w' aQ:=by
 have dy:k.run (λb=>T.get b (T.e:T AB)) n vs=some (.br v none none (some aQ)):=by
  have e:(λb=>T.get b (T.e:T AB))=λ_=>none:=by funext b;exact T.eV b
  rw[e];exact hr
 have H:=λρ' (hf:Fam ρ')=>TH hT o.op ρ' C { heap:= .e,next:=n } w k xs cls fr a o vs _ rfl hc (E0 hC hC2) (hF ρ' hf) hx dy
 have key:∀ρ',Fam ρ'->∃N x w' jH,(execOp a.eval o).run P w= .ok N w'/\Yields N x/\(∀b:Pos,b.toNat<n.toNat->jH b=ρ' b)/\aC jH n.succ.toNat C v x/\
    ri jH n.succ.toNat C (jH n) w' aQ/\w.heap.size<=(jH n).aQ/\(jH n).aQ<w'.heap.size/\w'.os=w.os/\w'.tape=w.tape/\w'.output=w.output/\
    (∀k,k<w.heap.size->w'.heap[k]? =w.heap[k]?):=by
  intro ρ' hf;obtain⟨N,x,w',jH,he,hy,h1,h2,h3,h4⟩:=H ρ' hf;have hg:(St.br { heap:= .e,next:=n } none none (some aQ)).heap.get n=some aQ:=T.fP _ _ _;obtain⟨g1,g2,g3⟩:=h2.live n aQ hg;refine⟨N,x,w',jH,he,hy,h1,h3,g3,?_,g2,h4.os,h4.tape,h4.output,λk hk=>h4.block k hk λb x hb=> ?_⟩
  . rcases h4.xL n aQ hg with⟨b',x',gK,_⟩|h
    .   rw[T.eV]at gK;cases gK
    .   exact h
  .rw[T.eV]at hb;cases hb
 obtain⟨N,x,w',jH,he,hy,h1,h2,h3,h4,h5,h6,h7,h8,h9⟩:=key ρ bG;refine⟨N,x,w',jH n,he,hy,h4,h5,h6,h7,h8,h9,λρ' hf hL=> ?_⟩;obtain⟨N',x',w'',tQ,qf,hy',k1,k2,k3,_⟩:=key ρ' hf;rw[he]at qf;simp only[Result.ok.injEq]at qf;obtain⟨rfl,rfl⟩:=qf;have hxx:=hy.eq hy';subst hxx;have akv:n.toNat<n.succ.toNat:=by rw[Pos.aK];omega
 have agree:(tQ n).aQ=(jH n).aQ->(tQ n).base=(jH n).base->(∃cs fz,aQ= .cells cs fz)->aC ρ' n.succ.toNat C v x/\ri ρ' n.succ.toNat C (jH n) w' aQ:=by
  intro e1 e2 Cq;have e3:(tQ n).size=(jH n).size:=by
    obtain⟨cs,fz,rfl⟩:=Cq;obtain⟨c,e,fr,g1,g2,_⟩:=h3;obtain⟨c',e',bK,g1',g2',_⟩:=k3;rw[e1,g1]at g1';simp only[H0,Obj.cells.injEq]at g1';rw[<-g2, <-g2',g1'.1]
  have e4:tQ n=jH n:=by
    cases hh:tQ n;cases hh':jH n;rw[hh,hh']at e1 e2 e3;simp only at e1 e2 e3;rw[e1,e2,e3]
  have nT:∀b:Pos,b.toNat<n.succ.toNat->ρ' b=tQ b:=by
    intro b hb;rcases Zj9 b.toNat n.toNat with g|g
    .   exact(k1 b g).symm
    .   have:b=n:=Pos.toNat_inj (by rw[Pos.aK]at hb;omega);subst this;rw[hL,e4]
  refine⟨k2.mono nT (Za6 _),?_⟩;rw[<-e4];exact k3.mono nT (Za6 _)
 cases akR hr with
 |ptr cs=>
  obtain⟨_,g1⟩:=h2.o9;obtain⟨_,g2⟩:=k2.o9;rw[g1]at g2;simp only[Value.pointer.injEq,H0,Addr.mk.injEq,Zl0,Zm4]at g2;exact agree g2.1.symm g2.2.symm ⟨cs,0,rfl⟩
 |slice len es cap cs gM=>
  obtain⟨ad,bA,g1,g2,g3,g4⟩:=h2.ff;obtain⟨ad',akw,g1',g2',g3',g4'⟩:=k2.ff;rw[g1]at g1';simp only[Value.slice.injEq,H0,true_and]at g1';obtain⟨rfl,rfl⟩:=g1';by_cases h0:bA=0
  . subst h0;have hl0:len=0:=(by omega);have hcs0:cs=[]:=gM hl0 (by
        cases cap with
        |none=>exact .inl rfl
        |some c=>exact .inr (by rw[g3 c rfl]))
    subst hcs0;refine⟨?_,?_⟩
    .   rw[g1];exact .slice n 0 len cap es 0 ad g2 g3 (λh=>absurd rfl h) (λ_=>akv)
    .   obtain⟨c,e,fr,q1,q2,q3,q4,q5⟩:=h3;exact⟨c,e,fr,q1,q2,q3,aI.nil,q5⟩
  .obtain⟨_,a1,_⟩:=g4 h0;obtain⟨_,a2,_⟩:=g4' h0;rw[a1]at a2;simp only[Addr.mk.injEq,Zl0,Zm4]at a2;exact agree a2.1.symm a2.2.symm ⟨cs,0,rfl⟩
 |map=>
  obtain⟨_,g1⟩:=h2.Bn;refine⟨?_,?_⟩
  .rw[g1, <-hL];exact .map n akv
  .obtain⟨es',q1,q2,q3⟩:=h3;exact⟨es',q1,q2,λi e e' he=>by simp at he⟩
end
section
variable{P:Program}{tt:TT}{C:Cells}{nt:Nat}{ops:Array Oper}{call:aq}{cM:Fr}{h0:T AB}{n0:Pos}{R:List Rec}
def z7(fr:Fr):List Pos->Fr
 |[]=>.e
 |p::l=>(z7 fr l).put (fr.get p) p
theorem ZM{fr:Fr}{p:Pos}:∀{l:List Pos},p∈l->(z7 fr l).get p=fr.get p
 |[],h=>by cases h
 |q ::l,h=>by
  simp only[z7];by_cases e:q=p
  .subst e;exact T.fP _ _ _
  .rw[T.bY _ e];exact ZM ((Zb4.1 h).resolve_left λh=>e h.symm)
theorem UR{fr:Fr}{p:Pos}{v:AV}:∀{l:List Pos},(z7 fr l).get p=some v->p∈l/\fr.get p=some v
 |[],h=>by simp only[z7]at h;rw[T.eV]at h;cases h
 |q ::l,h=>by
  simp only[z7]at h;by_cases e:q=p
  .subst e;rw[T.fP]at h;exact⟨by simp,h⟩
  .rw[T.bY _ e]at h;obtain⟨h1,h2⟩:=UR h;exact⟨by simp[h1],h2⟩
theorem ZN{fr:Fr}{l:List Pos}:∀{xs:List gO},(∀p,gO.t p∈xs->p∈l)->fE (z7 fr l) xs=fE fr xs
 |[],_=>rfl
 |x::xs,h=>by
  have h1:ET (z7 fr l) x=ET fr x:=by
   cases x with
   |t p=>exact ZM (h p (by simp))
   |c v=>rfl
  simp only[fE,h1,ZN λp hp=>h p (Za8 _ hp)]
theorem agM{o:bR}{p:Pos}(h:gO.t p∈o.xs):p∈o.looks:=by
 unfold bR.looks;exact List.mem_append_right _ (List.mem_filterMap.2 ⟨_,h,rfl⟩)
theorem adH{o:bR}{p:Pos}{q:Bool}(h:o.guard=some (p,q)):p∈o.looks:=by unfold bR.looks;rw[h];simp
theorem Yields.upon{o:Oper}{a:Act}{K:Act->World->Prop}{Q:Exit->Act->World->Prop}{N:Next}{x:Value}{w:World}(h:Yields N x)(hk:K (a.put o.dst x) w):o.upon P a K Q (.ok N w):=by rcases h with rfl|⟨rfl,rfl⟩<;>exact hk
theorem aiH(hT:cQ P tt)(c9:iK P C call)(G:CB tt nt ops call cM h0 n0 R){Q:Exit->Act->World->Prop}{mG:Pos->Loc}{w0:World}{D:Nat->Prop}{A B:List Rec}{ρ:Pos->Loc}{a:Act}{w:World}
  (hI:Inv C nt ops cM h0 n0 R mG w0 D A B ρ a w) {i:Nat} (hi:i<ops.size) (hD:¬D i)
  (sK:∀o e,ops[i]? =some o->e∈o.after->Region.binds .any e=true->D e.on):
  wpOp P ops Q i (λa' w'=>∃A' B' ρ',Inv C nt ops cM h0 n0 R mG w0 (λj=>D j\/j=i) A' B' ρ' a' w') a w:=by
 obtain⟨r,hr,rfl⟩:=G.all i hi;obtain⟨X,Y,hR⟩:=nJ hr;obtain⟨o,ho,hrel,hB⟩:=G.rel r hr;have hp:=hI.1;have YF:∀b,r.o.bZ.testBit b=true->D b:=λb hb=>G.Xa hp.closed (hB.2 b hb) sK
 obtain⟨Z,hA,ZO⟩:=around G hp hR hD;have Oj:∀ρ',(∀b,Kept n0 R D b->ρ' b=ρ b)->∀p v,p∈r.o.looks->(pK cM Y).get p=some v->∃x,a.tmps[p.toNat - 1]? =some x/\aC ρ' (eA n0 Y).toNat C v x:=
  λρ' hf p v hl hv=>look G hp (hI.2 ρ' hf).t1 (hI.2 ρ' hf).t0 hR hD YF hl hv
 have hFR:∀ρ',(∀b,Kept n0 R D b->ρ' b=ρ b)->kC ρ' (eA n0 Y).toNat C (z7 (pK cM Y) r.o.looks) a.tmps:=λρ' hf p v hv=>
  let⟨h1,h2⟩:=UR hv;Oj ρ' hf p v h1 h2
 have Ol:∀b,Kept n0 R D b->ρ b=ρ b:=λ_ _=>rfl
 have hw:∀b,cw (pK cM Y) r.o.guard=some b->Region.wanted o (yielded ops a.tmps)=b:=λb hb=>
  Ic hrel.guard (λp v hv ⟨q,hq⟩=>Oj ρ Ol p v (adH hq) hv) hb
 have hnZ:∀s∈Z,s.nx.toNat<=(eA n0 Y).toNat:=λs hs=>by obtain⟨Z1,Z2,rfl⟩:=nJ hs;have:=G.He (X:=X) (r:=r) (Z:=Z1) (r':=s) (Y':=Z2++B) (by rw[hR,ZO];simp);rw[ZO];simp only[Zg4,Ze3];exact this
 have hnB:(eA n0 B).toNat<=(eA n0 Y).toNat:=by rw[ZO];exact G.EZ (X:=X++[r]) (by rw[hR,ZO];simp)
 have hs:=Good.at (hR ▸G.VO);have hex:∀xs,fE (pK cM Y) r.o.xs=some xs->fE (z7 (pK cM Y) r.o.looks) r.o.xs=some xs:=λxs hx=>by rw[ZN λp hp=>agM hp];exact hx
 unfold wpOp;simp only[ho];generalize hrr:r=r0 at*
 cases hs with
 |skip i' o' _ hw'=>
  rw[Zb2 (by rw[hw _ hw'];simp)];exact⟨A,B,ρ,ZK G hI hR hD sK hrel rfl λρ' _=> .ZE⟩
 |pure i' o' v xs _ hw' hx UP=>
  rw[Zb5 (hw _ hw')];refine .inl ?_;rw[ZO]at UP;obtain⟨h,xT,dy⟩:=UP Z B rfl hp.bound λs hs he=>by
    cases hb:o'.bZ.testBit s.idx with
    |false=>rfl
    |   true=>
        have h1:=hp.inA s (by rw[hA];simp[hs]) (YF _ hb);rw[h1]at he;cases he
  rcases hrel.op with hc|⟨hk,_⟩
  . have H:∀ρ',(∀b,Kept n0 R D b->ρ' b=ρ b)->∃N x,(execOp a.eval o).run P w= .ok N w/\Yields N x/\aC ρ' (eA n0 Y).toNat C v x:=by
        intro ρ' hf;have hW:=afo G (hI.2 ρ' hf) hp.split (hp:=h) hnB λb y hb=>(xT b y hb).imp (λh=>h) λ⟨s,h1,h2,h3⟩=>
          ⟨s,by rw[hA];simp[h1],YF _ h3,h2,hnZ s h1⟩
        exact TH hT o.op ρ' C _ w _ _ _ _ a o _ _ rfl hc hW (hFR ρ' hf) (hex xs hx) (aiA dy λ_ _ h=>h)
    obtain⟨N,x,he,hy,hv⟩:=H ρ Ol;unfold Oper.wp;rw[he];refine hy.upon ⟨A,B,ρ,ZK G hI hR hD sK hrel rfl λρ' hf=> ?_⟩;obtain⟨N',x',qf,hy',Gd⟩:=H ρ' hf;rw[he]at qf;simp only[Result.ok.injEq,Zm4]at qf;subst qf;rw[hy.eq hy'];exact Gd
  .rw[hk]at dy;cases dy
 |new   i' o' v aQ xs _ hw' hx dy=>
  rw[Zb5 (hw _ hw')];refine .inl ?_;rcases hrel.op with hc|⟨hk,_⟩
  . obtain⟨N,x,w',L,he,hy,h1,h2,h3,h4,h5,h6,h7⟩:=agL hT hc dy (hex xs hx) (Fam:=λρ'=>∀b,Kept n0 R D b->ρ' b=ρ b) Ol hFR
        (λad v ha=>((hI.2 ρ Ol).W.dH ad v ha).1) (hI.2 ρ Ol).W.whole
    unfold Oper.wp;rw[he];exact hy.upon ⟨A,B,_,aiD G hI hR hD sK hrel rfl h1 h2 h3 h4 h5 h6 h7⟩
  .rw[hk]at dy;cases dy
 |br i' o' v st' xs _ aiB hw' hx nj=>
  rw[Zb5 (hw _ hw')];refine .inl ?_;rcases hrel.op with hc|⟨hk,_⟩
  . have hY:∀s∈Y,D s.idx:=λs hs=>YF _ (G.br X _ Y hR aiB s hs)
    have hZ:∀s∈Z,s.c.oO=false:=λs hs=>hp.inA s (by rw[hA];simp[hs]) (hY s (by rw[ZO];simp[hs]))
    have hW:bS ρ C { heap:=kQ h0 Y,next:=eA n0 Y } w:=afo G (hI.2 ρ Ol) hp.split hnB λb y hb=>by
        rw[ZO]at hb;rcases CC hZ hp.bound hb with hb|⟨s,h1,h2⟩
        .exact .inl hb
        .exact .inr ⟨s,by rw[hA];simp[h1],hY s (by rw[ZO];simp[h1]),h2,hnZ s h1⟩
    have hre:=UN hT c9 hc hW (hFR ρ Ol) (hex xs hx) nj;(refine hre.upon λx w' afp=> ?_);obtain⟨tQ,h⟩:=aiG G hI hR hD sK hrel hY rfl rfl afp;exact⟨_,_,tQ,h⟩
  .exact(Reaches.bad hk nj).elim
end
section
variable{P:Program}{tt:TT}{C:Cells}{nt:Nat}{ops:Array Oper}{call:aq}{cM:Fr}{h0:T AB}{n0:Pos}{R:List Rec}
theorem ZP(G:CB tt nt ops call cM h0 n0 R){mG:Pos->Loc}{w0:World}{D:Nat->Prop}{A B:List Rec}{ρ:Pos->Loc}{a:Act}{w:World}
   (hI:Inv C nt ops cM h0 n0 R mG w0 D A B ρ a w) (nT:∀r∈R,D r.idx):kz nt mG C { heap:=h0,next:=n0 } w0 (pK cM R) { heap:=kQ h0 R,next:=eA n0 R } a w:=by
 obtain⟨hp,hI⟩:=hI;have h:=hI ρ λ_ _=>rfl
 have hZ:∀s∈A,s.c.oO=false:=λs hs=>hp.inA s hs (nT s (by rw[hp.split];simp[hs]))
 have hnA:∀s∈A,s.nx.toNat<=(eA n0 R).toNat:=λs hs=>by obtain⟨Z1,Z2,hA⟩:=nJ hs;have:=G.EZ (X:=[]) (Y:=Z1) (Z:=s::(Z2++B)) (by rw[hp.split,hA];simp);have e:R=Z1++s::(Z2++B):=(by rw[hp.split,hA];simp);rw[<-e]at this;exact this
 have hnB:(eA n0 B).toNat<=(eA n0 R).toNat:=by
   have:=G.EZ (X:=[]) (Y:=A) (Z:=B) (by rw[hp.split];simp)
   rwa [<-hp.split]at this
 have MB:n0.toNat<=(eA n0 R).toNat:=G.afl (X:=[]) rfl;have xT:∀b x,(kQ h0 R).get b=some x->(kP h0 B).get b=some x\/∃s∈A,D s.idx/\s.c= .new b x/\s.nx.toNat<=(eA n0 R).toNat:=λb x hb=>by
   rw[hp.split]at hb;rcases CC hZ hp.bound hb with hb|⟨s,h1,h2⟩
   .exact .inl hb
   .exact .inr ⟨s,h1,nT s (by rw[hp.split];simp[h1]),h2,hnA s h1⟩
 refine⟨ρ,⟨afo G h hp.split hnB xT,?_,hp.size,hp.defers⟩,h.agree,MB,?_⟩
 . intro p v hv;rcases RE R p v hv with⟨M,s,T,hM,h2,rfl,h3⟩|⟨h1,h2⟩
   . obtain⟨x,hx,RF⟩:=h.t1 M s T p hM (nT s (by rw[hM];simp)) h2 λs' pJ _=>h3 s' pJ
     refine⟨x,hx,RF.mono (λ_ _=>rfl) ?_⟩;have:=G.EZ (X:=[]) (Y:=M) (Z:=s::T) (by rw[hM];simp);rw[<-hM]at this;exact this
   . obtain⟨x,hx,RF⟩:=h.t0 p v h1 λs hs _=>h2 s hs
     exact⟨x,hx,RF.mono (λ_ _=>rfl) MB⟩
 . refine⟨h.E.os,h.E.tape,h.E.output,h.E.size,h.E.block,λb x hb=> ?_⟩;rcases xT b x hb with hb|⟨s,h1,h2,h3,_⟩
   .exact h.E.xL b x hb
   .exact .inr (h.N s h1 h2 b x h3).2.2.1
def DL(listed:Array Bool)(j:Nat):Prop:=listed.getD j false=true
theorem agN{listed:Array Bool}{i:Nat}(hi:i<listed.size):(λj=>DL listed j\/j=i)=DL (listed.setIfInBounds i true):=by
 funext j;apply propext;unfold DL;by_cases h:j=i
 .subst h;simp[hi]
 .rw[getD_set_ne false (Ne.symm h)];simp[h]
theorem abO{listed:Array Bool}{j:Nat}(h:listed.getD j true=false):¬DL listed j:=by
 unfold DL;intro h';rcases Zj9 j listed.size with hj|hj
 .simp[hj]at h h';rw[h]at h';cases h'
 .simp[Array.getElem?_eq_none hj]at h'
theorem akT{listed:Array Bool}{j:Nat}(hj:j<listed.size)(h:¬DL listed j):listed.getD j true=false:=by unfold DL at h;simp[hj]at h ⊢; exact h
theorem RL(G:CB tt nt ops call cM h0 n0 R){listed:Array Bool}(hs:listed.size=ops.size)(hr:Region.ready .any ops listed=[]):∀(Y X:List Rec),R=X++Y->∀r∈Y,DL listed r.idx
 |[],_,_,r,ni=>by cases ni
 |r ::Y  ,X,hR,r',ni=>by
  have ih:=RL G hs hr Y (X++[r]) (by rw[hR];simp);rcases Zb4.1 ni with rfl|ni
  . obtain⟨o,ho,_,hB⟩:=G.rel r' (by rw[hR];simp);have aW:r'.idx<ops.size:=(Zc4.1 ho).1;by_cases h:DL listed r'.idx
    .   exact h
    .   exfalso;have:r'.idx∈Region.ready .any ops listed:=mem_ready.2 ⟨akT (by omega) h,o,ho,λe he hb=>by obtain⟨s,h1,h2⟩:=G.bZ X r' Y hR _ (hB.1 o ho e he hb);have:=ih s h1;rw[h2]at this;exact this⟩;rw[hr]at this;cases this
  .exact ih r' ni
theorem ZQ(hT:cQ P tt)(c9:iK P C call)(G:CB tt nt ops call cM h0 n0 R){Q:Exit->Act->World->Prop}{mG:Pos->Loc}{w0:World}
  (hQ:∀a' w',kz nt mG C { heap:=h0,next:=n0 } w0 (pK cM R) { heap:=kQ h0 R,next:=eA n0 R } a' w'->Q .normal a' w'):
  ∀ (fuel:Nat)(listed:Array Bool)(U:List Nat)(A B:List Rec)(ρ:Pos->Loc)(a:Act)(w:World),listed.size=ops.size->U.length<=fuel->U.Nodup->(∀j,j<ops.size->¬DL listed j->j∈U)->
    Inv C nt ops cM h0 n0 R mG w0 (DL listed) A B ρ a w->wpAny P .any ops Q fuel listed a w
 |0,listed,U,A,B,ρ,a,w,hs,hU,_,hm,hI=>by
  have hU0:U=[]:=Zc1 (by omega);subst hU0;have hr:Region.ready .any ops listed=[]:=by
    cases h:Region.ready .any ops listed with
    |nil=>rfl
    |   cons i l=>
        have hi:i∈Region.ready .any ops listed:=(by rw[h];simp);obtain⟨h1,o,ho,_⟩:=mem_ready.1 hi;have:=hm i (Zc4.1 ho).1 (abO h1);cases this
  exact⟨hr,hQ a w (ZP G hI (RL G hs hr R [] rfl))⟩
 |fuel+1,listed,U,A,B,ρ,a,w,hs,hU,hnd,hm,hI=>by
  refine⟨λhr=>hQ a w (ZP G hI (RL G hs hr R [] rfl)),λi hi=> ?_⟩;obtain⟨h1,o,ho,h2⟩:=mem_ready.1 hi;have aW:i<ops.size:=(Zc4.1 ho).1;have nj:=aiH (Q:=Q) hT c9 G hI aW (abO h1) λo' e Kh he hb=>by rw[ho]at Kh;simp only[H0]at Kh;subst Kh;exact h2 e he hb
  refine wpOp_mono (λa' w' hh=> ?_) nj;obtain⟨A',B',ρ',hI'⟩:=hh;rw[agN (by omega)]at hI';have hiU:i∈U:=hm i aW (abO h1);refine ZQ hT c9 G hQ fuel _ (U.erase i) A' B' ρ' a' w' (by simp[hs]) ?_ (hnd.erase i) (λj hj hD=> ?_) hI'
  .rw[List.length_erase_of_mem hiU];omega
  . (rw[<-agN (by omega)]at hD;have cA:j≠i:=λe=>hD (.inr e));exact(List.mem_erase_of_ne cA).2 (hm j hj λh=>hD (.inl h))
theorem Om(hm:P.follows .mixedOrders=true)(hT:cQ P tt)(c9:iK P C call)(afq:nU call):xR P tt C call:=by
 intro nt id ops l Q fr bK st st' ρ a w hl cR h hS hQ;obtain⟨R,hG,hmap,PM,anf,RJ⟩:=W9 (call:=call) (cM:=fr) (h0:=st.heap) (n0:=st.next) _ [] fr bK st st' h trivial rfl rfl rfl;simp only[Zd4]at hG PM anf RJ;have hst':st'={ heap:=kQ st.heap R,next:=eA st.next R }:=by cases st';simp_all
 have hlen:l.length=ops.size:=by rw[(vP hl).1,Zh7]
 have Xb:=UQ _ 0 [] cR λb=>by simp
 have hL:AP (HX 0 l) []=(R.map λr=>(r.idx,r.o)).reverse:=by rw[hmap,List.reverse_reverse]
 have dec:∀{A B:List Rec}{r:Rec},R=A++r::B->AP (HX 0 l) []=(B.map λr=>(r.idx,r.o)).reverse++(r.idx,r.o)::(A.map λr=>(r.idx,r.o)).reverse:=λe=>by rw[hL,e];simp
 have Ln:∀{B:List Rec}{i:Nat},i∈((B.map λr=>(r.idx,r.o)).reverse).map (·.1)↔ ∃r∈B,r.idx=i:=λ{B i}=>by simp
 have G:CB tt nt ops call fr st.heap st.next R:=by
   refine⟨hG,afq,λA r B e r' ni hi=> ?_,λA r B e b hb=> ?_,λA r B e hc r' ni=> ?_,λA r B e r' ni=> ?_,λr hr=> ?_,λi hi=> ?_⟩
   .exact(Xb.one _ _ _ _ (dec e)).2 (Ln.2 ⟨r',ni,hi⟩)
   . rcases Xb.bZ _ _ _ _ (dec e) b hb with h|h
     .cases h
     .exact Ln.1 h
   .exact Xb.br _ _ _ _ (dec e) hc _ (.inr (Ln.2 ⟨r',ni,rfl⟩))
   .exact Xb.apart _ _ _ _ (dec e) (r'.idx,r'.o) (by simp;exact⟨r',ni,rfl,rfl⟩)
   .obtain⟨A,B,e⟩:=nJ hr;have hx:(r.idx,r.o)∈AP (HX 0 l) []:=(by rw[dec e];simp);have h1:=akS hx;obtain⟨o,h2,h3,h4⟩:=Ob hl _ _ h1;refine⟨o,h2,h3,?_⟩;rw[h4];exact aej ops.toList [] rfl (Zj1 _) (λi hi=>by simp at hi) _ (Zc4.1 h2).1
   . rcases Xb.all i (by rw[hlen];exact hi)with h|h
     .cases h
     .rw[hL]at h;exact Ln.1 h
 refine wp_region_any hm ?_;rw[hst',PM]at hQ;have hkn:∀b:Pos,b.toNat<st.next.toNat->∀D,Kept st.next R D b:=λb hb D A r B e _=>.inl (Zc5 hb (G.afl (X:=A++[r]) (by rw[e];simp)))
 refine ZQ (Q:=Q) (mG:=ρ) (w0:=w) hT c9 G hQ ops.size _ (List.range ops.size) R [] ρ a _ (by simp) (by simp) List.nodup_range (λj hj _=>Zi5.2 hj) ?_;have oY:∀j,¬DL (Array.replicate ops.size false) j:=λj h=>by
   unfold DL at h;rcases Zj9 j ops.size with hj|hj
   .simp[hj]at h
   .simp[Nat.not_lt.2 hj]at h
 refine⟨⟨by simp,trivial,(λr hr=>by cases hr),λr _ hD=>absurd hD (oY _),λi _ _ hD=>absurd hD (oY _),hS.size,hS.defers⟩,λρ' Em=> ?_⟩;have wM:∀b:Pos,b.toNat<st.next.toNat->ρ' b=ρ b:=λb hb=>Em b (hkn b hb _)
 have hW:bS ρ' C st { w with drawn:=w.drawn+1 }:=(hS.W.congr wM).grow (Za6 _) λ_ _=>rfl
 refine⟨hW,λr _ hD=>absurd hD (oY _),λr _ hD=>absurd hD (oY _),λM s T p _ hD=>absurd hD (oY _),λp v hv _=> ?_,⟨rfl,rfl,rfl,Za6 _,λ_ _ _=>rfl,λb x hb=>.inl ⟨b,x,hb,?_⟩⟩,wM⟩
 .obtain⟨x,hx,RF⟩:=hS.F p v hv;exact⟨x,hx,RF.mono wM (Za6 _)⟩
 .rw[wM b (hS.W.live b x hb).1]
theorem CD(hm:P.follows .mixedOrders=true)(hT:cQ P tt){O:eE}{G:T dF}(hO:uA P C O)(RM:mZ O)(hG:WZ P tt G)(m d:Nat):iK P C (sr O G m d):=
 UO hT hO hG m (λd c9=>Om hm hT c9 (CA RM m d)) d
end
end
section
section
variable{R:Type}
theorem Bq{α:Type}:∀(p:Pos)(t:T α),AX p t=t.get p
 |.h,.e=>rfl
 |.h,.n _ _ _=>rfl
 |.o _,.e=>rfl
 |.o p,.n l _ _=>Bq p l
 |.i _,.e=>rfl
 |.i p,.n _ _ r=>Bq p r
theorem mN{α:Type}(x:Option α):∀(p:Pos)(t:T α)(k:T α->R),vS x p t k=k (t.put x p)
 |.h,.e,_=>rfl
 |.h,.n _ _ _,_=>rfl
 |.o p,.e,k=>mN x p .e _
 |.o p,.n l _ _,k=>mN x p l _
 |.i p,.e,k=>mN x p .e _
 |.i p,.n _ _ r,k=>mN x p r _
theorem EP(n:Nat)(k:Nat->R):uy n k=k n:=by cases n<;>rfl
theorem adI(n:Int)(k:Int->R):VH n k=k n:=by cases n<;>simp only[VH,EP]
theorem abP(b:Bool)(k:Bool->R):Zx b k=k b:=by cases b<;>rfl
theorem Kl{α:Type}:∀(l:List α)(k:List α->R),EU l k=k l
 |[],_=>rfl
 |a::l,k=>Kl l λt=>k (a::t)
theorem Lo:∀(p:Pos)(k:Pos->R),NV p k=k p
 |.h,_=>rfl
 |.o p,k=>Lo p λq=>k (.o q)
 |.i p,k=>Lo p λq=>k (.i q)
theorem agO(o:Option Nat)(k:Option Nat->R):abr o k=k o:=by
 cases o with
 |none=>rfl
 |some n=>simp only[abr,EP]
theorem ZR(v:AV)(k:AV->R):Rn v k=k v:=by
 cases v<;>simp only[Rn,abP,adI,Kl,Lo,EP,agO]
theorem On:∀(l:List AV)(k:List AV->R),TF l k=k l
 |[],_=>rfl
 |a::l,k=>by
  show Rn a (λa=>TF l λt=>k (a::t))=_;rw[ZR,On l]
theorem Km(v:AV)(k:AV->R):vt v k=k v:=by
 unfold vt;split
 .exact On _ _
 .exact ZR _ _
theorem Oo(x:AB)(k:AB->R):HD x k=k x:=by
 cases x<;>simp only[HD,Kl,EP]
theorem Oq:∀(p:Pos)(k:Pos->R),WH p k=k p.succ
 |.h,_=>rfl
 |.o _,_=>rfl
 |.i p,k=>Oq p λq=>k (.o q)
variable(z:R)
def sL{α:Type}(r:Option α)(k:α->R):R:=match r with
 |some x=>k x
 |none=>z
theorem abQ(fr:Fr)(x:gO)(k:AV->R):evK z fr x k=sL z (ET fr x) k:=by
 cases x with
 |t p=>simp only[evK,Bq,ET,sL];cases T.get p fr<;>rfl
 |c v=>rfl
theorem YG(fr:Fr):∀(xs:List gO)(k:List AV->R),Yv z fr xs k=sL z (fE fr xs) k
 |[],k=>rfl
 |x::xs,k=>by
  show evK z fr x (λv=>Yv z fr xs λvs=>k (v::vs))=_;rw[abQ];simp only[YG fr xs];simp only[fE];cases ET fr x with
  |none=>rfl
  |some v=>simp only[sL];cases fE fr xs<;>rfl
theorem Xc(fr:Fr)(g:Option (Pos×Bool))(yes no:R):HE z fr g yes no=match cw fr g with
  |some true=>yes
  |some false=>no
  |none=>z:=by
 unfold HE cw;cases g with
 |none=>rfl
 |some g=>
  obtain⟨p,want⟩:=g;simp only[Bq];cases T.get p fr with
  |none=>rfl
  |some v=>
   (cases v<;>try rfl);rename_i b;cases b<;>cases want<;>rfl
theorem Xd(fr:Fr)(d:Option Pos)(v:AV)(k:Fr->R):mM fr d v k=k (dZ fr d v):=by
 cases d with
 |none=>rfl
 |some p=>exact mN _ _ _ _
theorem akU(st:St)(del:Option Pos)(set:Option (Pos×AB))(new:Option AB)(k:St->R):aih st del set new k=k (st.br del set new):=by
 have hdel:∀(h:T AB)(k:T AB->R),delK del h k=k (HW del h):=λh k=>by
  cases del with
  |none=>rfl
  |some b=>exact mN _ _ _ _
 have FH:∀(h:T AB)(k:T AB->R),aif set h k=k (Lg set h):=λh k=>by
  cases set with
  |none=>rfl
  |some b=>simp only[aif,Oo,mN];rfl
 unfold aih;rw[hdel,FH];cases new with
 |none=>rfl
 |some x=>simp only[Oo,mN,Oq];rfl
def CK(bU:qK R)(call:aq):Prop:=∀f args st k,bU f args st k=sL z (call f args st) λx=>k x.1 x.2
variable{bU:qK R}{call:aq}
theorem Ot(h:T AB):(λb=>AX b h)=λb=>h.get b:=funext λb=>Bq b h
theorem abR(hc:CK z bU call)(op:aJ)(xs:List AV)(st:St)(k:AV->St->R):TG z bU op xs st k=sL z (cJ call op xs st) λx=>k x.1 x.2:=by
 unfold TG cJ;rw[Ot];cases op.run (λb=>st.heap.get b) st.next xs with
 |none=>rfl
 |some r=>
  cases r with
  |val v=>simp only[Km];rfl
  |br v d s n=>simp only[Km,akU];rfl
  |call f args=>simp only[Kl];exact hc f args st k
theorem TL(hc:CK z bU call):∀(ops:List bR)(fr:Fr)(st:St)(k:Fr->St->R),Yw z bU ops fr st k=sL z (lK call ops fr st) λx=>k x.1 x.2
 |[],fr,st,k=>rfl
 |o::os,fr,st,k=>by
  show HE z fr o.guard (Yv z fr o.xs λxs=>TG z bU o.k xs st λv st=>mM fr o.dst v λfr=>Yw z bU os fr st k) (mM fr o.dst .undef λfr=>Yw z bU os fr st k)=_;rw[Xc,YG];simp only[abR z hc,Xd,TL hc os];simp only[lK];cases cw fr o.guard with
  |none=>rfl
  |some b=>
   cases b with
   |false=>rfl
   |    true=>
        simp only[];cases fE fr o.xs with
        |none=>rfl
        |some xs=>
         simp only[sL];cases cJ call o.k xs st with
         |none=>rfl
         |some x=>rfl
theorem Ij(bZ:Nat)(h:T AB):∀(recs:List Rec)(k:T AB->R),NW bZ h recs k=k (snap bZ h recs)
 |[],k=>rfl
 |r::rs,k=>by
  show (match r.c with
   |    .new id aQ=>match bZ.testBit r.idx with
        |true=>NW bZ h rs λh'=>vS (some aQ) id h' k
        |false=>NW bZ h rs k
   |.br _ _=>k h
   |.pure=>NW bZ h rs k)=_
  unfold snap;cases r.c with
  |pure=>exact Ij bZ h rs k
  |br _ _=>rfl
  |new id aQ=>
   simp only[];cases bZ.testBit r.idx with
   |true=>simp only[Ij bZ h rs,mN]
   |false=>exact Ij bZ h rs k
theorem ZS(h:T AB):∀(l:List (Pos×AB))(k:T AB->R),abt h l k=k (jU l h)
 |[],k=>rfl
 |(id,aQ)::l,k=>by show abt h l (λh'=>vS (some aQ) id h' k)=_;rw[ZS h l,mN];rfl
theorem CE(bZ:Nat)(op:aJ)(xs:List AV)(v:AV):∀(recs:List Rec)(up:List (Pos×AB)),tR bZ op xs v up recs=mL bZ op xs v up recs
 |[],up=>rfl
 |r::rs,up=>by
  unfold tR mL;cases r.c with
  |pure=>exact CE bZ op xs v rs up
  |new id aQ=>simp only[CE bZ op xs v rs]<;>(cases bZ.testBit r.idx<;>rfl)
  |br base _=>
   simp only[CE bZ op xs v rs,Ij,ZS];unfold abu jA;simp only[Ot]<;>(cases bZ.testBit r.idx<;>rfl)
theorem abS (hc:CK z bU call):∀(ops:List (Nat×bR))(recs:List Rec)(base:T AB)(fr:Fr)(st:St)(k:Fr->St->R),
  NX z bU ops recs base fr st k=sL z (dV call ops recs base fr st) λx=>k x.1 x.2
 |[],recs,base,fr,st,k=>rfl
 |(j,   o)::  os,recs,base,fr,st,k=>by
  show HE   z fr o.guard
    (Yv   z fr o.xs λxs=>match o.cls with
        | .new=>match o.k.run (λ_=>none) st.next xs with
          |some (.br v none none (some aQ))=>vt v λv=>HD aQ λaQ=>mM fr o.dst v λfr=>WH st.next λn=>vS (some aQ) st.next st.heap λh=>
              NX z bU os ({ idx:=j,o:=o,v:=v,c:= .new st.next aQ,nx:=n }::recs) base fr { heap:=h,next:=n } k
          |_=>z
        |.br=>TG z bU o.k xs st λv st'=>mM fr o.dst v λfr=>NX z bU os ({ idx:=j,o:=o,v:=v,c:= .br base st'.heap,nx:=st'.next }::recs) st'.heap fr st' k
        | _ =>match o.k.run (λ_=>none) .h xs with
          |some (.val v)=>vt v λv=>mM fr o.dst v λfr=>NX z bU os ({ idx:=j,o:=o,v:=v,c:= .pure,nx:=st.next }::recs) base fr st k
          | _ =>NW o.bZ base recs λh=>match o.k.run (λb=>AX b h) .h xs with
            | some (.val v)=>vt v λv=>match tR o.bZ o.k xs v [] recs with
              |true=>mM fr o.dst v λfr=>NX z bU os ({ idx:=j,o:=o,v:=v,c:= .pure,nx:=st.next }::recs) base fr st k
              |false=>z
            |_=>z)
    (mM fr o.dst .undef λfr=>NX z bU os ({ idx:=j,o:=o,v:= .undef,c:= .pure,nx:=st.next }::recs) base fr st k)=_
  rw[Xc,YG];simp only[abR z hc,Xd,Km,Oo,Oq,mN,Ij,CE,Ot,abS hc os];simp only[dV];cases cw fr o.guard with
  |none=>rfl
  | some b=>
    cases b with
    |false=>rfl
    |   true=>
        simp only[];cases fE fr o.xs with
        |none=>rfl
        | some xs=>
          simp only[sL];cases o.cls with
          | new=>
            simp only[];split<;>simp_all
          | br=>
            simp only[];cases cJ call o.k xs st with
            |none=>rfl
            |some x=>rfl
          | pure=>
            simp only[];split
            .simp_all
            .split<;>simp_all;split<;>simp_all
          | read=>
            simp only[];split
            .simp_all
            .split<;>simp_all;split<;>simp_all
def abT(r:Option (mY×Fr×St))(kn:Fr->St->R)(kx:Nat->Fr->St->R)(kr:Fr->St->R):R:=match r with
 |some (.normal,fr,st)=>kn fr st
 |some (.exit id,fr,st)=>kx id fr st
 |some (.ret,fr,st)=>kr fr st
 |none=>z
theorem VP(hc:CK z bU call):∀(m:Nat)(c:AC)(fr:Fr)(st:St)(kn:Fr->St->R)(kx:Nat->Fr->St->R)(kr:Fr->St->R),
  WI z bU m c fr st kn kx kr=abT z (exec call m c fr st) kn kx kr
 |0,c,fr,st,kn,kx,kr=>rfl
 |m+    1,c,fr,st,kn,kx,kr=>by
  have ih:=VP hc m;show tS z bU (WI z bU m) c fr st kn kx kr=abT z (bF call (exec call m) c fr st) kn kx kr;cases c with
  |skip=>rfl
  |region ops=>
   simp only[tS,bF,TL z hc];cases lK call ops fr st with
   |none=>rfl
   |some x=>rfl
  |draw ops=>
   simp only[tS,bF,abS z hc];cases dV call ops [] st.heap fr st with
   |none=>rfl
   |some x=>rfl
  |seq a b=>
   simp only[tS,bF,ih];cases exec call m a fr st with
   |none=>rfl
   |    some x=>
        obtain⟨e,eG,bQ⟩:=x;cases e<;>rfl
  |cond x a b=>
   simp only[tS,bF,abQ];cases ET fr x with
   |none=>rfl
   |    some v=>
        simp only[sL];(cases v<;>try rfl);rename_i t;cases t<;>simp only[ih]
  |block id a=>
   simp only[tS,bF,ih];cases exec call m a fr st with
   |none=>rfl
   |    some x=>
        obtain⟨e,eG,bQ⟩:=x;(cases e<;>try rfl);rename_i wL;simp only[abT];cases Nat.beq wL id<;>rfl
  |loop a=>
   simp only[tS,bF,ih];cases exec call m a fr st with
   |none=>rfl
   |    some x=>
        obtain⟨e,eG,bQ⟩:=x;cases e<;>rfl
  |exit id=>rfl
  |ret=>rfl
theorem Ou:∀(vs:List AV)(i:Nat)(fr:Fr)(k:Fr->R),Mq vs i fr k=k (params i vs fr)
 |[],i,fr,k=>rfl
 |v::vs,i,fr,k=>by show vS (some v) (key i) fr (λfr=>Mq vs (i+1) fr k)=_;rw[mN,Ou vs];rfl
theorem adJ(st:St)(fr:Fr)(rs:List Ml)(k:AV->R):Eh z st fr rs k=sL z (gw (λb=>st.heap.get b) fr rs) λvs=>k (yY vs):=by
 unfold Eh;rw[Ot];cases gw (λb=>st.heap.get b) fr rs with
 |none=>rfl
 |some vs=>
  simp only[On,sL];cases vs with
  |nil=>rfl
  |cons v vs=>cases vs<;>rfl
theorem En (O:eE)(G:T dF)(m:Nat):∀d,CK z (J6 z O G m d) (sr O G m d)
 |0=>λf args st k=>rfl
 |d+    1=>fun f args st k=>by
  have ih:=En O G m d;show( match O f with
   |    some s=>match s args st with
        |some (v,st')=>vt v λv=>k v st'
        |none=>z
   |    none=>match AX (key f) G with
        |some F=>match Nat.beq args.length F.nparams with
         |true=>Mq args 0 .e λfr=>WI z (J6 z O G m d) m F.code fr st
             (λfr st=>Eh z st fr F.results λv=>k v st)
             (λ_ _ _=>z)
             (λfr st=>Eh z st fr F.results λv=>k v st)
         |false=>z
        |none=>z)=_
  simp only[sr,Km,Bq,Ou,VP z ih,adJ];cases O f with
  |some s=>
   simp only[];cases s args st with
   |none=>rfl
   |some x=>rfl
  |none=>
   simp only[];cases G.get (key f)with
   |none=>rfl
   |    some F=>
        simp only[];cases Nat.beq args.length F.nparams with
        |false=>rfl
        |true=>
         simp only[];cases exec (sr O G m d) m F.code (params 0 args .e) st with
         |none=>rfl
         |  some x=>
            obtain⟨e,eG,bQ⟩:=x;cases e with
            |normal=>
             simp only[abT];cases gw (λb=>bQ.heap.get b) eG F.results<;>rfl
            |exit id=>rfl
            |ret=>
             simp only[abT];cases gw (λb=>bQ.heap.get b) eG F.results<;>rfl
end
end
section
open Go
def afr (P :Program)(t:Nat)(ti:TI):Bool:=
 match P.underlying t,P.info? t with
 |  some d,some i=>b9 ti.k d&&Nat.beq i.size ti.size&&Nat.beq i.bytes ti.bytes&&
    (match ti.zero with
     |none=>true
     |some z=>match i.zero with
      |some v=>(match qJ v.cells.toList with
           |some z'=>pF z' z
           |none=>false)&&Nat.beq z.length ti.size&&(match ti.k.isAgg,v with
           |true,.agg _=>true
           |true,_=>false
           |false,.agg _=>false
           |false,_=>true)
      |none=>false)&&(match ti.k with
     |.ptr e=>(P.info? e).isSome
     |_=>true)&&(!ti.AO||(!P.stoodInHeld t&& !P.eqGuardType P.depth t))
 |_,_=>false
theorem aiI{P:Program}{t:Nat}{ti:TI}(h:afr P t ti=true):ae1 P t ti:=by
 unfold afr at h;split at h<;>first|(cases h;done)|skip
 rename_i d i hd hi;simp only[Zb6,Zg5,Zk1]at h;obtain⟨⟨⟨⟨⟨h1,h2⟩,h3⟩,h4⟩,h6⟩,h5⟩:=h;refine⟨⟨d,hd,h1⟩,⟨i,hi,Za7 h2,Za7 h3,λz hz=> ?_⟩,λe he=> ?_,λhe=> ?_⟩
 . rw[hz]at h4;simp only at h4;(split at h4<;>first|(cases h4;done)|skip);rename_i v hv;simp only[Zb6]at h4;obtain⟨⟨g1,g2⟩,g3⟩:=h4;(split at g1<;>first|(cases g1;done)|skip);rename_i z' Kf;rw[EO g1]at Kf;refine⟨v,hv,Kf,Za7 g2,λha=> ?_,λha=> ?_⟩
   .rw[ha]at g3;cases v<;>first|exact⟨_,rfl⟩|cases g3
   .rw[ha]at g3;cases v<;>first|rfl|cases g3
 .rw[he]at h6;exact Zm3.1 h6
 . rcases h5 with h5|h5
   .rw[he]at h5;cases h5
   .exact h5
def HF(P:Program):(Pos->Pos)->T TI->Bool
 |_,.e=>true
 |  f,.n l v r=>(match v with
    |some ti=>afr P ((f .h).toNat - 1) ti
    |none=>true)&&HF P (λp=>f (.o p)) l&&HF P (λp=>f (.i p)) r
theorem Ov{P:Program}:∀{t:T TI}{f:Pos->Pos},HF P f t=true->∀p ti,t.get p=some ti->ae1 P ((f p).toNat - 1) ti
 |.e,f,_,p,ti,h=>by rw[T.eV]at h;cases h
 | .n l v r,f,hc,p,ti,h=>by
   simp only[HF,Zb6]at hc;cases p with
   |h=>simp only[T.get]at h;rw[h]at hc;exact aiI hc.1.1
   |o p=>exact Ov hc.1.2 p ti h
   |i p=>exact Ov hc.2 p ti h
theorem akV{P:Program}{tt:TT}(h:HF P (λp=>p) tt=true):cQ P tt:=λp ti hp=>Ov h p ti hp
end
noncomputable section
open Go
def ME{α:Type}(g:Nat->Option α):Nat->Nat->Nat->T α
 |0,_,_=>.e
 |d+1,a,m=>.n (ME g d a (2*m)) (g (a+m - 1)) (ME g d (a+m) (2*m))
theorem Ow{α:Type}{g:Nat->Option α}:∀{d a m:Nat}{p:Pos}{x:α},(ME g d a m).get p=some x->g (a+m*p.toNat - 1)=some x
 |0,_,_,p,x,h=>by rw[ME,T.eV]at h;cases h
 |d+1,a,m,.h,x,h=>by rw[Pos.toNat,Zp0];exact h
 |d+1,a,m,.o p,x,h=>by
  have:=Ow (d:=d) (a:=a) (m:=2*m) (p:=p) (x:=x) h;rw[Pos.toNat];have e:a+m*(2*p.toNat) - 1=a+2*m*p.toNat - 1:=by rw[<-Nat.mul_assoc,Nat.mul_comm m 2]
  rw[e];exact this
 |d+1,a,m,.i p,x,h=>by
  have:=Ow (d:=d) (a:=a+m) (m:=2*m) (p:=p) (x:=x) h;rw[Pos.toNat];have e:a+m*(2*p.toNat+1) - 1=a+m+2*m*p.toNat - 1:=by rw[Nat.mul_add,Zp0, <-Nat.mul_assoc,Nat.mul_comm m 2];omega
  rw[e];exact this
def akx(P:Program)(tt:TT)(i:Nat):Option dF:=match P.funcs[i]? with
 |some fn=>ae0 tt fn
 |none=>none
def ggOf(P:Program)(tt:TT):T dF:=ME (akx P tt) 10 0 1
theorem akW{P:Program}{tt:TT}(h:(P.funcs.toList.all λfn=> !(fn.name== "runtime.NumGoroutine"))=true):WZ P tt (ggOf P tt):=λp F hp=>by
 have:=Ow hp;rw[Za5,Zm7,akx]at this;split at this<;>first|(cases this;done)|skip
 rename_i fn EY;refine⟨fn,EY,?_,this⟩;have:=Zj3.1 h fn (by obtain⟨hi,e⟩:=Zc4.1 EY;exact Array.mem_toList_iff.2 (e ▸Array.getElem_mem hi));simpa using this
def tkOf(P:Program)(t:Nat):TK:=match P.underlying t with
 |some .bool=>.bool
 |some (.int k)=>.int k
 |some .string=>.string
 |some (.pointer e)=>.ptr e
 |some (.slice e)=>.slice e
 |some (.array n e)=>.array n e
 |some (.map k e)=>.map k e
 |some (.struct fs)=>.struct (fs.toList.map λf=>(f.offset,f.type,f.name != "_"))
 |some (.func _ _ _)=>.func
 |some (.interface _)=>.iface
 |some .unsafePointer=>.upt
 |_=>.other
def zeroOf:Option Value->Option (List AV)
 |  some v=>match Nat.ble v.cells.size 64 with
    |true=>qJ v.cells.toList
    |false=>none
 |none=>none
def memN(n:Nat):List Nat->Bool
 |[]=>false
 |  m::l=>match Nat.beq m n with
    |true=>true
    |false=>memN n l
def tiOf(P:Program)(eqs:List Nat)(t:Nat):Option TI:=match P.info? t with
 |none=>none
 |some i=>some { k:=tkOf P t,size:=i.size,bytes:=i.bytes,zero:=zeroOf i.zero,AO:=memN t eqs }
def ttOf(P:Program)(eqs:List Nat):T TI:=ME (tiOf P eqs) 10 0 1
def kI(n:Nat):AV:= .int .i64 (.ofNat n)
def kU(n:Nat):AV:= .int .u8 (.ofNat n)
def kN(p n e:Nat):AV:= .slice (key p) 0 n none e
def kS(p n c e:Nat):AV:= .slice (key p) 0 n (some c) e
end
section
open Go
structure oP(P:Program)(C:Cells)(f:FuncId)(s:List AV->St->Option (AV×St)):Prop where
 mono:∀args st v st',s args st=some (v,st')->st.next.toNat<=st'.next.toNat
 runs:∀(ρ:Pos->Loc)(st:St)(w:World)(args:List AV)(v:AV)(st':St)(bV:List Value),s args st=some (v,st')->
  bS ρ C st w->aI ρ st.next.toNat C args bV->Reaches P (kE ρ C st w v st') ((callFunc f bV.toArray).run P w)
def uC:List (Nat×(List AV->St->Option (AV×St)))->eE
 |[]=>λ_=>none
 |  (g,s)::l=>λf=>match Nat.beq f g with
    |true=>some s
    |false=>uC l f
theorem xU{P:Program}{C:Cells}:∀{l:List (Nat×(List AV->St->Option (AV×St)))},(∀x∈l,oP P C x.1 x.2)->uA P C (uC l)/\mZ (uC l)
 |[],_=>⟨λf s h=>by simp[uC]at h,λf s h=>by simp[uC]at h⟩
 |(g,   s0)::l,hl=>by
  obtain⟨h1,h2⟩:=xU λx hx=>hl x (Za8 _ hx)
  have h0:=hl _ (Ze1 ..);refine⟨λf s h=> ?_,λf s h=> ?_⟩
  . simp only[uC]at h;split at h
    .   rename_i he;simp only[H0]at h;subst h;have:=Za7 he;subst this;exact h0.runs
    .   exact h1 f s h
  . simp only[uC]at h;split at h
    .   simp only[H0]at h;subst h;exact h0.mono
    .   exact h2 f s h
def Eo:List AV->St->Option (AV×St)
 |  [.str a,.str b],st=>some (.int .i64 (match aL a b with
    |true=>.negSucc 0
    |false=>match aL b a with
     |true=>.ofNat 1
     |false=>.ofNat 0),st)
 |_,_=>none
theorem RN:∀(x y:List UInt8),Lib.compareBytes x y=match aL (x.map UInt8.toNat) (y.map UInt8.toNat)with
  |true=>.negSucc 0
  | false=>match aL (y.map UInt8.toNat) (x.map UInt8.toNat)with
    |true=>.ofNat 1
    |false=>.ofNat 0
 |[],[]=>rfl
 |[],_::_=>rfl
 |_::_,[]=>rfl
 |a ::x  ,b::y=>by
  rw[vO,vO];have ih:=RN x y;rw[vO,vO]at ih;simp only[Lib.compareBytes,Op.bytesLess];by_cases h:a<b
  .simp[h]
  . by_cases h':b<a
    .   have cA:(a==b)=false:=(by rw[beq_eq_false_iff_ne];exact λe=>by subst e;exact h h');simp[h,h',cA]
    .   have he:a=b:=(by apply Zr1.1;rw[Zn9]at h h';omega);subst he;simp only[h,Ze8,ih];simp
theorem aiJ{P:Program}{C:Cells}{f:FuncId}{fn:Func}(hf:P.funcs[f]? =some fn)(mC:(fn.name== "runtime.NumGoroutine")=false)(hb:fn.body.isNone=true)
  (hx:Extern.findNext fn=none) (he:Extern.find fn=some Extern.BytealgCompare.compare):oP P C f Eo where
 mono args st v st' h:=by unfold Eo at h;split at h<;>cases h;exact Za6 _
 runs ρ st w args v st' bV h hW hv:=by
  unfold Eo at h;split at h<;>cases h;rename_i a b;obtain⟨x,xs,rfl,h1,h2⟩:=hv.cons_inv;obtain⟨y,ys,rfl,h3,h4⟩:=h2.cons_inv;have:=h4.j5;subst this;obtain⟨s,rfl,hs⟩:=h1.eR;obtain⟨t,rfl,ht⟩:=h3.eR;have dy:(callFunc f [Value.string s,Value.string t].toArray).run P w= .ok (.value (.int .i64 (Lib.compareBytes s.data.toList t.data.toList))) w:=by rw[run_callFunc_extern hf mC hb hx he];show((Extern.BytealgCompare.compare #[.string s,.string t]).run P w).andThen _=_;rw[Lib.run_compareString];rfl
  rw[dy];refine⟨ρ,?_,λ_ _=>rfl,Za6 _,hW,nh.refl _ _ _⟩;rw[RN,hs,ht];exact .int _ _
theorem bS.sub{ρ:Pos->Loc}{C:Cells}{st:St}{w:World}(h:bS ρ C st w){h2:T AB}(hs:∀b x,h2.get b=some x->st.heap.get b=some x):bS ρ C { heap:=h2,next:=st.next } w where
 live b x hb:=h.live b x (hs b x hb)
 inj b b' x x' hb gK he:=h.inj b b' x x' (hs b x hb) (hs b' x' gK) he
 dH a v ha:=⟨(h.dH a v ha).1,λb x hb=>(h.dH a v ha).2 b x (hs b x hb)⟩
 whole:=h.whole
theorem kE.frame{ρ:Pos->Loc}{C:Cells}{st st':St}{w w':World}{v:AV}{x:Value}{h0 h2:T AB}(hW:bS ρ C st w)(xT:∀b y,h0.get b=some y->st.heap.get b=some y)
   (h:kE ρ C { heap:=h0,next:=st.next } w v st' x w')
   (h2s:∀b y,h2.get b=some y->st'.heap.get b=some y\/(st.heap.get b=some y/\h0.get b=none)):
   kE ρ C st w v { heap:=h2,next:=st'.next } x w':=by
 obtain⟨ρ',hv,bG,hn,iW,hE⟩:=h;have hold:∀b y,st.heap.get b=some y->h0.get b=none->∀b' y',h0.get b'=some y'->(ρ b').aQ≠(ρ b).aQ:=λb y hb xM b' y' gK e=>by have:=hW.inj b' b y' y (xT b' y' gK) hb e;subst this;rw[xM]at gK;cases gK
 have agP:∀b y b' y',st'.heap.get b=some y->st.heap.get b'=some y'->h0.get b'=none->(ρ' b).aQ≠(ρ' b').aQ:=λb y b' y' hb gK xM e=>by
   rw[bG b' (hW.live b' y' gK).1]at e;rcases hE.xL b y hb with⟨b2,y2,g1,g2⟩|g1
   .exact hold b' y' gK xM b2 y2 g1 (g2.trans e)
   .have:=(hW.live b' y' gK).2.1;omega
 refine⟨ρ',hv,bG,hn,⟨λb y hb=> ?_,λb b' y y' hb gK he=> ?_,λa u ha=>⟨(iW.dH a u ha).1,λb y hb=> ?_⟩,iW.whole⟩,⟨hE.os,hE.tape,hE.output,hE.size,λk hk oY=> ?_,λb y hb=> ?_⟩⟩
 . rcases h2s b y hb with hb|⟨hb,xM⟩
   .exact iW.live b y hb
   . obtain⟨g1,g2,g3⟩:=hW.live b y hb;refine⟨Zc5 g1 hn,?_,?_⟩
     .  rw[bG b g1];exact Zc5 g2 hE.size
     .  rw[bG b g1];exact(g3.mono bG hn).of_heap (hE.block _ g2 λb' y' gK=>hold b y hb xM b' y' gK)
 . rcases h2s b y hb with hb|⟨hb,xM⟩<;>rcases h2s b' y' gK with gK|⟨gK,hb0'⟩
   .exact iW.inj b b' y y' hb gK he
   .exact absurd he (agP b y b' y' hb gK hb0')
   .exact absurd he.symm (agP b' y' b y gK hb xM)
   .rw[bG b (hW.live b y hb).1,bG b' (hW.live b' y' gK).1]at he;exact hW.inj b b' y y' hb gK he
 . rcases h2s b y hb with hb|⟨hb,xM⟩
   .exact(iW.dH a u ha).2 b y hb
   .rw[bG b (hW.live b y hb).1];exact(hW.dH a u ha).2 b y hb
 .exact hE.block k hk λb y hb=>oY b y (xT b y hb)
 . rcases h2s b y hb with hb|⟨hb,xM⟩
   . rcases hE.xL b y hb with⟨b',y',g1,g2⟩|g1
     .  exact .inl ⟨b',y',xT b' y' g1,g2⟩
     .  exact .inr g1
   .exact .inl ⟨b,y,hb,by rw[bG b (hW.live b y hb).1]⟩
def Ik:List AV->List AV->Bool
 |[],[]=>true
 |a::x,b::y=>dO a b&&Ik x y
 |_,_=>false
theorem RO:∀{a b:List AV},Ik a b=true->a=b
 |[],[],_=>rfl
 |[],_::_,h=>by simp[Ik]at h
 |_::_,[],h=>by simp[Ik]at h
 |a::x,b::y,h=>by
  simp only[Ik,Zb6]at h;rw[xS h.1,RO h.2]
def TM:List (AV×AV×Nat)->List (AV×AV×Nat)->Bool
 |[],[]=>true
 |(a,b,n)::x,(a',b',n')::y=>dO a a'&&dO b b'&&Nat.beq n n'&&TM x y
 |_,_=>false
theorem abU:∀{a b:List (AV×AV×Nat)},TM a b=true->a=b
 |[],[],_=>rfl
 |[],_::_,h=>by simp[TM]at h
 |_::_,[],h=>by simp[TM]at h
 |(a,b,n)::x,(a',b',n')::y,h=>by
  simp only[TM,Zb6]at h;obtain⟨⟨⟨h1,h2⟩,h3⟩,h4⟩:=h;rw[xS h1,xS h2,Za7 h3,abU h4]
def Xe:AB->AB->Bool
 |.cells cs fz,.cells cs' fz'=>Ik cs cs'&&Nat.beq fz fz'
 |.map es c,.map es' c'=>TM es es'&&Nat.beq c c'
 |_,_=>false
theorem VQ{a b:AB}(h:Xe a b=true):a=b:=by
 unfold Xe at h;split at h<;>(try simp only[Zb6]at h)
 .rw[RO h.1,Za7 h.2]
 .rw[abU h.1,Za7 h.2]
 .cases h
def hasAll(h:T AB):List (Pos×AB)->Bool
 |[]=>true
 |  (b,x)::l=>(match h.get b with
    |some y=>Xe y x
    |none=>false)&&hasAll h l
theorem RP{h:T AB}:∀{l:List (Pos×AB)},hasAll h l=true->∀b x,(b,x)∈l->h.get b=some x
 |[],_,b,x,hm=>by cases hm
 |(b0,x0)::l,hh,b,x,hm=>by
  simp only[hasAll,Zb6]at hh;rcases Zb4.1 hm with hm|hm
  .cases hm;have h1:=hh.1;(split at h1<;>first|(cases h1;done)|skip);rename_i y hy;rw[hy,VQ h1]
  .exact RP hh.2 b x hm
theorem Kn:∀{l:List (Pos×AB)}{h:T AB}{b:Pos}{x:AB},(jU l h).get b=some x->(b,x)∈l\/(h.get b=some x/\∀y∈l,y.1≠b)
 |[],h,b,x,hb=>.inr ⟨hb,λy hy=>by cases hy⟩
 |(b0,x0)::l,h,b,x,hb=>by
  unfold jU at hb;by_cases e:b0=b
  .subst e;rw[T.fP]at hb;simp only[H0]at hb;subst hb;exact .inl (Ze1 ..)
  . rw[T.bY _ e]at hb;rcases Kn hb with h1|⟨h1,h2⟩
    .   exact .inl (Za8 _ h1)
    .   refine .inr ⟨h1,λy hy=> ?_⟩;rcases Zb4.1 hy with rfl|hy
        .exact e
        .exact h2 y hy
structure Lit where
 args:List AV
 n0:Pos
 L0:List (Pos×AB)
 v:AV
 n1:Pos
 L1:List (Pos×AB)
def Xf(l m:List (Pos×AB)):Bool:=l.all λx=>m.any λy=>Pos.beq x.1 y.1
def Ox(t:Lit):List AV->St->Option (AV×St):=λargs st=>
 match Ik args t.args&&Pos.beq st.next t.n0&&hasAll st.heap t.L0 with
 |true=>some (t.v,{ heap:=jU t.L1 st.heap,next:=t.n1 })
 |false=>none
noncomputable def Xg(t:Lit)(O:eE)(G:T dF)(m d f:Nat):Bool:=
 J6 (R:=Bool) false O G m d f t.args { heap:=jU t.L0 .e,next:=t.n0 } λv st=>dO v t.v&&Pos.beq st.next t.n1&&hasAll st.heap t.L1
theorem abV{P:Program}{C:Cells}{t:Lit}{O:eE}{G:T dF}{m d f:Nat}(c9:iK P C (sr O G m d))(afq:nU (sr O G m d))
   (hk:Xf t.L0 t.L1=true) (h:Xg t O G m d f=true):oP P C f (Ox t):=by
 unfold Xg at h;rw[En false O G m d]at h;unfold sL at h;split at h<;>first|(cases h;done)|skip
 rename_i x hx;obtain⟨v,bQ⟩:=x;simp only[Zb6]at h;obtain⟨⟨h1,h2⟩,h3⟩:=h;have h1:=xS h1;have h2:=Pos.beq_eq.1 h2;subst h1;have unf:∀args st v' st',Ox t args st=some (v',st')->args=t.args/\st.next=t.n0/\hasAll st.heap t.L0=true/\v'=t.v/\st'={ heap:=jU t.L1 st.heap,next:=t.n1 }:=by
   intro args st v' st' hs;unfold Ox at hs;(split at hs<;>first|(cases hs;done)|skip);rename_i hc;simp only[Zb6]at hc;simp only[H0,Zc7]at hs;exact⟨RO hc.1.1,Pos.beq_eq.1 hc.1.2,hc.2,hs.1.symm,hs.2.symm⟩
 refine⟨λargs st v' st' hs=> ?_,λρ st w args v' st' bV hs hW hv=> ?_⟩
 .obtain⟨rfl,g2,g3,rfl,rfl⟩:=unf _ _ _ _ hs;have:=afq _ _ _ _ _ hx;rw[g2, <-h2];exact this
 . obtain⟨ rfl,g2,g3,rfl,rfl⟩:=unf _ _ _ _ hs;have xT:∀b y,(jU t.L0 T.e).get b=some y->st.heap.get b=some y:=λb y hb=>by
    rcases Kn hb with hb|⟨hb,_⟩
    .   exact RP g3 b y hb
    .   rw[T.eV]at hb;cases hb
   have DV:sr O G m d f t.args { heap:=jU t.L0 .e,next:=st.next }=some (t.v,bQ):=(by rw[g2];exact hx);refine Reaches.mono (λx w' hp=> ?_) (c9 ρ _ w f t.args t.v bQ bV DV (hW.sub xT) hv);have:=   hp.frame hW xT (h2:=jU t.L1 st.heap) λb y hb=>by
    rcases Kn hb with hb|⟨hb,oY⟩
    .   exact .inl (RP h3 b y hb)
    .   refine .inr ⟨hb,?_⟩;cases hg:(jU t.L0 T.e).get b with
        |none=>rfl
        |some u=>
         exfalso;rcases Kn hg with hg|⟨hg,_⟩
         .  unfold Xf at hk;rw[Zj3]at hk;have:=hk _ hg;rw[Zo3]at this;obtain⟨y',hy',he⟩:=this;exact oY y' hy' (Pos.beq_eq.1 he).symm
         .  rw[T.eV]at hg;cases hg
   rw[h2]at this;exact this
def Xh(s t:List AV->St->Option (AV×St)):List AV->St->Option (AV×St):=λargs st=>match s args st with
 |some r=>some r
 |none=>t args st
theorem abW{P:Program}{C:Cells}{f:FuncId}{s t:List AV->St->Option (AV×St)}(hs:oP P C f s)(ht:oP P C f t):oP P C f (Xh s t) where
 mono args st v st' h:=by
  unfold Xh at h;split at h
  .rename_i r hr;simp only[H0]at h;subst h;exact hs.mono _ _ _ _ hr
  .exact ht.mono _ _ _ _ h
 runs ρ st w args v st' bV h hW hv:=by
  unfold Xh at h;split at h
  .rename_i r hr;simp only[H0]at h;subst h;exact hs.runs ρ st w args v st' bV hr hW hv
  .exact ht.runs ρ st w args v st' bV h hW hv
end
end Go.Ai
