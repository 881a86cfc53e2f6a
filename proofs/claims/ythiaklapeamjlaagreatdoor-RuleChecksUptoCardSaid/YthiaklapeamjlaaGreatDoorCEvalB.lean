/- The evaluator's operations answer as the model's do, first part. -/
import Derived.Test.YthiaklapeamjlaaGreatDoorCEvalA
import Derived.LaidEql
import Derived.Laws.Strings
import Derived.Laws.StructEq
import Derived.Laws.Small
import Derived.Lib.Builder
import Derived.Laws.BytesString
import Derived.Laws.Tables
set_option linter.all false
set_option linter.unusedSectionVars false
set_option linter.deprecated false
namespace Go.Ai
section
def bF:TK->TypeDesc->Bool
 | .bool,.bool=>true
 | .int k,.int k'=>Ey k k'
 | .string,.string=>true
 | .ptr e,.pointer e'=>Nat.beq e e'
 | .slice e,.slice e'=>Nat.beq e e'
 | .array n e,.array n' e'=>Nat.beq n n'&&Nat.beq e e'
 | .map k e,.map k' e'=>Nat.beq k k'&&Nat.beq e e'
 | .struct fs,.struct fs'=>dJ fs fs'.toList
 | .func,.func _ _ _=>true
 | .iface,.interface _=>true
 | .upt,.unsafePointer=>true
 | .other,.interface _=>false
 | .other,.int _=>false
 | .other,.array _ _=>false
 | .other,.struct _=>false
 | .other,_=>true
 |_,_=>false
where
 dJ:List (Nat×Nat×Bool)->List Field->Bool
  |[],[]=>true
  |(off,t,named)::l,f::l'=>Nat.beq off f.offset&&Nat.beq t f.type&&(named==(f.name != "_"))&&dJ l l'
  |_,_=>false
structure adi (P:Program) (t:TypeId) (ti:TI):Prop where
 und: ∃d,P.underlying t=some d/\bF ti.k d=true
 info: ∃i,P.info? t=some i/\i.size=ti.size/\i.bytes=ti.bytes/\
  ∀z,ti.zero=some z-> ∃v,i.zero=some v/\oe v.cells.toList=some z/\z.length=ti.size/\(ti.k.isAgg=true-> ∃cs,v= .agg cs)/\(ti.k.isAgg=false->v.cells= #[v])
 elem: ∀e,ti.k= .ptr e-> ∃j,P.info? e=some j
 eqs:ti.xj=true->P.stoodInHeld t=false/\P.eqGuardType P.depth t=false
def cr (P:Program) (tt:TT):Prop:= ∀p ti,tt.get p=some ti->adi P (p.toNat - 1) ti
theorem cr.at {P:Program} {tt:TT} (h:cr P tt) {t:Nat} {ti:TI} (ht:tt.get (key t)=some ti):adi P t ti:=by
 have:=h _ _ ht
 rwa [iO,Nat.add_sub_cancel] at this
section
variable {P : Program} {tt : TT} {ρ : Pos -> Loc} {n : Nat} {C : Cells}
theorem aO {t:TypeId} {d:TypeDesc} (h:P.underlying t=some d) (w:World):(underlying t).run P w= .ok d w:=run_underlying h w
theorem Zf {t:TypeId} {i:TypeInfo} (h:P.info? t=some i) (w:World):(typeInfo t).run P w= .ok i w:=by simp[typeInfo,h]
theorem gW {t:TypeId} {i:TypeInfo} (h:P.info? t=some i) (w:World):(sizeOf t).run P w= .ok i.size w:=by simp[sizeOf,typeInfo,h]
theorem agq {t:TypeId} {i:TypeInfo} {v:Value} (h:P.info? t=some i) (hz:i.zero=some v) (w:World):(zeroValue t).run P w= .ok v w:=by simp[zeroValue,typeInfo,h,hz]
theorem SV {k:TK} {d:TypeDesc} (h:bF k d=true) (w:World) {t:TypeId} (ht:P.underlying t=some d):(isAgg t).run P w= .ok k.isAgg w:=by
 cases k<;>cases d<;>first|(simp[bF] at h;done)|simp[isAgg,aO ht,TK.isAgg]
theorem mD {e:Nat} {d:TypeDesc} (h:bF (.slice e) d=true):d= .slice e:=by
 cases d<;>simp[bF] at h;rw[h]
theorem TM {e:Nat} {d:TypeDesc} (h:bF (.ptr e) d=true):d= .pointer e:=by
 cases d<;>simp[bF] at h;rw[h]
theorem Zg {m e:Nat} {d:TypeDesc} (h:bF (.array m e) d=true):d= .array m e:=by
 cases d<;>simp[bF] at h;rw[h.1,h.2]
theorem NX {k e:Nat} {d:TypeDesc} (h:bF (.map k e) d=true):d= .map k e:=by
 cases d<;>simp[bF] at h;rw[h.1,h.2]
theorem VC {d:TypeDesc} (h:bF .bool d=true):d= .bool:=by
 cases d<;>simp[bF] at h;rfl
theorem yj {a b:IntKind} (h:Ey a b=true):a=b:=by
 unfold Ey at h;split at h
 . assumption
 . cases h
theorem Jf {k:IntKind} {d:TypeDesc} (h:bF (.int k) d=true):d= .int k:=by
 cases d<;>simp[bF] at h;rw[yj h]
theorem l9 {d:TypeDesc} (h:bF .string d=true):d= .string:=by
 cases d<;>simp[bF] at h;rfl
theorem GD {fs:List (Nat×Nat×Bool)} {d:TypeDesc} (h:bF (.struct fs) d=true): ∃gs,d= .struct gs/\bF.dJ fs gs.toList=true:=by
 cases d<;>simp[bF] at h;exact ⟨_,rfl,h⟩
theorem aiu {d:TypeDesc} (h:bF .func d=true): ∃a b c,d= .func a b c:=by
 cases d<;>simp[bF] at h;exact ⟨_,_,_,rfl⟩
theorem agr {d:TypeDesc} (h:bF .iface d=true): ∃a,d= .interface a:=by
 cases d<;>simp[bF] at h;exact ⟨_,rfl⟩
theorem aeI {d:TypeDesc} (h:bF .upt d=true):d= .unsafePointer:=by
 cases d<;>simp[bF] at h;rfl
theorem kZ {α:Type}: ∀(l:List α) (i:Nat),nth l i=l[i]?
 |[],_=>by simp[nth]
 |_::_,0=>rfl
 |_::l,i+1=>by simp[nth,kZ l i]
theorem KD: ∀{fs:List (Nat×Nat×Bool)} {gs:List Field} {i:Nat} {x:Nat×Nat×Bool},bF.dJ fs gs=true->nth fs i=some x->
  ∃f,gs[i]? =some f/\f.offset=x.1/\f.type=x.2.1/\(f.name != "_")=x.2.2
 |[],_,i,_,_,h=>by simp[nth] at h
 |(off,t,named)::l,[],i,_,h,_=>by simp[bF.dJ] at h
 |(off,t,named)::l,f::l',0,x,h,hx=>by
  simp[bF.dJ] at h
  simp[nth] at hx
  subst hx
  exact ⟨f,rfl,h.1.1.1.symm,h.1.1.2.symm,h.1.2.symm⟩
 |(off,t,named)::l,f::l',i+1,x,h,hx=>by
  simp[bF.dJ] at h
  simp[nth] at hx
  obtain ⟨f',h1,h2⟩:=KD h.2 hx
  exact ⟨f',by simpa using h1,h2⟩
theorem EE {v:Value} {a:AV} (h:Kw v=some a):av ρ n C a v:=by
 unfold Kw at h
 split at h<;>first
   |(cases h;done)
   |(simp only[Option.some.injEq] at h;subst h)
 . exact .bool _
 . exact .int _ _
 . exact .str _ _ rfl
 . exact .dP
 . exact .ah
 . exact .mA
 . exact .func _ _ _ _ _ rfl rfl (fun _ _ _ h=>by simp at h) (fun _ _ _ h=>by simp at h)
 . exact .js
 . exact .xG
theorem rQ: ∀{l:List Value} {as:List AV},oe l=some as->aA ρ n C as l
 |[],as,h=>by simp[oe] at h;subst h;exact aA.nil
 |v ::l,as,h=>by
  unfold oe at h
  split at h
  . rename_i a as' h1 h2
    simp only[Option.some.injEq] at h;subst h
    exact aA.cons (EE h1) (rQ h2)
  . cases h
theorem abF {v:Value} {a:AV} (h:Vy v=some a):av ρ n C a v:=by
 unfold Vy at h
 split at h
 . split at h
   . rename_i l hl;simp only[Option.some.injEq] at h;subst h;exact .EC (rQ hl)
   . cases h
 . exact EE h
theorem EF {x:Operand} {o:fB} {fr:Fr} {a:Act} {v:AV} (h:pI x=some o) (hF:mC ρ n C fr a.tmps) (hv:BO fr o=some v):av ρ n C v (a.eval x):=by
 unfold pI at h
 split at h
 . rename_i t
   simp only[Option.some.injEq] at h;subst h
   obtain ⟨y,hy,hr⟩:=hF _ _ hv
   rw[iO,Nat.add_sub_cancel] at hy
   simp only[Act.eval,Array.getD_eq_getD_getElem?,hy,Option.getD_some];exact hr
 . split at h
   . rename_i c hc
     simp only[Option.some.injEq] at h;subst h
     simp only[BO,Option.some.injEq] at hv;subst hv
     exact abF hc
   . cases h
 . rename_i f
   simp only[Option.some.injEq] at h;subst h
   simp only[BO,Option.some.injEq] at hv;subst hv
   exact .func _ _ _ _ _ rfl rfl (fun _ _ _ h=>by simp at h) (fun _ _ _ h=>by simp at h)
 . cases h
theorem eD: ∀{xs:List Operand} {os:List fB} {fr:Fr} {a:Act} {vs:List AV},ju xs=some os->mC ρ n C fr a.tmps->ey fr os=some vs->aA ρ n C vs (xs.map a.eval)
 |[],os,fr,a,vs,h,_,hv=>by
  simp[ju] at h;subst h
  simp[ey] at hv;subst hv
  exact aA.nil
 |x ::xs,os,fr,a,vs,h,hF,hv=>by
  unfold ju at h
  split at h
  . rename_i o os' h1 h2
    simp only[Option.some.injEq] at h;subst h
    unfold ey at hv
    split at hv
    .   rename_i v hv1
        split at hv
        . rename_i vs' Jg
          simp only[Option.some.injEq] at hv;subst hv
          exact aA.cons (EF h1 hF hv1) (eD h2 hF Jg)
        . cases hv
    .   cases hv
  . cases h
theorem eR {x:Operand} {o:fB} {fr:Fr} {a:Act} {vs:List AV} (h:pI x=some o) (hF:mC ρ n C fr a.tmps) (hv:ey fr [o]=some vs):
   ∃v,vs=[v]/\av ρ n C v (a.eval x):=by
 unfold ey at hv
 split at hv
 . rename_i v hv1
   simp only[ey,Option.some.injEq] at hv;subst hv
   exact ⟨v,rfl,EF h hF hv1⟩
 . cases hv
end
def Yields (N:Next) (x:Value):Prop:=N= .value x\/(N= .skip/\x=undef)
def u9 (P:Program) (ρ:Pos->Loc) (C:Cells) (st:St) (w:World) (r:Result Next):cq->Prop
 | .val v=> ∃N x,r= .ok N w/\Yields N x/\av ρ st.next.toNat C v x
 | .aL v del set new=> ∃N x w' ρ',r= .ok N w'/\Yields N x/\(∀b:Pos,b.toNat<st.next.toNat->ρ' b=ρ b)/\bA ρ' C (st.aL del set new) w'/\
  av ρ' (st.aL del set new).next.toNat C v x/\ni ρ st w ρ' (st.aL del set new) w'
 | .call f args=> ∃bQ:List Value,r=(callFunc f bQ.toArray).run P w/\aA ρ st.next.toNat C args bQ
end
section
open Go Go.RowKit
theorem k9 (b o i:Nat):(⟨b,o,none⟩:Addr).add i=⟨b,o+i,none⟩:=by
 unfold Addr.add;split
 . rename_i h;subst h;rfl
 . rfl
section
variable {P : Program} {ρ ρ' : Pos -> Loc} {C : Cells} {st : St} {w w' : World}
theorem bA.Zh (hW:bA ρ C st w) {adj:T AB} {next' b0:Pos} {x0:AB}
  (hn:st.next.toNat<=next'.toNat) (rR:b0.toNat<next'.toNat) (akB:adj.get b0=some x0)
  (oI: ∀b x,b≠b0->adj.get b=some x->st.heap.get b=some x/\(ρ b).aE≠(ρ' b0).aE)
  (aS: ∀b:Pos,b.toNat<st.next.toNat->ρ' b=ρ b)
  (hB:lR ρ' next'.toNat C (ρ' b0) w' x0)
  (GF: ∀a v,C a=some v->a.block≠(ρ' b0).aE)
  (aP:(ρ' b0).aE<w'.heap.size) (adk:w.heap.size<=w'.heap.size)
  (A9: ∀k,k<w.heap.size->k≠(ρ' b0).aE->w'.heap[k]? =w.heap[k]?):
  bA ρ' C ⟨adj,next'⟩ w' where
 live b x hb:=by
  by_cases h:b=b0
  .  subst h
     rw[akB] at hb;cases hb
     exact ⟨rR,aP,hB⟩
  .  obtain ⟨h1,h2⟩:=oI b x h hb
     obtain ⟨h3,h4,h5⟩:=hW.live b x h1
     rw[aS b h3]
     exact ⟨Nat.lt_of_lt_of_le h3 hn,Nat.lt_of_lt_of_le h4 adk,(h5.mono aS hn).of_heap (A9 _ h4 h2)⟩
 inj b  b' x x' hb eS he:=by
  by_cases h:b=b0
  .  subst h
     by_cases h':b'=b
     .  exact h'.symm
     .  obtain ⟨h1,h2⟩:=oI b' x' h' eS
        rw[aS b' (hW.live b' x' h1).1] at he
        exact absurd he.symm h2
  .  obtain ⟨h1,h2⟩:=oI b x h hb
     rw[aS b (hW.live b x h1).1] at he
     by_cases h':b'=b0
     .  subst h';exact absurd he h2
     .  obtain ⟨h1',h2'⟩:=oI b' x' h' eS
        rw[aS b' (hW.live b' x' h1').1] at he
        exact hW.inj b b' x x' h1 h1' he
 cZ a v ha:=by
  obtain ⟨h1,h2⟩:=hW.cZ a v ha
  have KE:a.block<w.heap.size:=World.block_lt_of_cell? _ _ h1
  refine ⟨?_,fun b x hb=> ?_⟩
  .  rw[World.cell?_of_block (w:=w) (A9 _ KE (GF a v ha))];exact h1
  .  by_cases h:b=b0
     .  subst h;exact fun e=>GF a v ha e.symm
     .  obtain ⟨h3,_⟩:=oI b x h hb
        rw[aS b (hW.live b x h3).1];exact h2 b x h3
 whole a v ha o ho:=by
  have jF:a.block<w.heap.size:=World.block_lt_of_cell? _ _ (hW.cZ a v ha).1
  rw[World.cell?_of_block (w:=w) (a:=⟨a.block,o,none⟩) (A9 _ jF (GF a v ha))];exact hW.whole a v ha o ho
theorem bA.cell (hW:bA ρ C st w) {b:Pos} {cs:List AV} {fz:Nat} (hb:st.heap.get b=some (.cells cs fz)) {i:Nat} {v:AV} (hv:cs[i]? =some v):
  ∃x,w.cell? ⟨(ρ b).aE,(ρ b).base+i,none⟩=some x/\av ρ st.next.toNat C v x:=by
 obtain ⟨_,_,c,e,fr,h1,h2,h3,h4,_⟩:=hW.live b _ hb
 obtain ⟨x,hx,hr⟩:=h4.get hv
 have hi:i<cs.length:=(List.getElem?_eq_some_iff.1 hv).1
 rw[List.getElem?_take,if_pos hi,List.getElem?_drop] at hx
 exact ⟨x,by simp[World.cell?,h1, <-hx],hr⟩
theorem bA.akC (hW:bA ρ C st w) {b:Pos} {cs:List AV} {t:TypeId} (hb:st.heap.get b=some (.typed t cs)) {i:Nat} {v:AV} (hv:cs[i]? =some v):
  ∃x,w.cell? ⟨(ρ b).aE,(ρ b).base+i,none⟩=some x/\av ρ st.next.toNat C v x:=by
 obtain ⟨_,_,c,fr,h1,h2,h3,h4,_⟩:=hW.live b _ hb
 obtain ⟨x,hx,hr⟩:=h4.get hv
 have hi:i<cs.length:=(List.getElem?_eq_some_iff.1 hv).1
 rw[List.getElem?_take,if_pos hi,List.getElem?_drop] at hx
 exact ⟨x,by simp[World.cell?,h1, <-hx],hr⟩
theorem EG {α:Type} {l l':List α} {i n:Nat} (h:cut l i n=some l'):l'=(l.drop i).take n/\i+n<=l.length:=by
 unfold cut at h;split at h
 . rename_i hb;cases h;exact ⟨rfl,Nat.le_of_ble_eq_true hb⟩
 . cases h
theorem ve {α:Type} {l l':List α} {i n:Nat} (h:cut l i n=some l'):l'.length=n:=by
 obtain ⟨rfl,h2⟩:=EG h;simp;omega
theorem bA.loadCells (hW:bA ρ C st w) {b:Pos} {cs vs:List AV} {fz off n:Nat} (hb:st.heap.get b=some (.cells cs fz)) (hc:cut cs off n=some vs):
  ∃ys:List Value,(Go.loadCells ⟨(ρ b).aE,(ρ b).base+off,none⟩ n).run P w= .ok ys.toArray w/\aA ρ st.next.toNat C vs ys:=by
 obtain ⟨_,_,c,e,fr,h1,h2,h3,h4,_⟩:=hW.live b _ hb
 obtain ⟨qu,hle⟩:=EG hc
 have hr:=(h4.drop off).take n
 rw[<-qu] at hr
 refine ⟨_,?_,hr⟩
 have hlen:(List.take n (List.drop off (List.take cs.length (List.drop (ρ b).base c.toList)))).length=n:=by
  rw[<-hr.1];exact ve hc
 conv=>lhs;rw[<-hlen]
 refine run_loadCells_list w _ _ fun j v hj=> ?_
 have CS:j<n:=by rw[<-hlen];exact (List.getElem?_eq_some_iff.1 hj).1
 rw[List.getElem?_take,if_pos CS,List.getElem?_drop,List.getElem?_take,if_pos (by omega),List.getElem?_drop] at hj
 rw[k9]
 simp[World.cell?,h1, <-hj,Nat.add_assoc]
theorem bA.TN (hW:bA ρ C st w) {b:Pos} {cs vs:List AV} {t:TypeId} {off n:Nat} (hb:st.heap.get b=some (.typed t cs)) (hc:cut cs off n=some vs):
  ∃ys:List Value,(Go.loadCells ⟨(ρ b).aE,(ρ b).base+off,none⟩ n).run P w= .ok ys.toArray w/\aA ρ st.next.toNat C vs ys:=by
 obtain ⟨_,_,c,fr,h1,h2,h3,h4,_⟩:=hW.live b _ hb
 obtain ⟨qu,hle⟩:=EG hc
 have hr:=(h4.drop off).take n
 rw[<-qu] at hr
 refine ⟨_,?_,hr⟩
 have hlen:(List.take n (List.drop off (List.take cs.length (List.drop (ρ b).base c.toList)))).length=n:=by
  rw[<-hr.1];exact ve hc
 conv=>lhs;rw[<-hlen]
 refine run_loadCells_list w _ _ fun j v hj=> ?_
 have CS:j<n:=by rw[<-hlen];exact (List.getElem?_eq_some_iff.1 hj).1
 rw[List.getElem?_take,if_pos CS,List.getElem?_drop,List.getElem?_take,if_pos (by omega),List.getElem?_drop] at hj
 rw[k9]
 simp[World.cell?,h1, <-hj,Nat.add_assoc]
theorem jQ (g e:Nat) (fr:Nat×Nat): ∀(vs:List Value) (i o:Nat) (cur:Array Value) (w:World),w.heap[g]? =some (.cells cur e fr)->o+i+vs.length<=cur.size->
  (∀v∈vs,v.oneCell'=true)->(∀k,o+i<=k->k<cur.size-> ¬(fr.1<=k/\k<fr.2))->
  ∃ w',(storeCells ⟨g,o,none⟩ vs i).run P w= .ok () w'/\w'.heap[g]? =some (.cells (aG cur.toList (o+i) vs).toArray e fr)/\
    w'.heap.size=w.heap.size/\(∀k,k≠g->w'.heap[k]? =w.heap[k]?)/\w'.os=w.os/\w'.tape=w.tape/\w'.output=w.output
 |[],i,o,cur,w,hg,_,_,_=>⟨w,by simp[storeCells],by rw[hg];simp[aG,List.take_append_drop],rfl,fun _ _=>rfl,rfl,rfl,rfl⟩
 |v ::vs,i,o,cur,w,hg,hle,h1,hf=>by
  simp only[List.length_cons] at hle
  have hv:v.oneCell'=true:=h1 v (by simp)
  have xo:w.cell? ⟨g,o+i,none⟩=some (cur[o+i]'(by omega)):=by simp[World.cell?,hg]
  have hfz:w.frozen? ⟨g,o+i,none⟩=false:=by
    have:=hf (o+i) (Nat.le_refl _) (by omega)
    simp only[World.frozen?,hg]
    simpa using this
  have ze:(w.setCell ⟨g,o+i,none⟩ v).heap[g]? =some (.cells (cur.setIfInBounds (o+i) v) e fr):=by
    simp[World.setCell,Array.getElem?_modify,hg]
  obtain ⟨w',h2,h3,h4,h5,h6,h7,h8⟩:=jQ g e fr vs (i+1) o _ _ ze (by simp;omega) (fun v hv=>h1 v (by simp[hv])) (by
    intro k hk kM;simp at kM;exact hf k (by omega) kM)
  refine ⟨w',?_,?_,by simp[h4],fun k hk=> ?_,h6,h7,h8⟩
  . simp only[storeCells,Sem.run_bind,k9,run_store P w _ _ _ hv,xo,hfz]
    simpa using h2
  . rw[h3]
    congr 2
    simp only[aG,List.length_cons,Array.toList_setIfInBounds]
    rw[List.drop_set_of_lt (by omega)]
    have:o+(i+1)=(o+i)+1:=by omega
    rw[this,List.take_set,List.take_add_one]
    have aP:o+i<cur.toList.length:=by simp;omega
    rw[List.getElem?_eq_getElem aP]
    simp only[Option.toList_some,List.set_append,List.length_take]
    have hm:min (o+i) cur.toList.length=o+i:=Nat.min_eq_left (Nat.le_of_lt aP)
    rw[hm,if_neg (Nat.lt_irrefl _),Nat.sub_self]
    simp
    rw[show o+i+1+vs.length=o+i+(vs.length+1) from by omega]
  . rw[h5 k hk,Below.heap_setCell _ _ _ _ (by simpa using hk)]
end
end
section
open Go Go.RowKit
section
variable {P : Program} {tt : TT} {ρ : Pos -> Loc} {C : Cells} {st : St} {w : World} {n : Nat}
theorem Yields.value (x:Value):Yields (.value x) x:= .inl rfl
theorem u9.pure {v:AV} {x:Value} {r:Result Next} (h:r= .ok (.value x) w) (hv:av ρ st.next.toNat C v x):u9 P ρ C st w r (.val v):=
 ⟨_,x,h,Yields.value x,hv⟩
theorem av.iP {k:IntKind} {i:Int} {x:Value} (h:av ρ n C (.int k i) x):x= .int k i:=by cases h;rfl
theorem av.iH {b:Bool} {x:Value} (h:av ρ n C (.bool b) x):x= .bool b:=by cases h;rfl
theorem av.dW {s:List Nat} {x:Value} (h:av ρ n C (.str s) x): ∃bs:ByteArray,x= .string bs/\bs.data.toList.map UInt8.toNat=s:=by
 cases h with|str _ bs h=>exact ⟨bs,rfl,h⟩
theorem av.qH {x:Value} (h:av ρ n C .dP x):x= .pointer none:=by cases h;rfl
theorem av.fD {x:Value} (h:av ρ n C .ah x):x= .slice none 0 0:=by cases h;rfl
theorem av.Ba {x:Value} (h:av ρ n C .mA x):x= .map none:=by cases h;rfl
theorem av.KF {x:Value} (h:av ρ n C .js x):x= .nilFunc:=by cases h;rfl
theorem av.Zi {x:Value} (h:av ρ n C .xG x):x= .nilIface:=by cases h;rfl
theorem av.fu {b:Pos} {off:Nat} {x:Value} (h:av ρ n C (.ptr b off) x):b.toNat<n/\x= .pointer (some ⟨(ρ b).aE,(ρ b).base+off,none⟩):=by
 cases h with|ptr _ _ h=>exact ⟨h,rfl⟩
theorem av.Bb {b:Pos} {x:Value} (h:av ρ n C (.map b) x):b.toNat<n/\x= .map (some (ρ b).aE):=by
 cases h with|map _ h=>exact ⟨h,rfl⟩
theorem av.WT {t:TypeId} {v:AV} {x:Value} (h:av ρ n C (.iface t v) x): ∃y,x= .iface t y/\av ρ n C v y:=by
 cases h with|iface _ _ y h=>exact ⟨y,rfl,h⟩
theorem av.dA {b:Pos} {off len es:Nat} {cap:Option Nat} {x:Value} (h:av ρ n C (.slice b off len cap es) x):
  ∃(a:Addr) (aN:Nat),x= .slice (some a) len aN/\len<=aN/\(∀c,cap=some c->c=aN)/\
   (aN≠0->b.toNat<n/\a=⟨(ρ b).aE,(ρ b).base+off,none⟩/\(ρ b).base+off+aN*es<=(ρ b).size):=by
 cases h with|slice _ _ _ _ _ aN a hl hc ha _=>exact ⟨a,aN,rfl,hl,hc,ha⟩
theorem av.WU {b:Pos} {off len es:Nat} {cap:Option Nat} {x:Value} (h:av ρ n C (.slice b off len cap es) x):cap=none->b.toNat<n:=by
 cases h with|slice _ _ _ _ _ _ _ _ _ _ hk=>exact hk
theorem av.ua {xs:List (List AV)} {es:Nat} {x:Value} (h:av ρ n C (.fl xs es) x):
  ∃(a:Addr) (aN:Nat) (cell:Nat->Nat->Value),x= .slice (some a) xs.length aN/\xs.length<=aN/\(xs≠[]->a.spot=none)/\
   (∀(i:Nat) (cs:List AV),xs[i]? =some cs->cs.length=es)/\
   (∀(i j:Nat) (cs:List AV) (v:AV),xs[i]? =some cs->cs[j]? =some v->C ⟨a.block,a.off+i*es+j,none⟩=some (cell i j))/\
   (∀(i j:Nat) (cs:List AV) (v:AV),xs[i]? =some cs->cs[j]? =some v->av ρ n C v (cell i j)):=by
 cases h with|fl _ _ aN a cell hl hs ei hc hv=>exact ⟨a,aN,cell,rfl,hl,hs,ei,hc,hv⟩
theorem av.Jh {xs:List (List AV)} {i j:Nat} {x:Value} (h:av ρ n C (.fp xs i j) x):
  ∃(es aE base:Nat) (cell:Nat->Nat->Value),x= .pointer (some ⟨aE,base+i*es+j,none⟩)/\
   (∀(i:Nat) (cs:List AV),xs[i]? =some cs->cs.length=es)/\
   (∀(i j:Nat) (cs:List AV) (v:AV),xs[i]? =some cs->cs[j]? =some v->C ⟨aE,base+i*es+j,none⟩=some (cell i j))/\
   (∀(i j:Nat) (cs:List AV) (v:AV),xs[i]? =some cs->cs[j]? =some v->av ρ n C v (cell i j)):=by
 cases h with|fp _ _ _ es aE base cell hl hc hv=>exact ⟨es,aE,base,cell,rfl,hl,hc,hv⟩
theorem ud (k:IntKind) (i:Int):ay k i=k.wrap i:=by
 unfold ay
 split
 . rename_i h1 _
   split
   . rename_i h2 _
     cases k<;>simp only[AH,hiI] at h1 h2<;>simp only[IntKind.wrap,IntKind.bits,IntKind.signed]<;>simp<;>omega
   . rfl
 . rfl
theorem mE (a b:Int):BC a b=(a==b):=by
 unfold BC;split
 . rename_i h _;subst h;simp
 . rename_i h _;simp[h]
theorem dR (a b:Int):BD a b=decide (a<b):=by
 unfold BD;split<;>(rename_i h _;simp[h])
theorem gX (a b:Int):YO a b=decide (a<=b):=by
 unfold YO;split<;>(rename_i h _;simp[h])
theorem lS: ∀{a b:List Nat},gK a b=true↔a=b
 |[],[]=>by simp[gK]
 |[],_::_=>by simp[gK]
 |_::_,[]=>by simp[gK]
 |a::x,b::y=>by
  unfold gK
  split
  . rename_i h;have:=Nat.eq_of_beq_eq_true h;subst this;simp[lS (a:=x) (b:=y)]
  . rename_i h;have:=Nat.ne_of_beq_eq_false h;simp[this]
theorem Ji: ∀{a b:List UInt8},a.map UInt8.toNat=b.map UInt8.toNat->a=b
 |[],[],_=>rfl
 |[],_::_,h=>by simp at h
 |_::_,[],h=>by simp at h
 |a::x,b::y,h=>by
  simp at h
  rw[UInt8.toNat_inj.1 h.1,Ji h.2]
theorem toList_data (b:ByteArray):b.toList=b.data.toList:=ByteArray.toList_eq b
theorem sw: ∀(x y:List UInt8),aD (x.map UInt8.toNat) (y.map UInt8.toNat)=Op.bytesLess x y
 |[],[]=>by simp[aD,Op.bytesLess]
 |_::_,[]=>by simp[aD,Op.bytesLess]
 |[],_::_=>by simp[aD,Op.bytesLess]
 |a ::x,b::y=>by
  simp only[List.map_cons,aD,Op.bytesLess]
  split
  . rename_i h
    have:a<b:=by rw[UInt8.lt_iff_toNat_lt];simpa using h
    simp[this]
  . rename_i h
    have h1: ¬a<b:=by
        rw[UInt8.lt_iff_toNat_lt];intro h'
        have h2:Nat.blt a.toNat b.toNat=true:=by simpa using h'
        rw[h2] at h;cases h
    split
    .   rename_i h2
        have:a=b:=UInt8.toNat_inj.1 (Nat.eq_of_beq_eq_true h2)
        subst this;simp only[h1,decide_false,Bool.false_or,beq_self_eq_true,Bool.true_and];exact sw x y
    .   rename_i h2
        have:a≠b:=fun e=>Nat.ne_of_beq_eq_false h2 (by rw[e])
        simp[h1,this]
theorem Jj {a b:List Nat} {x y:ByteArray} (hx:x.data.toList.map UInt8.toNat=a) (hy:y.data.toList.map UInt8.toNat=b):(x.toList==y.toList)=gK a b:=by
 rw[toList_data,toList_data,Bool.eq_iff_iff,lS,beq_iff_eq, <-hx, <-hy]
 exact ⟨fun h=>by rw[h],fun h=>Ji h⟩
theorem SX {a b:List Nat} {x y:ByteArray} (hx:x.data.toList.map UInt8.toNat=a) (hy:y.data.toList.map UInt8.toNat=b):Op.bytesLess x.toList y.toList=aD a b:=by
 rw[toList_data,toList_data, <-hx, <-hy,sw]
theorem xI {a:List Nat} {x:ByteArray} (hx:x.data.toList.map UInt8.toNat=a):x.size=a.length:=by
 rw[<-hx,List.length_map,Array.length_toList];rfl
def PK.fits:PK->TypeDesc->Bool
 | .b,.bool=>true
 | .i,.int _=>true
 | .s,.string=>true
 |_,_=>false
theorem Zj {t:TypeId} {d:TypeDesc} (hd:P.underlying t=some d) {pk:PK} (hk:pk.fits d=true) {a b:AV} {x y:Value} {r:Bool} {m:Nat}
   (ha:av ρ n C a x) (hb:av ρ n C b y) (h:tU pk a b=some r) (w:World):(Op.equalIn (m+1) t x y).run P w= .ok r w:=by
 unfold tU at h
 split at h
 . simp only[Option.some.injEq] at h;subst h
   rw[ha.iH,hb.iH]
   cases d<;>simp[PK.fits] at hk
   rw[run_equalIn_bool' w m t _ _ hd]
 . split at h
   . rename_i kM;have:=yj kM;subst this
     simp only[Option.some.injEq] at h;subst h
     rw[ha.iP,hb.iP]
     cases d<;>simp[PK.fits] at hk
     rw[run_equalIn_int w m t _ _ _ _ hd,mE]
   . cases h
 . simp only[Option.some.injEq] at h;subst h
   obtain ⟨bx,rfl,h1⟩:=ha.dW
   obtain ⟨bz,rfl,h2⟩:=hb.dW
   cases d<;>simp[PK.fits] at hk
   rw[run_equalIn_string w m t _ _ hd,Jj h1 h2]
 . cases h
theorem NY: ∀{fs:List (Nat×Nat×Bool)} {l:List (Nat×PK)} {gs:List Field} {xs ys:List AV} {cx cy:Array Value} {r:Bool} {m:Nat} (_hT:cr P tt)
  (_hm:bF.dJ fs gs=true) (_hf:y8.fields tt fs=some l) (_hx:aA ρ n C xs cx.toList) (_hy:aA ρ n C ys cy.toList) (_h:eqFields xs ys l=some r) (w:World),
  (Op.eqFields (m+1) cx cy gs).run P w= .ok r w
 |[],l,gs,xs,ys,cx,cy,r,m,hT,hm,hf,hx,hy,h,w=>by
  cases gs with
  |cons f gs=>simp[bF.dJ] at hm
  | nil=>
    simp[y8.fields] at hf;subst hf
    simp[eqFields] at h;subst h
    simp[Op.eqFields]
 |(off  , t,named)::fs,l,gs,xs,ys,cx,cy,r,m,hT,hm,hf,hx,hy,h,w=>by
  cases gs with
  |nil=>simp[bF.dJ] at hm
  | cons f gs=>
    simp[bF.dJ] at hm
    obtain ⟨⟨⟨ho,ht⟩,hn⟩,hm'⟩:=hm
    unfold y8.fields at hf
    split at hf<;>first|(cases hf;done)|skip
    rename_i ti l' cY hl'
    obtain ⟨d,hd,bW⟩:=(hT.at cY).und
    have key: ∃pk,l=(off,pk)::l'/\pk.fits d=true/\(isAgg t).run P w= .ok false w:=by
        have o8:=SV bW w hd
        split at hf<;>first|(cases hf;done)|skip
        all_goals
          rename_i hk
          simp only[Option.some.injEq] at hf
          rw[hk] at bW o8
          refine ⟨_,hf.symm,?_,o8⟩
        . rw[VC bW];rfl
        . rw[Jf bW];rfl
        . rw[l9 bW];rfl
    obtain ⟨pk,rfl,H9,o8⟩:=key
    have bX:f.name≠ "_" :=by intro e;rw[e] at hn;simp at hn
    unfold eqFields at h
    split at h<;>first|(cases h;done)|skip
    rename_i a b ha hb
    rw[kZ] at ha hb
    obtain ⟨x,hx1,GG⟩:=hx.get ha
    obtain ⟨y,Rx,Ry⟩:=hy.get hb
    have px:(part f.type cx f.offset).run P w= .ok x w:=by
        rw[<-ht, <-ho];simp at hx1;simp[part,o8,hx1]
    have py:(part f.type cy f.offset).run P w= .ok y w:=by
        rw[<-ht, <-ho];simp at Rx;simp[part,o8,Rx]
    simp only[Op.eqFields,Sem.run_bind,Sem.run_ite,bX,px,py,Result.andThen_ok,ne_eq,not_false_eq_true,if_true]
    split at h
    .   rename_i he
        rw[<-ht,Zj hd H9 GG Ry he w]
        simpa using NY (m:=m) hT hm' hl' hx hy h w
    .   rename_i he
        simp only[Option.some.injEq] at h;subst h
        rw[<-ht,Zj hd H9 GG Ry he w]
        simp
    .   cases h
def ah8 (tt:TT) (op:BinOp) (q:eH) (t:TypeId):Prop:=y8 tt t=some q\/(q= .num/\op≠ .eql/\op≠ .neq)
def akD (P:Program) (tt:TT) (t:TypeId):eH->Prop
 | .num=>True
 | .bool=>P.underlying t=some .bool
 | .ptr=> ∃e,P.underlying t=some (.pointer e)/\ ∃j,P.info? e=some j
 | .slice=> ∃e,P.underlying t=some (.slice e)
 | .map=> ∃k e,P.underlying t=some (.map k e)
 | .func=> ∃a b c,P.underlying t=some (.func a b c)
 | .iface=> ∃a,P.underlying t=some (.interface a)
 | .struct l=> ∃fs gs,P.underlying t=some (.struct gs)/\bF.dJ fs gs.toList=true/\y8.fields tt fs=some l/\P.stoodInHeld t=false/\P.eqGuardType P.depth t=false
theorem acv (hT:cr P tt) {t:TypeId} {q:eH} (hq:y8 tt t=some q):akD P tt t q:=by
 unfold y8 at hq
 split at hq<;>first|(cases hq;done)|skip
 rename_i ti cY
 obtain ⟨d,hd,bW⟩:=(hT.at cY).und
 split at hq<;>first|(cases hq;done)|skip
 all_goals rename_i hk
 all_goals rw[hk] at bW
 . simp only[Option.some.injEq] at hq;subst hq;rw[VC bW] at hd;exact hd
 . simp only[Option.some.injEq] at hq;subst hq;trivial
 . simp only[Option.some.injEq] at hq;subst hq;trivial
 . simp only[Option.some.injEq] at hq;subst hq;rw[TM bW] at hd;exact ⟨_,hd,(hT.at cY).elem _ hk⟩
 . simp only[Option.some.injEq] at hq;subst hq;rw[mD bW] at hd;exact ⟨_,hd⟩
 . simp only[Option.some.injEq] at hq;subst hq;rw[NX bW] at hd;exact ⟨_,_,hd⟩
 . simp only[Option.some.injEq] at hq;subst hq;obtain ⟨_,_,_,rfl⟩:=aiu bW;exact ⟨_,_,_,hd⟩
 . simp only[Option.some.injEq] at hq;subst hq;obtain ⟨_,rfl⟩:=agr bW;exact ⟨_,hd⟩
 . split at hq<;>first|(cases hq;done)|skip
   rename_i fs _ _ l hp hl
   simp only[Option.some.injEq] at hq;subst hq
   obtain ⟨gs,rfl,hm⟩:=GD bW
   exact ⟨fs,gs,hd,hm,hl,(hT.at cY).eqs hp⟩
theorem adl (m:Nat) (hT:cr P tt) {t:TypeId} {q:eH} (hq:y8 tt t=some q) {a b:AV} {x y:Value} {r:Bool} (ha:av ρ n C a x) (hb:av ρ n C b y) (h:Kn q a b=some r) (w:World):
   (Op.equalIn (m+1+1) t x y).run P w= .ok r w:=by
 have hi:=acv hT hq
 clear hq
 unfold Kn at h
 split at h<;>first|(cases h;done)|skip
 . simp only[Option.some.injEq] at h;subst h
   rw[ha.iH,hb.iH,run_equalIn_bool' w _ t _ _ hi]
 all_goals first
   |(simp only[Option.some.injEq] at h;subst h)
   |skip
 . obtain ⟨e,hd,_⟩:=hi;rw[ha.qH,hb.qH];(unfold Op.equalIn;rw[Sem.run_bind,aO hd];rfl)
 . obtain ⟨e,hd,_⟩:=hi;obtain ⟨_,hb⟩:=hb.fu;rw[ha.qH,hb];(unfold Op.equalIn;rw[Sem.run_bind,aO hd];rfl)
 . obtain ⟨e,hd,_⟩:=hi;obtain ⟨_,ha⟩:=ha.fu;rw[hb.qH,ha];(unfold Op.equalIn;rw[Sem.run_bind,aO hd];rfl)
 . obtain ⟨e,hd,_⟩:=hi;obtain ⟨_,_,_,_,hb,_⟩:=hb.Jh;rw[ha.qH,hb];(unfold Op.equalIn;rw[Sem.run_bind,aO hd];rfl)
 . obtain ⟨e,hd,_⟩:=hi;obtain ⟨_,_,_,_,ha,_⟩:=ha.Jh;rw[hb.qH,ha];(unfold Op.equalIn;rw[Sem.run_bind,aO hd];rfl)
 . obtain ⟨e,hd,j,hj⟩:=hi
   split at h<;>first|(cases h;done)|skip
   rename_i e1 e2
   have e1:=Pos.beq_eq.1 e1
   have e2:=Nat.eq_of_beq_eq_true e2
   subst e1;subst e2
   simp only[Option.some.injEq] at h;subst h
   obtain ⟨_,ha⟩:=ha.fu;obtain ⟨_,hb⟩:=hb.fu;rw[ha,hb]
   simp[Op.equalIn,aO hd,sizeOf,typeInfo,hj,run_sameAddr_same]
 . obtain ⟨e,hd⟩:=hi;rw[ha.fD,hb.fD];(unfold Op.equalIn;rw[Sem.run_bind,aO hd];rfl)
 . obtain ⟨e,hd⟩:=hi;obtain ⟨_,_,hb,_⟩:=hb.dA;rw[ha.fD,hb];(unfold Op.equalIn;rw[Sem.run_bind,aO hd];rfl)
 . obtain ⟨e,hd⟩:=hi;obtain ⟨_,_,ha,_⟩:=ha.dA;rw[hb.fD,ha];(unfold Op.equalIn;rw[Sem.run_bind,aO hd];rfl)
 . obtain ⟨e,hd⟩:=hi;obtain ⟨_,_,_,hb,_⟩:=hb.ua;rw[ha.fD,hb];(unfold Op.equalIn;rw[Sem.run_bind,aO hd];rfl)
 . obtain ⟨e,hd⟩:=hi;obtain ⟨_,_,_,ha,_⟩:=ha.ua;rw[hb.fD,ha];(unfold Op.equalIn;rw[Sem.run_bind,aO hd];rfl)
 . obtain ⟨k,e,hd⟩:=hi;rw[ha.Ba,hb.Ba];(unfold Op.equalIn;rw[Sem.run_bind,aO hd];rfl)
 . obtain ⟨k,e,hd⟩:=hi;obtain ⟨_,hb⟩:=hb.Bb;rw[ha.Ba,hb];(unfold Op.equalIn;rw[Sem.run_bind,aO hd];rfl)
 . obtain ⟨k,e,hd⟩:=hi;obtain ⟨_,ha⟩:=ha.Bb;rw[hb.Ba,ha];(unfold Op.equalIn;rw[Sem.run_bind,aO hd];rfl)
 . obtain ⟨_,_,_,hd⟩:=hi;rw[ha.KF,hb.KF];(unfold Op.equalIn;rw[Sem.run_bind,aO hd];rfl)
 . obtain ⟨_,_,_,hd⟩:=hi;obtain ⟨_,_,hb,_⟩:=hb.Ky;rw[ha.KF,hb];(unfold Op.equalIn;rw[Sem.run_bind,aO hd];rfl)
 . obtain ⟨_,_,_,hd⟩:=hi;obtain ⟨_,_,ha,_⟩:=ha.Ky;rw[hb.KF,ha];(unfold Op.equalIn;rw[Sem.run_bind,aO hd];rfl)
 . obtain ⟨_,hd⟩:=hi;obtain ⟨_,hb,_⟩:=hb.WT;rw[ha.Zi,hb];(unfold Op.equalIn;rw[Sem.run_bind,aO hd];rfl)
 . obtain ⟨_,hd⟩:=hi;obtain ⟨_,ha,_⟩:=ha.WT;rw[hb.Zi,ha];(unfold Op.equalIn;rw[Sem.run_bind,aO hd];rfl)
 . obtain ⟨fs,gs,hd,hm,hl,hp,_⟩:=hi
   obtain ⟨cx,rfl,hx⟩:=ha.A5
   obtain ⟨cy,rfl,hy⟩:=hb.A5
   have hfo:P.fieldsOf t=gs:=by simp[Program.fieldsOf,hd]
   rw[run_equalIn_agg w (m+1) t cx cy (by rw[hfo,hd]) hp,hfo]
   exact NY (m:=m) hT hm hl hx hy h w
theorem Zk (hT:cr P tt) {t:TypeId} {q:eH} (hq:y8 tt t=some q) {a b:AV} {x y:Value} {r:Bool} (ha:av ρ n C a x) (hb:av ρ n C b y) (h:Kn q a b=some r) (w:World):
 (Op.equal t x y).run P w= .ok r w:=adl 9998 hT hq ha hb h w
theorem TO (hT:cr P tt) {t:TypeId} {q:eH} (hq:y8 tt t=some q) {a b:AV} {x y:Value} {r:Bool} (ha:av ρ n C a x) (hb:av ρ n C b y) (h:Kn q a b=some r) (op:BinOp) (ox oy:Operand) (w:World):
  (eqGuard op t ox oy x y).run P w= .ok () w:=by
 have hi:=acv hT hq
 clear hq
 unfold Kn at h
 split at h<;>first|(cases h;done)|skip
 all_goals first
  |(obtain ⟨fs,gs,hd,hm,hl,hp,hg⟩:=hi
    obtain ⟨cx,rfl,hx⟩:=ha.A5
    obtain ⟨cy,rfl,hy⟩:=hb.A5
    exact run_eqGuard_agg w op t ox oy cx cy hg)
  |(cases ha<;>cases hb<;>cases op<;>rfl)
end
end
section
open Go Go.RowKit
section
variable {P : Program} {tt : TT} {ρ : Pos -> Loc} {C : Cells} {st : St} {w : World} {n : Nat}
theorem X6 (op:BinOp) (t:TypeId) (k:IntKind) (i j:Int) (hs:op≠ .shl) (hr:op≠ .shr):(binOp op t (.int k i) (.int k j)).run P w=
  (match op with
   | .add| .sub| .mul=>Op.intArith op k i j
   | .quo| .rem=>Op.intDiv op k i j
   | .and| .or| .xor| .andNot=>Op.intBits op k i j
   |_=>Op.intCmp op i j).run P w:=by
 cases op<;>first|(exact absurd rfl hs)|(exact absurd rfl hr)|simp[binOp]
theorem ags (hT:cr P tt) {op:BinOp} {t:TypeId} {q:eH} (hq:ah8 tt op q t) {a b v:AV} {x y:Value} (ha:av ρ n C a x) (hb:av ρ n C b y) (h:nB op q a b=some v) (ox oy:Operand):
  ∃z,(do eqGuard op t ox oy x y;binOp op t x y:Sem Value).run P w= .ok z w/\av ρ n C v z:=by
 unfold nB at h
 split at h
 ·
  rename_i k i k' j
  rw[ha.iP,hb.iP]
  have hg: ∀op,(eqGuard op t ox oy (.int k i) (.int k' j)).run P w= .ok () w:=by intro op;cases op<;>rfl
  rw[Sem.run_bind,hg,Result.andThen_ok]
  split at h
  . split at h
    .   cases h
    .   rename_i aP
        rw[dR] at aP;have aP:=of_decide_eq_false aP
        simp only[Option.some.injEq] at h;subst h
        exact ⟨_,by simp[binOp,Op.shift,aP,ud],.int _ _⟩
  . split at h
    .   cases h
    .   rename_i aP
        rw[dR] at aP;have aP:=of_decide_eq_false aP
        simp only[Option.some.injEq] at h;subst h
        exact ⟨_,by simp[binOp,Op.shift,aP],.int _ _⟩
  . rename_i hs hr
    split at h
    .   cases h
    .   rename_i hk
        have:=yj hk;subst this
        rw[X6 op t k i j (fun e=>hs e) (fun e=>hr e)]
        split at h
        . simp only[Option.some.injEq] at h;subst h;exact ⟨_,by simp[Op.intArith,ud],.int _ _⟩
        . simp only[Option.some.injEq] at h;subst h;exact ⟨_,by simp[Op.intArith,ud],.int _ _⟩
        . simp only[Option.some.injEq] at h;subst h;exact ⟨_,by simp[Op.intArith,ud],.int _ _⟩
        . split at h
          . cases h
          . rename_i h0;rw[mE] at h0;have h0': ¬j=0:=by simpa using h0
            simp only[Option.some.injEq] at h;subst h;exact ⟨_,by simp[Op.intDiv,h0',ud],.int _ _⟩
        . split at h
          . cases h
          . rename_i h0;rw[mE] at h0;have h0': ¬j=0:=by simpa using h0
            simp only[Option.some.injEq] at h;subst h;exact ⟨_,by simp[Op.intDiv,h0'],.int _ _⟩
        . simp only[Option.some.injEq] at h;subst h;exact ⟨_,by simp[Op.intBits],.int _ _⟩
        . simp only[Option.some.injEq] at h;subst h;exact ⟨_,by simp[Op.intBits],.int _ _⟩
        . simp only[Option.some.injEq] at h;subst h;exact ⟨_,by simp[Op.intBits],.int _ _⟩
        . simp only[Option.some.injEq] at h;subst h;exact ⟨_,by simp[Op.intBits],.int _ _⟩
        . simp only[Option.some.injEq] at h;subst h;exact ⟨_,by simp[Op.intCmp,mE],.bool _⟩
        . simp only[Option.some.injEq] at h;subst h;refine ⟨_,rfl,?_⟩;rw[mE];exact .bool _
        . simp only[Option.some.injEq] at h;subst h;refine ⟨_,rfl,?_⟩;rw[dR];exact .bool _
        . simp only[Option.some.injEq] at h;subst h;refine ⟨_,rfl,?_⟩;rw[gX];exact .bool _
        . simp only[Option.some.injEq] at h;subst h;refine ⟨_,rfl,?_⟩;rw[dR];exact .bool _
        . simp only[Option.some.injEq] at h;subst h;refine ⟨_,rfl,?_⟩;rw[gX];exact .bool _
        . cases h
 ·
  rename_i s u
  obtain ⟨bx,rfl,h1⟩:=ha.dW
  obtain ⟨bz,rfl,h2⟩:=hb.dW
  have hg: ∀op,(eqGuard op t ox oy (.string bx) (.string bz)).run P w= .ok () w:=by intro op;cases op<;>rfl
  rw[Sem.run_bind,hg,Result.andThen_ok]
  have hs:(binOp op t (.string bx) (.string bz)).run P w=(Op.stringOp op bx bz).run P w:=by cases op<;>rfl
  rw[hs]
  have e1:=Jj h1 h2
  have e2:=SX h1 h2
  split at h
  . split at h
    .   rename_i hb
        have hb:=Nat.le_of_ble_eq_true hb
        simp only[Option.some.injEq] at h;subst h
        have mb: ¬(((bx.size+bz.size:Nat):Int)>IntKind.i64.max):=by
          rw[xI h1,xI h2];simp[IntKind.max,IntKind.signed,IntKind.bits];omega
        refine ⟨.string (bx++bz),?_,.str _ _ ?_⟩
        . simp only[Op.stringOp];rw[if_neg mb];rfl
        . rw[ByteArray.data_append,Array.toList_append,List.map_append,h1,h2]
    .   cases h
  all_goals first|(cases h;done)|skip
  all_goals
    simp only[Option.some.injEq] at h;subst h
    refine ⟨_,rfl,?_⟩
    first|rw[e1,e2]|rw[e1]|rw[e2]
    exact .bool _
 ·
  rename_i hni hns
  have GH: ∀op,(op= .eql\/op= .neq)->(binOp op t x y).run P w=((Op.equal t x y).run P w).andThen fun r w'=> .ok (.bool (if op= .eql then r else !r)) w':=by
    rintro op (rfl|rfl)
    all_goals
        cases ha<;>cases hb<;>first
          |(exact (hni _ _ _ _ rfl rfl).elim)
          |(exact (hns _ _ rfl rfl).elim)
          |simp[binOp]
  split at h
  . split at h
    .   rename_i r hr
        simp only[Option.some.injEq] at h;subst h
        rcases hq with hq|⟨_,hq,_⟩
        . refine ⟨.bool r,?_,.bool r⟩
          rw[Sem.run_bind,TO hT hq ha hb hr,Result.andThen_ok,GH _ (.inl rfl),Zk hT hq ha hb hr];rfl
        . exact absurd rfl hq
    .   cases h
  . split at h
    .   rename_i r hr
        simp only[Option.some.injEq] at h;subst h
        rcases hq with hq|⟨_,_,hq⟩
        . refine ⟨.bool (!r),?_,.bool _⟩
          rw[Sem.run_bind,TO hT hq ha hb hr,Result.andThen_ok,GH _ (.inr rfl),Zk hT hq ha hb hr];rfl
        . exact absurd rfl hq
    .   cases h
  . cases h
end
end
section
open Go Go.RowKit
def cS (P:Program) (tt:TT) (op:Op):Prop:=
 ∀  (ρ:Pos->Loc) (C:Cells) (st:St) (w:World) (k:aC) (xs:List fB) (cls:Cls) (fr:Fr) (a:Act) (o:Oper) (vs:List AV) (res:cq),
    o.op=op->fL tt op=some (k,xs,cls)->bA ρ C st w->mC ρ st.next.toNat C fr a.tmps->ey fr xs=some vs->
    k.run (fun b=>st.heap.get b) st.next vs=some res->u9 P ρ C st w ((execOp a.eval o).run P w) res
section
variable {P : Program} {tt : TT}
theorem VD {ρ:Pos->Loc} {n:Nat} {C:Cells} {x y:Operand} {os:List fB} {fr:Fr} {a:Act} {vs:List AV} (h:ju [x,y]=some os) (hF:mC ρ n C fr a.tmps) (hv:ey fr os=some vs):
  ∃u v,vs=[u,v]/\av ρ n C u (a.eval x)/\av ρ n C v (a.eval y):=by
 have h1:=eD h hF hv
 cases vs with
 |nil=>have:=h1.1;simp at this
 |cons u vs=>
  cases vs with
  |nil=>have:=h1.1;simp at this
  |cons v vs=>
   cases vs with
   |nil=>exact ⟨u,v,rfl,h1.2 0 u _ rfl rfl,h1.2 1 v _ rfl rfl⟩
   |cons z vs=>have:=h1.1;simp at this
theorem evs3 {ρ:Pos->Loc} {n:Nat} {C:Cells} {x y z:Operand} {os:List fB} {fr:Fr} {a:Act} {vs:List AV} (h:ju [x,y,z]=some os) (hF:mC ρ n C fr a.tmps) (hv:ey fr os=some vs):
  ∃u v q,vs=[u,v,q]/\av ρ n C u (a.eval x)/\av ρ n C v (a.eval y)/\av ρ n C q (a.eval z):=by
 have h1:=eD h hF hv
 match vs,h1 with
 |[u,v,q],h1=>exact ⟨u,v,q,rfl,h1.2 0 u _ rfl rfl,h1.2 1 v _ rfl rfl,h1.2 2 q _ rfl rfl⟩
 |[],h1=>have:=h1.1;simp at this
 |[_],h1=>have:=h1.1;simp at this
 |[_,_],h1=>have:=h1.1;simp at this
 |_::_::_::_::_,h1=>have:=h1.1;simp at this
theorem agt (x:Operand):cS P tt (.move x):=by
 intro ρ C st w k xs cls fr a o vs res ho hc hW hF hx hr
 simp only[fL] at hc
 split at hc<;>first|(cases hc;done)|skip
 rename_i b hb
 cases hc
 obtain ⟨v,rfl,hv⟩:=eR hb hF hx
 simp only[aC.run,Qn,Option.some.injEq] at hr;subst hr
 exact .pure (by simp[execOp,ho]) hv
theorem adm (x:Operand):cS P tt (.assign x):=by
 intro ρ C st w k xs cls fr a o vs res ho hc hW hF hx hr
 simp only[fL] at hc
 split at hc<;>first|(cases hc;done)|skip
 rename_i b hb
 cases hc
 obtain ⟨v,rfl,hv⟩:=eR hb hF hx
 simp only[aC.run,Qn,Option.some.injEq] at hr;subst hr
 exact .pure (by simp[execOp,ho]) hv
theorem agu (c x y:Operand):cS P tt (.pick c x y):=by
 intro ρ C st w k xs cls fr a o vs res ho hc hW hF hx hr
 simp only[fL] at hc
 split at hc<;>first|(cases hc;done)|skip
 rename_i l hl
 cases hc
 obtain ⟨u,v,q,rfl,h1,h2,h3⟩:=evs3 hl hF hx
 simp only[aC.run,Vx] at hr
 split at hr<;>first|(cases hr;done)|skip
 all_goals
   simp only[Option.some.injEq] at hr;subst hr
   have h1:=h1.iH
 . exact .pure (by simp[execOp,ho,h1,asBool]) h2
 . exact .pure (by simp[execOp,ho,h1,asBool]) h3
theorem aeJ (hT:cr P tt) (op:BinOp) (t:TypeId) (x y:Operand) (yt:TypeId):cS P tt (.binOp op t x y yt):=by
 intro ρ C st w k xs cls fr a o vs res ho hc hW hF hx hr
 have key: ∃q,ah8 tt op q t/\k= .bin op q/\ju [x,y]=some xs:=by
  simp only[fL] at hc
  split at hc
  . rename_i q l hq hl
    cases hc
    exact ⟨q,.inl hq,rfl,hl⟩
  . rename_i l hq hl
    split at hc<;>first|(cases hc;done)|skip
    rename_i h1 h2
    cases hc
    exact ⟨.num,.inr ⟨rfl,fun e=>h1 e,fun e=>h2 e⟩,rfl,hl⟩
  . cases hc
 obtain ⟨q,hq,rfl,hl⟩:=key
 obtain ⟨u,v,rfl,h1,h2⟩:=VD hl hF hx
 simp only[aC.run,gP] at hr
 split at hr<;>first|(cases hr;done)|skip
 rename_i r hb
 simp only[Option.some.injEq] at hr;subst hr
 obtain ⟨z,hz,hv⟩:=ags hT hq h1 h2 hb x y (w:=w)
 refine .pure ?_ hv
 simp only[execOp,ho]
 rw[Sem.run_bind,hz];rfl
theorem agv (op:UnOp) (t:TypeId) (x:Operand):cS P tt (.unOp op t x):=by
 intro ρ C st w k xs cls fr a o vs res ho hc hW hF hx hr
 simp only[fL] at hc
 split at hc<;>first|(cases hc;done)|skip
 rename_i b hb
 cases hc
 obtain ⟨v,rfl,hv⟩:=eR hb hF hx
 simp only[aC.run,adf] at hr
 split at hr<;>first|(cases hr;done)|skip
 rename_i r hu
 simp only[Option.some.injEq] at hr;subst hr
 unfold unA at hu
 split at hu
 . split at hu<;>first|(cases hu;done)|skip
   simp only[Option.some.injEq] at hu;subst hu
   exact .pure (by simp[execOp,ho,hv.iH,Op.unary]) (.bool _)
 . split at hu<;>first|(cases hu;done)|skip
   simp only[Option.some.injEq] at hu;subst hu
   exact .pure (by simp[execOp,ho,hv.iP,Op.unary,Op.intArith];rfl) (by rw[ud];simpa using av.int _ _)
 . cases hu
theorem Zl (x:Operand):cS P tt (.nilCheck x):=by
 intro ρ C st w k xs cls fr a o vs res ho hc hW hF hx hr
 simp only[fL] at hc
 split at hc<;>first|(cases hc;done)|skip
 rename_i b hb
 cases hc
 obtain ⟨v,rfl,hv⟩:=eR hb hF hx
 simp only[aC.run,H8] at hr
 split at hr<;>first|(cases hr;done)|skip
 all_goals simp only[Option.some.injEq] at hr;subst hr
 . obtain ⟨_,he⟩:=hv.fu
   exact .pure (by simp[execOp,ho,he]) hv
 . obtain ⟨_,_,_,_,he,_⟩:=hv.Jh
   exact .pure (by simp[execOp,ho,he]) hv
 . obtain ⟨_,_,he,_⟩:=hv.Ky
   exact .pure (by simp[execOp,ho,he]) hv
theorem abG (x:Operand) (i:Nat):cS P tt (.extract x i):=by
 intro ρ C st w k xs cls fr a o vs res ho hc hW hF hx hr
 simp only[fL] at hc
 split at hc<;>first|(cases hc;done)|skip
 rename_i b hb
 cases hc
 obtain ⟨v,rfl,hv⟩:=eR hb hF hx
 simp only[aC.run,DT] at hr
 split at hr<;>first|(cases hr;done)|skip
 split at hr<;>first|(cases hr;done)|skip
 rename_i u hu
 simp only[Option.some.injEq] at hr;subst hr
 obtain ⟨cs,he,hs⟩:=hv.WR
 rw[kZ] at hu
 obtain ⟨y,hy,EH⟩:=hs.get hu
 exact .pure (by simp at hy;simp[execOp,ho,he,Instr.extract,hy]) EH
theorem abH (hT:cr P tt) (t:TypeId) (x:Operand):cS P tt (.makeInterface t x):=by
 intro ρ C st w k xs cls fr a o vs res ho hc hW hF hx hr
 simp only[fL] at hc
 split at hc<;>first|(cases hc;done)|skip
 rename_i ti b cY hb
 split at hc<;>first|(cases hc;done)|skip
 rename_i h1 h2
 cases hc
 obtain ⟨v,rfl,hv⟩:=eR hb hF hx
 simp only[aC.run,Ks,Option.some.injEq] at hr;subst hr
 obtain ⟨d,hd,hk⟩:=(hT.at cY).und
 refine .pure (x:= .iface t (a.eval x)) ?_ (.iface _ _ _ hv)
 have hni: ∀ms,d≠ .interface ms:=by
  rintro ms rfl
  cases GI:ti.k<;>rw[GI] at hk<;>first|(simp[bF] at hk;done)|(exact h1 GI)|(exact h2 GI)
 simp only[execOp,ho,Instr.makeInterface,Sem.run_bind,aO hd,Result.andThen_ok]
 cases d<;>first|rfl|(exact absurd rfl (hni _))
theorem adn (fn:Fn) (first captured:Array Operand):cS P tt (.makeFunc fn first captured):=by
 intro ρ C st w k xs cls fr a o vs res ho hc hW hF hx hr
 simp only[fL] at hc
 split at hc<;>first|(cases hc;done)|skip
 rename_i f l hl
 cases hc
 have h:=eD hl hF hx
 simp only[aC.run,BN,Option.some.injEq] at hr;subst hr
 have e1:vs.take first.size=vs.take first.size:=rfl
 have h1:=h.take first.size
 have h2:=h.drop first.size
 simp only[List.map_append] at h1 h2
 rw[List.take_left' (by simp)] at h1
 rw[List.drop_left' (by simp)] at h2
 refine .pure (x:= .func (.func f) (first.map a.eval) (captured.map a.eval)) (by simp[execOp,ho,Instr.makeFunc]) ?_
 exact .func _ _ _ _ _ (by simpa using h1.1) (by simpa using h2.1) (fun i v v' hv Jk=>h1.2 i v v' hv (by simpa using Jk)) (fun i v v' hv Jk=>h2.2 i v v' hv (by simpa using Jk))
theorem X7 (hT:cr P tt) (t:TypeId) (x:Operand) (f:Nat):cS P tt (.fieldAddr t x f):=by
 intro ρ C st w k xs cls fr a o vs res ho hc hW hF hx hr
 simp only[fL] at hc
 split at hc<;>first|(cases hc;done)|skip
 rename_i ti b cY hb
 split at hc<;>first|(cases hc;done)|skip
 rename_i fs hk
 split at hc<;>first|(cases hc;done)|skip
 rename_i off ft nm hf
 split at hc<;>first|(cases hc;done)|skip
 rename_i fi Zm
 split at hc<;>first|(cases hc;done)|skip
 rename_i eI
 cases hc
 obtain ⟨v,rfl,hv⟩:=eR hb hF hx
 obtain ⟨d,hd,bW⟩:=(hT.at cY).und
 rw[hk] at bW
 obtain ⟨gs,rfl,hm⟩:=GD bW
 obtain ⟨g,hg,qw,AI,_⟩:=KD hm hf
 simp only at qw AI
 obtain ⟨i,hi,j7,_⟩:=(hT.at Zm).info
 have hs0: ¬i.size=0:=by rw[j7];exact Nat.ne_of_beq_eq_false eI
 simp only[aC.run,NT] at hr
 split at hr<;>first|(cases hr;done)|skip
 . simp only[Option.some.injEq] at hr;subst hr
   obtain ⟨aP,he⟩:=hv.fu
   refine .pure (x:= .pointer (some ⟨(ρ _).aE,(ρ _).base+(_+off),none⟩)) ?_ (.ptr _ _ aP)
   simp at hg
   simp[execOp,ho,he,Instr.fieldAt,aO hd,hg,Instr.sureAddr,fieldPlace,AI,gW hi,hs0,k9,qw,Nat.add_assoc]
 . simp only[Option.some.injEq] at hr;subst hr
   obtain ⟨es,aE,base,cell,he,h1,h2,h3⟩:=hv.Jh
   rename_i yg i' j'
   refine .pure (x:= .pointer (some ⟨aE,base+i'*es+(j'+off),none⟩)) ?_ (.fp _ _ _ es aE base cell h1 h2 h3)
   simp at hg
   simp[execOp,ho,he,Instr.fieldAt,aO hd,hg,Instr.sureAddr,fieldPlace,AI,gW hi,hs0,k9,qw,Nat.add_assoc]
theorem jv {ρ:Pos->Loc} {n:Nat} {C:Cells} {v:AV} {x:Value} {i:Nat} (h:av ρ n C v x) (hi:vO v=some i): ∃k,x= .int k (i:Int):=by
 unfold vO at hi
 split at hi<;>first|(cases hi;done)|skip
 split at hi<;>first|(cases hi;done)|skip
 simp only[Option.some.injEq] at hi;subst hi
 exact ⟨_,h.iP⟩
theorem X8 (hT:cr P tt) (t:TypeId) (x ix:Operand):cS P tt (.indexAddr t x ix):=by
 intro ρ C st w k xs cls fr a o vs res ho hc hW hF hx hr
 simp only[fL] at hc
 split at hc<;>first|(cases hc;done)|skip
 rename_i ti l cY hl
 obtain ⟨d,hd,bW⟩:=(hT.at cY).und
 obtain ⟨u,v,rfl,h1,h2⟩:=VD hl hF (by
   split at hc<;>first|(cases hc;done)|skip
   all_goals
     split at hc<;>first|(cases hc;done)|skip
     cases hc
     exact hx)
 split at hc<;>first|(cases hc;done)|skip
 . rename_i e hk
   rw[hk] at bW
   rw[mD bW] at hd
   split at hc<;>first|(cases hc;done)|skip
   rename_i te ff
   cases hc
   obtain ⟨i0,jG,j7,_⟩:=(hT.at ff).info
   simp only[aC.run,pG] at hr
   split at hr<;>first|(cases hr;done)|skip
   rename_i i hi
   obtain ⟨kk,GJ⟩:=jv h2 hi
   split at hr<;>first|(cases hr;done)|skip
   . rename_i b off len cap es' _
     split at hr<;>first|(cases hr;done)|skip
     rename_i aP
     have aP:i<len:=by simpa using aP
     simp only[Option.some.injEq] at hr;subst hr
     obtain ⟨aa,aN,he,hle,_,ha⟩:=h1.dA
     obtain ⟨hb,rfl,_⟩:=ha (by omega)
     refine .pure (x:= .pointer (some ⟨(ρ b).aE,(ρ b).base+(off+i*te.size),none⟩)) ?_ (.ptr _ _ hb)
     simp[execOp,ho,he,GJ,Instr.indexAt,aO hd,asIntOf,aP,gW jG,k9,j7,Nat.add_assoc]
   . rename_i yg es' _
     split at hr<;>first|(cases hr;done)|skip
     rename_i aP ei
     have aP:i<yg.length:=by simpa using aP
     have ei:te.size=es':=Nat.eq_of_beq_eq_true ei
     simp only[Option.some.injEq] at hr;subst hr
     obtain ⟨aa,aN,cell,he,hle,tq,g1,g2,g3⟩:=h1.ua
     have tq:=tq (by intro e;rw[e] at aP;simp at aP)
     obtain ⟨ab,ao,asp⟩:=aa
     simp only at tq;subst tq
     refine .pure (x:= .pointer (some ⟨ab,ao+i*es'+0,none⟩)) ?_ (.fp _ _ _ es' ab ao cell g1 g2 g3)
     simp[execOp,ho,he,GJ,Instr.indexAt,aO hd,asIntOf,aP,gW jG,k9,j7,ei]
   . rename_i hh;cases hh
 . rename_i m e hk
   rw[hk] at bW
   rw[Zg bW] at hd
   split at hc<;>first|(cases hc;done)|skip
   rename_i te ff
   cases hc
   obtain ⟨i0,jG,j7,_⟩:=(hT.at ff).info
   simp only[aC.run,pG] at hr
   split at hr<;>first|(cases hr;done)|skip
   rename_i i hi
   obtain ⟨kk,GJ⟩:=jv h2 hi
   split at hr<;>first|(cases hr;done)|skip
   . rename_i hh;cases hh
   . rename_i hh;cases hh
   . rename_i m' b off hh
     cases hh
     split at hr<;>first|(cases hr;done)|skip
     rename_i aP
     have aP:i<m:=by simpa using aP
     simp only[Option.some.injEq] at hr;subst hr
     obtain ⟨hb,he⟩:=h1.fu
     refine .pure (x:= .pointer (some ⟨(ρ b).aE,(ρ b).base+(off+i*te.size),none⟩)) ?_ (.ptr _ _ hb)
     simp[execOp,ho,he,GJ,Instr.indexAt,aO hd,asIntOf,aP,gW jG,k9,j7,Nat.add_assoc,Instr.sureAddr]
end
end
section
open Go Go.RowKit
section
variable {P : Program} {tt : TT}
theorem aeK (hT:cr P tt) (t:TypeId) (x:Operand) (f:Nat):cS P tt (.field t x f):=by
 intro ρ C st w k xs cls fr a o vs res ho hc hW hF hx hr
 simp only[fL] at hc
 split at hc<;>first|(cases hc;done)|skip
 rename_i ti b cY hb
 split at hc<;>first|(cases hc;done)|skip
 rename_i fs hk
 split at hc<;>first|(cases hc;done)|skip
 rename_i off ft nm hf
 split at hc<;>first|(cases hc;done)|skip
 rename_i fi Zm
 cases hc
 obtain ⟨v,rfl,hv⟩:=eR hb hF hx
 obtain ⟨d,hd,bW⟩:=(hT.at cY).und
 rw[hk] at bW
 obtain ⟨gs,rfl,hm⟩:=GD bW
 obtain ⟨g,hg,qw,AI,_⟩:=KD hm hf
 simp only at qw AI
 obtain ⟨i,hi,j7,_⟩:=(hT.at Zm).info
 obtain ⟨fd,hfd,hfk⟩:=(hT.at Zm).und
 have o8:=SV hfk w hfd
 simp only[aC.run,SQ] at hr
 split at hr<;>first|(cases hr;done)|skip
 rename_i cs
 obtain ⟨cx,he,hs⟩:=hv.A5
 simp at hg
 split at hr
 . rename_i hn
   split at hr<;>first|(cases hr;done)|skip
   rename_i u hu
   simp only[Option.some.injEq] at hr;subst hr
   rw[kZ] at hu
   obtain ⟨y,hy,EH⟩:=hs.get hu
   have ado:fi.k.isAgg=false:=by
     unfold y9 at hn;split at hn
     . cases hn
     . assumption
   rw[ado] at o8
   refine .pure (x:=y) ?_ EH
   simp at hy
   simp[execOp,ho,he,Instr.field,aO hd,hg,part,AI,o8,asAgg,qw,hy]
 . rename_i m hn
   simp only[Option.some.injEq] at hr;subst hr
   have ado:fi.k.isAgg=true/\m=fi.size:=by
     unfold y9 at hn;split at hn
     . cases hn;exact ⟨by assumption,rfl⟩
     . cases hn
   rw[ado.1] at o8
   refine .pure (x:= .agg (cx.extract off (off+m))) ?_ (.EC ?_)
   . simp[execOp,ho,he,Instr.field,aO hd,hg,part,AI,o8,asAgg,qw,gW hi,j7,ado.2]
   . have:=(hs.drop off).take m
     simpa [Array.toList_extract,List.extract] using this
theorem aeL (hT:cr P tt) (t:TypeId) (x ix:Operand):cS P tt (.index t x ix):=by
 intro ρ C st w k xs cls fr a o vs res ho hc hW hF hx hr
 simp only[fL] at hc
 split at hc<;>first|(cases hc;done)|skip
 rename_i ti l cY hl
 split at hc<;>first|(cases hc;done)|skip
 rename_i hk
 cases hc
 obtain ⟨u,v,rfl,h1,h2⟩:=VD hl hF hx
 obtain ⟨d,hd,bW⟩:=(hT.at cY).und
 rw[hk] at bW
 rw[l9 bW] at hd
 simp only[aC.run,Qo] at hr
 split at hr<;>first|(cases hr;done)|skip
 rename_i s i hi
 split at hr<;>first|(cases hr;done)|skip
 rename_i c hcx
 simp only[Option.some.injEq] at hr;subst hr
 obtain ⟨bs,he,hs⟩:=h1.dW
 obtain ⟨kk,GJ⟩:=jv h2 hi
 rw[kZ, <-hs,List.getElem?_map] at hcx
 obtain ⟨b,hb,hbc⟩:=Option.map_eq_some_iff.1 hcx
 have eS:bs[i]? =some b:=by
  obtain ⟨aP,jR⟩:=List.getElem?_eq_some_iff.1 hb
  have KE:i<bs.size:=by rw[Array.length_toList] at aP;exact aP
  rw[getElem?_pos bs i KE]
  congr 1
 refine .pure (x:= .int .u8 (.ofNat c)) ?_ (.int _ _)
 simp[execOp,ho,he,GJ,Instr.index,aO hd,asIntOf,eS, <-hbc]
theorem agw (hT:cr P tt) (t:TypeId) (x:Operand):cS P tt (.load t x):=by
 intro ρ C st w k xs cls fr a o vs res ho hc hW hF hx hr
 simp only[fL] at hc
 split at hc<;>first|(cases hc;done)|skip
 rename_i ti b cY hb
 cases hc
 obtain ⟨v,rfl,hv⟩:=eR hb hF hx
 obtain ⟨d,hd,bW⟩:=(hT.at cY).und
 obtain ⟨i,hi,j7,_⟩:=(hT.at cY).info
 have o8:=SV bW w hd
 have hn:(y9 ti=none/\ti.k.isAgg=false)\/(y9 ti=some ti.size/\ti.k.isAgg=true):=by
   unfold y9;split<;>simp_all
 simp only[aC.run,u6] at hr
 split at hr<;>first|(cases hr;done)|skip
 . rename_i bb off
   split at hr<;>first|(cases hr;done)|skip
   rename_i cs fz jR
   obtain ⟨_,he⟩:=hv.fu
   rcases hn with ⟨hn,hf⟩|⟨hn,hf⟩
   . rw[hn] at hr;rw[hf] at o8
     simp only at hr
     split at hr<;>first|(cases hr;done)|skip
     rename_i u hu
     simp only[Option.some.injEq] at hr;subst hr
     rw[kZ] at hu
     obtain ⟨y,hy,EH⟩:=hW.cell jR hu
     refine .pure (x:=y) ?_ EH
     simp[execOp,ho,he,Instr.loadAt,Instr.sureAddr,loadVar,o8,hy]
   . rw[hn] at hr;rw[hf] at o8
     simp only at hr
     split at hr<;>first|(cases hr;done)|skip
     rename_i us hu
     simp only[Option.some.injEq] at hr;subst hr
     obtain ⟨ys,hy,EH⟩:=hW.loadCells (P:=P) jR hu
     refine .pure (x:= .agg ys.toArray) ?_ (.EC (by simpa using EH))
     simp[execOp,ho,he,Instr.loadAt,Instr.sureAddr,loadVar,o8,gW hi,j7,hy]
   rename_i tt0 cs jR
   obtain ⟨_,he⟩:=hv.fu
   rcases hn with ⟨hn,hf⟩|⟨hn,hf⟩
   . rw[hn] at hr;rw[hf] at o8
     simp only at hr
     split at hr<;>first|(cases hr;done)|skip
     rename_i u hu
     simp only[Option.some.injEq] at hr;subst hr
     rw[kZ] at hu
     obtain ⟨y,hy,EH⟩:=hW.akC jR hu
     refine .pure (x:=y) ?_ EH
     simp[execOp,ho,he,Instr.loadAt,Instr.sureAddr,loadVar,o8,hy]
   . rw[hn] at hr;rw[hf] at o8
     simp only at hr
     split at hr<;>first|(cases hr;done)|skip
     rename_i us hu
     simp only[Option.some.injEq] at hr;subst hr
     obtain ⟨ys,hy,EH⟩:=hW.TN (P:=P) jR hu
     refine .pure (x:= .agg ys.toArray) ?_ (.EC (by simpa using EH))
     simp[execOp,ho,he,Instr.loadAt,Instr.sureAddr,loadVar,o8,gW hi,j7,hy]
 . rename_i yg i' j'
   split at hr<;>first|(cases hr;done)|skip
   rename_i cs fh
   rw[kZ] at fh
   obtain ⟨es,aE,base,cell,he,g1,g2,g3⟩:=hv.Jh
   rcases hn with ⟨hn,hf⟩|⟨hn,hf⟩
   . rw[hn] at hr;rw[hf] at o8
     simp only at hr
     split at hr<;>first|(cases hr;done)|skip
     rename_i u hu
     simp only[Option.some.injEq] at hr;subst hr
     rw[kZ] at hu
     have xo:=(hW.cZ _ _ (g2 _ _ _ _ fh hu)).1
     refine .pure (x:=cell i' j') ?_ (g3 _ _ _ _ fh hu)
     simp[execOp,ho,he,Instr.loadAt,Instr.sureAddr,loadVar,o8,xo]
   . rw[hn] at hr;rw[hf] at o8
     simp only at hr
     split at hr<;>first|(cases hr;done)|skip
     rename_i us hu
     simp only[Option.some.injEq] at hr;subst hr
     obtain ⟨hus,hle⟩:=EG hu
     have hlen:=ve hu
     have bU:(loadCells ⟨aE,base+i'*es+j',none⟩ ti.size).run P w= .ok ((List.range ti.size).map fun q=>cell i' (j'+q)).toArray w:=by
        refine run_loadCells w _ _ _ fun q hq=> ?_
        rw[k9]
        have:cs[j'+q]? =some (cs[j'+q]'(by omega)):=List.getElem?_eq_getElem (by omega)
        rw[Nat.add_assoc]
        exact (hW.cZ _ _ (g2 _ _ _ _ fh this)).1
     refine .pure (x:= .agg ((List.range ti.size).map fun q=>cell i' (j'+q)).toArray) ?_ (.EC ⟨by simp[hlen],fun q u y hu' hy=> ?_⟩)
     .  simp[execOp,ho,he,Instr.loadAt,Instr.sureAddr,loadVar,o8,gW hi,j7,bU]
     .  have hq:q<ti.size:=by rw[<-hlen];exact (List.getElem?_eq_some_iff.1 hu').1
        rw[hus,List.getElem?_take,if_pos hq,List.getElem?_drop] at hu'
        simp[hq] at hy
        subst hy
        exact g3 _ _ _ _ fh hu'
theorem agx {x y:Value} {ρ:Pos->Loc} {n:Nat} {C:Cells} {u v r:AV} {w:World} {st:St} (h1:av ρ n C u x) (h2:av ρ n C v y) (hr:El (fun b=>st.heap.get b) st.next [u,v]=some (.val r)):
   ∃z,(Builtin.min2 x y).run P w= .ok z w/\av ρ n C r z:=by
 simp only[El] at hr
 split at hr<;>first|(cases hr;done)|skip
 . simp only[Option.some.injEq,cq.val.injEq] at hr;subst hr
   rw[h1.iP,h2.iP]
   refine ⟨_,rfl,?_⟩
   rw[dR]
   split
   . rename_i h;rw[if_pos (of_decide_eq_true h)];exact .int _ _
   . rename_i h;rw[if_neg (of_decide_eq_false h)];exact .int _ _
 . simp only[Option.some.injEq,cq.val.injEq] at hr;subst hr
   rename_i sa sb
   obtain ⟨bx,rfl,e1⟩:=h1.dW
   obtain ⟨bz,rfl,e2⟩:=h2.dW
   have hh:(Op.stringOp .leq bx bz).run P w= .ok (.bool (aD sa sb||gK sa sb)) w:=by
     simp only[Op.stringOp,Sem.run_pure];rw[SX e1 e2,Jj e1 e2]
   refine ⟨_,by simp only[Builtin.min2,Sem.run_bind,hh,Result.andThen_ok,asBool,Sem.run_pure];rfl,?_⟩
   split
   . rename_i h;rw[if_pos h];exact .str _ _ e1
   . rename_i h;rw[if_neg (by rw[h];simp)];exact .str _ _ e2
theorem agy {x y:Value} {ρ:Pos->Loc} {n:Nat} {C:Cells} {u v r:AV} {w:World} {st:St} (h1:av ρ n C u x) (h2:av ρ n C v y) (hr:Em (fun b=>st.heap.get b) st.next [u,v]=some (.val r)):
   ∃z,(Builtin.max2 x y).run P w= .ok z w/\av ρ n C r z:=by
 simp only[Em] at hr
 split at hr<;>first|(cases hr;done)|skip
 . simp only[Option.some.injEq,cq.val.injEq] at hr;subst hr
   rw[h1.iP,h2.iP]
   refine ⟨_,rfl,?_⟩
   rw[dR]
   split
   . rename_i h;rw[if_pos (of_decide_eq_true h)];exact .int _ _
   . rename_i h;rw[if_neg (of_decide_eq_false h)];exact .int _ _
 . simp only[Option.some.injEq,cq.val.injEq] at hr;subst hr
   rename_i sa sb
   obtain ⟨bx,rfl,e1⟩:=h1.dW
   obtain ⟨bz,rfl,e2⟩:=h2.dW
   have hh:(Op.stringOp .geq bx bz).run P w= .ok (.bool (!aD sa sb)) w:=by
     simp only[Op.stringOp,Sem.run_pure];rw[SX e1 e2]
   refine ⟨_,by simp only[Builtin.max2,Sem.run_bind,hh,Result.andThen_ok,asBool,Sem.run_pure];rfl,?_⟩
   split
   . rename_i h;rw[if_neg (by rw[h];simp)];exact .str _ _ e2
   . rename_i h;rw[if_pos (by rw[h];rfl)];exact .str _ _ e1
theorem fR (xs:Array Operand) (a:Act):xs.toList.map a.eval=(xs.map a.eval).toList:=by simp
end
end
section
open Go Go.RowKit
section
variable {P : Program} {tt : TT}
theorem vs1 {ρ:Pos->Loc} {n:Nat} {C:Cells} {bs:List AV} {x:Value} (h:aA ρ n C bs [x]): ∃b,bs=[b]/\av ρ n C b x:=by
 match bs,h with
 |[b],h=>exact ⟨b,rfl,h.2 0 b x rfl rfl⟩
 |[],h=>have:=h.1;simp at this
 |_::_::_,h=>have:=h.1;simp at this
theorem vs2 {ρ:Pos->Loc} {n:Nat} {C:Cells} {bs:List AV} {x y:Value} (h:aA ρ n C bs [x,y]): ∃b c,bs=[b,c]/\av ρ n C b x/\av ρ n C c y:=by
 match bs,h with
 |[b,c],h=>exact ⟨b,c,rfl,h.2 0 b x rfl rfl,h.2 1 c y rfl rfl⟩
 |[],h=>have:=h.1;simp at this
 |[_],h=>have:=h.1;simp at this
 |_::_::_::_,h=>have:=h.1;simp at this
theorem vs3 {ρ:Pos->Loc} {n:Nat} {C:Cells} {bs:List AV} {x y z:Value} (h:aA ρ n C bs [x,y,z]): ∃b c d,bs=[b,c,d]/\av ρ n C b x/\av ρ n C c y/\av ρ n C d z:=by
 match bs,h with
 |[b,c,d],h=>exact ⟨b,c,d,rfl,h.2 0 b x rfl rfl,h.2 1 c y rfl rfl,h.2 2 d z rfl rfl⟩
 |[],h=>have:=h.1;simp at this
 |[_],h=>have:=h.1;simp at this
 |[_,_],h=>have:=h.1;simp at this
 |_::_::_::_::_,h=>have:=h.1;simp at this
def EI (x:Option Value) (i:Option Nat):Prop:=(x=none/\i=none)\/ ∃j k,i=some j/\x=some (.int k (j:Int))
theorem TP {ρ:Pos->Loc} {n:Nat} {C:Cells} {lo hi mx:Option Operand} {bs:List AV} {a:Act} {l h m:Option Nat}
   (hb:aA ρ n C bs ((za lo++za hi++za mx).map a.eval)) (hr:bounds lo.isSome hi.isSome mx.isSome bs=some (l,h,m)):
   EI (lo.map a.eval) l/\EI (hi.map a.eval) h/\EI (mx.map a.eval) m/\(m.isSome=true->h.isSome=true):=by
 unfold bounds at hr
 cases lo<;>cases hi<;>cases mx<;>simp only[Option.isSome_some,Option.isSome_none,za,List.nil_append,List.append_nil,List.cons_append,List.map_cons,List.map_nil] at hb hr<;>
   first|(cases hr;done)|skip
 . cases bs with
   |cons b bs=>have:=hb.1;simp at this
   |nil=>simp at hr;obtain ⟨rfl,rfl,rfl⟩:=hr;exact ⟨.inl ⟨rfl,rfl⟩,.inl ⟨rfl,rfl⟩,.inl ⟨rfl,rfl⟩,fun h=>by cases h⟩
 . obtain ⟨b,rfl,h1⟩:=vs1 hb
   simp only at hr
   split at hr<;>first|(cases hr;done)|skip
   rename_i j hj
   obtain ⟨k,hk⟩:=jv h1 hj
   simp at hr;obtain ⟨rfl,rfl,rfl⟩:=hr
   exact ⟨.inl ⟨rfl,rfl⟩,.inr ⟨j,k,rfl,by simp[hk]⟩,.inl ⟨rfl,rfl⟩,fun h=>by cases h⟩
 . obtain ⟨b,c,rfl,h1,h2⟩:=vs2 hb
   simp only at hr
   split at hr<;>first|(cases hr;done)|skip
   rename_i j j' hj CS
   obtain ⟨k,hk⟩:=jv h1 hj
   obtain ⟨k',kM⟩:=jv h2 CS
   simp at hr;obtain ⟨rfl,rfl,rfl⟩:=hr
   exact ⟨.inl ⟨rfl,rfl⟩,.inr ⟨j,k,rfl,by simp[hk]⟩,.inr ⟨j',k',rfl,by simp[kM]⟩,fun _=>rfl⟩
 . obtain ⟨b,rfl,h1⟩:=vs1 hb
   simp only at hr
   split at hr<;>first|(cases hr;done)|skip
   rename_i j hj
   obtain ⟨k,hk⟩:=jv h1 hj
   simp at hr;obtain ⟨rfl,rfl,rfl⟩:=hr
   exact ⟨.inr ⟨j,k,rfl,by simp[hk]⟩,.inl ⟨rfl,rfl⟩,.inl ⟨rfl,rfl⟩,fun h=>by cases h⟩
 . obtain ⟨b,c,rfl,h1,h2⟩:=vs2 hb
   simp only at hr
   split at hr<;>first|(cases hr;done)|skip
   rename_i j j' hj CS
   obtain ⟨k,hk⟩:=jv h1 hj
   obtain ⟨k',kM⟩:=jv h2 CS
   simp at hr;obtain ⟨rfl,rfl,rfl⟩:=hr
   exact ⟨.inr ⟨j,k,rfl,by simp[hk]⟩,.inr ⟨j',k',rfl,by simp[kM]⟩,.inl ⟨rfl,rfl⟩,fun h=>by cases h⟩
 . obtain ⟨b,c,d,rfl,h1,h2,h3⟩:=vs3 hb
   simp only at hr
   split at hr<;>first|(cases hr;done)|skip
   rename_i j j' j'' hj CS hj''
   obtain ⟨k,hk⟩:=jv h1 hj
   obtain ⟨k',kM⟩:=jv h2 CS
   obtain ⟨k'',hk''⟩:=jv h3 hj''
   simp at hr;obtain ⟨rfl,rfl,rfl⟩:=hr
   exact ⟨.inr ⟨j,k,rfl,by simp[hk]⟩,.inr ⟨j',k',rfl,by simp[kM]⟩,.inr ⟨j'',k'',rfl,by simp[hk'']⟩,fun _=>rfl⟩
theorem AK (isS:Bool) {len cap:Nat} {xl xh xm:Option Value} {l h m:Option Nat} (h1:EI xl l) (h2:EI xh h) (h3:EI xm m) (hmh:m.isSome=true->h.isSome=true)
  (Jl:l.getD 0<=h.getD len) (hhm:h.getD len<=m.getD cap) (hmc:m.getD cap<=cap) (w:World):
  (Instr.sliceBounds isS len cap xl xh xm).run P w= .ok (l.getD 0,h.getD len,m.getD cap) w:=by
 rcases h1 with ⟨rfl,rfl⟩|⟨jl,kl,rfl,rfl⟩<;>rcases h2 with ⟨rfl,rfl⟩|⟨jh,kh,rfl,rfl⟩<;>rcases h3 with ⟨rfl,rfl⟩|⟨jm,km,rfl,rfl⟩<;>
  simp only[Option.getD_none,Option.getD_some,Option.isSome_some,Option.isSome_none] at Jl hhm hmc hmh ⊢ <;>
  first
   |(simp at hmh;done)
   |simp[Instr.sliceBounds,Instr.sliceBound,asIntOf,Jl,hhm,hmc,Int.ofNat_le]
theorem GK {ρ:Pos->Loc} {n:Nat} {C:Cells} {b:Pos} {off es aN l h M:Nat} {aa:Addr} {agz:Option Nat}
   (ha:aN≠0->b.toNat<n/\aa=⟨(ρ b).aE,(ρ b).base+off,none⟩/\(ρ b).base+off+aN*es<=(ρ b).size)
   (h1:l<=h) (h2:h<=M) (h3:M<=aN) (hc: ∀c,agz=some c->c=M - l) (hk:agz=none->b.toNat<n):
   av ρ n C (.slice b (off+l*es) (h - l) agz es) (.slice (if M=l then some aa else (some aa).map (·.add (l*es))) (h - l) (M - l)):=by
 by_cases hm:M=l
 . rw[if_pos hm]
   exact .slice _ _ _ _ _ _ _ (by omega) hc (fun h0=>absurd (by omega) h0) hk
 . rw[if_neg hm]
   obtain ⟨hb,rfl,hle⟩:=ha (by omega)
   refine .slice _ _ _ _ _ _ _ (by omega) hc (fun _=>⟨hb,by show Addr.add _ _=_;rw[k9,Nat.add_assoc],?_⟩) hk
   have e1:l*es+(M - l)*es=M*es:=by rw[<-Nat.add_mul];congr 1;omega
   have e2:M*es<=aN*es:=Nat.mul_le_mul_right _ h3
   omega
theorem aeM (hT:cr P tt) (t:TypeId) (x:Operand) (lo hi mx:Option Operand):cS P tt (.slice t x lo hi mx):=by
 intro ρ C st w k xs cls fr a o vs res ho hc hW hF hx hr
 simp only[fL] at hc
 split at hc<;>first|(cases hc;done)|skip
 rename_i ti l0 cY hl
 obtain ⟨d,hd,bW⟩:=(hT.at cY).und
 split at hc<;>first|(cases hc;done)|skip
 . rename_i hk
   rw[hk] at bW;rw[l9 bW] at hd
   split at hc<;>first|(cases hc;done)|skip
   cases hc
   have hv:=eD hl hF hx
   simp only[za,List.append_nil,List.cons_append,List.nil_append,List.map_cons] at hv
   simp only[aC.run,NS] at hr
   split at hr<;>first|(cases hr;done)|skip
   rename_i u bs
   split at hr<;>first|(cases hr;done)|skip
   rename_i s l h m' hb
   split at hr<;>first|(cases hr;done)|skip
   rename_i h1 h2
   have h1:=Nat.le_of_ble_eq_true h1
   have h2:=Nat.le_of_ble_eq_true h2
   simp only[Option.some.injEq] at hr;subst hr
   obtain ⟨y,ys,tY,hu,kz⟩:=hv.cons_inv
   simp only[List.cons.injEq] at tY;obtain ⟨rfl,rfl⟩:=tY
   have jR:=TP (lo:=lo) (hi:=hi) (mx:=none) (a:=a) (by simpa [za] using kz) hb
   obtain ⟨bs',he,hs⟩:=hu.dW
   have eI:=xI hs
   have bU:=AK (P:=P) false (len:=bs'.size) (cap:=bs'.size) jR.1 jR.2.1 (.inl ⟨rfl,rfl⟩:EI none none) (fun h=>by cases h)
     (by rw[eI];exact h1) (by rw[eI];simpa using h2) (by simp) w
   refine .pure (x:= .string (bs'.extract (l.getD 0) (h.getD bs'.size))) ?_ (.str _ _ ?_)
   . simp only[execOp,ho,Instr.sliceAt,Sem.run_bind,aO hd,Result.andThen_ok,he,Instr.slice]
     simp[bU]
   . rw[eI,ByteArray.data_extract,Array.toList_extract, <-hs,List.extract,List.map_take,List.map_drop]
     rw[List.drop_take]
 . rename_i e hk
   rw[hk] at bW;rw[mD bW] at hd
   split at hc<;>first|(cases hc;done)|skip
   rename_i te ff
   cases hc
   obtain ⟨i0,jG,j7,_⟩:=(hT.at ff).info
   have hv:=eD hl hF hx
   simp only[List.cons_append,List.nil_append,List.append_assoc,List.map_cons] at hv
   simp only[aC.run,gY] at hr
   split at hr<;>first|(cases hr;done)|skip
   rename_i u bs
   obtain ⟨y,ys,tY,hu,kz⟩:=hv.cons_inv
   simp only[List.cons.injEq] at tY;obtain ⟨rfl,rfl⟩:=tY
   have qw: ∀(sa:Option Addr) (len cap:Nat) (l h m:Option Nat),a.eval x= .slice sa len cap->bounds lo.isSome hi.isSome mx.isSome bs=some (l,h,m)->
        l.getD 0<=h.getD len->h.getD len<=m.getD cap->m.getD cap<=cap->
        (execOp a.eval o).run P w= .ok (.value (.slice (if m.getD cap=l.getD 0 then sa else sa.map (·.add (l.getD 0*te.size))) (h.getD len - l.getD 0) (m.getD cap - l.getD 0))) w:=by
     intro sa len cap l h m he hb h1 h2 h3
     have jR:=TP (lo:=lo) (hi:=hi) (mx:=mx) (a:=a) (by simpa [List.append_assoc] using kz) hb
     have bU:=AK (P:=P) true (len:=len) (cap:=cap) jR.1 jR.2.1 jR.2.2.1 jR.2.2.2 h1 h2 h3 w
     simp only[execOp,ho,Instr.sliceAt,Sem.run_bind,aO hd,Result.andThen_ok,he,Instr.slice,bU,gW jG,j7,Sem.run_pure]
   split at hr<;>first|(cases hr;done)|skip
   ·
     rename_i b off len cap es' l h m hb
     split at hr<;>first|(cases hr;done)|skip
     rename_i ei Jl
     have ei:te.size=es':=Nat.eq_of_beq_eq_true ei
     subst ei
     have Jl:=Nat.le_of_ble_eq_true Jl
     obtain ⟨aa,aN,he,hle,NZ,ha⟩:=hu.dA
     split at hr
     .  rename_i c m'
        split at hr<;>first|(cases hr;done)|skip
        rename_i e1 e2
        have e1:=Nat.le_of_ble_eq_true e1
        have e2:=Nat.le_of_ble_eq_true e2
        have:=NZ c rfl;subst this
        simp only[Option.some.injEq] at hr;subst hr
        exact .pure (qw _ _ _ _ _ _ he hb Jl (by simpa using e1) (by simpa using e2)) (GK ha Jl e1 e2 (fun c hc=>by cases hc;rfl) (fun h=>by cases h))
     .  rename_i c
        split at hr<;>first|(cases hr;done)|skip
        rename_i e1
        have e1:=Nat.le_of_ble_eq_true e1
        have:=NZ c rfl;subst this
        simp only[Option.some.injEq] at hr;subst hr
        exact .pure (qw _ _ _ _ _ _ he hb Jl (by simpa using e1) (by simp)) (GK ha Jl e1 (Nat.le_refl _) (fun c hc=>by cases hc;rfl) (fun h=>by cases h))
     .  rename_i m'
        split at hr<;>first|(cases hr;done)|skip
        rename_i e1 e2
        have e1:=Nat.le_of_ble_eq_true e1
        have e2:=Nat.le_of_ble_eq_true e2
        simp only[Option.some.injEq] at hr;subst hr
        exact .pure (qw _ _ _ _ _ _ he hb Jl (by simpa using e1) (by simp;omega)) (GK ha Jl e1 (by simp;omega) (fun c hc=>by cases hc;rfl) (fun h=>by cases h))
     .  split at hr<;>first|(cases hr;done)|skip
        rename_i e1
        have e1:=Nat.le_of_ble_eq_true e1
        simp only[Option.some.injEq] at hr;subst hr
        exact .pure (qw _ _ _ _ _ _ he hb Jl (by simp;omega) (by simp)) (GK ha Jl (by simp;omega) (Nat.le_refl _) (fun c hc=>by cases hc) (fun _=>hu.WU rfl))
   ·
     rename_i yg es' l h m hb
     split at hr<;>first|(cases hr;done)|skip
     rename_i ei
     have ei:te.size=es':=Nat.eq_of_beq_eq_true ei
     subst ei
     obtain ⟨aa,aN,cell,he,hle,tq,g1,g2,g3⟩:=hu.ua
     split at hr
     .  rename_i m'
        split at hr<;>first|(cases hr;done)|skip
        rename_i e0 e1 e2
        have e0:=Nat.eq_of_beq_eq_true e0
        have e1:=Nat.eq_of_beq_eq_true e1
        have e2:=Nat.eq_of_beq_eq_true e2
        subst e2
        simp only[Option.some.injEq] at hr;subst hr
        refine .pure (qw _ _ _ _ _ _ he hb (by omega) (by rw[e1];simp) (by simp)) ?_
        simp only[e0,e1,Option.getD_some,Nat.sub_self,if_true]
        exact .slice _ _ _ _ _ _ _ (Nat.le_refl _) (fun c hc=>by cases hc;rfl) (fun h0=>absurd rfl h0) (fun h=>by cases h)
     .  split at hr<;>first|(cases hr;done)|skip
        rename_i e0 e1
        have e0:=Nat.le_of_ble_eq_true e0
        have e1:=Nat.le_of_ble_eq_true e1
        simp only[Option.some.injEq] at hr;subst hr
        refine .pure (qw _ _ _ _ _ _ he hb e0 (by simp;omega) (by simp)) ?_
        simp only[Option.getD_none]
        have hlen:(List.drop (l.getD 0) (List.take (h.getD yg.length) yg)).length=h.getD yg.length - l.getD 0:=by simp;omega
        rw[<-hlen]
        have oI: ∀i cs,(List.drop (l.getD 0) (List.take (h.getD yg.length) yg))[i]? =some cs->yg[l.getD 0+i]? =some cs:=by
          intro i cs hi
          rw[List.getElem?_drop,List.getElem?_take] at hi
          split at hi
          . exact hi
          . cases hi
        by_cases hcl:aN=l.getD 0
        . rw[if_pos hcl]
          have hemp:List.drop (l.getD 0) (List.take (h.getD yg.length) yg)=[]:=by
            apply List.eq_nil_of_length_eq_zero;rw[hlen];omega
          rw[hemp]
          exact .fl _ _ _ _ (fun _ _=>undef) (by simp) (fun h=>absurd rfl h) (fun i cs hi=>by simp at hi) (fun i j cs v hi=>by simp at hi) (fun i j cs v hi=>by simp at hi)
        . rw[if_neg hcl]
          by_cases bX:yg=[]
          . subst bX
            simp only[List.take_nil,List.drop_nil]
            exact .fl _ _ _ _ (fun _ _=>undef) (by simp) (fun h=>absurd rfl h) (fun i cs hi=>by simp at hi) (fun i j cs v hi=>by simp at hi) (fun i j cs v hi=>by simp at hi)
          . have tq:=tq bX
            obtain ⟨ab,ao,asp⟩:=aa
            simp only at tq;subst tq
            simp only[Option.map_some,k9]
            refine .fl _ _ _ _ (fun i j=>cell (l.getD 0+i) j) (by rw[hlen];omega) (fun _=>rfl) (fun i cs hi=>g1 _ _ (oI i cs hi)) (fun i j cs v hi hj=> ?_) (fun i j cs v hi hj=>g3 _ _ _ _ (oI i cs hi) hj)
            have:=g2 _ _ _ _ (oI i cs hi) hj
            simp only at this ⊢
            rw[<-this]
            congr 2
            rw[Nat.add_mul];omega
   ·
     rename_i l h m hb
     split at hr<;>first|(cases hr;done)|skip
     rename_i e0 e1 e2
     have e0:=Nat.eq_of_beq_eq_true e0
     have e1:=Nat.eq_of_beq_eq_true e1
     have e2:=Nat.eq_of_beq_eq_true e2
     simp only[Option.some.injEq] at hr;subst hr
     have he:=hu.fD
     refine .pure (qw _ _ _ _ _ _ he hb (by omega) (by omega) (by omega)) ?_
     simp only[e0,e1,e2,Nat.sub_self,if_true]
     exact .ah
end
end
section
open Go Go.RowKit
section
variable {P : Program} {tt : TT}
theorem Ia {ρ:Pos->Loc} {n:Nat} {C:Cells}: ∀{l:List AV} {s:List Nat} {ys:List Value},bytesOf l=some s->aA ρ n C l ys->
  ys=(s.map Int.ofNat).map (Value.int .u8)/\ ∀c,c∈s->c<256
 |[],s,ys,h,hv=>by
  simp[bytesOf] at h;subst h
  exact ⟨by simpa using hv.su,fun c hc=>by simp at hc⟩
 |v ::l,s,ys,h,hv=>by
  unfold bytesOf at h
  split at h<;>first|(cases h;done)|skip
  . rename_i h0;simp at h0
  . rename_i c l' he
    simp only[List.cons.injEq] at he;obtain ⟨rfl,rfl⟩:=he
    split at h<;>first|(cases h;done)|skip
    rename_i s' aP mF
    simp only[Option.some.injEq] at h;subst h
    obtain ⟨y,ys',rfl,h1,h2⟩:=hv.cons_inv
    obtain ⟨e,nC⟩:=Ia mF h2
    have aP:c<256:=by simpa using aP
    refine ⟨by rw[h1.iP,e];rfl,fun c' hc=> ?_⟩
    simp at hc;rcases hc with rfl|hc
    . exact aP
    . exact nC _ hc
theorem GL: ∀(s:List Nat) (acc:ByteArray),((s.map Int.ofNat).foldl (fun r n=>r.push (UInt8.ofNat n.toNat)) acc).data.toList=acc.data.toList++s.map UInt8.ofNat
 |[],acc=>by simp
 |c::s,acc=>by
  simp only[List.map_cons,List.foldl_cons]
  rw[GL s]
  simp[ByteArray.push]
theorem abI {P:Program} {e:TypeId} (hc:P.cellsOf e≠0) (count:Nat) (hn:1<=count):liesAt P P.depth e count 0 e 1=true:=by
 have hd:P.depth=(2*(P.types.size+Made.depth)+1)+1:=rfl
 rw[hd]
 simp only[liesAt,Bool.or_eq_true]
 left
 rw[hd]
 simp[rowAt,hc,hn,sameLayout]
theorem abJ (hT:cr P tt) (src dst:TypeId) (x:Operand) (hnb: ∀k xs cls,fL tt (.convert src dst x)=some (k,xs,cls)->k≠ .conv .bytes):cS P tt (.convert src dst x):=by
 intro ρ C st w k xs cls fr a o vs res ho hc hW hF hx hr
 have hnb:=hnb _ _ _ hc
 simp only[fL] at hc
 split at hc<;>first|(cases hc;done)|skip
 rename_i s d b hs hd hb
 obtain ⟨ds,EJ,Jm⟩:=(hT.at hs).und
 obtain ⟨dd,hdd,bW⟩:=(hT.at hd).und
 split at hc<;>first|(cases hc;done)|skip
 . rename_i k1 k2 h1 h2
   cases hc
   obtain ⟨v,rfl,hv⟩:=eR hb hF hx
   rw[h1] at Jm;rw[h2] at bW
   rw[Jf Jm] at EJ;rw[Jf bW] at hdd
   simp only[aC.run,A3] at hr
   split at hr<;>first|(cases hr;done)|(rename_i heq;cases heq;done)|(rename_i heq;cases heq)
   simp only[Option.some.injEq] at hr;subst hr
   refine .pure ?_ (by rw[ud];exact .int _ _)
   simp[execOp,ho,hv.iP,convert,aO EJ,aO hdd,Conv.intToInt]
 . rename_i h1 h2
   cases hc
   obtain ⟨v,rfl,hv⟩:=eR hb hF hx
   rw[h1] at Jm;rw[h2] at bW
   rw[l9 Jm] at EJ;rw[l9 bW] at hdd
   simp only[aC.run,A3] at hr
   split at hr<;>first|(cases hr;done)|(rename_i heq;cases heq;done)|(rename_i heq;cases heq)
   simp only[Option.some.injEq] at hr;subst hr
   obtain ⟨bs,he,hs⟩:=hv.dW
   exact .pure (x:= .string bs) (by simp[execOp,ho,he,convert,aO EJ,aO hdd]) (.str _ _ hs)
 . split at hc<;>first|(cases hc;done)|skip
   split at hc<;>first|(cases hc;done)|skip
   cases hc
   exact absurd rfl hnb
 . rename_i e h1 h2
   split at hc<;>first|(cases hc;done)|skip
   rename_i te ff
   split at hc<;>first|(cases hc;done)|skip
   rename_i hk8
   cases hc
   obtain ⟨v,rfl,hv⟩:=eR hb hF hx
   rw[h1] at Jm;rw[h2] at bW
   rw[mD Jm] at EJ;rw[l9 bW] at hdd
   obtain ⟨de,hde,hke⟩:=(hT.at ff).und
   rw[hk8] at hke;rw[Jf hke] at hde
   have qw: ∀y:Option Addr×Nat×Nat,a.eval x= .slice y.1 y.2.1 y.2.2->(execOp a.eval o).run P w=((Conv.bytesToString (a.eval x)).run P w).andThen fun v w=> .ok (.value v) w:=by
     intro y he
     simp[execOp,ho,he,convert,aO EJ,aO hdd,aO hde]
   simp only[aC.run,A3] at hr
   split at hr<;>first|(cases hr;done)|(rename_i heq;cases heq;done)|(rename_i heq;cases heq)
   . simp only[Option.some.injEq] at hr;subst hr
     have he:=hv.fD
     refine .pure (x:= .string .empty) ?_ (.str _ _ rfl)
     rw[qw (none,0,0) he,he];simp[Conv.bytesToString]
   . rename_i bb off m cap es
     obtain ⟨aa,aN,he,hle,_,ha⟩:=hv.dA
     split at hr
     .  rename_i h0
        have:=Nat.eq_of_beq_eq_true h0;subst this
        simp only[Option.some.injEq] at hr;subst hr
        refine .pure (x:= .string .empty) ?_ (.str _ _ rfl)
        rw[qw (some aa,0,aN) he,he];simp[Conv.bytesToString,loadCells,loadCellsFrom]
     .  rename_i h0
        have h0:=Nat.ne_of_beq_eq_false h0
        split at hr<;>first|(cases hr;done)|skip
        rename_i cs fz jR
        split at hr<;>first|(cases hr;done)|skip
        rename_i l hcut
        split at hr<;>first|(cases hr;done)|skip
        rename_i s' Zn
        simp only[Option.some.injEq] at hr;subst hr
        obtain ⟨aP,rfl,_⟩:=ha (by omega)
        obtain ⟨ys,tY,qu⟩:=hW.loadCells (P:=P) jR hcut
        obtain ⟨e1,e2⟩:=Ia Zn qu
        rw[e1] at tY
        have bU:=run_bytesToString (P:=P) w ⟨(ρ bb).aE,(ρ bb).base+off,none⟩ m aN (s'.map Int.ofNat) tY
        refine .pure (x:= .string _) (by rw[qw (some _,m,aN) he,he,bU];rfl) (.str _ _ ?_)
        rw[GL,List.map_append]
        have e0:ByteArray.empty.data.toList=[]:=rfl
        rw[e0,List.map_nil,List.nil_append,List.map_map]
        have e3:s'.map (UInt8.toNat∘UInt8.ofNat)=s'.map id:=List.map_congr_left fun c hc=>by
         have:=e2 c hc
         simp only[Function.comp,id,UInt8.toNat_ofNat']
         omega
        rw[e3,List.map_id]
 ·
   rename_i e h1 h2
   split at hc<;>first|(cases hc;done)|skip
   rename_i te ff
   split at hc<;>first|(cases hc;done)|skip
   rename_i eI
   cases hc
   obtain ⟨v,rfl,hv⟩:=eR hb hF hx
   rw[h1] at Jm;rw[h2] at bW
   rw[TM Jm] at EJ;rw[aeI bW] at hdd
   obtain ⟨i0,jG,j7,_⟩:=(hT.at ff).info
   have eI:=Nat.ne_of_beq_eq_false eI
   simp only[aC.run,TJ] at hr
   split at hr<;>first|(cases hr;done)|skip
   . simp only[Option.some.injEq] at hr;subst hr
     refine .pure (x:= .pointer none) ?_ .dP
     simp[execOp,ho,hv.qH,convert,aO EJ,aO hdd,Conv.unsafePointer]
   . rename_i bb off
     split at hr<;>first|(cases hr;done)|skip
     rename_i t0 cs jR
     split at hr<;>first|(cases hr;done)|skip
     rename_i aP
     have aP:off<cs.length:=by simpa using aP
     simp only[Option.some.injEq] at hr;subst hr
     obtain ⟨_,he⟩:=hv.fu
     obtain ⟨_,_,c,fr,g1,g2,g3,g4,g5,g6⟩:=hW.live _ _ jR
     have Rz:w.shape? (ρ bb).aE=some (t0,c.size):=by simp[World.shape?,g1]
     have:=Lib.run_to_unsafe (P:=P) (w:=w) (j:=i0) ⟨(ρ bb).aE,(ρ bb).base+off,none⟩ EJ hdd jG (by rw[j7];exact eI) Rz (by show (ρ bb).base+off<c.size;omega)
     exact .pure (x:= .pointer (some ⟨(ρ bb).aE,(ρ bb).base+off,none⟩)) (by simp[execOp,ho,he,this]) (he ▸hv)
 ·
   rename_i e h1 h2
   split at hc<;>first|(cases hc;done)|skip
   rename_i te ff
   split at hc<;>first|(cases hc;done)|skip
   rename_i eI
   cases hc
   obtain ⟨v,rfl,hv⟩:=eR hb hF hx
   rw[h1] at Jm;rw[h2] at bW
   rw[aeI Jm] at EJ;rw[TM bW] at hdd
   obtain ⟨i0,jG,j7,_⟩:=(hT.at ff).info
   have eI:=Nat.ne_of_beq_eq_false eI
   simp only[aC.run,Kv] at hr
   split at hr<;>first|(cases hr;done)|skip
   . simp only[Option.some.injEq] at hr;subst hr
     refine .pure (x:= .pointer none) ?_ .dP
     simp[execOp,ho,hv.qH,convert,aO EJ,aO hdd,Conv.unsafePointer]
   . rename_i bb
     split at hr<;>first|(cases hr;done)|skip
     rename_i t0 cs jR
     split at hr<;>first|(cases hr;done)|skip
     rename_i ht hle
     have ht:=Nat.eq_of_beq_eq_true ht
     have hle:=Nat.le_of_ble_eq_true hle
     subst ht
     simp only[Option.some.injEq] at hr;subst hr
     obtain ⟨_,he⟩:=hv.fu
     obtain ⟨_,_,c,fr,g1,g2,g3,g4,g5,g6⟩:=hW.live _ _ jR
     have Rz:w.shape? (ρ bb).aE=some (t0,c.size):=by simp[World.shape?,g1]
     have xo:P.cellsOf t0=te.size:=by simp[Program.cellsOf,jG,j7]
     have hone:1<=c.size / P.cellsOf t0:=by rw[xo,Nat.le_div_iff_mul_le (by omega)];omega
     rw[Nat.add_zero] at he
     have:=Lib.run_from_unsafe (P:=P) (w:=w) (j:=i0) ⟨(ρ bb).aE,(ρ bb).base,none⟩ EJ hdd jG Rz (by show liesAt P P.depth t0 _ (ρ bb).base t0 1=true;rw[g6];exact abI (by rw[xo];exact eI) _ hone)
     exact .pure (x:= .pointer (some ⟨(ρ bb).aE,(ρ bb).base,none⟩)) (by simp[execOp,ho,he,this]) (he ▸hv)
theorem Jn {t:TypeId} {d:TypeDesc} (hd:P.underlying t=some d) {pk:PK} (hk:pk.fits d=true) (e:Bool) (m:Nat) (x:Value) (w:World):
  (Instr.checkKey e (m+1) t x).run P w= .ok () w:=by
 unfold Instr.checkKey
 rw[Sem.run_bind,aO hd,Result.andThen_ok]
 cases pk<;>cases d<;>simp[PK.fits] at hk<;>rfl
theorem RA {ρ:Pos->Loc} {n:Nat} {C:Cells} {pk:PK} {d:TypeDesc} (hk:pk.fits d=true) {u v:AV} {x y:Value} {r:Bool}
   (h1:av ρ n C u x) (h2:av ρ n C v y) (h:tU pk u v=some r):Instr.sameNow d x y=some r:=by
 unfold tU at h
 split at h<;>first|(cases h;done)|skip
 . simp only[Option.some.injEq] at h;subst h
   cases d<;>simp[PK.fits] at hk
   rw[h1.iH,h2.iH];rfl
 . split at h<;>first|(cases h;done)|skip
   rename_i GI
   have:=yj GI;subst this
   simp only[Option.some.injEq] at h;subst h
   cases d<;>simp[PK.fits] at hk
   rw[h1.iP,h2.iP];simp[Instr.sameNow,mE]
 . simp only[Option.some.injEq] at h;subst h
   cases d<;>simp[PK.fits] at hk
   obtain ⟨bx,rfl,e1⟩:=h1.dW
   obtain ⟨bz,rfl,e2⟩:=h2.dW
   simp only[Instr.sameNow]
   rw[beq_toListBytes,Jj e1 e2]
def GM (ρ:Pos->Loc) (n:Nat) (C:Cells) (es:List (AV×AV×Nat)) (es':List MapEntry):Prop:=
 es.length=es'.length/\ ∀(i:Nat) (e:AV×AV×Nat) (e':MapEntry),es[i]? =some e->es'[i]? =some e'->av ρ n C e.1 e'.key/\av ρ n C e.2.1 e'.val/\e.2.2=e'.born
theorem BQ {ρ:Pos->Loc} {n:Nat} {C:Cells} {pk:PK} {d:TypeDesc} (hk:pk.fits d=true) {u:AV} {x:Value} (hu:av ρ n C u x):
  ∀{es:List (AV×AV×Nat)} {es':List MapEntry} {i:Nat} {r:Option (Nat×AV)},GM ρ n C es es'->fH pk u es i=some r->
  ∃r',Instr.findNow d x es' i=some r'/\((r=none/\r'=none)\/ ∃j v y,r=some (j,v)/\r'=some (j,y)/\av ρ n C v y/\i<=j/\j<i+es.length)
 |[],es',i,r,he,h=>by
  simp[fH] at h;subst h
  cases es' with
  |nil=>exact ⟨none,rfl,.inl ⟨rfl,rfl⟩⟩
  |cons e es'=>have:=he.1;simp at this
 |(k',v,born)::es,es',i,r,he,h=>by
  cases es' with
  |nil=>have:=he.1;simp at this
  |cons e' es'=>
   have h0:=he.2 0 (k',v,born) e' rfl rfl
   have mB:GM ρ n C es es':=⟨by have:=he.1;simpa using this,fun j e e' h1 h2=>he.2 (j+1) e e' (by simpa using h1) (by simpa using h2)⟩
   unfold fH at h
   split at h<;>first|(cases h;done)|skip
   .    rename_i hq
        simp only[Option.some.injEq] at h;subst h
        refine ⟨some (i,e'.val),by simp[Instr.findNow,RA hk hu h0.1 hq],.inr ⟨i,v,e'.val,rfl,rfl,h0.2.1,Nat.le_refl _,by simp⟩⟩
   .    rename_i hq
        obtain ⟨r',h1,h2⟩:=BQ hk hu mB h
        refine ⟨r',by simp[Instr.findNow,RA hk hu h0.1 hq,h1],?_⟩
        rcases h2 with h2|⟨j,v',y,e1,e2,e3,e4,e5⟩
        . exact .inl h2
        . exact .inr ⟨j,v',y,e1,e2,e3,by omega,by simp;omega⟩
theorem run_findKey {t:TypeId} {d:TypeDesc} (hd:P.underlying t=some d) {x:Value} {es:List MapEntry} {r:Option (Nat×Value)} (h:Instr.findNow d x es 0=some r) (w:World):
  (Instr.findKey t x es).run P w= .ok r w:=by
 simp[Instr.findKey,aO hd,h]
theorem run_getObj_map {r:Nat} {es:Array MapEntry} {c:Nat} {w:World} (h:w.heap[r]? =some (.map es c)):(getObj r).run P w= .ok (.map es c) w:=by
 simp[getObj,Sem.run,h]
theorem ah9 (k:TK) {d:TypeDesc} (h:bF k d=true) {pk:PK} (hp:(k= .bool/\pk= .b)\/((∃i,k= .int i)/\pk= .i)\/(k= .string/\pk= .s)):pk.fits d=true:=by
 rcases hp with ⟨rfl,rfl⟩|⟨⟨i,rfl⟩,rfl⟩|⟨rfl,rfl⟩
 . rw[VC h];rfl
 . rw[Jf h];rfl
 . rw[l9 h];rfl
theorem ue (hT:cr P tt) {t:Nat} {ti:TI} (ht:tt.get (key t)=some ti) {z:List AV} (hz:ti.zero=some z) {ρ:Pos->Loc} {n:Nat} {C:Cells} (w:World):
   ∃v,(zeroValue t).run P w= .ok v w/\av ρ n C (fL.Jc ti z) v/\aA ρ n C z v.cells.toList:=by
 obtain ⟨i,hi,j7,_,AL⟩:=(hT.at ht).info
 obtain ⟨v,hv,hs,hlen,h1,h2⟩:=AL z hz
 refine ⟨v,agq hi hv w,?_,rQ hs⟩
 unfold fL.Jc
 split
 . rename_i ha
   obtain ⟨cs,rfl⟩:=h1 ha
   exact .EC (rQ hs)
 . rename_i ha
   have hc:=h2 ha
   rw[hc] at hs
   simp only[oe] at hs
   split at hs<;>first|(cases hs;done)|skip
   rename_i a as e1 e2
   simp only[Option.some.injEq] at hs e2
   subst hs;subst e2
   simp only
   exact EE e1
theorem adp (hT:cr P tt) (t:TypeId) (x ix:Operand) (ok:Bool):cS P tt (.lookup t x ix ok):=by
 intro ρ C st w k xs cls fr a o vs res ho hc hW hF hx hr
 simp only[fL] at hc
 split at hc<;>first|(cases hc;done)|skip
 rename_i ti l cY hl
 split at hc<;>first|(cases hc;done)|skip
 rename_i kt et hk
 split at hc<;>first|(cases hc;done)|skip
 rename_i tk te Zo ff
 obtain ⟨d,hd,bW⟩:=(hT.at cY).und
 rw[hk] at bW;rw[NX bW] at hd
 obtain ⟨dk,WV,GI⟩:=(hT.at Zo).und
 have key: ∃pk z,te.zero=some z/\k= .lookup pk (fL.Jc te z) ok/\xs=l/\cls= .read/\pk.fits dk=true:=by
  split at hc<;>first|(cases hc;done)|skip
  all_goals
    rename_i z h1 h2
    cases hc
    refine ⟨_,z,h2,rfl,rfl,rfl,ah9 tk.k GI ?_⟩
  . exact .inr (.inl ⟨⟨_,h1⟩,rfl⟩)
  . exact .inr (.inr ⟨h1,rfl⟩)
  . exact .inl ⟨h1,rfl⟩
 obtain ⟨pk,z,hz,rfl,rfl,rfl,H9⟩:=key
 obtain ⟨m,kk,rfl,h1,h2⟩:=VD hl hF hx
 obtain ⟨zv,AM,TQ,_⟩:=ue hT ff hz (ρ:=ρ) (n:=st.next.toNat) (C:=C) w
 have hck: ∀e,(Instr.checkKey e 10000 kt (a.eval ix)).run P w= .ok () w:=fun e=>Jn WV H9 e 9999 _ w
 simp only[aC.run,l8] at hr
 split at hr<;>first|(cases hr;done)|skip
 ·
  rename_i j v hm
  simp only[Option.some.injEq] at hr;subst hr
  split at hm<;>first|(cases hm;done)|skip
  . split at hm<;>first|(cases hm;done)|(simp at hm;done)
  . rename_i b
    split at hm<;>first|(cases hm;done)|skip
    rename_i es c hb
    obtain ⟨_,he⟩:=h1.Bb
    obtain ⟨_,_,es',ei,hlen,nC⟩:=hW.live _ _ hb
    have hE:GM ρ st.next.toNat C es es'.toList:=⟨by simpa using hlen,fun i e e' h1 h2=>nC i e e' h1 (by simpa using h2)⟩
    obtain ⟨r',hf,kA⟩:=BQ H9 h2 hE hm
    rcases kA with ⟨e1,_⟩|⟨j',v',y,e1,e2,e3,_⟩
    .   cases e1
    .   cases e1;subst e2
        have bU:(execOp a.eval o).run P w= .ok (.value (if ok then .tuple #[y,.bool true] else y)) w:=by
          simp only[execOp,ho,Instr.lookup,Sem.run_bind,aO hd,Result.andThen_ok,he,run_getObj_map ei,hck,run_findKey WV hf,Sem.run_pure]
        refine .pure bU ?_
        cases ok
        . exact e3
        . exact .tZ (aA.cons e3 (aA.cons (.bool true) aA.nil))
 ·
  rename_i hm
  simp only[Option.some.injEq] at hr;subst hr
  have bU:(execOp a.eval o).run P w= .ok (.value (if ok then .tuple #[zv,.bool false] else zv)) w:=by
    split at hm<;>first|(cases hm;done)|skip
    .   split at hm<;>first|(cases hm;done)|skip
        have he:=h1.Ba
        have hf:(Instr.findKey kt (a.eval ix) []).run P w= .ok none w:=run_findKey WV rfl w
        simp only[execOp,ho,Instr.lookup,Sem.run_bind,aO hd,Result.andThen_ok,he,hck,hf,AM,Sem.run_pure]
    .   rename_i b
        split at hm<;>first|(cases hm;done)|skip
        rename_i es c hb
        obtain ⟨_,he⟩:=h1.Bb
        obtain ⟨_,_,es',ei,hlen,nC⟩:=hW.live _ _ hb
        have hE:GM ρ st.next.toNat C es es'.toList:=⟨by simpa using hlen,fun i e e' h1 h2=>nC i e e' h1 (by simpa using h2)⟩
        obtain ⟨r',hf,kA⟩:=BQ H9 h2 hE hm
        rcases kA with ⟨_,e2⟩|⟨j',v',y,e1,_⟩
        . subst e2
          simp only[execOp,ho,Instr.lookup,Sem.run_bind,aO hd,Result.andThen_ok,he,run_getObj_map ei,hck,run_findKey WV hf,AM,Sem.run_pure]
        . cases e1
  refine .pure bU ?_
  cases ok
  . exact TQ
  . exact .tZ (aA.cons TQ (aA.cons (.bool false) aA.nil))
end
end
section
open Go Go.RowKit
section
variable {P : Program} {tt : TT}
theorem EK: ∀(l:List Value) (off k:Nat) (cs:Array Value),off+k+l.length<=cs.size->
  ((l.zipIdx k).foldl (fun cs (c,j)=>cs.setIfInBounds (off+j) c) cs).toList=aG cs.toList (off+k) l
 |[],off,k,cs,_=>by simp[aG,List.take_append_drop]
 |v::l,off,k,cs,h=>by
  simp only[List.length_cons] at h
  simp only[List.zipIdx_cons,List.foldl_cons]
  rw[EK l off (k+1) _ (by simp;omega)]
  simp only[aG,List.length_cons,Array.toList_setIfInBounds]
  rw[List.drop_set_of_lt (by omega)]
  have:off+(k+1)=(off+k)+1:=by omega
  rw[this,List.take_set,List.take_add_one]
  have aP:off+k<cs.toList.length:=by simp;omega
  rw[List.getElem?_eq_getElem aP]
  simp only[Option.toList_some,List.set_append,List.length_take]
  have hm:min (off+k) cs.toList.length=off+k:=Nat.min_eq_left (Nat.le_of_lt aP)
  rw[hm,if_neg (Nat.lt_irrefl _),Nat.sub_self]
  simp
  rw[show off+k+1+l.length=off+k+(l.length+1) from by omega]
theorem SY {ρ:Pos->Loc} {n:Nat} {C:Cells} (pl:Nat->Option (Nat×Nat)): ∀{pp:List (Nat×Nat)} {vs cells r:List AV} {ps:List (Nat×Value)} {cs:Array Value},
  bJ cells pp vs=some r->aA ρ n C cells cs.toList->aA ρ n C vs (ps.map (·.2))->ps.map (fun x=>pl x.1)=pp.map some->
  ∃je,Instr.fill pl cs ps=some je/\aA ρ n C r je.toList
 |[],vs,cells,r,ps,cs,h,hc,hv,hp=>by
  unfold bJ at h
  split at h<;>first|(cases h;done)|skip
  . simp only[Option.some.injEq] at h;subst h
    have:ps=[]:=by simpa using hv.su
    subst this
    exact ⟨cs,rfl,hc⟩
  . rename_i hh;cases hh
 |(off  ,size)::pp,vs,cells,r,ps,cs,h,hc,hv,hp=>by
  unfold bJ at h
  split at h<;>first|(cases h;done)|skip
  . rename_i hh;cases hh
  . rename_i off' size' pp' v vs' hh
    simp only[List.cons.injEq,Prod.mk.injEq] at hh
    obtain ⟨⟨rfl,rfl⟩,rfl⟩:=hh
    split at h<;>first|(cases h;done)|skip
    rename_i h1 h2
    have h1:=Nat.eq_of_beq_eq_true h1
    have h2:=Nat.le_of_ble_eq_true h2
    cases ps with
    |nil=>have:=hv.1;simp at this
    |   cons p ps=>
        obtain ⟨i,x⟩:=p
        simp only[List.map_cons,List.cons.injEq] at hp hv
        obtain ⟨dS,Jo⟩:=hp
        obtain ⟨y,ys,tY,hx,qu⟩:=hv.cons_inv
        simp only[List.cons.injEq] at tY;obtain ⟨rfl,rfl⟩:=tY
        have hxc:=hx.cells
        have hlen:x.cells.size=size:=by rw[<-h1,hxc.1];simp
        have eI:off+size<=cs.size:=by have:=hc.1;simp at this;omega
        have akE:(x.cells.zipIdx.foldl (fun cs (c,j)=>cs.setIfInBounds (off+j) c) cs).toList=aG cs.toList off x.cells.toList:=by
         rw[<-Array.foldl_toList,Array.toList_zipIdx]
         have:=EK x.cells.toList off 0 cs (by simp;omega)
         simpa using this
        obtain ⟨je,e1,e2⟩:=SY pl h (cs:=x.cells.zipIdx.foldl (fun cs (c,j)=>cs.setIfInBounds (off+j) c) cs) (by rw[akE];exact hc.aG hxc off) qu Jo
        refine ⟨je,?_,e2⟩
        simp only[Instr.fill,dS]
        rw[if_neg (by simp[hlen];omega)]
        exact e1
theorem Mq (hT:cr P tt) {gs:Array Field} (w:World): ∀{fs:List (Nat×Nat×Bool)} (_hm:bF.dJ fs gs.toList=true) {is:List Nat} {pp:List (Nat×Nat)}
  (_h:fL.places tt fs is=some pp) {N3:List (Nat×Nat)} (_hpl: ∀(i:Nat) (f:Field) (inf:TypeInfo),gs.toList[i]? =some f->P.info? f.type=some inf->N3[i]? =some (f.offset,inf.size)),
  is.map (fun i=>N3[i]?)=pp.map some
 |fs,hm,[],pp,h,N3,pJ=>by simp[fL.places] at h;subst h;rfl
 |fs,hm,i::is,pp,h,N3,pJ=>by
  unfold fL.places at h
  split at h<;>first|(cases h;done)|skip
  rename_i off t nm l h1 h2
  split at h<;>first|(cases h;done)|skip
  rename_i ti WW
  simp only[Option.some.injEq] at h;subst h
  obtain ⟨f,hf,e1,e2,_⟩:=KD hm h1
  obtain ⟨inf,Zp,eI,_⟩:=(hT.at WW).info
  simp only at e1 e2
  have:=pJ i f inf hf (by rw[e2];exact Zp)
  simp only[List.map_cons,this,e1,eI]
  rw[Mq hT w hm h2 pJ]
theorem TR (hT:cr P tt): ∀{fs:List (Nat×Nat×Bool)} {gs:List Field} (_hm:bF.dJ fs gs=true) (_ha:fL.YP tt fs=true),
  ∃N3:List (Nat×Nat),gs.mapM (fun f=>(P.info? f.type).map fun i=>(f.offset,i.size))=some N3/\
   ∀(i:Nat) (f:Field) (inf:TypeInfo),gs[i]? =some f->P.info? f.type=some inf->N3[i]? =some (f.offset,inf.size)
 |[],gs,hm,ha=>by
  cases gs with
  |cons g gs=>simp[bF.dJ] at hm
  |nil=>exact ⟨[],rfl,fun i f inf h=>by simp at h⟩
 |(off,t,nm)::fs,gs,hm,ha=>by
  cases gs with
  |nil=>simp[bF.dJ] at hm
  |cons g gs=>
   simp[bF.dJ] at hm
   unfold fL.YP at ha
   split at ha<;>first|(cases ha;done)|skip
   rename_i ti WW
   obtain ⟨inf,Zp,_⟩:=(hT.at WW).info
   obtain ⟨N3,h1,h2⟩:=TR hT hm.2 ha
   rw[hm.1.1.2] at Zp
   refine ⟨(g.offset,inf.size)::N3,by simp[Zp,h1],fun i f inf' hi hf=> ?_⟩
   cases i with
   |zero=>simp at hi;subst hi;rw[Zp] at hf;cases hf;rfl
   |succ i=>simp at hi ⊢; exact h2 i f inf' hi hf
theorem aeN (hT:cr P tt) (t:TypeId) (ps:Array (Nat×Operand)):cS P tt (.build t ps):=by
 intro ρ C st w k xs cls fr a o vs res ho hc hW hF hx hr
 simp only[fL] at hc
 split at hc<;>first|(cases hc;done)|skip
 rename_i ti l cY hl
 obtain ⟨d,hd,bW⟩:=(hT.at cY).und
 obtain ⟨it,hit,_,_,AL⟩:=(hT.at cY).info
 have qw: ∀(pp:List (Nat×Nat)) (z:List AV) (pl:Nat->Option (Nat×Nat)),ti.zero=some z->k= .build z pp->xs=l->ps.toList.map (fun x=>pl x.1)=pp.map some->
    (∀(v:Value) (parts:List (Nat×Value)) (cells:Array Value),it.zero=some v->Instr.fill pl v.cells parts=some cells->P.built t parts=some cells)->
    u9 P ρ C st w ((execOp a.eval o).run P w) res:=by
   rintro pp z pl hz rfl rfl RB ajP
   have hv:=eD hl hF hx
   obtain ⟨v,GN,hs,_⟩:=AL z hz
   simp only[aC.run,Kr] at hr
   split at hr<;>first|(cases hr;done)|skip
   rename_i cs vg
   simp only[Option.some.injEq] at hr;subst hr
   have TQ:aA ρ st.next.toNat C z v.cells.toList:=rQ hs
   have hps:(ps.map fun (i,x)=>(i,a.eval x)).toList=ps.toList.map fun x=>(x.1,a.eval x.2):=by simp
   obtain ⟨je,e1,e2⟩:=SY pl vg TQ (ps:=ps.toList.map fun x=>(x.1,a.eval x.2)) (by simpa [List.map_map,Function.comp_def] using hv) (by simpa [List.map_map,Function.comp_def] using RB)
   refine .pure (x:= .agg je) ?_ (.EC e2)
   have bU:=run_build w t (ps.map fun (i,x)=>(i,a.eval x)) je (ajP v _ _ GN (by rw[hps];exact e1))
   simp only[execOp,ho,Sem.run_bind]
   rw[bU];rfl
 split at hc<;>first|(cases hc;done)|skip
 . rename_i fs z hk hz
   rw[hk] at bW
   obtain ⟨gs,rfl,hm⟩:=GD bW
   split at hc<;>first|(cases hc;done)|skip
   rename_i pp pJ nC
   cases hc
   obtain ⟨N3,h1,h2⟩:=TR hT hm nC
   have RB:=Mq hT w hm pJ h2
   refine qw pp z (fun i=>N3.toArray[i]?) hz rfl rfl (by simpa [List.map_map,Function.comp_def] using RB) fun v parts cells hv hf=> ?_
   unfold Program.built
   rw[hit,hd]
   simp only[hv,h1]
   exact hf
 . rename_i e z hk hz
   rw[hk] at bW
   rw[Zg bW] at hd
   split at hc<;>first|(cases hc;done)|skip
   rename_i te ff
   cases hc
   obtain ⟨ie,hie,eI,_⟩:=(hT.at ff).info
   refine qw _ z (fun i=>some (i*te.size,te.size)) hz rfl rfl (by simp[List.map_map,Function.comp_def]) fun v parts cells hv hf=> ?_
   unfold Program.built
   rw[hit,hd]
   simp only[hv,hie,eI]
   exact hf
end
end
end Go.Ai
