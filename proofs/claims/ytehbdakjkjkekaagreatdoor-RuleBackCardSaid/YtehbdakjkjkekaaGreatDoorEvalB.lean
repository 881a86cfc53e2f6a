/- The evaluator's operations answer as the model's do, first part. -/
import Derived.Test.YtehbdakjkjkekaaGreatDoorEvalA
import Derived.LaidEql
import Derived.Laws.Strings
import Derived.Laws.StructEq
import Derived.Laws.Small
import Derived.Lib.Builder
import Derived.Laws.BytesString
import Derived.Laws.Tables
set_option linter.all false
set_option linter.unusedSectionVars false
set_option linter.deprecated false
section
namespace Go.Ai
def bw:TK->TypeDesc->Bool
 | .bool,.bool=>true
 | .int k,.int k'=>wh k k'
 | .string,.string=>true
 | .ptr e,.pointer e'=>Nat.beq e e'
 | .slice e,.slice e'=>Nat.beq e e'
 | .array n e,.array n' e'=>Nat.beq n n'&&Nat.beq e e'
 | .map k e,.map k' e'=>Nat.beq k k'&&Nat.beq e e'
 | .struct fs,.struct fs'=>dc fs fs'.toList
 | .func,.func _ _ _=>true
 | .iface,.interface _=>true
 | .RH,.unsafePointer=>true
 | .other,.interface _=>false
 | .other,.int _=>false
 | .other,.array _ _=>false
 | .other,.struct _=>false
 | .other,_=>true
 |_,_=>false
where
 dc:List (Nat×Nat×Bool)->List Field->Bool
  |[],[]=>true
  |(off,t,named)::l,f::l'=>Nat.beq off f.offset&&Nat.beq t f.type&&(named==(f.name != "_"))&&dc l l'
  |_,_=>false
structure PY (P:Program) (t:TypeId) (ti:TI):Prop where
 und: ∃d,P.underlying t=some d/\bw ti.k d=true
 info: ∃i,P.info? t=some i/\i.size=ti.size/\i.bytes=ti.bytes/\
  ∀z,ti.zero=some z-> ∃v,i.zero=some v/\nE v.cells.toList=some z/\z.length=ti.size/\(ti.k.isAgg=true-> ∃cs,v= .agg cs)/\(ti.k.isAgg=false->v.cells= #[v])
 elem: ∀e,ti.k= .ptr e-> ∃j,P.info? e=some j
 eqs:ti.uW=true->P.stoodInHeld t=false/\P.eqGuardType P.depth t=false
def bZ (P:Program) (tt:TT):Prop:= ∀p ti,tt.get p=some ti->PY P (p.toNat - 1) ti
theorem bZ.at {P:Program} {tt:TT} (h:bZ P tt) {t:Nat} {ti:TI} (ht:tt.get (key t)=some ti):PY P t ti:=by
 have:=h _ _ ht
 rwa [gX,Nat.add_sub_cancel] at this
section
variable {P : Program} {tt : TT} {ρ : Pos -> Loc} {n : Nat} {C : Cells}
theorem aK {t:TypeId} {d:TypeDesc} (h:P.underlying t=some d) (w:World):(underlying t).run P w= .ok d w:=run_underlying h w
theorem Lx {t:TypeId} {i:TypeInfo} (h:P.info? t=some i) (w:World):(typeInfo t).run P w= .ok i w:=by simp[typeInfo,h]
theorem gi {t:TypeId} {i:TypeInfo} (h:P.info? t=some i) (w:World):(sizeOf t).run P w= .ok i.size w:=by simp[sizeOf,typeInfo,h]
theorem UR {t:TypeId} {i:TypeInfo} {v:Value} (h:P.info? t=some i) (hz:i.zero=some v) (w:World):(zeroValue t).run P w= .ok v w:=by simp[zeroValue,typeInfo,h,hz]
theorem F5 {k:TK} {d:TypeDesc} (h:bw k d=true) (w:World) {t:TypeId} (ht:P.underlying t=some d):(isAgg t).run P w= .ok k.isAgg w:=by
 cases k<;>cases d<;>first|(simp[bw] at h;done)|simp[isAgg,aK ht,TK.isAgg]
theorem kL {e:Nat} {d:TypeDesc} (h:bw (.slice e) d=true):d= .slice e:=by
 cases d<;>simp[bw] at h;rw[h]
theorem Hg {e:Nat} {d:TypeDesc} (h:bw (.ptr e) d=true):d= .pointer e:=by
 cases d<;>simp[bw] at h;rw[h]
theorem Ly {m e:Nat} {d:TypeDesc} (h:bw (.array m e) d=true):d= .array m e:=by
 cases d<;>simp[bw] at h;rw[h.1,h.2]
theorem Dp {k e:Nat} {d:TypeDesc} (h:bw (.map k e) d=true):d= .map k e:=by
 cases d<;>simp[bw] at h;rw[h.1,h.2]
theorem Jc {d:TypeDesc} (h:bw .bool d=true):d= .bool:=by
 cases d<;>simp[bw] at h;rfl
theorem qV {a b:IntKind} (h:wh a b=true):a=b:=by
 unfold wh at h;split at h
 . assumption
 . cases h
theorem zH {k:IntKind} {d:TypeDesc} (h:bw (.int k) d=true):d= .int k:=by
 cases d<;>simp[bw] at h;rw[qV h]
theorem kC {d:TypeDesc} (h:bw .string d=true):d= .string:=by
 cases d<;>simp[bw] at h;rfl
theorem xW {fs:List (Nat×Nat×Bool)} {d:TypeDesc} (h:bw (.struct fs) d=true): ∃gs,d= .struct gs/\bw.dc fs gs.toList=true:=by
 cases d<;>simp[bw] at h;exact ⟨_,rfl,h⟩
theorem YQ {d:TypeDesc} (h:bw .func d=true): ∃a b c,d= .func a b c:=by
 cases d<;>simp[bw] at h;exact ⟨_,_,_,rfl⟩
theorem US {d:TypeDesc} (h:bw .iface d=true): ∃a,d= .interface a:=by
 cases d<;>simp[bw] at h;exact ⟨_,rfl⟩
theorem RM {d:TypeDesc} (h:bw .RH d=true):d= .unsafePointer:=by
 cases d<;>simp[bw] at h;rfl
theorem jZ {α:Type}: ∀(l:List α) (i:Nat),nth l i=l[i]?
 |[],_=>by simp[nth]
 |_::_,0=>rfl
 |_::l,i+1=>by simp[nth,jZ l i]
theorem Bs: ∀{fs:List (Nat×Nat×Bool)} {gs:List Field} {i:Nat} {x:Nat×Nat×Bool},bw.dc fs gs=true->nth fs i=some x->
  ∃f,gs[i]? =some f/\f.offset=x.1/\f.type=x.2.1/\(f.name != "_")=x.2.2
 |[],_,i,_,_,h=>by simp[nth] at h
 |(off,t,named)::l,[],i,_,h,_=>by simp[bw.dc] at h
 |(off,t,named)::l,f::l',0,x,h,hx=>by
  simp[bw.dc] at h
  simp[nth] at hx
  subst hx
  exact ⟨f,rfl,h.1.1.1.symm,h.1.1.2.symm,h.1.2.symm⟩
 |(off,t,named)::l,f::l',i+1,x,h,hx=>by
  simp[bw.dc] at h
  simp[nth] at hx
  obtain ⟨f',h1,h2⟩:=Bs h.2 hx
  exact ⟨f',by simpa using h1,h2⟩
theorem wq {v:Value} {a:AV} (h:Bm v=some a):ax ρ n C a v:=by
 unfold Bm at h
 split at h<;>first
   |(cases h;done)
   |(simp only[Option.some.injEq] at h;subst h)
 . exact .bool _
 . exact .int _ _
 . exact .str _ _ rfl
 . exact .bF
 . exact .ai
 . exact .gh
 . exact .func _ _ _ _ _ rfl rfl (fun _ _ _ h=>by simp at h) (fun _ _ _ h=>by simp at h)
 . exact .av
 . exact .lp
theorem ou: ∀{l:List Value} {as:List AV},nE l=some as->aq ρ n C as l
 |[],as,h=>by simp[nE] at h;subst h;exact aq.nil
 |v ::l,as,h=>by
  unfold nE at h
  split at h
  . rename_i a as' h1 h2
    simp only[Option.some.injEq] at h;subst h
    exact aq.cons (wq h1) (ou h2)
  . cases h
theorem N9 {v:Value} {a:AV} (h:Ja v=some a):ax ρ n C a v:=by
 unfold Ja at h
 split at h
 . split at h
   . rename_i l hl;simp only[Option.some.injEq] at h;subst h;exact .rI (ou hl)
   . cases h
 . exact wq h
theorem wu {x:Operand} {o:jy} {fr:Fr} {a:Act} {v:AV} (h:mS x=some o) (hF:kK ρ n C fr a.tmps) (hv:um fr o=some v):ax ρ n C v (a.eval x):=by
 unfold mS at h
 split at h
 . rename_i t
   simp only[Option.some.injEq] at h;subst h
   obtain ⟨y,hy,hr⟩:=hF _ _ hv
   rw[gX,Nat.add_sub_cancel] at hy
   simp only[Act.eval,Array.getD_eq_getD_getElem?,hy,Option.getD_some];exact hr
 . split at h
   . rename_i c hc
     simp only[Option.some.injEq] at h;subst h
     simp only[um,Option.some.injEq] at hv;subst hv
     exact N9 hc
   . cases h
 . rename_i f
   simp only[Option.some.injEq] at h;subst h
   simp only[um,Option.some.injEq] at hv;subst hv
   exact .func _ _ _ _ _ rfl rfl (fun _ _ _ h=>by simp at h) (fun _ _ _ h=>by simp at h)
 . cases h
theorem dO: ∀{xs:List Operand} {os:List jy} {fr:Fr} {a:Act} {vs:List AV},iy xs=some os->kK ρ n C fr a.tmps->dK fr os=some vs->aq ρ n C vs (xs.map a.eval)
 |[],os,fr,a,vs,h,_,hv=>by
  simp[iy] at h;subst h
  simp[dK] at hv;subst hv
  exact aq.nil
 |x ::xs,os,fr,a,vs,h,hF,hv=>by
  unfold iy at h
  split at h
  . rename_i o os' h1 h2
    simp only[Option.some.injEq] at h;subst h
    unfold dK at hv
    split at hv
    .   rename_i v OL
        split at hv
        . rename_i Xz Dq
          simp only[Option.some.injEq] at hv;subst hv
          exact aq.cons (wu h1 hF OL) (dO h2 hF Dq)
        . cases hv
    .   cases hv
  . cases h
theorem eu {x:Operand} {o:jy} {fr:Fr} {a:Act} {vs:List AV} (h:mS x=some o) (hF:kK ρ n C fr a.tmps) (hv:dK fr [o]=some vs):
   ∃v,vs=[v]/\ax ρ n C v (a.eval x):=by
 unfold dK at hv
 split at hv
 . rename_i v OL
   simp only[dK,Option.some.injEq] at hv;subst hv
   exact ⟨v,rfl,wu h hF OL⟩
 . cases hv
end
def Yields (N:Next) (x:Value):Prop:=N= .value x\/(N= .skip/\x=undef)
def pE (P:Program) (ρ:Pos->Loc) (C:Cells) (st:St) (w:World) (r:Result Next):b6->Prop
 | .val v=> ∃N x,r= .ok N w/\Yields N x/\ax ρ st.next.toNat C v x
 | .aE v del set new=> ∃N x w' ρ',r= .ok N w'/\Yields N x/\(∀b:Pos,b.toNat<st.next.toNat->ρ' b=ρ b)/\bn ρ' C (st.aE del set new) w'/\
  ax ρ' (st.aE del set new).next.toNat C v x/\jY ρ st w ρ' (st.aE del set new) w'
 | .call f args=> ∃bl:List Value,r=(callFunc f bl.toArray).run P w/\aq ρ st.next.toNat C args bl
end Go.Ai
end
section
namespace Go.Ai
open Go Go.RowKit
theorem j0 (b o i:Nat):(⟨b,o,none⟩:Addr).add i=⟨b,o+i,none⟩:=by
 unfold Addr.add;split
 . rename_i h;subst h;rfl
 . rfl
section
variable {P : Program} {ρ ρ' : Pos -> Loc} {C : Cells} {st : St} {w w' : World}
theorem bn.Lz (hW:bn ρ C st w) {PZ:T AB} {next' b0:Pos} {x0:AB}
  (hn:st.next.toNat<=next'.toNat) (rK:b0.toNat<next'.toNat) (afu:PZ.get b0=some x0)
  (jR: ∀b x,b≠b0->PZ.get b=some x->st.heap.get b=some x/\(ρ b).aA≠(ρ' b0).aA)
  (aL: ∀b:Pos,b.toNat<st.next.toNat->ρ' b=ρ b)
  (hB:kj ρ' next'.toNat C (ρ' b0) w' x0)
  (Hh: ∀a v,C a=some v->a.block≠(ρ' b0).aA)
  (aZ:(ρ' b0).aA<w'.heap.size) (P0:w.heap.size<=w'.heap.size)
  (qE: ∀k,k<w.heap.size->k≠(ρ' b0).aA->w'.heap[k]? =w.heap[k]?):
  bn ρ' C ⟨PZ,next'⟩ w' where
 live b x hb:=by
  by_cases h:b=b0
  .  subst h
     rw[afu] at hb;cases hb
     exact ⟨rK,aZ,hB⟩
  .  obtain ⟨h1,h2⟩:=jR b x h hb
     obtain ⟨h3,h4,h5⟩:=hW.live b x h1
     rw[aL b h3]
     exact ⟨Nat.lt_of_lt_of_le h3 hn,Nat.lt_of_lt_of_le h4 P0,(h5.mono aL hn).of_heap (qE _ h4 h2)⟩
 inj b  b' x x' hb dX he:=by
  by_cases h:b=b0
  .  subst h
     by_cases h':b'=b
     .  exact h'.symm
     .  obtain ⟨h1,h2⟩:=jR b' x' h' dX
        rw[aL b' (hW.live b' x' h1).1] at he
        exact absurd he.symm h2
  .  obtain ⟨h1,h2⟩:=jR b x h hb
     rw[aL b (hW.live b x h1).1] at he
     by_cases h':b'=b0
     .  subst h';exact absurd he h2
     .  obtain ⟨OM,ON⟩:=jR b' x' h' dX
        rw[aL b' (hW.live b' x' OM).1] at he
        exact hW.inj b b' x x' h1 OM he
 cj a v ha:=by
  obtain ⟨h1,h2⟩:=hW.cj a v ha
  have Bt:a.block<w.heap.size:=World.block_lt_of_cell? _ _ h1
  refine ⟨?_,fun b x hb=> ?_⟩
  .  rw[World.cell?_of_block (w:=w) (qE _ Bt (Hh a v ha))];exact h1
  .  by_cases h:b=b0
     .  subst h;exact fun e=>Hh a v ha e.symm
     .  obtain ⟨h3,_⟩:=jR b x h hb
        rw[aL b (hW.live b x h3).1];exact h2 b x h3
 whole a v ha o ho:=by
  have jv:a.block<w.heap.size:=World.block_lt_of_cell? _ _ (hW.cj a v ha).1
  rw[World.cell?_of_block (w:=w) (a:=⟨a.block,o,none⟩) (qE _ jv (Hh a v ha))];exact hW.whole a v ha o ho
theorem bn.cell (hW:bn ρ C st w) {b:Pos} {cs:List AV} {fz:Nat} (hb:st.heap.get b=some (.cells cs fz)) {i:Nat} {v:AV} (hv:cs[i]? =some v):
  ∃x,w.cell? ⟨(ρ b).aA,(ρ b).base+i,none⟩=some x/\ax ρ st.next.toNat C v x:=by
 obtain ⟨_,_,c,e,fr,h1,h2,h3,h4,_⟩:=hW.live b _ hb
 obtain ⟨x,hx,hr⟩:=h4.get hv
 have hi:i<cs.length:=(List.getElem?_eq_some_iff.1 hv).1
 rw[List.getElem?_take,if_pos hi,List.getElem?_drop] at hx
 exact ⟨x,by simp[World.cell?,h1, <-hx],hr⟩
theorem bn.afv (hW:bn ρ C st w) {b:Pos} {cs:List AV} {t:TypeId} (hb:st.heap.get b=some (.typed t cs)) {i:Nat} {v:AV} (hv:cs[i]? =some v):
  ∃x,w.cell? ⟨(ρ b).aA,(ρ b).base+i,none⟩=some x/\ax ρ st.next.toNat C v x:=by
 obtain ⟨_,_,c,fr,h1,h2,h3,h4,_⟩:=hW.live b _ hb
 obtain ⟨x,hx,hr⟩:=h4.get hv
 have hi:i<cs.length:=(List.getElem?_eq_some_iff.1 hv).1
 rw[List.getElem?_take,if_pos hi,List.getElem?_drop] at hx
 exact ⟨x,by simp[World.cell?,h1, <-hx],hr⟩
theorem uq {α:Type} {l l':List α} {i n:Nat} (h:cut l i n=some l'):l'=(l.drop i).take n/\i+n<=l.length:=by
 unfold cut at h;split at h
 . rename_i hb;cases h;exact ⟨rfl,Nat.le_of_ble_eq_true hb⟩
 . cases h
theorem nY {α:Type} {l l':List α} {i n:Nat} (h:cut l i n=some l'):l'.length=n:=by
 obtain ⟨rfl,h2⟩:=uq h;simp;omega
theorem bn.loadCells (hW:bn ρ C st w) {b:Pos} {cs vs:List AV} {fz off n:Nat} (hb:st.heap.get b=some (.cells cs fz)) (hc:cut cs off n=some vs):
  ∃ys:List Value,(Go.loadCells ⟨(ρ b).aA,(ρ b).base+off,none⟩ n).run P w= .ok ys.toArray w/\aq ρ st.next.toNat C vs ys:=by
 obtain ⟨_,_,c,e,fr,h1,h2,h3,h4,_⟩:=hW.live b _ hb
 obtain ⟨lS,hle⟩:=uq hc
 have hr:=(h4.drop off).take n
 rw[<-lS] at hr
 refine ⟨_,?_,hr⟩
 have hlen:(List.take n (List.drop off (List.take cs.length (List.drop (ρ b).base c.toList)))).length=n:=by
  rw[<-hr.1];exact nY hc
 conv=>lhs;rw[<-hlen]
 refine run_loadCells_list w _ _ fun j v hj=> ?_
 have Dr:j<n:=by rw[<-hlen];exact (List.getElem?_eq_some_iff.1 hj).1
 rw[List.getElem?_take,if_pos Dr,List.getElem?_drop,List.getElem?_take,if_pos (by omega),List.getElem?_drop] at hj
 rw[j0]
 simp[World.cell?,h1, <-hj,Nat.add_assoc]
theorem bn.Hi (hW:bn ρ C st w) {b:Pos} {cs vs:List AV} {t:TypeId} {off n:Nat} (hb:st.heap.get b=some (.typed t cs)) (hc:cut cs off n=some vs):
  ∃ys:List Value,(Go.loadCells ⟨(ρ b).aA,(ρ b).base+off,none⟩ n).run P w= .ok ys.toArray w/\aq ρ st.next.toNat C vs ys:=by
 obtain ⟨_,_,c,fr,h1,h2,h3,h4,_⟩:=hW.live b _ hb
 obtain ⟨lS,hle⟩:=uq hc
 have hr:=(h4.drop off).take n
 rw[<-lS] at hr
 refine ⟨_,?_,hr⟩
 have hlen:(List.take n (List.drop off (List.take cs.length (List.drop (ρ b).base c.toList)))).length=n:=by
  rw[<-hr.1];exact nY hc
 conv=>lhs;rw[<-hlen]
 refine run_loadCells_list w _ _ fun j v hj=> ?_
 have Dr:j<n:=by rw[<-hlen];exact (List.getElem?_eq_some_iff.1 hj).1
 rw[List.getElem?_take,if_pos Dr,List.getElem?_drop,List.getElem?_take,if_pos (by omega),List.getElem?_drop] at hj
 rw[j0]
 simp[World.cell?,h1, <-hj,Nat.add_assoc]
theorem iP (g e:Nat) (fr:Nat×Nat): ∀(vs:List Value) (i o:Nat) (cur:Array Value) (w:World),w.heap[g]? =some (.cells cur e fr)->o+i+vs.length<=cur.size->
  (∀v∈vs,v.oneCell'=true)->(∀k,o+i<=k->k<cur.size-> ¬(fr.1<=k/\k<fr.2))->
  ∃ w',(storeCells ⟨g,o,none⟩ vs i).run P w= .ok () w'/\w'.heap[g]? =some (.cells (aO cur.toList (o+i) vs).toArray e fr)/\
    w'.heap.size=w.heap.size/\(∀k,k≠g->w'.heap[k]? =w.heap[k]?)/\w'.os=w.os/\w'.tape=w.tape/\w'.output=w.output
 |[],i,o,cur,w,hg,_,_,_=>⟨w,by simp[storeCells],by rw[hg];simp[aO,List.take_append_drop],rfl,fun _ _=>rfl,rfl,rfl,rfl⟩
 |v ::vs,i,o,cur,w,hg,hle,h1,hf=>by
  simp only[List.length_cons] at hle
  have hv:v.oneCell'=true:=h1 v (by simp)
  have tV:w.cell? ⟨g,o+i,none⟩=some (cur[o+i]'(by omega)):=by simp[World.cell?,hg]
  have RF:w.frozen? ⟨g,o+i,none⟩=false:=by
    have:=hf (o+i) (Nat.le_refl _) (by omega)
    simp only[World.frozen?,hg]
    simpa using this
  have rL:(w.setCell ⟨g,o+i,none⟩ v).heap[g]? =some (.cells (cur.setIfInBounds (o+i) v) e fr):=by
    simp[World.setCell,Array.getElem?_modify,hg]
  obtain ⟨w',h2,h3,h4,h5,h6,h7,h8⟩:=iP g e fr vs (i+1) o _ _ rL (by simp;omega) (fun v hv=>h1 v (by simp[hv])) (by
    intro k hk nH;simp at nH;exact hf k (by omega) nH)
  refine ⟨w',?_,?_,by simp[h4],fun k hk=> ?_,h6,h7,h8⟩
  . simp only[storeCells,Sem.run_bind,j0,run_store P w _ _ _ hv,tV,RF]
    simpa using h2
  . rw[h3]
    congr 2
    simp only[aO,List.length_cons,Array.toList_setIfInBounds]
    rw[List.drop_set_of_lt (by omega)]
    have:o+(i+1)=(o+i)+1:=by omega
    rw[this,List.take_set,List.take_add_one]
    have aZ:o+i<cur.toList.length:=by simp;omega
    rw[List.getElem?_eq_getElem aZ]
    simp only[Option.toList_some,List.set_append,List.length_take]
    have hm:min (o+i) cur.toList.length=o+i:=Nat.min_eq_left (Nat.le_of_lt aZ)
    rw[hm,if_neg (Nat.lt_irrefl _),Nat.sub_self]
    simp
    rw[show o+i+1+vs.length=o+i+(vs.length+1) from by omega]
  . rw[h5 k hk,Below.heap_setCell _ _ _ _ (by simpa using hk)]
end
end Go.Ai
end
section
namespace Go.Ai
open Go Go.RowKit
section
variable {P : Program} {tt : TT} {ρ : Pos -> Loc} {C : Cells} {st : St} {w : World} {n : Nat}
theorem Yields.value (x:Value):Yields (.value x) x:= .inl rfl
theorem pE.pure {v:AV} {x:Value} {r:Result Next} (h:r= .ok (.value x) w) (hv:ax ρ st.next.toNat C v x):pE P ρ C st w r (.val v):=
 ⟨_,x,h,Yields.value x,hv⟩
theorem ax.gy {k:IntKind} {i:Int} {x:Value} (h:ax ρ n C (.int k i) x):x= .int k i:=by cases h;rfl
theorem ax.gQ {b:Bool} {x:Value} (h:ax ρ n C (.bool b) x):x= .bool b:=by cases h;rfl
theorem ax.cv {s:List Nat} {x:Value} (h:ax ρ n C (.str s) x): ∃bs:ByteArray,x= .string bs/\bs.data.toList.map UInt8.toNat=s:=by
 cases h with|str _ bs h=>exact ⟨bs,rfl,h⟩
theorem ax.nZ {x:Value} (h:ax ρ n C .bF x):x= .pointer none:=by cases h;rfl
theorem ax.eW {x:Value} (h:ax ρ n C .ai x):x= .slice none 0 0:=by cases h;rfl
theorem ax.tC {x:Value} (h:ax ρ n C .gh x):x= .map none:=by cases h;rfl
theorem ax.Bu {x:Value} (h:ax ρ n C .av x):x= .nilFunc:=by cases h;rfl
theorem ax.LA {x:Value} (h:ax ρ n C .lp x):x= .nilIface:=by cases h;rfl
theorem ax.eN {b:Pos} {off:Nat} {x:Value} (h:ax ρ n C (.ptr b off) x):b.toNat<n/\x= .pointer (some ⟨(ρ b).aA,(ρ b).base+off,none⟩):=by
 cases h with|ptr _ _ h=>exact ⟨h,rfl⟩
theorem ax.tD {b:Pos} {x:Value} (h:ax ρ n C (.map b) x):b.toNat<n/\x= .map (some (ρ b).aA):=by
 cases h with|map _ h=>exact ⟨h,rfl⟩
theorem ax.JL {t:TypeId} {v:AV} {x:Value} (h:ax ρ n C (.iface t v) x): ∃y,x= .iface t y/\ax ρ n C v y:=by
 cases h with|iface _ _ y h=>exact ⟨y,rfl,h⟩
theorem ax.cE {b:Pos} {off len es:Nat} {cap:Option Nat} {x:Value} (h:ax ρ n C (.slice b off len cap es) x):
  ∃(a:Addr) (aH:Nat),x= .slice (some a) len aH/\len<=aH/\(∀c,cap=some c->c=aH)/\
   (aH≠0->b.toNat<n/\a=⟨(ρ b).aA,(ρ b).base+off,none⟩/\(ρ b).base+off+aH*es<=(ρ b).size):=by
 cases h with|slice _ _ _ _ _ aH a hl hc ha _=>exact ⟨a,aH,rfl,hl,hc,ha⟩
theorem ax.JM {b:Pos} {off len es:Nat} {cap:Option Nat} {x:Value} (h:ax ρ n C (.slice b off len cap es) x):cap=none->b.toNat<n:=by
 cases h with|slice _ _ _ _ _ _ _ _ _ _ hk=>exact hk
theorem ax.oU {xs:List (List AV)} {es:Nat} {x:Value} (h:ax ρ n C (.fl xs es) x):
  ∃(a:Addr) (aH:Nat) (cell:Nat->Nat->Value),x= .slice (some a) xs.length aH/\xs.length<=aH/\(xs≠[]->a.spot=none)/\
   (∀(i:Nat) (cs:List AV),xs[i]? =some cs->cs.length=es)/\
   (∀(i j:Nat) (cs:List AV) (v:AV),xs[i]? =some cs->cs[j]? =some v->C ⟨a.block,a.off+i*es+j,none⟩=some (cell i j))/\
   (∀(i j:Nat) (cs:List AV) (v:AV),xs[i]? =some cs->cs[j]? =some v->ax ρ n C v (cell i j)):=by
 cases h with|fl _ _ aH a cell hl hs fE hc hv=>exact ⟨a,aH,cell,rfl,hl,hs,fE,hc,hv⟩
theorem ax.zI {xs:List (List AV)} {i j:Nat} {x:Value} (h:ax ρ n C (.fp xs i j) x):
  ∃(es aA base:Nat) (cell:Nat->Nat->Value),x= .pointer (some ⟨aA,base+i*es+j,none⟩)/\
   (∀(i:Nat) (cs:List AV),xs[i]? =some cs->cs.length=es)/\
   (∀(i j:Nat) (cs:List AV) (v:AV),xs[i]? =some cs->cs[j]? =some v->C ⟨aA,base+i*es+j,none⟩=some (cell i j))/\
   (∀(i j:Nat) (cs:List AV) (v:AV),xs[i]? =some cs->cs[j]? =some v->ax ρ n C v (cell i j)):=by
 cases h with|fp _ _ _ es aA base cell hl hc hv=>exact ⟨es,aA,base,cell,rfl,hl,hc,hv⟩
theorem oV (k:IntKind) (i:Int):aW k i=k.wrap i:=by
 unfold aW
 split
 . rename_i h1 _
   split
   . rename_i h2 _
     cases k<;>simp only[sI,OI] at h1 h2<;>simp only[IntKind.wrap,IntKind.bits,IntKind.signed]<;>simp<;>omega
   . rfl
 . rfl
theorem gR (a b:Int):qm a b=(a==b):=by
 unfold qm;split
 . rename_i h _;subst h;simp
 . rename_i h _;simp[h]
theorem fP (a b:Int):tT a b=decide (a<b):=by
 unfold tT;split<;>(rename_i h _;simp[h])
theorem kN (a b:Int):K9 a b=decide (a<=b):=by
 unfold K9;split<;>(rename_i h _;simp[h])
theorem fU: ∀{a b:List Nat},fT a b=true↔a=b
 |[],[]=>by simp[fT]
 |[],_::_=>by simp[fT]
 |_::_,[]=>by simp[fT]
 |a::x,b::y=>by
  unfold fT
  split
  . rename_i h;have:=Nat.eq_of_beq_eq_true h;subst this;simp[fU (a:=x) (b:=y)]
  . rename_i h;have:=Nat.ne_of_beq_eq_false h;simp[this]
theorem zJ: ∀{a b:List UInt8},a.map UInt8.toNat=b.map UInt8.toNat->a=b
 |[],[],_=>rfl
 |[],_::_,h=>by simp at h
 |_::_,[],h=>by simp at h
 |a::x,b::y,h=>by
  simp at h
  rw[UInt8.toNat_inj.1 h.1,zJ h.2]
theorem toList_data (b:ByteArray):b.toList=b.data.toList:=ByteArray.toList_eq b
theorem oF: ∀(x y:List UInt8),dY (x.map UInt8.toNat) (y.map UInt8.toNat)=Op.bytesLess x y
 |[],[]=>by simp[dY,Op.bytesLess]
 |_::_,[]=>by simp[dY,Op.bytesLess]
 |[],_::_=>by simp[dY,Op.bytesLess]
 |a ::x,b::y=>by
  simp only[List.map_cons,dY,Op.bytesLess]
  split
  . rename_i h
    have:a<b:=by rw[UInt8.lt_iff_toNat_lt];simpa using h
    simp[this]
  . rename_i h
    have h1: ¬a<b:=by
        rw[UInt8.lt_iff_toNat_lt];intro h'
        have h2:Nat.blt a.toNat b.toNat=true:=by simpa using h'
        rw[h2] at h;cases h
    split
    .   rename_i h2
        have:a=b:=UInt8.toNat_inj.1 (Nat.eq_of_beq_eq_true h2)
        subst this;simp only[h1,decide_false,Bool.false_or,beq_self_eq_true,Bool.true_and];exact oF x y
    .   rename_i h2
        have:a≠b:=fun e=>Nat.ne_of_beq_eq_false h2 (by rw[e])
        simp[h1,this]
theorem zK {a b:List Nat} {x y:ByteArray} (hx:x.data.toList.map UInt8.toNat=a) (hy:y.data.toList.map UInt8.toNat=b):(x.toList==y.toList)=fT a b:=by
 rw[toList_data,toList_data,Bool.eq_iff_iff,fU,beq_iff_eq, <-hx, <-hy]
 exact ⟨fun h=>by rw[h],fun h=>zJ h⟩
theorem F6 {a b:List Nat} {x y:ByteArray} (hx:x.data.toList.map UInt8.toNat=a) (hy:y.data.toList.map UInt8.toNat=b):Op.bytesLess x.toList y.toList=dY a b:=by
 rw[toList_data,toList_data, <-hx, <-hy,oF]
theorem qF {a:List Nat} {x:ByteArray} (hx:x.data.toList.map UInt8.toNat=a):x.size=a.length:=by
 rw[<-hx,List.length_map,Array.length_toList];rfl
def PK.fits:PK->TypeDesc->Bool
 | .b,.bool=>true
 | .i,.int _=>true
 | .s,.string=>true
 |_,_=>false
theorem LB {t:TypeId} {d:TypeDesc} (hd:P.underlying t=some d) {pk:PK} (hk:pk.fits d=true) {a b:AV} {x y:Value} {r:Bool} {m:Nat}
   (ha:ax ρ n C a x) (hb:ax ρ n C b y) (h:uU pk a b=some r) (w:World):(Op.equalIn (m+1) t x y).run P w= .ok r w:=by
 unfold uU at h
 split at h
 . simp only[Option.some.injEq] at h;subst h
   rw[ha.gQ,hb.gQ]
   cases d<;>simp[PK.fits] at hk
   rw[run_equalIn_bool' w m t _ _ hd]
 . split at h
   . rename_i nH;have:=qV nH;subst this
     simp only[Option.some.injEq] at h;subst h
     rw[ha.gy,hb.gy]
     cases d<;>simp[PK.fits] at hk
     rw[run_equalIn_int w m t _ _ _ _ hd,gR]
   . cases h
 . simp only[Option.some.injEq] at h;subst h
   obtain ⟨bx,rfl,h1⟩:=ha.cv
   obtain ⟨bz,rfl,h2⟩:=hb.cv
   cases d<;>simp[PK.fits] at hk
   rw[run_equalIn_string w m t _ _ hd,zK h1 h2]
 . cases h
theorem Ds: ∀{fs:List (Nat×Nat×Bool)} {l:List (Nat×PK)} {gs:List Field} {xs ys:List AV} {cx cy:Array Value} {r:Bool} {m:Nat} (_hT:bZ P tt)
  (_hm:bw.dc fs gs=true) (_hf:rE.fields tt fs=some l) (_hx:aq ρ n C xs cx.toList) (_hy:aq ρ n C ys cy.toList) (_h:eqFields xs ys l=some r) (w:World),
  (Op.eqFields (m+1) cx cy gs).run P w= .ok r w
 |[],l,gs,xs,ys,cx,cy,r,m,hT,hm,hf,hx,hy,h,w=>by
  cases gs with
  |cons f gs=>simp[bw.dc] at hm
  | nil=>
    simp[rE.fields] at hf;subst hf
    simp[eqFields] at h;subst h
    simp[Op.eqFields]
 |(off  , t,named)::fs,l,gs,xs,ys,cx,cy,r,m,hT,hm,hf,hx,hy,h,w=>by
  cases gs with
  |nil=>simp[bw.dc] at hm
  | cons f gs=>
    simp[bw.dc] at hm
    obtain ⟨⟨⟨ho,ht⟩,hn⟩,RN⟩:=hm
    unfold rE.fields at hf
    split at hf<;>first|(cases hf;done)|skip
    rename_i ti l' b7 OO
    obtain ⟨d,hd,bM⟩:=(hT.at b7).und
    have key: ∃pk,l=(off,pk)::l'/\pk.fits d=true/\(isAgg t).run P w= .ok false w:=by
        have mK:=F5 bM w hd
        split at hf<;>first|(cases hf;done)|skip
        all_goals
          rename_i hk
          simp only[Option.some.injEq] at hf
          rw[hk] at bM mK
          refine ⟨_,hf.symm,?_,mK⟩
        . rw[Jc bM];rfl
        . rw[zH bM];rfl
        . rw[kC bM];rfl
    obtain ⟨pk,rfl,lq,mK⟩:=key
    have bO:f.name≠ "_" :=by intro e;rw[e] at hn;simp at hn
    unfold eqFields at h
    split at h<;>first|(cases h;done)|skip
    rename_i a b ha hb
    rw[jZ] at ha hb
    obtain ⟨x,XA,OP⟩:=hx.get ha
    obtain ⟨y,Fk,Fl⟩:=hy.get hb
    have px:(part f.type cx f.offset).run P w= .ok x w:=by
        rw[<-ht, <-ho];simp at XA;simp[part,mK,XA]
    have py:(part f.type cy f.offset).run P w= .ok y w:=by
        rw[<-ht, <-ho];simp at Fk;simp[part,mK,Fk]
    simp only[Op.eqFields,Sem.run_bind,Sem.run_ite,bO,px,py,Result.andThen_ok,ne_eq,not_false_eq_true,if_true]
    split at h
    .   rename_i he
        rw[<-ht,LB hd lq OP Fl he w]
        simpa using Ds (m:=m) hT RN OO hx hy h w
    .   rename_i he
        simp only[Option.some.injEq] at h;subst h
        rw[<-ht,LB hd lq OP Fl he w]
        simp
    .   cases h
def XB (tt:TT) (op:BinOp) (q:iI) (t:TypeId):Prop:=rE tt t=some q\/(q= .num/\op≠ .eql/\op≠ .neq)
def afw (P:Program) (tt:TT) (t:TypeId):iI->Prop
 | .num=>True
 | .bool=>P.underlying t=some .bool
 | .ptr=> ∃e,P.underlying t=some (.pointer e)/\ ∃j,P.info? e=some j
 | .slice=> ∃e,P.underlying t=some (.slice e)
 | .map=> ∃k e,P.underlying t=some (.map k e)
 | .func=> ∃a b c,P.underlying t=some (.func a b c)
 | .iface=> ∃a,P.underlying t=some (.interface a)
 | .struct l=> ∃fs gs,P.underlying t=some (.struct gs)/\bw.dc fs gs.toList=true/\rE.fields tt fs=some l/\P.stoodInHeld t=false/\P.eqGuardType P.depth t=false
theorem OQ (hT:bZ P tt) {t:TypeId} {q:iI} (hq:rE tt t=some q):afw P tt t q:=by
 unfold rE at hq
 split at hq<;>first|(cases hq;done)|skip
 rename_i ti b7
 obtain ⟨d,hd,bM⟩:=(hT.at b7).und
 split at hq<;>first|(cases hq;done)|skip
 all_goals rename_i hk
 all_goals rw[hk] at bM
 . simp only[Option.some.injEq] at hq;subst hq;rw[Jc bM] at hd;exact hd
 . simp only[Option.some.injEq] at hq;subst hq;trivial
 . simp only[Option.some.injEq] at hq;subst hq;trivial
 . simp only[Option.some.injEq] at hq;subst hq;rw[Hg bM] at hd;exact ⟨_,hd,(hT.at b7).elem _ hk⟩
 . simp only[Option.some.injEq] at hq;subst hq;rw[kL bM] at hd;exact ⟨_,hd⟩
 . simp only[Option.some.injEq] at hq;subst hq;rw[Dp bM] at hd;exact ⟨_,_,hd⟩
 . simp only[Option.some.injEq] at hq;subst hq;obtain ⟨_,_,_,rfl⟩:=YQ bM;exact ⟨_,_,_,hd⟩
 . simp only[Option.some.injEq] at hq;subst hq;obtain ⟨_,rfl⟩:=US bM;exact ⟨_,hd⟩
 . split at hq<;>first|(cases hq;done)|skip
   rename_i fs _ _ l hp hl
   simp only[Option.some.injEq] at hq;subst hq
   obtain ⟨gs,rfl,hm⟩:=xW bM
   exact ⟨fs,gs,hd,hm,hl,(hT.at b7).eqs hp⟩
theorem P4 (m:Nat) (hT:bZ P tt) {t:TypeId} {q:iI} (hq:rE tt t=some q) {a b:AV} {x y:Value} {r:Bool} (ha:ax ρ n C a x) (hb:ax ρ n C b y) (h:yQ q a b=some r) (w:World):
   (Op.equalIn (m+1+1) t x y).run P w= .ok r w:=by
 have hi:=OQ hT hq
 clear hq
 unfold yQ at h
 split at h<;>first|(cases h;done)|skip
 . simp only[Option.some.injEq] at h;subst h
   rw[ha.gQ,hb.gQ,run_equalIn_bool' w _ t _ _ hi]
 all_goals first
   |(simp only[Option.some.injEq] at h;subst h)
   |skip
 . obtain ⟨e,hd,_⟩:=hi;rw[ha.nZ,hb.nZ];(unfold Op.equalIn;rw[Sem.run_bind,aK hd];rfl)
 . obtain ⟨e,hd,_⟩:=hi;obtain ⟨_,hb⟩:=hb.eN;rw[ha.nZ,hb];(unfold Op.equalIn;rw[Sem.run_bind,aK hd];rfl)
 . obtain ⟨e,hd,_⟩:=hi;obtain ⟨_,ha⟩:=ha.eN;rw[hb.nZ,ha];(unfold Op.equalIn;rw[Sem.run_bind,aK hd];rfl)
 . obtain ⟨e,hd,_⟩:=hi;obtain ⟨_,_,_,_,hb,_⟩:=hb.zI;rw[ha.nZ,hb];(unfold Op.equalIn;rw[Sem.run_bind,aK hd];rfl)
 . obtain ⟨e,hd,_⟩:=hi;obtain ⟨_,_,_,_,ha,_⟩:=ha.zI;rw[hb.nZ,ha];(unfold Op.equalIn;rw[Sem.run_bind,aK hd];rfl)
 . obtain ⟨e,hd,j,hj⟩:=hi
   split at h<;>first|(cases h;done)|skip
   rename_i e1 e2
   have e1:=Pos.beq_eq.1 e1
   have e2:=Nat.eq_of_beq_eq_true e2
   subst e1;subst e2
   simp only[Option.some.injEq] at h;subst h
   obtain ⟨_,ha⟩:=ha.eN;obtain ⟨_,hb⟩:=hb.eN;rw[ha,hb]
   simp[Op.equalIn,aK hd,sizeOf,typeInfo,hj,run_sameAddr_same]
 . obtain ⟨e,hd⟩:=hi;rw[ha.eW,hb.eW];(unfold Op.equalIn;rw[Sem.run_bind,aK hd];rfl)
 . obtain ⟨e,hd⟩:=hi;obtain ⟨_,_,hb,_⟩:=hb.cE;rw[ha.eW,hb];(unfold Op.equalIn;rw[Sem.run_bind,aK hd];rfl)
 . obtain ⟨e,hd⟩:=hi;obtain ⟨_,_,ha,_⟩:=ha.cE;rw[hb.eW,ha];(unfold Op.equalIn;rw[Sem.run_bind,aK hd];rfl)
 . obtain ⟨e,hd⟩:=hi;obtain ⟨_,_,_,hb,_⟩:=hb.oU;rw[ha.eW,hb];(unfold Op.equalIn;rw[Sem.run_bind,aK hd];rfl)
 . obtain ⟨e,hd⟩:=hi;obtain ⟨_,_,_,ha,_⟩:=ha.oU;rw[hb.eW,ha];(unfold Op.equalIn;rw[Sem.run_bind,aK hd];rfl)
 . obtain ⟨k,e,hd⟩:=hi;rw[ha.tC,hb.tC];(unfold Op.equalIn;rw[Sem.run_bind,aK hd];rfl)
 . obtain ⟨k,e,hd⟩:=hi;obtain ⟨_,hb⟩:=hb.tD;rw[ha.tC,hb];(unfold Op.equalIn;rw[Sem.run_bind,aK hd];rfl)
 . obtain ⟨k,e,hd⟩:=hi;obtain ⟨_,ha⟩:=ha.tD;rw[hb.tC,ha];(unfold Op.equalIn;rw[Sem.run_bind,aK hd];rfl)
 . obtain ⟨_,_,_,hd⟩:=hi;rw[ha.Bu,hb.Bu];(unfold Op.equalIn;rw[Sem.run_bind,aK hd];rfl)
 . obtain ⟨_,_,_,hd⟩:=hi;obtain ⟨_,_,hb,_⟩:=hb.Bn;rw[ha.Bu,hb];(unfold Op.equalIn;rw[Sem.run_bind,aK hd];rfl)
 . obtain ⟨_,_,_,hd⟩:=hi;obtain ⟨_,_,ha,_⟩:=ha.Bn;rw[hb.Bu,ha];(unfold Op.equalIn;rw[Sem.run_bind,aK hd];rfl)
 . obtain ⟨_,hd⟩:=hi;obtain ⟨_,hb,_⟩:=hb.JL;rw[ha.LA,hb];(unfold Op.equalIn;rw[Sem.run_bind,aK hd];rfl)
 . obtain ⟨_,hd⟩:=hi;obtain ⟨_,ha,_⟩:=ha.JL;rw[hb.LA,ha];(unfold Op.equalIn;rw[Sem.run_bind,aK hd];rfl)
 . obtain ⟨fs,gs,hd,hm,hl,hp,_⟩:=hi
   obtain ⟨cx,rfl,hx⟩:=ha.tr
   obtain ⟨cy,rfl,hy⟩:=hb.tr
   have hfo:P.fieldsOf t=gs:=by simp[Program.fieldsOf,hd]
   rw[run_equalIn_agg w (m+1) t cx cy (by rw[hfo,hd]) hp,hfo]
   exact Ds (m:=m) hT hm hl hx hy h w
theorem LC (hT:bZ P tt) {t:TypeId} {q:iI} (hq:rE tt t=some q) {a b:AV} {x y:Value} {r:Bool} (ha:ax ρ n C a x) (hb:ax ρ n C b y) (h:yQ q a b=some r) (w:World):
 (Op.equal t x y).run P w= .ok r w:=P4 9998 hT hq ha hb h w
theorem Hj (hT:bZ P tt) {t:TypeId} {q:iI} (hq:rE tt t=some q) {a b:AV} {x y:Value} {r:Bool} (ha:ax ρ n C a x) (hb:ax ρ n C b y) (h:yQ q a b=some r) (op:BinOp) (ox oy:Operand) (w:World):
  (eqGuard op t ox oy x y).run P w= .ok () w:=by
 have hi:=OQ hT hq
 clear hq
 unfold yQ at h
 split at h<;>first|(cases h;done)|skip
 all_goals first
  |(obtain ⟨fs,gs,hd,hm,hl,hp,hg⟩:=hi
    obtain ⟨cx,rfl,hx⟩:=ha.tr
    obtain ⟨cy,rfl,hy⟩:=hb.tr
    exact run_eqGuard_agg w op t ox oy cx cy hg)
  |(cases ha<;>cases hb<;>cases op<;>rfl)
end
end Go.Ai
end
section
namespace Go.Ai
open Go Go.RowKit
section
variable {P : Program} {tt : TT} {ρ : Pos -> Loc} {C : Cells} {st : St} {w : World} {n : Nat}
theorem KQ (op:BinOp) (t:TypeId) (k:IntKind) (i j:Int) (hs:op≠ .shl) (hr:op≠ .shr):(binOp op t (.int k i) (.int k j)).run P w=
  (match op with
   | .add| .sub| .mul=>Op.intArith op k i j
   | .quo| .rem=>Op.intDiv op k i j
   | .and| .or| .xor| .andNot=>Op.intBits op k i j
   |_=>Op.intCmp op i j).run P w:=by
 cases op<;>first|(exact absurd rfl hs)|(exact absurd rfl hr)|simp[binOp]
theorem UT (hT:bZ P tt) {op:BinOp} {t:TypeId} {q:iI} (hq:XB tt op q t) {a b v:AV} {x y:Value} (ha:ax ρ n C a x) (hb:ax ρ n C b y) (h:mz op q a b=some v) (ox oy:Operand):
  ∃z,(do eqGuard op t ox oy x y;binOp op t x y:Sem Value).run P w= .ok z w/\ax ρ n C v z:=by
 unfold mz at h
 split at h
 ·
  rename_i k i k' j
  rw[ha.gy,hb.gy]
  have hg: ∀op,(eqGuard op t ox oy (.int k i) (.int k' j)).run P w= .ok () w:=by intro op;cases op<;>rfl
  rw[Sem.run_bind,hg,Result.andThen_ok]
  split at h
  . split at h
    .   cases h
    .   rename_i aZ
        rw[fP] at aZ;have aZ:=of_decide_eq_false aZ
        simp only[Option.some.injEq] at h;subst h
        exact ⟨_,by simp[binOp,Op.shift,aZ,oV],.int _ _⟩
  . split at h
    .   cases h
    .   rename_i aZ
        rw[fP] at aZ;have aZ:=of_decide_eq_false aZ
        simp only[Option.some.injEq] at h;subst h
        exact ⟨_,by simp[binOp,Op.shift,aZ],.int _ _⟩
  . rename_i hs hr
    split at h
    .   cases h
    .   rename_i hk
        have:=qV hk;subst this
        rw[KQ op t k i j (fun e=>hs e) (fun e=>hr e)]
        split at h
        . simp only[Option.some.injEq] at h;subst h;exact ⟨_,by simp[Op.intArith,oV],.int _ _⟩
        . simp only[Option.some.injEq] at h;subst h;exact ⟨_,by simp[Op.intArith,oV],.int _ _⟩
        . simp only[Option.some.injEq] at h;subst h;exact ⟨_,by simp[Op.intArith,oV],.int _ _⟩
        . split at h
          . cases h
          . rename_i h0;rw[gR] at h0;have h0': ¬j=0:=by simpa using h0
            simp only[Option.some.injEq] at h;subst h;exact ⟨_,by simp[Op.intDiv,h0',oV],.int _ _⟩
        . split at h
          . cases h
          . rename_i h0;rw[gR] at h0;have h0': ¬j=0:=by simpa using h0
            simp only[Option.some.injEq] at h;subst h;exact ⟨_,by simp[Op.intDiv,h0'],.int _ _⟩
        . simp only[Option.some.injEq] at h;subst h;exact ⟨_,by simp[Op.intBits],.int _ _⟩
        . simp only[Option.some.injEq] at h;subst h;exact ⟨_,by simp[Op.intBits],.int _ _⟩
        . simp only[Option.some.injEq] at h;subst h;exact ⟨_,by simp[Op.intBits],.int _ _⟩
        . simp only[Option.some.injEq] at h;subst h;exact ⟨_,by simp[Op.intBits],.int _ _⟩
        . simp only[Option.some.injEq] at h;subst h;exact ⟨_,by simp[Op.intCmp,gR],.bool _⟩
        . simp only[Option.some.injEq] at h;subst h;refine ⟨_,rfl,?_⟩;rw[gR];exact .bool _
        . simp only[Option.some.injEq] at h;subst h;refine ⟨_,rfl,?_⟩;rw[fP];exact .bool _
        . simp only[Option.some.injEq] at h;subst h;refine ⟨_,rfl,?_⟩;rw[kN];exact .bool _
        . simp only[Option.some.injEq] at h;subst h;refine ⟨_,rfl,?_⟩;rw[fP];exact .bool _
        . simp only[Option.some.injEq] at h;subst h;refine ⟨_,rfl,?_⟩;rw[kN];exact .bool _
        . cases h
 ·
  rename_i s u
  obtain ⟨bx,rfl,h1⟩:=ha.cv
  obtain ⟨bz,rfl,h2⟩:=hb.cv
  have hg: ∀op,(eqGuard op t ox oy (.string bx) (.string bz)).run P w= .ok () w:=by intro op;cases op<;>rfl
  rw[Sem.run_bind,hg,Result.andThen_ok]
  have hs:(binOp op t (.string bx) (.string bz)).run P w=(Op.stringOp op bx bz).run P w:=by cases op<;>rfl
  rw[hs]
  have e1:=zK h1 h2
  have e2:=F6 h1 h2
  split at h
  . split at h
    .   rename_i hb
        have hb:=Nat.le_of_ble_eq_true hb
        simp only[Option.some.injEq] at h;subst h
        have jz: ¬(((bx.size+bz.size:Nat):Int)>IntKind.i64.max):=by
          rw[qF h1,qF h2];simp[IntKind.max,IntKind.signed,IntKind.bits];omega
        refine ⟨.string (bx++bz),?_,.str _ _ ?_⟩
        . simp only[Op.stringOp];rw[if_neg jz];rfl
        . rw[ByteArray.data_append,Array.toList_append,List.map_append,h1,h2]
    .   cases h
  all_goals first|(cases h;done)|skip
  all_goals
    simp only[Option.some.injEq] at h;subst h
    refine ⟨_,rfl,?_⟩
    first|rw[e1,e2]|rw[e1]|rw[e2]
    exact .bool _
 ·
  rename_i hni Fj
  have xX: ∀op,(op= .eql\/op= .neq)->(binOp op t x y).run P w=((Op.equal t x y).run P w).andThen fun r w'=> .ok (.bool (if op= .eql then r else !r)) w':=by
    rintro op (rfl|rfl)
    all_goals
        cases ha<;>cases hb<;>first
          |(exact (hni _ _ _ _ rfl rfl).elim)
          |(exact (Fj _ _ rfl rfl).elim)
          |simp[binOp]
  split at h
  . split at h
    .   rename_i r hr
        simp only[Option.some.injEq] at h;subst h
        rcases hq with hq|⟨_,hq,_⟩
        . refine ⟨.bool r,?_,.bool r⟩
          rw[Sem.run_bind,Hj hT hq ha hb hr,Result.andThen_ok,xX _ (.inl rfl),LC hT hq ha hb hr];rfl
        . exact absurd rfl hq
    .   cases h
  . split at h
    .   rename_i r hr
        simp only[Option.some.injEq] at h;subst h
        rcases hq with hq|⟨_,_,hq⟩
        . refine ⟨.bool (!r),?_,.bool _⟩
          rw[Sem.run_bind,Hj hT hq ha hb hr,Result.andThen_ok,xX _ (.inr rfl),LC hT hq ha hb hr];rfl
        . exact absurd rfl hq
    .   cases h
  . cases h
end
end Go.Ai
end
section
namespace Go.Ai
open Go Go.RowKit
def cw (P:Program) (tt:TT) (op:Op):Prop:=
 ∀  (ρ:Pos->Loc) (C:Cells) (st:St) (w:World) (k:aB) (xs:List jy) (cls:OK) (fr:Fr) (a:Act) (o:Oper) (vs:List AV) (res:b6),
    o.op=op->fA tt op=some (k,xs,cls)->bn ρ C st w->kK ρ st.next.toNat C fr a.tmps->dK fr xs=some vs->
    k.run (fun b=>st.heap.get b) st.next vs=some res->pE P ρ C st w ((execOp a.eval o).run P w) res
section
variable {P : Program} {tt : TT}
theorem Jd {ρ:Pos->Loc} {n:Nat} {C:Cells} {x y:Operand} {os:List jy} {fr:Fr} {a:Act} {vs:List AV} (h:iy [x,y]=some os) (hF:kK ρ n C fr a.tmps) (hv:dK fr os=some vs):
  ∃u v,vs=[u,v]/\ax ρ n C u (a.eval x)/\ax ρ n C v (a.eval y):=by
 have h1:=dO h hF hv
 cases vs with
 |nil=>have:=h1.1;simp at this
 |cons u vs=>
  cases vs with
  |nil=>have:=h1.1;simp at this
  |cons v vs=>
   cases vs with
   |nil=>exact ⟨u,v,rfl,h1.2 0 u _ rfl rfl,h1.2 1 v _ rfl rfl⟩
   |cons z vs=>have:=h1.1;simp at this
theorem evs3 {ρ:Pos->Loc} {n:Nat} {C:Cells} {x y z:Operand} {os:List jy} {fr:Fr} {a:Act} {vs:List AV} (h:iy [x,y,z]=some os) (hF:kK ρ n C fr a.tmps) (hv:dK fr os=some vs):
  ∃u v q,vs=[u,v,q]/\ax ρ n C u (a.eval x)/\ax ρ n C v (a.eval y)/\ax ρ n C q (a.eval z):=by
 have h1:=dO h hF hv
 match vs,h1 with
 |[u,v,q],h1=>exact ⟨u,v,q,rfl,h1.2 0 u _ rfl rfl,h1.2 1 v _ rfl rfl,h1.2 2 q _ rfl rfl⟩
 |[],h1=>have:=h1.1;simp at this
 |[_],h1=>have:=h1.1;simp at this
 |[_,_],h1=>have:=h1.1;simp at this
 |_::_::_::_::_,h1=>have:=h1.1;simp at this
theorem UU (x:Operand):cw P tt (.move x):=by
 intro ρ C st w k xs cls fr a o vs res ho hc hW hF hx hr
 simp only[fA] at hc
 split at hc<;>first|(cases hc;done)|skip
 rename_i b hb
 cases hc
 obtain ⟨v,rfl,hv⟩:=eu hb hF hx
 simp only[aB.run,EF,Option.some.injEq] at hr;subst hr
 exact .pure (by simp[execOp,ho]) hv
theorem P5 (x:Operand):cw P tt (.assign x):=by
 intro ρ C st w k xs cls fr a o vs res ho hc hW hF hx hr
 simp only[fA] at hc
 split at hc<;>first|(cases hc;done)|skip
 rename_i b hb
 cases hc
 obtain ⟨v,rfl,hv⟩:=eu hb hF hx
 simp only[aB.run,EF,Option.some.injEq] at hr;subst hr
 exact .pure (by simp[execOp,ho]) hv
theorem UW (c x y:Operand):cw P tt (.pick c x y):=by
 intro ρ C st w k xs cls fr a o vs res ho hc hW hF hx hr
 simp only[fA] at hc
 split at hc<;>first|(cases hc;done)|skip
 rename_i l hl
 cases hc
 obtain ⟨u,v,q,rfl,h1,h2,h3⟩:=evs3 hl hF hx
 simp only[aB.run,I9] at hr
 split at hr<;>first|(cases hr;done)|skip
 all_goals
   simp only[Option.some.injEq] at hr;subst hr
   have h1:=h1.gQ
 . exact .pure (by simp[execOp,ho,h1,asBool]) h2
 . exact .pure (by simp[execOp,ho,h1,asBool]) h3
theorem RO (hT:bZ P tt) (op:BinOp) (t:TypeId) (x y:Operand) (yt:TypeId):cw P tt (.binOp op t x y yt):=by
 intro ρ C st w k xs cls fr a o vs res ho hc hW hF hx hr
 have key: ∃q,XB tt op q t/\k= .bin op q/\iy [x,y]=some xs:=by
  simp only[fA] at hc
  split at hc
  . rename_i q l hq hl
    cases hc
    exact ⟨q,.inl hq,rfl,hl⟩
  . rename_i l hq hl
    split at hc<;>first|(cases hc;done)|skip
    rename_i h1 h2
    cases hc
    exact ⟨.num,.inr ⟨rfl,fun e=>h1 e,fun e=>h2 e⟩,rfl,hl⟩
  . cases hc
 obtain ⟨q,hq,rfl,hl⟩:=key
 obtain ⟨u,v,rfl,h1,h2⟩:=Jd hl hF hx
 simp only[aB.run,gD] at hr
 split at hr<;>first|(cases hr;done)|skip
 rename_i r hb
 simp only[Option.some.injEq] at hr;subst hr
 obtain ⟨z,hz,hv⟩:=UT hT hq h1 h2 hb x y (w:=w)
 refine .pure ?_ hv
 simp only[execOp,ho]
 rw[Sem.run_bind,hz];rfl
theorem UX (op:UnOp) (t:TypeId) (x:Operand):cw P tt (.unOp op t x):=by
 intro ρ C st w k xs cls fr a o vs res ho hc hW hF hx hr
 simp only[fA] at hc
 split at hc<;>first|(cases hc;done)|skip
 rename_i b hb
 cases hc
 obtain ⟨v,rfl,hv⟩:=eu hb hF hx
 simp only[aB.run,PV] at hr
 split at hr<;>first|(cases hr;done)|skip
 rename_i r hu
 simp only[Option.some.injEq] at hr;subst hr
 unfold unA at hu
 split at hu
 . split at hu<;>first|(cases hu;done)|skip
   simp only[Option.some.injEq] at hu;subst hu
   exact .pure (by simp[execOp,ho,hv.gQ,Op.unary]) (.bool _)
 . split at hu<;>first|(cases hu;done)|skip
   simp only[Option.some.injEq] at hu;subst hu
   exact .pure (by simp[execOp,ho,hv.gy,Op.unary,Op.intArith];rfl) (by rw[oV];simpa using ax.int _ _)
 . cases hu
theorem LD (x:Operand):cw P tt (.nilCheck x):=by
 intro ρ C st w k xs cls fr a o vs res ho hc hW hF hx hr
 simp only[fA] at hc
 split at hc<;>first|(cases hc;done)|skip
 rename_i b hb
 cases hc
 obtain ⟨v,rfl,hv⟩:=eu hb hF hx
 simp only[aB.run,yR] at hr
 split at hr<;>first|(cases hr;done)|skip
 all_goals simp only[Option.some.injEq] at hr;subst hr
 . obtain ⟨_,he⟩:=hv.eN
   exact .pure (by simp[execOp,ho,he]) hv
 . obtain ⟨_,_,_,_,he,_⟩:=hv.zI
   exact .pure (by simp[execOp,ho,he]) hv
 . obtain ⟨_,_,he,_⟩:=hv.Bn
   exact .pure (by simp[execOp,ho,he]) hv
theorem Oa (x:Operand) (i:Nat):cw P tt (.extract x i):=by
 intro ρ C st w k xs cls fr a o vs res ho hc hW hF hx hr
 simp only[fA] at hc
 split at hc<;>first|(cases hc;done)|skip
 rename_i b hb
 cases hc
 obtain ⟨v,rfl,hv⟩:=eu hb hF hx
 simp only[aB.run,vF] at hr
 split at hr<;>first|(cases hr;done)|skip
 split at hr<;>first|(cases hr;done)|skip
 rename_i u hu
 simp only[Option.some.injEq] at hr;subst hr
 obtain ⟨cs,he,hs⟩:=hv.JJ
 rw[jZ] at hu
 obtain ⟨y,hy,wz⟩:=hs.get hu
 exact .pure (by simp at hy;simp[execOp,ho,he,Instr.extract,hy]) wz
theorem Ob (hT:bZ P tt) (t:TypeId) (x:Operand):cw P tt (.makeInterface t x):=by
 intro ρ C st w k xs cls fr a o vs res ho hc hW hF hx hr
 simp only[fA] at hc
 split at hc<;>first|(cases hc;done)|skip
 rename_i ti b b7 hb
 split at hc<;>first|(cases hc;done)|skip
 rename_i h1 h2
 cases hc
 obtain ⟨v,rfl,hv⟩:=eu hb hF hx
 simp only[aB.run,Bj,Option.some.injEq] at hr;subst hr
 obtain ⟨d,hd,hk⟩:=(hT.at b7).und
 refine .pure (x:= .iface t (a.eval x)) ?_ (.iface _ _ _ hv)
 have hni: ∀ms,d≠ .interface ms:=by
  rintro ms rfl
  cases xY:ti.k<;>rw[xY] at hk<;>first|(simp[bw] at hk;done)|(exact h1 xY)|(exact h2 xY)
 simp only[execOp,ho,Instr.makeInterface,Sem.run_bind,aK hd,Result.andThen_ok]
 cases d<;>first|rfl|(exact absurd rfl (hni _))
theorem P6 (fn:Fn) (first captured:Array Operand):cw P tt (.makeFunc fn first captured):=by
 intro ρ C st w k xs cls fr a o vs res ho hc hW hF hx hr
 simp only[fA] at hc
 split at hc<;>first|(cases hc;done)|skip
 rename_i f l hl
 cases hc
 have h:=dO hl hF hx
 simp only[aB.run,Dj,Option.some.injEq] at hr;subst hr
 have e1:vs.take first.size=vs.take first.size:=rfl
 have h1:=h.take first.size
 have h2:=h.drop first.size
 simp only[List.map_append] at h1 h2
 rw[List.take_left' (by simp)] at h1
 rw[List.drop_left' (by simp)] at h2
 refine .pure (x:= .func (.func f) (first.map a.eval) (captured.map a.eval)) (by simp[execOp,ho,Instr.makeFunc]) ?_
 exact .func _ _ _ _ _ (by simpa using h1.1) (by simpa using h2.1) (fun i v v' hv zL=>h1.2 i v v' hv (by simpa using zL)) (fun i v v' hv zL=>h2.2 i v v' hv (by simpa using zL))
theorem KR (hT:bZ P tt) (t:TypeId) (x:Operand) (f:Nat):cw P tt (.fieldAddr t x f):=by
 intro ρ C st w k xs cls fr a o vs res ho hc hW hF hx hr
 simp only[fA] at hc
 split at hc<;>first|(cases hc;done)|skip
 rename_i ti b b7 hb
 split at hc<;>first|(cases hc;done)|skip
 rename_i fs hk
 split at hc<;>first|(cases hc;done)|skip
 rename_i off ft nm hf
 split at hc<;>first|(cases hc;done)|skip
 rename_i fi XC
 split at hc<;>first|(cases hc;done)|skip
 rename_i dM
 cases hc
 obtain ⟨v,rfl,hv⟩:=eu hb hF hx
 obtain ⟨d,hd,bM⟩:=(hT.at b7).und
 rw[hk] at bM
 obtain ⟨gs,rfl,hm⟩:=xW bM
 obtain ⟨g,hg,nI,LF,_⟩:=Bs hm hf
 simp only at nI LF
 obtain ⟨i,hi,je,_⟩:=(hT.at XC).info
 have hs0: ¬i.size=0:=by rw[je];exact Nat.ne_of_beq_eq_false dM
 simp only[aB.run,Dk] at hr
 split at hr<;>first|(cases hr;done)|skip
 . simp only[Option.some.injEq] at hr;subst hr
   obtain ⟨aZ,he⟩:=hv.eN
   refine .pure (x:= .pointer (some ⟨(ρ _).aA,(ρ _).base+(_+off),none⟩)) ?_ (.ptr _ _ aZ)
   simp at hg
   simp[execOp,ho,he,Instr.fieldAt,aK hd,hg,Instr.sureAddr,fieldPlace,LF,gi hi,hs0,j0,nI,Nat.add_assoc]
 . simp only[Option.some.injEq] at hr;subst hr
   obtain ⟨es,aA,base,cell,he,h1,h2,h3⟩:=hv.zI
   rename_i pY i' j'
   refine .pure (x:= .pointer (some ⟨aA,base+i'*es+(j'+off),none⟩)) ?_ (.fp _ _ _ es aA base cell h1 h2 h3)
   simp at hg
   simp[execOp,ho,he,Instr.fieldAt,aK hd,hg,Instr.sureAddr,fieldPlace,LF,gi hi,hs0,j0,nI,Nat.add_assoc]
theorem iz {ρ:Pos->Loc} {n:Nat} {C:Cells} {v:AV} {x:Value} {i:Nat} (h:ax ρ n C v x) (hi:pR v=some i): ∃k,x= .int k (i:Int):=by
 unfold pR at hi
 split at hi<;>first|(cases hi;done)|skip
 split at hi<;>first|(cases hi;done)|skip
 simp only[Option.some.injEq] at hi;subst hi
 exact ⟨_,h.gy⟩
theorem KS (hT:bZ P tt) (t:TypeId) (x ix:Operand):cw P tt (.indexAddr t x ix):=by
 intro ρ C st w k xs cls fr a o vs res ho hc hW hF hx hr
 simp only[fA] at hc
 split at hc<;>first|(cases hc;done)|skip
 rename_i ti l b7 hl
 obtain ⟨d,hd,bM⟩:=(hT.at b7).und
 obtain ⟨u,v,rfl,h1,h2⟩:=Jd hl hF (by
   split at hc<;>first|(cases hc;done)|skip
   all_goals
     split at hc<;>first|(cases hc;done)|skip
     cases hc
     exact hx)
 split at hc<;>first|(cases hc;done)|skip
 . rename_i e hk
   rw[hk] at bM
   rw[kL bM] at hd
   split at hc<;>first|(cases hc;done)|skip
   rename_i te eK
   cases hc
   obtain ⟨i0,jI,je,_⟩:=(hT.at eK).info
   simp only[aB.run,pz] at hr
   split at hr<;>first|(cases hr;done)|skip
   rename_i i hi
   obtain ⟨kk,CL⟩:=iz h2 hi
   split at hr<;>first|(cases hr;done)|skip
   . rename_i b off len cap es' _
     split at hr<;>first|(cases hr;done)|skip
     rename_i aZ
     have aZ:i<len:=by simpa using aZ
     simp only[Option.some.injEq] at hr;subst hr
     obtain ⟨aa,aH,he,hle,_,ha⟩:=h1.cE
     obtain ⟨hb,rfl,_⟩:=ha (by omega)
     refine .pure (x:= .pointer (some ⟨(ρ b).aA,(ρ b).base+(off+i*te.size),none⟩)) ?_ (.ptr _ _ hb)
     simp[execOp,ho,he,CL,Instr.indexAt,aK hd,asIntOf,aZ,gi jI,j0,je,Nat.add_assoc]
   . rename_i pY es' _
     split at hr<;>first|(cases hr;done)|skip
     rename_i aZ fE
     have aZ:i<pY.length:=by simpa using aZ
     have fE:te.size=es':=Nat.eq_of_beq_eq_true fE
     simp only[Option.some.injEq] at hr;subst hr
     obtain ⟨aa,aH,cell,he,hle,rM,g1,g2,g3⟩:=h1.oU
     have rM:=rM (by intro e;rw[e] at aZ;simp at aZ)
     obtain ⟨ab,ao,asp⟩:=aa
     simp only at rM;subst rM
     refine .pure (x:= .pointer (some ⟨ab,ao+i*es'+0,none⟩)) ?_ (.fp _ _ _ es' ab ao cell g1 g2 g3)
     simp[execOp,ho,he,CL,Instr.indexAt,aK hd,asIntOf,aZ,gi jI,j0,je,fE]
   . rename_i hh;cases hh
 . rename_i m e hk
   rw[hk] at bM
   rw[Ly bM] at hd
   split at hc<;>first|(cases hc;done)|skip
   rename_i te eK
   cases hc
   obtain ⟨i0,jI,je,_⟩:=(hT.at eK).info
   simp only[aB.run,pz] at hr
   split at hr<;>first|(cases hr;done)|skip
   rename_i i hi
   obtain ⟨kk,CL⟩:=iz h2 hi
   split at hr<;>first|(cases hr;done)|skip
   . rename_i hh;cases hh
   . rename_i hh;cases hh
   . rename_i m' b off hh
     cases hh
     split at hr<;>first|(cases hr;done)|skip
     rename_i aZ
     have aZ:i<m:=by simpa using aZ
     simp only[Option.some.injEq] at hr;subst hr
     obtain ⟨hb,he⟩:=h1.eN
     refine .pure (x:= .pointer (some ⟨(ρ b).aA,(ρ b).base+(off+i*te.size),none⟩)) ?_ (.ptr _ _ hb)
     simp[execOp,ho,he,CL,Instr.indexAt,aK hd,asIntOf,aZ,gi jI,j0,je,Nat.add_assoc,Instr.sureAddr]
end
end Go.Ai
end
section
namespace Go.Ai
open Go Go.RowKit
section
variable {P : Program} {tt : TT}
theorem RP (hT:bZ P tt) (t:TypeId) (x:Operand) (f:Nat):cw P tt (.field t x f):=by
 intro ρ C st w k xs cls fr a o vs res ho hc hW hF hx hr
 simp only[fA] at hc
 split at hc<;>first|(cases hc;done)|skip
 rename_i ti b b7 hb
 split at hc<;>first|(cases hc;done)|skip
 rename_i fs hk
 split at hc<;>first|(cases hc;done)|skip
 rename_i off ft nm hf
 split at hc<;>first|(cases hc;done)|skip
 rename_i fi XC
 cases hc
 obtain ⟨v,rfl,hv⟩:=eu hb hF hx
 obtain ⟨d,hd,bM⟩:=(hT.at b7).und
 rw[hk] at bM
 obtain ⟨gs,rfl,hm⟩:=xW bM
 obtain ⟨g,hg,nI,LF,_⟩:=Bs hm hf
 simp only at nI LF
 obtain ⟨i,hi,je,_⟩:=(hT.at XC).info
 obtain ⟨fd,hfd,hfk⟩:=(hT.at XC).und
 have mK:=F5 hfk w hfd
 simp only[aB.run,F1] at hr
 split at hr<;>first|(cases hr;done)|skip
 rename_i cs
 obtain ⟨cx,he,hs⟩:=hv.tr
 simp at hg
 split at hr
 . rename_i hn
   split at hr<;>first|(cases hr;done)|skip
   rename_i u hu
   simp only[Option.some.injEq] at hr;subst hr
   rw[jZ] at hu
   obtain ⟨y,hy,wz⟩:=hs.get hu
   have P7:fi.k.isAgg=false:=by
     unfold rF at hn;split at hn
     . cases hn
     . assumption
   rw[P7] at mK
   refine .pure (x:=y) ?_ wz
   simp at hy
   simp[execOp,ho,he,Instr.field,aK hd,hg,part,LF,mK,asAgg,nI,hy]
 . rename_i m hn
   simp only[Option.some.injEq] at hr;subst hr
   have P7:fi.k.isAgg=true/\m=fi.size:=by
     unfold rF at hn;split at hn
     . cases hn;exact ⟨by assumption,rfl⟩
     . cases hn
   rw[P7.1] at mK
   refine .pure (x:= .agg (cx.extract off (off+m))) ?_ (.rI ?_)
   . simp[execOp,ho,he,Instr.field,aK hd,hg,part,LF,mK,asAgg,nI,gi hi,je,P7.2]
   . have:=(hs.drop off).take m
     simpa [Array.toList_extract,List.extract] using this
theorem RQ (hT:bZ P tt) (t:TypeId) (x ix:Operand):cw P tt (.index t x ix):=by
 intro ρ C st w k xs cls fr a o vs res ho hc hW hF hx hr
 simp only[fA] at hc
 split at hc<;>first|(cases hc;done)|skip
 rename_i ti l b7 hl
 split at hc<;>first|(cases hc;done)|skip
 rename_i hk
 cases hc
 obtain ⟨u,v,rfl,h1,h2⟩:=Jd hl hF hx
 obtain ⟨d,hd,bM⟩:=(hT.at b7).und
 rw[hk] at bM
 rw[kC bM] at hd
 simp only[aB.run,EG] at hr
 split at hr<;>first|(cases hr;done)|skip
 rename_i s i hi
 split at hr<;>first|(cases hr;done)|skip
 rename_i c hcx
 simp only[Option.some.injEq] at hr;subst hr
 obtain ⟨bs,he,hs⟩:=h1.cv
 obtain ⟨kk,CL⟩:=iz h2 hi
 rw[jZ, <-hs,List.getElem?_map] at hcx
 obtain ⟨b,hb,hbc⟩:=Option.map_eq_some_iff.1 hcx
 have dX:bs[i]? =some b:=by
  obtain ⟨aZ,iQ⟩:=List.getElem?_eq_some_iff.1 hb
  have Bt:i<bs.size:=by rw[Array.length_toList] at aZ;exact aZ
  rw[getElem?_pos bs i Bt]
  congr 1
 refine .pure (x:= .int .u8 (.ofNat c)) ?_ (.int _ _)
 simp[execOp,ho,he,CL,Instr.index,aK hd,asIntOf,dX, <-hbc]
theorem UY (hT:bZ P tt) (t:TypeId) (x:Operand):cw P tt (.load t x):=by
 intro ρ C st w k xs cls fr a o vs res ho hc hW hF hx hr
 simp only[fA] at hc
 split at hc<;>first|(cases hc;done)|skip
 rename_i ti b b7 hb
 cases hc
 obtain ⟨v,rfl,hv⟩:=eu hb hF hx
 obtain ⟨d,hd,bM⟩:=(hT.at b7).und
 obtain ⟨i,hi,je,_⟩:=(hT.at b7).info
 have mK:=F5 bM w hd
 have hn:(rF ti=none/\ti.k.isAgg=false)\/(rF ti=some ti.size/\ti.k.isAgg=true):=by
   unfold rF;split<;>simp_all
 simp only[aB.run,pq] at hr
 split at hr<;>first|(cases hr;done)|skip
 . rename_i bb off
   split at hr<;>first|(cases hr;done)|skip
   rename_i cs fz iQ
   obtain ⟨_,he⟩:=hv.eN
   rcases hn with ⟨hn,hf⟩|⟨hn,hf⟩
   . rw[hn] at hr;rw[hf] at mK
     simp only at hr
     split at hr<;>first|(cases hr;done)|skip
     rename_i u hu
     simp only[Option.some.injEq] at hr;subst hr
     rw[jZ] at hu
     obtain ⟨y,hy,wz⟩:=hW.cell iQ hu
     refine .pure (x:=y) ?_ wz
     simp[execOp,ho,he,Instr.loadAt,Instr.sureAddr,loadVar,mK,hy]
   . rw[hn] at hr;rw[hf] at mK
     simp only at hr
     split at hr<;>first|(cases hr;done)|skip
     rename_i us hu
     simp only[Option.some.injEq] at hr;subst hr
     obtain ⟨ys,hy,wz⟩:=hW.loadCells (P:=P) iQ hu
     refine .pure (x:= .agg ys.toArray) ?_ (.rI (by simpa using wz))
     simp[execOp,ho,he,Instr.loadAt,Instr.sureAddr,loadVar,mK,gi hi,je,hy]
   rename_i tt0 cs iQ
   obtain ⟨_,he⟩:=hv.eN
   rcases hn with ⟨hn,hf⟩|⟨hn,hf⟩
   . rw[hn] at hr;rw[hf] at mK
     simp only at hr
     split at hr<;>first|(cases hr;done)|skip
     rename_i u hu
     simp only[Option.some.injEq] at hr;subst hr
     rw[jZ] at hu
     obtain ⟨y,hy,wz⟩:=hW.afv iQ hu
     refine .pure (x:=y) ?_ wz
     simp[execOp,ho,he,Instr.loadAt,Instr.sureAddr,loadVar,mK,hy]
   . rw[hn] at hr;rw[hf] at mK
     simp only at hr
     split at hr<;>first|(cases hr;done)|skip
     rename_i us hu
     simp only[Option.some.injEq] at hr;subst hr
     obtain ⟨ys,hy,wz⟩:=hW.Hi (P:=P) iQ hu
     refine .pure (x:= .agg ys.toArray) ?_ (.rI (by simpa using wz))
     simp[execOp,ho,he,Instr.loadAt,Instr.sureAddr,loadVar,mK,gi hi,je,hy]
 . rename_i pY i' j'
   split at hr<;>first|(cases hr;done)|skip
   rename_i cs gN
   rw[jZ] at gN
   obtain ⟨es,aA,base,cell,he,g1,g2,g3⟩:=hv.zI
   rcases hn with ⟨hn,hf⟩|⟨hn,hf⟩
   . rw[hn] at hr;rw[hf] at mK
     simp only at hr
     split at hr<;>first|(cases hr;done)|skip
     rename_i u hu
     simp only[Option.some.injEq] at hr;subst hr
     rw[jZ] at hu
     have tV:=(hW.cj _ _ (g2 _ _ _ _ gN hu)).1
     refine .pure (x:=cell i' j') ?_ (g3 _ _ _ _ gN hu)
     simp[execOp,ho,he,Instr.loadAt,Instr.sureAddr,loadVar,mK,tV]
   . rw[hn] at hr;rw[hf] at mK
     simp only at hr
     split at hr<;>first|(cases hr;done)|skip
     rename_i us hu
     simp only[Option.some.injEq] at hr;subst hr
     obtain ⟨RT,hle⟩:=uq hu
     have hlen:=nY hu
     have bH:(loadCells ⟨aA,base+i'*es+j',none⟩ ti.size).run P w= .ok ((List.range ti.size).map fun q=>cell i' (j'+q)).toArray w:=by
        refine run_loadCells w _ _ _ fun q hq=> ?_
        rw[j0]
        have:cs[j'+q]? =some (cs[j'+q]'(by omega)):=List.getElem?_eq_getElem (by omega)
        rw[Nat.add_assoc]
        exact (hW.cj _ _ (g2 _ _ _ _ gN this)).1
     refine .pure (x:= .agg ((List.range ti.size).map fun q=>cell i' (j'+q)).toArray) ?_ (.rI ⟨by simp[hlen],fun q u y hu' hy=> ?_⟩)
     .  simp[execOp,ho,he,Instr.loadAt,Instr.sureAddr,loadVar,mK,gi hi,je,bH]
     .  have hq:q<ti.size:=by rw[<-hlen];exact (List.getElem?_eq_some_iff.1 hu').1
        rw[RT,List.getElem?_take,if_pos hq,List.getElem?_drop] at hu'
        simp[hq] at hy
        subst hy
        exact g3 _ _ _ _ gN hu'
theorem UZ {x y:Value} {ρ:Pos->Loc} {n:Nat} {C:Cells} {u v r:AV} {w:World} {st:St} (h1:ax ρ n C u x) (h2:ax ρ n C v y) (hr:zB (fun b=>st.heap.get b) st.next [u,v]=some (.val r)):
   ∃z,(Builtin.min2 x y).run P w= .ok z w/\ax ρ n C r z:=by
 simp only[zB] at hr
 split at hr<;>first|(cases hr;done)|skip
 . simp only[Option.some.injEq,b6.val.injEq] at hr;subst hr
   rw[h1.gy,h2.gy]
   refine ⟨_,rfl,?_⟩
   rw[fP]
   split
   . rename_i h;rw[if_pos (of_decide_eq_true h)];exact .int _ _
   . rename_i h;rw[if_neg (of_decide_eq_false h)];exact .int _ _
 . simp only[Option.some.injEq,b6.val.injEq] at hr;subst hr
   rename_i sa sb
   obtain ⟨bx,rfl,e1⟩:=h1.cv
   obtain ⟨bz,rfl,e2⟩:=h2.cv
   have hh:(Op.stringOp .leq bx bz).run P w= .ok (.bool (dY sa sb||fT sa sb)) w:=by
     simp only[Op.stringOp,Sem.run_pure];rw[F6 e1 e2,zK e1 e2]
   refine ⟨_,by simp only[Builtin.min2,Sem.run_bind,hh,Result.andThen_ok,asBool,Sem.run_pure];rfl,?_⟩
   split
   . rename_i h;rw[if_pos h];exact .str _ _ e1
   . rename_i h;rw[if_neg (by rw[h];simp)];exact .str _ _ e2
theorem U0 {x y:Value} {ρ:Pos->Loc} {n:Nat} {C:Cells} {u v r:AV} {w:World} {st:St} (h1:ax ρ n C u x) (h2:ax ρ n C v y) (hr:zC (fun b=>st.heap.get b) st.next [u,v]=some (.val r)):
   ∃z,(Builtin.max2 x y).run P w= .ok z w/\ax ρ n C r z:=by
 simp only[zC] at hr
 split at hr<;>first|(cases hr;done)|skip
 . simp only[Option.some.injEq,b6.val.injEq] at hr;subst hr
   rw[h1.gy,h2.gy]
   refine ⟨_,rfl,?_⟩
   rw[fP]
   split
   . rename_i h;rw[if_pos (of_decide_eq_true h)];exact .int _ _
   . rename_i h;rw[if_neg (of_decide_eq_false h)];exact .int _ _
 . simp only[Option.some.injEq,b6.val.injEq] at hr;subst hr
   rename_i sa sb
   obtain ⟨bx,rfl,e1⟩:=h1.cv
   obtain ⟨bz,rfl,e2⟩:=h2.cv
   have hh:(Op.stringOp .geq bx bz).run P w= .ok (.bool (!dY sa sb)) w:=by
     simp only[Op.stringOp,Sem.run_pure];rw[F6 e1 e2]
   refine ⟨_,by simp only[Builtin.max2,Sem.run_bind,hh,Result.andThen_ok,asBool,Sem.run_pure];rfl,?_⟩
   split
   . rename_i h;rw[if_neg (by rw[h];simp)];exact .str _ _ e2
   . rename_i h;rw[if_pos (by rw[h];rfl)];exact .str _ _ e1
theorem fG (xs:Array Operand) (a:Act):xs.toList.map a.eval=(xs.map a.eval).toList:=by simp
end
end Go.Ai
end
section
namespace Go.Ai
open Go Go.RowKit
section
variable {P : Program} {tt : TT}
theorem Xw {ρ:Pos->Loc} {n:Nat} {C:Cells} {bs:List AV} {x:Value} (h:aq ρ n C bs [x]): ∃b,bs=[b]/\ax ρ n C b x:=by
 match bs,h with
 |[b],h=>exact ⟨b,rfl,h.2 0 b x rfl rfl⟩
 |[],h=>have:=h.1;simp at this
 |_::_::_,h=>have:=h.1;simp at this
theorem vs2 {ρ:Pos->Loc} {n:Nat} {C:Cells} {bs:List AV} {x y:Value} (h:aq ρ n C bs [x,y]): ∃b c,bs=[b,c]/\ax ρ n C b x/\ax ρ n C c y:=by
 match bs,h with
 |[b,c],h=>exact ⟨b,c,rfl,h.2 0 b x rfl rfl,h.2 1 c y rfl rfl⟩
 |[],h=>have:=h.1;simp at this
 |[_],h=>have:=h.1;simp at this
 |_::_::_::_,h=>have:=h.1;simp at this
theorem vs3 {ρ:Pos->Loc} {n:Nat} {C:Cells} {bs:List AV} {x y z:Value} (h:aq ρ n C bs [x,y,z]): ∃b c d,bs=[b,c,d]/\ax ρ n C b x/\ax ρ n C c y/\ax ρ n C d z:=by
 match bs,h with
 |[b,c,d],h=>exact ⟨b,c,d,rfl,h.2 0 b x rfl rfl,h.2 1 c y rfl rfl,h.2 2 d z rfl rfl⟩
 |[],h=>have:=h.1;simp at this
 |[_],h=>have:=h.1;simp at this
 |[_,_],h=>have:=h.1;simp at this
 |_::_::_::_::_,h=>have:=h.1;simp at this
def wA (x:Option Value) (i:Option Nat):Prop:=(x=none/\i=none)\/ ∃j k,i=some j/\x=some (.int k (j:Int))
theorem Ho {ρ:Pos->Loc} {n:Nat} {C:Cells} {lo hi mx:Option Operand} {bs:List AV} {a:Act} {l h m:Option Nat}
   (hb:aq ρ n C bs ((rG lo++rG hi++rG mx).map a.eval)) (hr:bounds lo.isSome hi.isSome mx.isSome bs=some (l,h,m)):
   wA (lo.map a.eval) l/\wA (hi.map a.eval) h/\wA (mx.map a.eval) m/\(m.isSome=true->h.isSome=true):=by
 unfold bounds at hr
 cases lo<;>cases hi<;>cases mx<;>simp only[Option.isSome_some,Option.isSome_none,rG,List.nil_append,List.append_nil,List.cons_append,List.map_cons,List.map_nil] at hb hr<;>
   first|(cases hr;done)|skip
 . cases bs with
   |cons b bs=>have:=hb.1;simp at this
   |nil=>simp at hr;obtain ⟨rfl,rfl,rfl⟩:=hr;exact ⟨.inl ⟨rfl,rfl⟩,.inl ⟨rfl,rfl⟩,.inl ⟨rfl,rfl⟩,fun h=>by cases h⟩
 . obtain ⟨b,rfl,h1⟩:=Xw hb
   simp only at hr
   split at hr<;>first|(cases hr;done)|skip
   rename_i j hj
   obtain ⟨k,hk⟩:=iz h1 hj
   simp at hr;obtain ⟨rfl,rfl,rfl⟩:=hr
   exact ⟨.inl ⟨rfl,rfl⟩,.inr ⟨j,k,rfl,by simp[hk]⟩,.inl ⟨rfl,rfl⟩,fun h=>by cases h⟩
 . obtain ⟨b,c,rfl,h1,h2⟩:=vs2 hb
   simp only at hr
   split at hr<;>first|(cases hr;done)|skip
   rename_i j j' hj Dr
   obtain ⟨k,hk⟩:=iz h1 hj
   obtain ⟨k',nH⟩:=iz h2 Dr
   simp at hr;obtain ⟨rfl,rfl,rfl⟩:=hr
   exact ⟨.inl ⟨rfl,rfl⟩,.inr ⟨j,k,rfl,by simp[hk]⟩,.inr ⟨j',k',rfl,by simp[nH]⟩,fun _=>rfl⟩
 . obtain ⟨b,rfl,h1⟩:=Xw hb
   simp only at hr
   split at hr<;>first|(cases hr;done)|skip
   rename_i j hj
   obtain ⟨k,hk⟩:=iz h1 hj
   simp at hr;obtain ⟨rfl,rfl,rfl⟩:=hr
   exact ⟨.inr ⟨j,k,rfl,by simp[hk]⟩,.inl ⟨rfl,rfl⟩,.inl ⟨rfl,rfl⟩,fun h=>by cases h⟩
 . obtain ⟨b,c,rfl,h1,h2⟩:=vs2 hb
   simp only at hr
   split at hr<;>first|(cases hr;done)|skip
   rename_i j j' hj Dr
   obtain ⟨k,hk⟩:=iz h1 hj
   obtain ⟨k',nH⟩:=iz h2 Dr
   simp at hr;obtain ⟨rfl,rfl,rfl⟩:=hr
   exact ⟨.inr ⟨j,k,rfl,by simp[hk]⟩,.inr ⟨j',k',rfl,by simp[nH]⟩,.inl ⟨rfl,rfl⟩,fun h=>by cases h⟩
 . obtain ⟨b,c,d,rfl,h1,h2,h3⟩:=vs3 hb
   simp only at hr
   split at hr<;>first|(cases hr;done)|skip
   rename_i j j' j'' hj Dr hj''
   obtain ⟨k,hk⟩:=iz h1 hj
   obtain ⟨k',nH⟩:=iz h2 Dr
   obtain ⟨k'',hk''⟩:=iz h3 hj''
   simp at hr;obtain ⟨rfl,rfl,rfl⟩:=hr
   exact ⟨.inr ⟨j,k,rfl,by simp[hk]⟩,.inr ⟨j',k',rfl,by simp[nH]⟩,.inr ⟨j'',k'',rfl,by simp[hk'']⟩,fun _=>rfl⟩
theorem sJ (isS:Bool) {len cap:Nat} {xl xh xm:Option Value} {l h m:Option Nat} (h1:wA xl l) (h2:wA xh h) (h3:wA xm m) (hmh:m.isSome=true->h.isSome=true)
  (zM:l.getD 0<=h.getD len) (hhm:h.getD len<=m.getD cap) (hmc:m.getD cap<=cap) (w:World):
  (Instr.sliceBounds isS len cap xl xh xm).run P w= .ok (l.getD 0,h.getD len,m.getD cap) w:=by
 rcases h1 with ⟨rfl,rfl⟩|⟨jl,kl,rfl,rfl⟩<;>rcases h2 with ⟨rfl,rfl⟩|⟨jh,kh,rfl,rfl⟩<;>rcases h3 with ⟨rfl,rfl⟩|⟨jm,km,rfl,rfl⟩<;>
  simp only[Option.getD_none,Option.getD_some,Option.isSome_some,Option.isSome_none] at zM hhm hmc hmh ⊢ <;>
  first
   |(simp at hmh;done)
   |simp[Instr.sliceBounds,Instr.sliceBound,asIntOf,zM,hhm,hmc,Int.ofNat_le]
theorem xZ {ρ:Pos->Loc} {n:Nat} {C:Cells} {b:Pos} {off es aH l h M:Nat} {aa:Addr} {P8:Option Nat}
   (ha:aH≠0->b.toNat<n/\aa=⟨(ρ b).aA,(ρ b).base+off,none⟩/\(ρ b).base+off+aH*es<=(ρ b).size)
   (h1:l<=h) (h2:h<=M) (h3:M<=aH) (hc: ∀c,P8=some c->c=M - l) (hk:P8=none->b.toNat<n):
   ax ρ n C (.slice b (off+l*es) (h - l) P8 es) (.slice (if M=l then some aa else (some aa).map (·.add (l*es))) (h - l) (M - l)):=by
 by_cases hm:M=l
 . rw[if_pos hm]
   exact .slice _ _ _ _ _ _ _ (by omega) hc (fun h0=>absurd (by omega) h0) hk
 . rw[if_neg hm]
   obtain ⟨hb,rfl,hle⟩:=ha (by omega)
   refine .slice _ _ _ _ _ _ _ (by omega) hc (fun _=>⟨hb,by show Addr.add _ _=_;rw[j0,Nat.add_assoc],?_⟩) hk
   have e1:l*es+(M - l)*es=M*es:=by rw[<-Nat.add_mul];congr 1;omega
   have e2:M*es<=aH*es:=Nat.mul_le_mul_right _ h3
   omega
theorem RU (hT:bZ P tt) (t:TypeId) (x:Operand) (lo hi mx:Option Operand):cw P tt (.slice t x lo hi mx):=by
 intro ρ C st w k xs cls fr a o vs res ho hc hW hF hx hr
 simp only[fA] at hc
 split at hc<;>first|(cases hc;done)|skip
 rename_i ti l0 b7 hl
 obtain ⟨d,hd,bM⟩:=(hT.at b7).und
 split at hc<;>first|(cases hc;done)|skip
 . rename_i hk
   rw[hk] at bM;rw[kC bM] at hd
   split at hc<;>first|(cases hc;done)|skip
   cases hc
   have hv:=dO hl hF hx
   simp only[rG,List.append_nil,List.cons_append,List.nil_append,List.map_cons] at hv
   simp only[aB.run,xT] at hr
   split at hr<;>first|(cases hr;done)|skip
   rename_i u bs
   split at hr<;>first|(cases hr;done)|skip
   rename_i s l h m' hb
   split at hr<;>first|(cases hr;done)|skip
   rename_i h1 h2
   have h1:=Nat.le_of_ble_eq_true h1
   have h2:=Nat.le_of_ble_eq_true h2
   simp only[Option.some.injEq] at hr;subst hr
   obtain ⟨y,ys,pO,hu,jJ⟩:=hv.cons_inv
   simp only[List.cons.injEq] at pO;obtain ⟨rfl,rfl⟩:=pO
   have iQ:=Ho (lo:=lo) (hi:=hi) (mx:=none) (a:=a) (by simpa [rG] using jJ) hb
   obtain ⟨XD,he,hs⟩:=hu.cv
   have dM:=qF hs
   have bH:=sJ (P:=P) false (len:=XD.size) (cap:=XD.size) iQ.1 iQ.2.1 (.inl ⟨rfl,rfl⟩:wA none none) (fun h=>by cases h)
     (by rw[dM];exact h1) (by rw[dM];simpa using h2) (by simp) w
   refine .pure (x:= .string (XD.extract (l.getD 0) (h.getD XD.size))) ?_ (.str _ _ ?_)
   . simp only[execOp,ho,Instr.sliceAt,Sem.run_bind,aK hd,Result.andThen_ok,he,Instr.slice]
     simp[bH]
   . rw[dM,ByteArray.data_extract,Array.toList_extract, <-hs,List.extract,List.map_take,List.map_drop]
     rw[List.drop_take]
 . rename_i e hk
   rw[hk] at bM;rw[kL bM] at hd
   split at hc<;>first|(cases hc;done)|skip
   rename_i te eK
   cases hc
   obtain ⟨i0,jI,je,_⟩:=(hT.at eK).info
   have hv:=dO hl hF hx
   simp only[List.cons_append,List.nil_append,List.append_assoc,List.map_cons] at hv
   simp only[aB.run,oP] at hr
   split at hr<;>first|(cases hr;done)|skip
   rename_i u bs
   obtain ⟨y,ys,pO,hu,jJ⟩:=hv.cons_inv
   simp only[List.cons.injEq] at pO;obtain ⟨rfl,rfl⟩:=pO
   have nI: ∀(sa:Option Addr) (len cap:Nat) (l h m:Option Nat),a.eval x= .slice sa len cap->bounds lo.isSome hi.isSome mx.isSome bs=some (l,h,m)->
        l.getD 0<=h.getD len->h.getD len<=m.getD cap->m.getD cap<=cap->
        (execOp a.eval o).run P w= .ok (.value (.slice (if m.getD cap=l.getD 0 then sa else sa.map (·.add (l.getD 0*te.size))) (h.getD len - l.getD 0) (m.getD cap - l.getD 0))) w:=by
     intro sa len cap l h m he hb h1 h2 h3
     have iQ:=Ho (lo:=lo) (hi:=hi) (mx:=mx) (a:=a) (by simpa [List.append_assoc] using jJ) hb
     have bH:=sJ (P:=P) true (len:=len) (cap:=cap) iQ.1 iQ.2.1 iQ.2.2.1 iQ.2.2.2 h1 h2 h3 w
     simp only[execOp,ho,Instr.sliceAt,Sem.run_bind,aK hd,Result.andThen_ok,he,Instr.slice,bH,gi jI,je,Sem.run_pure]
   split at hr<;>first|(cases hr;done)|skip
   ·
     rename_i b off len cap es' l h m hb
     split at hr<;>first|(cases hr;done)|skip
     rename_i fE zM
     have fE:te.size=es':=Nat.eq_of_beq_eq_true fE
     subst fE
     have zM:=Nat.le_of_ble_eq_true zM
     obtain ⟨aa,aH,he,hle,tE,ha⟩:=hu.cE
     split at hr
     .  rename_i c m'
        split at hr<;>first|(cases hr;done)|skip
        rename_i e1 e2
        have e1:=Nat.le_of_ble_eq_true e1
        have e2:=Nat.le_of_ble_eq_true e2
        have:=tE c rfl;subst this
        simp only[Option.some.injEq] at hr;subst hr
        exact .pure (nI _ _ _ _ _ _ he hb zM (by simpa using e1) (by simpa using e2)) (xZ ha zM e1 e2 (fun c hc=>by cases hc;rfl) (fun h=>by cases h))
     .  rename_i c
        split at hr<;>first|(cases hr;done)|skip
        rename_i e1
        have e1:=Nat.le_of_ble_eq_true e1
        have:=tE c rfl;subst this
        simp only[Option.some.injEq] at hr;subst hr
        exact .pure (nI _ _ _ _ _ _ he hb zM (by simpa using e1) (by simp)) (xZ ha zM e1 (Nat.le_refl _) (fun c hc=>by cases hc;rfl) (fun h=>by cases h))
     .  rename_i m'
        split at hr<;>first|(cases hr;done)|skip
        rename_i e1 e2
        have e1:=Nat.le_of_ble_eq_true e1
        have e2:=Nat.le_of_ble_eq_true e2
        simp only[Option.some.injEq] at hr;subst hr
        exact .pure (nI _ _ _ _ _ _ he hb zM (by simpa using e1) (by simp;omega)) (xZ ha zM e1 (by simp;omega) (fun c hc=>by cases hc;rfl) (fun h=>by cases h))
     .  split at hr<;>first|(cases hr;done)|skip
        rename_i e1
        have e1:=Nat.le_of_ble_eq_true e1
        simp only[Option.some.injEq] at hr;subst hr
        exact .pure (nI _ _ _ _ _ _ he hb zM (by simp;omega) (by simp)) (xZ ha zM (by simp;omega) (Nat.le_refl _) (fun c hc=>by cases hc) (fun _=>hu.JM rfl))
   ·
     rename_i pY es' l h m hb
     split at hr<;>first|(cases hr;done)|skip
     rename_i fE
     have fE:te.size=es':=Nat.eq_of_beq_eq_true fE
     subst fE
     obtain ⟨aa,aH,cell,he,hle,rM,g1,g2,g3⟩:=hu.oU
     split at hr
     .  rename_i m'
        split at hr<;>first|(cases hr;done)|skip
        rename_i e0 e1 e2
        have e0:=Nat.eq_of_beq_eq_true e0
        have e1:=Nat.eq_of_beq_eq_true e1
        have e2:=Nat.eq_of_beq_eq_true e2
        subst e2
        simp only[Option.some.injEq] at hr;subst hr
        refine .pure (nI _ _ _ _ _ _ he hb (by omega) (by rw[e1];simp) (by simp)) ?_
        simp only[e0,e1,Option.getD_some,Nat.sub_self,if_true]
        exact .slice _ _ _ _ _ _ _ (Nat.le_refl _) (fun c hc=>by cases hc;rfl) (fun h0=>absurd rfl h0) (fun h=>by cases h)
     .  split at hr<;>first|(cases hr;done)|skip
        rename_i e0 e1
        have e0:=Nat.le_of_ble_eq_true e0
        have e1:=Nat.le_of_ble_eq_true e1
        simp only[Option.some.injEq] at hr;subst hr
        refine .pure (nI _ _ _ _ _ _ he hb e0 (by simp;omega) (by simp)) ?_
        simp only[Option.getD_none]
        have hlen:(List.drop (l.getD 0) (List.take (h.getD pY.length) pY)).length=h.getD pY.length - l.getD 0:=by simp;omega
        rw[<-hlen]
        have jR: ∀i cs,(List.drop (l.getD 0) (List.take (h.getD pY.length) pY))[i]? =some cs->pY[l.getD 0+i]? =some cs:=by
          intro i cs hi
          rw[List.getElem?_drop,List.getElem?_take] at hi
          split at hi
          . exact hi
          . cases hi
        by_cases RV:aH=l.getD 0
        . rw[if_pos RV]
          have hemp:List.drop (l.getD 0) (List.take (h.getD pY.length) pY)=[]:=by
            apply List.eq_nil_of_length_eq_zero;rw[hlen];omega
          rw[hemp]
          exact .fl _ _ _ _ (fun _ _=>undef) (by simp) (fun h=>absurd rfl h) (fun i cs hi=>by simp at hi) (fun i j cs v hi=>by simp at hi) (fun i j cs v hi=>by simp at hi)
        . rw[if_neg RV]
          by_cases bO:pY=[]
          . subst bO
            simp only[List.take_nil,List.drop_nil]
            exact .fl _ _ _ _ (fun _ _=>undef) (by simp) (fun h=>absurd rfl h) (fun i cs hi=>by simp at hi) (fun i j cs v hi=>by simp at hi) (fun i j cs v hi=>by simp at hi)
          . have rM:=rM bO
            obtain ⟨ab,ao,asp⟩:=aa
            simp only at rM;subst rM
            simp only[Option.map_some,j0]
            refine .fl _ _ _ _ (fun i j=>cell (l.getD 0+i) j) (by rw[hlen];omega) (fun _=>rfl) (fun i cs hi=>g1 _ _ (jR i cs hi)) (fun i j cs v hi hj=> ?_) (fun i j cs v hi hj=>g3 _ _ _ _ (jR i cs hi) hj)
            have:=g2 _ _ _ _ (jR i cs hi) hj
            simp only at this ⊢
            rw[<-this]
            congr 2
            rw[Nat.add_mul];omega
   ·
     rename_i l h m hb
     split at hr<;>first|(cases hr;done)|skip
     rename_i e0 e1 e2
     have e0:=Nat.eq_of_beq_eq_true e0
     have e1:=Nat.eq_of_beq_eq_true e1
     have e2:=Nat.eq_of_beq_eq_true e2
     simp only[Option.some.injEq] at hr;subst hr
     have he:=hu.eW
     refine .pure (nI _ _ _ _ _ _ he hb (by omega) (by omega) (by omega)) ?_
     simp only[e0,e1,e2,Nat.sub_self,if_true]
     exact .ai
end
end Go.Ai
end
section
namespace Go.Ai
open Go Go.RowKit
section
variable {P : Program} {tt : TT}
theorem yS {ρ:Pos->Loc} {n:Nat} {C:Cells}: ∀{l:List AV} {s:List Nat} {ys:List Value},bytesOf l=some s->aq ρ n C l ys->
  ys=(s.map Int.ofNat).map (Value.int .u8)/\ ∀c,c∈s->c<256
 |[],s,ys,h,hv=>by
  simp[bytesOf] at h;subst h
  exact ⟨by simpa using hv.iE,fun c hc=>by simp at hc⟩
 |v ::l,s,ys,h,hv=>by
  unfold bytesOf at h
  split at h<;>first|(cases h;done)|skip
  . rename_i h0;simp at h0
  . rename_i c l' he
    simp only[List.cons.injEq] at he;obtain ⟨rfl,rfl⟩:=he
    split at h<;>first|(cases h;done)|skip
    rename_i s' aZ jA
    simp only[Option.some.injEq] at h;subst h
    obtain ⟨y,ys',rfl,h1,h2⟩:=hv.cons_inv
    obtain ⟨e,lu⟩:=yS jA h2
    have aZ:c<256:=by simpa using aZ
    refine ⟨by rw[h1.gy,e];rfl,fun c' hc=> ?_⟩
    simp at hc;rcases hc with rfl|hc
    . exact aZ
    . exact lu _ hc
theorem ya: ∀(s:List Nat) (acc:ByteArray),((s.map Int.ofNat).foldl (fun r n=>r.push (UInt8.ofNat n.toNat)) acc).data.toList=acc.data.toList++s.map UInt8.ofNat
 |[],acc=>by simp
 |c::s,acc=>by
  simp only[List.map_cons,List.foldl_cons]
  rw[ya s]
  simp[ByteArray.push]
theorem Oc {P:Program} {e:TypeId} (hc:P.cellsOf e≠0) (count:Nat) (hn:1<=count):liesAt P P.depth e count 0 e 1=true:=by
 have hd:P.depth=(2*(P.types.size+Made.depth)+1)+1:=rfl
 rw[hd]
 simp only[liesAt,Bool.or_eq_true]
 left
 rw[hd]
 simp[rowAt,hc,hn,sameLayout]
theorem Od (hT:bZ P tt) (src dst:TypeId) (x:Operand) (hnb: ∀k xs cls,fA tt (.convert src dst x)=some (k,xs,cls)->k≠ .conv .bytes):cw P tt (.convert src dst x):=by
 intro ρ C st w k xs cls fr a o vs res ho hc hW hF hx hr
 have hnb:=hnb _ _ _ hc
 simp only[fA] at hc
 split at hc<;>first|(cases hc;done)|skip
 rename_i s d b hs hd hb
 obtain ⟨ds,wB,zN⟩:=(hT.at hs).und
 obtain ⟨dd,hdd,bM⟩:=(hT.at hd).und
 split at hc<;>first|(cases hc;done)|skip
 . rename_i k1 k2 h1 h2
   cases hc
   obtain ⟨v,rfl,hv⟩:=eu hb hF hx
   rw[h1] at zN;rw[h2] at bM
   rw[zH zN] at wB;rw[zH bM] at hdd
   simp only[aB.run,qQ] at hr
   split at hr<;>first|(cases hr;done)|(rename_i heq;cases heq;done)|(rename_i heq;cases heq)
   simp only[Option.some.injEq] at hr;subst hr
   refine .pure ?_ (by rw[oV];exact .int _ _)
   simp[execOp,ho,hv.gy,convert,aK wB,aK hdd,Conv.intToInt]
 . rename_i h1 h2
   cases hc
   obtain ⟨v,rfl,hv⟩:=eu hb hF hx
   rw[h1] at zN;rw[h2] at bM
   rw[kC zN] at wB;rw[kC bM] at hdd
   simp only[aB.run,qQ] at hr
   split at hr<;>first|(cases hr;done)|(rename_i heq;cases heq;done)|(rename_i heq;cases heq)
   simp only[Option.some.injEq] at hr;subst hr
   obtain ⟨bs,he,hs⟩:=hv.cv
   exact .pure (x:= .string bs) (by simp[execOp,ho,he,convert,aK wB,aK hdd]) (.str _ _ hs)
 . split at hc<;>first|(cases hc;done)|skip
   split at hc<;>first|(cases hc;done)|skip
   cases hc
   exact absurd rfl hnb
 . rename_i e h1 h2
   split at hc<;>first|(cases hc;done)|skip
   rename_i te eK
   split at hc<;>first|(cases hc;done)|skip
   rename_i RW
   cases hc
   obtain ⟨v,rfl,hv⟩:=eu hb hF hx
   rw[h1] at zN;rw[h2] at bM
   rw[kL zN] at wB;rw[kC bM] at hdd
   obtain ⟨de,RX,RY⟩:=(hT.at eK).und
   rw[RW] at RY;rw[zH RY] at RX
   have nI: ∀y:Option Addr×Nat×Nat,a.eval x= .slice y.1 y.2.1 y.2.2->(execOp a.eval o).run P w=((Conv.bytesToString (a.eval x)).run P w).andThen fun v w=> .ok (.value v) w:=by
     intro y he
     simp[execOp,ho,he,convert,aK wB,aK hdd,aK RX]
   simp only[aB.run,qQ] at hr
   split at hr<;>first|(cases hr;done)|(rename_i heq;cases heq;done)|(rename_i heq;cases heq)
   . simp only[Option.some.injEq] at hr;subst hr
     have he:=hv.eW
     refine .pure (x:= .string .empty) ?_ (.str _ _ rfl)
     rw[nI (none,0,0) he,he];simp[Conv.bytesToString]
   . rename_i bb off m cap es
     obtain ⟨aa,aH,he,hle,_,ha⟩:=hv.cE
     split at hr
     .  rename_i h0
        have:=Nat.eq_of_beq_eq_true h0;subst this
        simp only[Option.some.injEq] at hr;subst hr
        refine .pure (x:= .string .empty) ?_ (.str _ _ rfl)
        rw[nI (some aa,0,aH) he,he];simp[Conv.bytesToString,loadCells,loadCellsFrom]
     .  rename_i h0
        have h0:=Nat.ne_of_beq_eq_false h0
        split at hr<;>first|(cases hr;done)|skip
        rename_i cs fz iQ
        split at hr<;>first|(cases hr;done)|skip
        rename_i l hcut
        split at hr<;>first|(cases hr;done)|skip
        rename_i s' LG
        simp only[Option.some.injEq] at hr;subst hr
        obtain ⟨aZ,rfl,_⟩:=ha (by omega)
        obtain ⟨ys,pO,lS⟩:=hW.loadCells (P:=P) iQ hcut
        obtain ⟨e1,e2⟩:=yS LG lS
        rw[e1] at pO
        have bH:=run_bytesToString (P:=P) w ⟨(ρ bb).aA,(ρ bb).base+off,none⟩ m aH (s'.map Int.ofNat) pO
        refine .pure (x:= .string _) (by rw[nI (some _,m,aH) he,he,bH];rfl) (.str _ _ ?_)
        rw[ya,List.map_append]
        have e0:ByteArray.empty.data.toList=[]:=rfl
        rw[e0,List.map_nil,List.nil_append,List.map_map]
        have e3:s'.map (UInt8.toNat∘UInt8.ofNat)=s'.map id:=List.map_congr_left fun c hc=>by
         have:=e2 c hc
         simp only[Function.comp,id,UInt8.toNat_ofNat']
         omega
        rw[e3,List.map_id]
 ·
   rename_i e h1 h2
   split at hc<;>first|(cases hc;done)|skip
   rename_i te eK
   split at hc<;>first|(cases hc;done)|skip
   rename_i dM
   cases hc
   obtain ⟨v,rfl,hv⟩:=eu hb hF hx
   rw[h1] at zN;rw[h2] at bM
   rw[Hg zN] at wB;rw[RM bM] at hdd
   obtain ⟨i0,jI,je,_⟩:=(hT.at eK).info
   have dM:=Nat.ne_of_beq_eq_false dM
   simp only[aB.run,Dl] at hr
   split at hr<;>first|(cases hr;done)|skip
   . simp only[Option.some.injEq] at hr;subst hr
     refine .pure (x:= .pointer none) ?_ .bF
     simp[execOp,ho,hv.nZ,convert,aK wB,aK hdd,Conv.unsafePointer]
   . rename_i bb off
     split at hr<;>first|(cases hr;done)|skip
     rename_i t0 cs iQ
     split at hr<;>first|(cases hr;done)|skip
     rename_i aZ
     have aZ:off<cs.length:=by simpa using aZ
     simp only[Option.some.injEq] at hr;subst hr
     obtain ⟨_,he⟩:=hv.eN
     obtain ⟨_,_,c,fr,g1,g2,g3,g4,g5,g6⟩:=hW.live _ _ iQ
     have Fi:w.shape? (ρ bb).aA=some (t0,c.size):=by simp[World.shape?,g1]
     have:=Lib.run_to_unsafe (P:=P) (w:=w) (j:=i0) ⟨(ρ bb).aA,(ρ bb).base+off,none⟩ wB hdd jI (by rw[je];exact dM) Fi (by show (ρ bb).base+off<c.size;omega)
     exact .pure (x:= .pointer (some ⟨(ρ bb).aA,(ρ bb).base+off,none⟩)) (by simp[execOp,ho,he,this]) (he ▸hv)
 ·
   rename_i e h1 h2
   split at hc<;>first|(cases hc;done)|skip
   rename_i te eK
   split at hc<;>first|(cases hc;done)|skip
   rename_i dM
   cases hc
   obtain ⟨v,rfl,hv⟩:=eu hb hF hx
   rw[h1] at zN;rw[h2] at bM
   rw[RM zN] at wB;rw[Hg bM] at hdd
   obtain ⟨i0,jI,je,_⟩:=(hT.at eK).info
   have dM:=Nat.ne_of_beq_eq_false dM
   simp only[aB.run,wj] at hr
   split at hr<;>first|(cases hr;done)|skip
   . simp only[Option.some.injEq] at hr;subst hr
     refine .pure (x:= .pointer none) ?_ .bF
     simp[execOp,ho,hv.nZ,convert,aK wB,aK hdd,Conv.unsafePointer]
   . rename_i bb
     split at hr<;>first|(cases hr;done)|skip
     rename_i t0 cs iQ
     split at hr<;>first|(cases hr;done)|skip
     rename_i ht hle
     have ht:=Nat.eq_of_beq_eq_true ht
     have hle:=Nat.le_of_ble_eq_true hle
     subst ht
     simp only[Option.some.injEq] at hr;subst hr
     obtain ⟨_,he⟩:=hv.eN
     obtain ⟨_,_,c,fr,g1,g2,g3,g4,g5,g6⟩:=hW.live _ _ iQ
     have Fi:w.shape? (ρ bb).aA=some (t0,c.size):=by simp[World.shape?,g1]
     have tV:P.cellsOf t0=te.size:=by simp[Program.cellsOf,jI,je]
     have hone:1<=c.size / P.cellsOf t0:=by rw[tV,Nat.le_div_iff_mul_le (by omega)];omega
     rw[Nat.add_zero] at he
     have:=Lib.run_from_unsafe (P:=P) (w:=w) (j:=i0) ⟨(ρ bb).aA,(ρ bb).base,none⟩ wB hdd jI Fi (by show liesAt P P.depth t0 _ (ρ bb).base t0 1=true;rw[g6];exact Oc (by rw[tV];exact dM) _ hone)
     exact .pure (x:= .pointer (some ⟨(ρ bb).aA,(ρ bb).base,none⟩)) (by simp[execOp,ho,he,this]) (he ▸hv)
theorem zO {t:TypeId} {d:TypeDesc} (hd:P.underlying t=some d) {pk:PK} (hk:pk.fits d=true) (e:Bool) (m:Nat) (x:Value) (w:World):
  (Instr.checkKey e (m+1) t x).run P w= .ok () w:=by
 unfold Instr.checkKey
 rw[Sem.run_bind,aK hd,Result.andThen_ok]
 cases pk<;>cases d<;>simp[PK.fits] at hk<;>rfl
theorem Fm {ρ:Pos->Loc} {n:Nat} {C:Cells} {pk:PK} {d:TypeDesc} (hk:pk.fits d=true) {u v:AV} {x y:Value} {r:Bool}
   (h1:ax ρ n C u x) (h2:ax ρ n C v y) (h:uU pk u v=some r):Instr.sameNow d x y=some r:=by
 unfold uU at h
 split at h<;>first|(cases h;done)|skip
 . simp only[Option.some.injEq] at h;subst h
   cases d<;>simp[PK.fits] at hk
   rw[h1.gQ,h2.gQ];rfl
 . split at h<;>first|(cases h;done)|skip
   rename_i xY
   have:=qV xY;subst this
   simp only[Option.some.injEq] at h;subst h
   cases d<;>simp[PK.fits] at hk
   rw[h1.gy,h2.gy];simp[Instr.sameNow,gR]
 . simp only[Option.some.injEq] at h;subst h
   cases d<;>simp[PK.fits] at hk
   obtain ⟨bx,rfl,e1⟩:=h1.cv
   obtain ⟨bz,rfl,e2⟩:=h2.cv
   simp only[Instr.sameNow]
   rw[beq_toListBytes,zK e1 e2]
def yb (ρ:Pos->Loc) (n:Nat) (C:Cells) (es:List (AV×AV×Nat)) (es':List MapEntry):Prop:=
 es.length=es'.length/\ ∀(i:Nat) (e:AV×AV×Nat) (e':MapEntry),es[i]? =some e->es'[i]? =some e'->ax ρ n C e.1 e'.key/\ax ρ n C e.2.1 e'.val/\e.2.2=e'.born
theorem ur {ρ:Pos->Loc} {n:Nat} {C:Cells} {pk:PK} {d:TypeDesc} (hk:pk.fits d=true) {u:AV} {x:Value} (hu:ax ρ n C u x):
  ∀{es:List (AV×AV×Nat)} {es':List MapEntry} {i:Nat} {r:Option (Nat×AV)},yb ρ n C es es'->qo pk u es i=some r->
  ∃r',Instr.findNow d x es' i=some r'/\((r=none/\r'=none)\/ ∃j v y,r=some (j,v)/\r'=some (j,y)/\ax ρ n C v y/\i<=j/\j<i+es.length)
 |[],es',i,r,he,h=>by
  simp[qo] at h;subst h
  cases es' with
  |nil=>exact ⟨none,rfl,.inl ⟨rfl,rfl⟩⟩
  |cons e es'=>have:=he.1;simp at this
 |(k',v,born)::es,es',i,r,he,h=>by
  cases es' with
  |nil=>have:=he.1;simp at this
  |cons e' es'=>
   have h0:=he.2 0 (k',v,born) e' rfl rfl
   have kJ:yb ρ n C es es':=⟨by have:=he.1;simpa using this,fun j e e' h1 h2=>he.2 (j+1) e e' (by simpa using h1) (by simpa using h2)⟩
   unfold qo at h
   split at h<;>first|(cases h;done)|skip
   .    rename_i hq
        simp only[Option.some.injEq] at h;subst h
        refine ⟨some (i,e'.val),by simp[Instr.findNow,Fm hk hu h0.1 hq],.inr ⟨i,v,e'.val,rfl,rfl,h0.2.1,Nat.le_refl _,by simp⟩⟩
   .    rename_i hq
        obtain ⟨r',h1,h2⟩:=ur hk hu kJ h
        refine ⟨r',by simp[Instr.findNow,Fm hk hu h0.1 hq,h1],?_⟩
        rcases h2 with h2|⟨j,v',y,e1,e2,e3,e4,e5⟩
        . exact .inl h2
        . exact .inr ⟨j,v',y,e1,e2,e3,by omega,by simp;omega⟩
theorem run_findKey {t:TypeId} {d:TypeDesc} (hd:P.underlying t=some d) {x:Value} {es:List MapEntry} {r:Option (Nat×Value)} (h:Instr.findNow d x es 0=some r) (w:World):
  (Instr.findKey t x es).run P w= .ok r w:=by
 simp[Instr.findKey,aK hd,h]
theorem run_getObj_map {r:Nat} {es:Array MapEntry} {c:Nat} {w:World} (h:w.heap[r]? =some (.map es c)):(getObj r).run P w= .ok (.map es c) w:=by
 simp[getObj,Sem.run,h]
theorem XE (k:TK) {d:TypeDesc} (h:bw k d=true) {pk:PK} (hp:(k= .bool/\pk= .b)\/((∃i,k= .int i)/\pk= .i)\/(k= .string/\pk= .s)):pk.fits d=true:=by
 rcases hp with ⟨rfl,rfl⟩|⟨⟨i,rfl⟩,rfl⟩|⟨rfl,rfl⟩
 . rw[Jc h];rfl
 . rw[zH h];rfl
 . rw[kC h];rfl
theorem oW (hT:bZ P tt) {t:Nat} {ti:TI} (ht:tt.get (key t)=some ti) {z:List AV} (hz:ti.zero=some z) {ρ:Pos->Loc} {n:Nat} {C:Cells} (w:World):
   ∃v,(zeroValue t).run P w= .ok v w/\ax ρ n C (fA.zD ti z) v/\aq ρ n C z v.cells.toList:=by
 obtain ⟨i,hi,je,_,sK⟩:=(hT.at ht).info
 obtain ⟨v,hv,hs,hlen,h1,h2⟩:=sK z hz
 refine ⟨v,UR hi hv w,?_,ou hs⟩
 unfold fA.zD
 split
 . rename_i ha
   obtain ⟨cs,rfl⟩:=h1 ha
   exact .rI (ou hs)
 . rename_i ha
   have hc:=h2 ha
   rw[hc] at hs
   simp only[nE] at hs
   split at hs<;>first|(cases hs;done)|skip
   rename_i a as e1 e2
   simp only[Option.some.injEq] at hs e2
   subst hs;subst e2
   simp only
   exact wq e1
theorem P9 (hT:bZ P tt) (t:TypeId) (x ix:Operand) (ok:Bool):cw P tt (.lookup t x ix ok):=by
 intro ρ C st w k xs cls fr a o vs res ho hc hW hF hx hr
 simp only[fA] at hc
 split at hc<;>first|(cases hc;done)|skip
 rename_i ti l b7 hl
 split at hc<;>first|(cases hc;done)|skip
 rename_i kt et hk
 split at hc<;>first|(cases hc;done)|skip
 rename_i tk te LH eK
 obtain ⟨d,hd,bM⟩:=(hT.at b7).und
 rw[hk] at bM;rw[Dp bM] at hd
 obtain ⟨dk,JN,xY⟩:=(hT.at LH).und
 have key: ∃pk z,te.zero=some z/\k= .lookup pk (fA.zD te z) ok/\xs=l/\cls= .read/\pk.fits dk=true:=by
  split at hc<;>first|(cases hc;done)|skip
  all_goals
    rename_i z h1 h2
    cases hc
    refine ⟨_,z,h2,rfl,rfl,rfl,XE tk.k xY ?_⟩
  . exact .inr (.inl ⟨⟨_,h1⟩,rfl⟩)
  . exact .inr (.inr ⟨h1,rfl⟩)
  . exact .inl ⟨h1,rfl⟩
 obtain ⟨pk,z,hz,rfl,rfl,rfl,lq⟩:=key
 obtain ⟨m,kk,rfl,h1,h2⟩:=Jd hl hF hx
 obtain ⟨zv,sM,Hp,_⟩:=oW hT eK hz (ρ:=ρ) (n:=st.next.toNat) (C:=C) w
 have OR: ∀e,(Instr.checkKey e 10000 kt (a.eval ix)).run P w= .ok () w:=fun e=>zO JN lq e 9999 _ w
 simp only[aB.run,uj] at hr
 split at hr<;>first|(cases hr;done)|skip
 ·
  rename_i j v hm
  simp only[Option.some.injEq] at hr;subst hr
  split at hm<;>first|(cases hm;done)|skip
  . split at hm<;>first|(cases hm;done)|(simp at hm;done)
  . rename_i b
    split at hm<;>first|(cases hm;done)|skip
    rename_i es c hb
    obtain ⟨_,he⟩:=h1.tD
    obtain ⟨_,_,es',fE,hlen,lu⟩:=hW.live _ _ hb
    have hE:yb ρ st.next.toNat C es es'.toList:=⟨by simpa using hlen,fun i e e' h1 h2=>lu i e e' h1 (by simpa using h2)⟩
    obtain ⟨r',hf,jB⟩:=ur lq h2 hE hm
    rcases jB with ⟨e1,_⟩|⟨j',v',y,e1,e2,e3,_⟩
    .   cases e1
    .   cases e1;subst e2
        have bH:(execOp a.eval o).run P w= .ok (.value (if ok then .tuple #[y,.bool true] else y)) w:=by
          simp only[execOp,ho,Instr.lookup,Sem.run_bind,aK hd,Result.andThen_ok,he,run_getObj_map fE,OR,run_findKey JN hf,Sem.run_pure]
        refine .pure bH ?_
        cases ok
        . exact e3
        . exact .jQ (aq.cons e3 (aq.cons (.bool true) aq.nil))
 ·
  rename_i hm
  simp only[Option.some.injEq] at hr;subst hr
  have bH:(execOp a.eval o).run P w= .ok (.value (if ok then .tuple #[zv,.bool false] else zv)) w:=by
    split at hm<;>first|(cases hm;done)|skip
    .   split at hm<;>first|(cases hm;done)|skip
        have he:=h1.tC
        have hf:(Instr.findKey kt (a.eval ix) []).run P w= .ok none w:=run_findKey JN rfl w
        simp only[execOp,ho,Instr.lookup,Sem.run_bind,aK hd,Result.andThen_ok,he,OR,hf,sM,Sem.run_pure]
    .   rename_i b
        split at hm<;>first|(cases hm;done)|skip
        rename_i es c hb
        obtain ⟨_,he⟩:=h1.tD
        obtain ⟨_,_,es',fE,hlen,lu⟩:=hW.live _ _ hb
        have hE:yb ρ st.next.toNat C es es'.toList:=⟨by simpa using hlen,fun i e e' h1 h2=>lu i e e' h1 (by simpa using h2)⟩
        obtain ⟨r',hf,jB⟩:=ur lq h2 hE hm
        rcases jB with ⟨_,e2⟩|⟨j',v',y,e1,_⟩
        . subst e2
          simp only[execOp,ho,Instr.lookup,Sem.run_bind,aK hd,Result.andThen_ok,he,run_getObj_map fE,OR,run_findKey JN hf,sM,Sem.run_pure]
        . cases e1
  refine .pure bH ?_
  cases ok
  . exact Hp
  . exact .jQ (aq.cons Hp (aq.cons (.bool false) aq.nil))
end
end Go.Ai
end
section
namespace Go.Ai
open Go Go.RowKit
section
variable {P : Program} {tt : TT}
theorem wC: ∀(l:List Value) (off k:Nat) (cs:Array Value),off+k+l.length<=cs.size->
  ((l.zipIdx k).foldl (fun cs (c,j)=>cs.setIfInBounds (off+j) c) cs).toList=aO cs.toList (off+k) l
 |[],off,k,cs,_=>by simp[aO,List.take_append_drop]
 |v::l,off,k,cs,h=>by
  simp only[List.length_cons] at h
  simp only[List.zipIdx_cons,List.foldl_cons]
  rw[wC l off (k+1) _ (by simp;omega)]
  simp only[aO,List.length_cons,Array.toList_setIfInBounds]
  rw[List.drop_set_of_lt (by omega)]
  have:off+(k+1)=(off+k)+1:=by omega
  rw[this,List.take_set,List.take_add_one]
  have aZ:off+k<cs.toList.length:=by simp;omega
  rw[List.getElem?_eq_getElem aZ]
  simp only[Option.toList_some,List.set_append,List.length_take]
  have hm:min (off+k) cs.toList.length=off+k:=Nat.min_eq_left (Nat.le_of_lt aZ)
  rw[hm,if_neg (Nat.lt_irrefl _),Nat.sub_self]
  simp
  rw[show off+k+1+l.length=off+k+(l.length+1) from by omega]
theorem F7 {ρ:Pos->Loc} {n:Nat} {C:Cells} (pl:Nat->Option (Nat×Nat)): ∀{pp:List (Nat×Nat)} {vs cells r:List AV} {ps:List (Nat×Value)} {cs:Array Value},
  fk cells pp vs=some r->aq ρ n C cells cs.toList->aq ρ n C vs (ps.map (·.2))->ps.map (fun x=>pl x.1)=pp.map some->
  ∃mT,Instr.fill pl cs ps=some mT/\aq ρ n C r mT.toList
 |[],vs,cells,r,ps,cs,h,hc,hv,hp=>by
  unfold fk at h
  split at h<;>first|(cases h;done)|skip
  . simp only[Option.some.injEq] at h;subst h
    have:ps=[]:=by simpa using hv.iE
    subst this
    exact ⟨cs,rfl,hc⟩
  . rename_i hh;cases hh
 |(off  ,size)::pp,vs,cells,r,ps,cs,h,hc,hv,hp=>by
  unfold fk at h
  split at h<;>first|(cases h;done)|skip
  . rename_i hh;cases hh
  . rename_i off' size' pp' v Xz hh
    simp only[List.cons.injEq,Prod.mk.injEq] at hh
    obtain ⟨⟨rfl,rfl⟩,rfl⟩:=hh
    split at h<;>first|(cases h;done)|skip
    rename_i h1 h2
    have h1:=Nat.eq_of_beq_eq_true h1
    have h2:=Nat.le_of_ble_eq_true h2
    cases ps with
    |nil=>have:=hv.1;simp at this
    |   cons p ps=>
        obtain ⟨i,x⟩:=p
        simp only[List.map_cons,List.cons.injEq] at hp hv
        obtain ⟨OS,Fo⟩:=hp
        obtain ⟨y,ys,pO,hx,lS⟩:=hv.cons_inv
        simp only[List.cons.injEq] at pO;obtain ⟨rfl,rfl⟩:=pO
        have hxc:=hx.cells
        have hlen:x.cells.size=size:=by rw[<-h1,hxc.1];simp
        have dM:off+size<=cs.size:=by have:=hc.1;simp at this;omega
        have afx:(x.cells.zipIdx.foldl (fun cs (c,j)=>cs.setIfInBounds (off+j) c) cs).toList=aO cs.toList off x.cells.toList:=by
         rw[<-Array.foldl_toList,Array.toList_zipIdx]
         have:=wC x.cells.toList off 0 cs (by simp;omega)
         simpa using this
        obtain ⟨mT,e1,e2⟩:=F7 pl h (cs:=x.cells.zipIdx.foldl (fun cs (c,j)=>cs.setIfInBounds (off+j) c) cs) (by rw[afx];exact hc.aO hxc off) lS Fo
        refine ⟨mT,?_,e2⟩
        simp only[Instr.fill,OS]
        rw[if_neg (by simp[hlen];omega)]
        exact e1
theorem CM (hT:bZ P tt) {gs:Array Field} (w:World): ∀{fs:List (Nat×Nat×Bool)} (_hm:bw.dc fs gs.toList=true) {is:List Nat} {pp:List (Nat×Nat)}
  (_h:fA.places tt fs is=some pp) {Dt:List (Nat×Nat)} (_hpl: ∀(i:Nat) (f:Field) (inf:TypeInfo),gs.toList[i]? =some f->P.info? f.type=some inf->Dt[i]? =some (f.offset,inf.size)),
  is.map (fun i=>Dt[i]?)=pp.map some
 |fs,hm,[],pp,h,Dt,RZ=>by simp[fA.places] at h;subst h;rfl
 |fs,hm,i::is,pp,h,Dt,RZ=>by
  unfold fA.places at h
  split at h<;>first|(cases h;done)|skip
  rename_i off t nm l h1 h2
  split at h<;>first|(cases h;done)|skip
  rename_i ti R4
  simp only[Option.some.injEq] at h;subst h
  obtain ⟨f,hf,e1,e2,_⟩:=Bs hm h1
  obtain ⟨inf,LI,dM,_⟩:=(hT.at R4).info
  simp only at e1 e2
  have:=RZ i f inf hf (by rw[e2];exact LI)
  simp only[List.map_cons,this,e1,dM]
  rw[CM hT w hm h2 RZ]
theorem Hq (hT:bZ P tt): ∀{fs:List (Nat×Nat×Bool)} {gs:List Field} (_hm:bw.dc fs gs=true) (_ha:fA.La tt fs=true),
  ∃Dt:List (Nat×Nat),gs.mapM (fun f=>(P.info? f.type).map fun i=>(f.offset,i.size))=some Dt/\
   ∀(i:Nat) (f:Field) (inf:TypeInfo),gs[i]? =some f->P.info? f.type=some inf->Dt[i]? =some (f.offset,inf.size)
 |[],gs,hm,ha=>by
  cases gs with
  |cons g gs=>simp[bw.dc] at hm
  |nil=>exact ⟨[],rfl,fun i f inf h=>by simp at h⟩
 |(off,t,nm)::fs,gs,hm,ha=>by
  cases gs with
  |nil=>simp[bw.dc] at hm
  |cons g gs=>
   simp[bw.dc] at hm
   unfold fA.La at ha
   split at ha<;>first|(cases ha;done)|skip
   rename_i ti R4
   obtain ⟨inf,LI,_⟩:=(hT.at R4).info
   obtain ⟨Dt,h1,h2⟩:=Hq hT hm.2 ha
   rw[hm.1.1.2] at LI
   refine ⟨(g.offset,inf.size)::Dt,by simp[LI,h1],fun i f inf' hi hf=> ?_⟩
   cases i with
   |zero=>simp at hi;subst hi;rw[LI] at hf;cases hf;rfl
   |succ i=>simp at hi ⊢; exact h2 i f inf' hi hf
theorem R5 (hT:bZ P tt) (t:TypeId) (ps:Array (Nat×Operand)):cw P tt (.build t ps):=by
 intro ρ C st w k xs cls fr a o vs res ho hc hW hF hx hr
 simp only[fA] at hc
 split at hc<;>first|(cases hc;done)|skip
 rename_i ti l b7 hl
 obtain ⟨d,hd,bM⟩:=(hT.at b7).und
 obtain ⟨it,hit,_,_,sK⟩:=(hT.at b7).info
 have nI: ∀(pp:List (Nat×Nat)) (z:List AV) (pl:Nat->Option (Nat×Nat)),ti.zero=some z->k= .build z pp->xs=l->ps.toList.map (fun x=>pl x.1)=pp.map some->
    (∀(v:Value) (parts:List (Nat×Value)) (cells:Array Value),it.zero=some v->Instr.fill pl v.cells parts=some cells->P.built t parts=some cells)->
    pE P ρ C st w ((execOp a.eval o).run P w) res:=by
   rintro pp z pl hz rfl rfl LJ adi
   have hv:=dO hl hF hx
   obtain ⟨v,u7,hs,_⟩:=sK z hz
   simp only[aB.run,Bi] at hr
   split at hr<;>first|(cases hr;done)|skip
   rename_i cs EM
   simp only[Option.some.injEq] at hr;subst hr
   have Hp:aq ρ st.next.toNat C z v.cells.toList:=ou hs
   have OT:(ps.map fun (i,x)=>(i,a.eval x)).toList=ps.toList.map fun x=>(x.1,a.eval x.2):=by simp
   obtain ⟨mT,e1,e2⟩:=F7 pl EM Hp (ps:=ps.toList.map fun x=>(x.1,a.eval x.2)) (by simpa [List.map_map,Function.comp_def] using hv) (by simpa [List.map_map,Function.comp_def] using LJ)
   refine .pure (x:= .agg mT) ?_ (.rI e2)
   have bH:=run_build w t (ps.map fun (i,x)=>(i,a.eval x)) mT (adi v _ _ u7 (by rw[OT];exact e1))
   simp only[execOp,ho,Sem.run_bind]
   rw[bH];rfl
 split at hc<;>first|(cases hc;done)|skip
 . rename_i fs z hk hz
   rw[hk] at bM
   obtain ⟨gs,rfl,hm⟩:=xW bM
   split at hc<;>first|(cases hc;done)|skip
   rename_i pp RZ lu
   cases hc
   obtain ⟨Dt,h1,h2⟩:=Hq hT hm lu
   have LJ:=CM hT w hm RZ h2
   refine nI pp z (fun i=>Dt.toArray[i]?) hz rfl rfl (by simpa [List.map_map,Function.comp_def] using LJ) fun v parts cells hv hf=> ?_
   unfold Program.built
   rw[hit,hd]
   simp only[hv,h1]
   exact hf
 . rename_i e z hk hz
   rw[hk] at bM
   rw[Ly bM] at hd
   split at hc<;>first|(cases hc;done)|skip
   rename_i te eK
   cases hc
   obtain ⟨ie,R6,dM,_⟩:=(hT.at eK).info
   refine nI _ z (fun i=>some (i*te.size,te.size)) hz rfl rfl (by simp[List.map_map,Function.comp_def]) fun v parts cells hv hf=> ?_
   unfold Program.built
   rw[hit,hd]
   simp only[hv,R6,dM]
   exact hf
end
end Go.Ai
end
