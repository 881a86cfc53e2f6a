/- The evaluator's operations answer as the model's do, first part. -/
import Derived.Test.YtehbdakjkjkekaaGreatDoorSEvalA
import Derived.LaidEql
import Derived.Laws.Strings
import Derived.Laws.StructEq
import Derived.Laws.Small
import Derived.Lib.Builder
import Derived.Laws.BytesString
import Derived.Laws.Tables
set_option linter.all false
set_option linter.unusedSectionVars false
set_option linter.deprecated false
section
namespace Go.Ai
def bU:TK->TypeDesc->Bool
 | .bool,.bool=>true
 | .int k,.int k'=>Bd k k'
 | .string,.string=>true
 | .ptr e,.pointer e'=>Nat.beq e e'
 | .slice e,.slice e'=>Nat.beq e e'
 | .array n e,.array n' e'=>Nat.beq n n'&&Nat.beq e e'
 | .map k e,.map k' e'=>Nat.beq k k'&&Nat.beq e e'
 | .struct fs,.struct fs'=>eA fs fs'.toList
 | .func,.func _ _ _=>true
 | .iface,.interface _=>true
 | .WC,.unsafePointer=>true
 | .other,.interface _=>false
 | .other,.int _=>false
 | .other,.array _ _=>false
 | .other,.struct _=>false
 | .other,_=>true
 |_,_=>false
where
 eA:List (Nat×Nat×Bool)->List Field->Bool
  |[],[]=>true
  |(off,t,named)::l,f::l'=>Nat.beq off f.offset&&Nat.beq t f.type&&(named==(f.name != "_"))&&eA l l'
  |_,_=>false
structure Vf (P:Program) (t:TypeId) (ti:TI):Prop where
 und: ∃d,P.underlying t=some d/\bU ti.k d=true
 info: ∃i,P.info? t=some i/\i.size=ti.size/\i.bytes=ti.bytes/\
  ∀z,ti.zero=some z-> ∃v,i.zero=some v/\qF v.cells.toList=some z/\z.length=ti.size/\(ti.k.isAgg=true-> ∃cs,v= .agg cs)/\(ti.k.isAgg=false->v.cells= #[v])
 elem: ∀e,ti.k= .ptr e-> ∃j,P.info? e=some j
 eqs:ti.zU=true->P.stoodInHeld t=false/\P.eqGuardType P.depth t=false
def dh (P:Program) (tt:TT):Prop:= ∀p ti,tt.get p=some ti->Vf P (p.toNat - 1) ti
theorem dh.at {P:Program} {tt:TT} (h:dh P tt) {t:Nat} {ti:TI} (ht:tt.get (key t)=some ti):Vf P t ti:=by
 have:=h _ _ ht
 rwa [jY,Nat.add_sub_cancel] at this
section
variable {P : Program} {tt : TT} {ρ : Pos -> Loc} {n : Nat} {C : Cells}
theorem aQ {t:TypeId} {d:TypeDesc} (h:P.underlying t=some d) (w:World):(underlying t).run P w= .ok d w:=run_underlying h w
theorem PZ {t:TypeId} {i:TypeInfo} (h:P.info? t=some i) (w:World):(typeInfo t).run P w= .ok i w:=by simp[typeInfo,h]
theorem jq {t:TypeId} {i:TypeInfo} (h:P.info? t=some i) (w:World):(sizeOf t).run P w= .ok i.size w:=by simp[sizeOf,typeInfo,h]
theorem Zo {t:TypeId} {i:TypeInfo} {v:Value} (h:P.info? t=some i) (hz:i.zero=some v) (w:World):(zeroValue t).run P w= .ok v w:=by simp[zeroValue,typeInfo,h,hz]
theorem Kv {k:TK} {d:TypeDesc} (h:bU k d=true) (w:World) {t:TypeId} (ht:P.underlying t=some d):(isAgg t).run P w= .ok k.isAgg w:=by
 cases k<;>cases d<;>first|(simp[bU] at h;done)|simp[isAgg,aQ ht,TK.isAgg]
theorem ob {e:Nat} {d:TypeDesc} (h:bU (.slice e) d=true):d= .slice e:=by
 cases d<;>simp[bU] at h;rw[h]
theorem LA {e:Nat} {d:TypeDesc} (h:bU (.ptr e) d=true):d= .pointer e:=by
 cases d<;>simp[bU] at h;rw[h]
theorem P0 {m e:Nat} {d:TypeDesc} (h:bU (.array m e) d=true):d= .array m e:=by
 cases d<;>simp[bU] at h;rw[h.1,h.2]
theorem H6 {k e:Nat} {d:TypeDesc} (h:bU (.map k e) d=true):d= .map k e:=by
 cases d<;>simp[bU] at h;rw[h.1,h.2]
theorem Nc {d:TypeDesc} (h:bU .bool d=true):d= .bool:=by
 cases d<;>simp[bU] at h;rfl
theorem wh {a b:IntKind} (h:Bd a b=true):a=b:=by
 unfold Bd at h;split at h
 . assumption
 . cases h
theorem Ef {k:IntKind} {d:TypeDesc} (h:bU (.int k) d=true):d= .int k:=by
 cases d<;>simp[bU] at h;rw[wh h]
theorem nQ {d:TypeDesc} (h:bU .string d=true):d= .string:=by
 cases d<;>simp[bU] at h;rfl
theorem CP {fs:List (Nat×Nat×Bool)} {d:TypeDesc} (h:bU (.struct fs) d=true): ∃gs,d= .struct gs/\bU.eA fs gs.toList=true:=by
 cases d<;>simp[bU] at h;exact ⟨_,rfl,h⟩
theorem abq {d:TypeDesc} (h:bU .func d=true): ∃a b c,d= .func a b c:=by
 cases d<;>simp[bU] at h;exact ⟨_,_,_,rfl⟩
theorem Zp {d:TypeDesc} (h:bU .iface d=true): ∃a,d= .interface a:=by
 cases d<;>simp[bU] at h;exact ⟨_,rfl⟩
theorem WH {d:TypeDesc} (h:bU .WC d=true):d= .unsafePointer:=by
 cases d<;>simp[bU] at h;rfl
theorem nj {α:Type}: ∀(l:List α) (i:Nat),nth l i=l[i]?
 |[],_=>by simp[nth]
 |_::_,0=>rfl
 |_::l,i+1=>by simp[nth,nj l i]
theorem Ff: ∀{fs:List (Nat×Nat×Bool)} {gs:List Field} {i:Nat} {x:Nat×Nat×Bool},bU.eA fs gs=true->nth fs i=some x->
  ∃f,gs[i]? =some f/\f.offset=x.1/\f.type=x.2.1/\(f.name != "_")=x.2.2
 |[],_,i,_,_,h=>by simp[nth] at h
 |(off,t,named)::l,[],i,_,h,_=>by simp[bU.eA] at h
 |(off,t,named)::l,f::l',0,x,h,hx=>by
  simp[bU.eA] at h
  simp[nth] at hx
  subst hx
  exact ⟨f,rfl,h.1.1.1.symm,h.1.1.2.symm,h.1.2.symm⟩
 |(off,t,named)::l,f::l',i+1,x,h,hx=>by
  simp[bU.eA] at h
  simp[nth] at hx
  obtain ⟨f',h1,h2⟩:=Ff h.2 hx
  exact ⟨f',by simpa using h1,h2⟩
theorem Bi {v:Value} {a:AV} (h:E5 v=some a):aA ρ n C a v:=by
 unfold E5 at h
 split at h<;>first
   |(cases h;done)
   |(simp only[Option.some.injEq] at h;subst h)
 . exact .bool _
 . exact .int _ _
 . exact .str _ _ rfl
 . exact .bq
 . exact .aj
 . exact .gA
 . exact .func _ _ _ _ _ rfl rfl (fun _ _ _ h=>by simp at h) (fun _ _ _ h=>by simp at h)
 . exact .ax
 . exact .oN
theorem rL: ∀{l:List Value} {as:List AV},qF l=some as->az ρ n C as l
 |[],as,h=>by simp[qF] at h;subst h;exact az.nil
 |v ::l,as,h=>by
  unfold qF at h
  split at h
  . rename_i a as' h1 h2
    simp only[Option.some.injEq] at h;subst h
    exact az.cons (Bi h1) (rL h2)
  . cases h
theorem Tn {v:Value} {a:AV} (h:Na v=some a):aA ρ n C a v:=by
 unfold Na at h
 split at h
 . split at h
   . rename_i l hl;simp only[Option.some.injEq] at h;subst h;exact .wM (rL hl)
   . cases h
 . exact Bi h
theorem Bj {x:Operand} {o:mj} {fr:Fr} {a:Act} {v:AV} (h:qj x=some o) (hF:oa ρ n C fr a.tmps) (hv:zj fr o=some v):aA ρ n C v (a.eval x):=by
 unfold qj at h
 split at h
 . rename_i t
   simp only[Option.some.injEq] at h;subst h
   obtain ⟨y,hy,hr⟩:=hF _ _ hv
   rw[jY,Nat.add_sub_cancel] at hy
   simp only[Act.eval,Array.getD_eq_getD_getElem?,hy,Option.getD_some];exact hr
 . split at h
   . rename_i c hc
     simp only[Option.some.injEq] at h;subst h
     simp only[zj,Option.some.injEq] at hv;subst hv
     exact Tn hc
   . cases h
 . rename_i f
   simp only[Option.some.injEq] at h;subst h
   simp only[zj,Option.some.injEq] at hv;subst hv
   exact .func _ _ _ _ _ rfl rfl (fun _ _ _ h=>by simp at h) (fun _ _ _ h=>by simp at h)
 . cases h
theorem fk: ∀{xs:List Operand} {os:List mj} {fr:Fr} {a:Act} {vs:List AV},kC xs=some os->oa ρ n C fr a.tmps->eY fr os=some vs->az ρ n C vs (xs.map a.eval)
 |[],os,fr,a,vs,h,_,hv=>by
  simp[kC] at h;subst h
  simp[eY] at hv;subst hv
  exact az.nil
 |x ::xs,os,fr,a,vs,h,hF,hv=>by
  unfold kC at h
  split at h
  . rename_i o os' h1 h2
    simp only[Option.some.injEq] at h;subst h
    unfold eY at hv
    split at hv
    .   rename_i v LB
        split at hv
        . rename_i vs' LC
          simp only[Option.some.injEq] at hv;subst hv
          exact az.cons (Bj h1 hF LB) (fk h2 hF LC)
        . cases hv
    .   cases hv
  . cases h
theorem fJ {x:Operand} {o:mj} {fr:Fr} {a:Act} {vs:List AV} (h:qj x=some o) (hF:oa ρ n C fr a.tmps) (hv:eY fr [o]=some vs):
   ∃v,vs=[v]/\aA ρ n C v (a.eval x):=by
 unfold eY at hv
 split at hv
 . rename_i v LB
   simp only[eY,Option.some.injEq] at hv;subst hv
   exact ⟨v,rfl,Bj h hF LB⟩
 . cases hv
end
def Yields (N:Next) (x:Value):Prop:=N= .value x\/(N= .skip/\x=undef)
def ux (P:Program) (ρ:Pos->Loc) (C:Cells) (st:St) (w:World) (r:Result Next):di->Prop
 | .val v=> ∃N x,r= .ok N w/\Yields N x/\aA ρ st.next.toNat C v x
 | .aI v del set new=> ∃N x w' ρ',r= .ok N w'/\Yields N x/\(∀b:Pos,b.toNat<st.next.toNat->ρ' b=ρ b)/\bM ρ' C (st.aI del set new) w'/\
  aA ρ' (st.aI del set new).next.toNat C v x/\ni ρ st w ρ' (st.aI del set new) w'
 | .call f args=> ∃bu:List Value,r=(callFunc f bu.toArray).run P w/\az ρ st.next.toNat C args bu
end Go.Ai
end
section
namespace Go.Ai
open Go Go.RowKit
theorem nk (b o i:Nat):(⟨b,o,none⟩:Addr).add i=⟨b,o+i,none⟩:=by
 unfold Addr.add;split
 . rename_i h;subst h;rfl
 . rfl
section
variable {P : Program} {ρ ρ' : Pos -> Loc} {C : Cells} {st : St} {w w' : World}
theorem bM.P4 (hW:bM ρ C st w) {Vg:T AB} {next' b0:Pos} {x0:AB}
  (hn:st.next.toNat<=next'.toNat) (wO:b0.toNat<next'.toNat) (ah2:Vg.get b0=some x0)
  (mQ: ∀b x,b≠b0->Vg.get b=some x->st.heap.get b=some x/\(ρ b).aF≠(ρ' b0).aF)
  (aU: ∀b:Pos,b.toNat<st.next.toNat->ρ' b=ρ b)
  (hB:nG ρ' next'.toNat C (ρ' b0) w' x0)
  (LD: ∀a v,C a=some v->a.block≠(ρ' b0).aF)
  (bI:(ρ' b0).aF<w'.heap.size) (Vh:w.heap.size<=w'.heap.size)
  (vK: ∀k,k<w.heap.size->k≠(ρ' b0).aF->w'.heap[k]? =w.heap[k]?):
  bM ρ' C ⟨Vg,next'⟩ w' where
 live b x hb:=by
  by_cases h:b=b0
  .  subst h
     rw[ah2] at hb;cases hb
     exact ⟨wO,bI,hB⟩
  .  obtain ⟨h1,h2⟩:=mQ b x h hb
     obtain ⟨h3,h4,h5⟩:=hW.live b x h1
     rw[aU b h3]
     exact ⟨Nat.lt_of_lt_of_le h3 hn,Nat.lt_of_lt_of_le h4 Vh,(h5.mono aU hn).of_heap (vK _ h4 h2)⟩
 inj b  b' x x' hb gV he:=by
  by_cases h:b=b0
  .  subst h
     by_cases h':b'=b
     .  exact h'.symm
     .  obtain ⟨h1,h2⟩:=mQ b' x' h' gV
        rw[aU b' (hW.live b' x' h1).1] at he
        exact absurd he.symm h2
  .  obtain ⟨h1,h2⟩:=mQ b x h hb
     rw[aU b (hW.live b x h1).1] at he
     by_cases h':b'=b0
     .  subst h';exact absurd he h2
     .  obtain ⟨Uc,WI⟩:=mQ b' x' h' gV
        rw[aU b' (hW.live b' x' Uc).1] at he
        exact hW.inj b b' x x' h1 Uc he
 dc a v ha:=by
  obtain ⟨h1,h2⟩:=hW.dc a v ha
  have Fg:a.block<w.heap.size:=World.block_lt_of_cell? _ _ h1
  refine ⟨?_,fun b x hb=> ?_⟩
  .  rw[World.cell?_of_block (w:=w) (vK _ Fg (LD a v ha))];exact h1
  .  by_cases h:b=b0
     .  subst h;exact fun e=>LD a v ha e.symm
     .  obtain ⟨h3,_⟩:=mQ b x h hb
        rw[aU b (hW.live b x h3).1];exact h2 b x h3
 whole a v ha o ho:=by
  have mb:a.block<w.heap.size:=World.block_lt_of_cell? _ _ (hW.dc a v ha).1
  rw[World.cell?_of_block (w:=w) (a:=⟨a.block,o,none⟩) (vK _ mb (LD a v ha))];exact hW.whole a v ha o ho
theorem bM.cell (hW:bM ρ C st w) {b:Pos} {cs:List AV} {fz:Nat} (hb:st.heap.get b=some (.cells cs fz)) {i:Nat} {v:AV} (hv:cs[i]? =some v):
  ∃x,w.cell? ⟨(ρ b).aF,(ρ b).base+i,none⟩=some x/\aA ρ st.next.toNat C v x:=by
 obtain ⟨_,_,c,e,fr,h1,h2,h3,h4,_⟩:=hW.live b _ hb
 obtain ⟨x,hx,hr⟩:=h4.get hv
 have hi:i<cs.length:=(List.getElem?_eq_some_iff.1 hv).1
 rw[List.getElem?_take,if_pos hi,List.getElem?_drop] at hx
 exact ⟨x,by simp[World.cell?,h1, <-hx],hr⟩
theorem bM.ah3 (hW:bM ρ C st w) {b:Pos} {cs:List AV} {t:TypeId} (hb:st.heap.get b=some (.typed t cs)) {i:Nat} {v:AV} (hv:cs[i]? =some v):
  ∃x,w.cell? ⟨(ρ b).aF,(ρ b).base+i,none⟩=some x/\aA ρ st.next.toNat C v x:=by
 obtain ⟨_,_,c,fr,h1,h2,h3,h4,_⟩:=hW.live b _ hb
 obtain ⟨x,hx,hr⟩:=h4.get hv
 have hi:i<cs.length:=(List.getElem?_eq_some_iff.1 hv).1
 rw[List.getElem?_take,if_pos hi,List.getElem?_drop] at hx
 exact ⟨x,by simp[World.cell?,h1, <-hx],hr⟩
theorem zl {α:Type} {l l':List α} {i n:Nat} (h:cut l i n=some l'):l'=(l.drop i).take n/\i+n<=l.length:=by
 unfold cut at h;split at h
 . rename_i hb;cases h;exact ⟨rfl,Nat.le_of_ble_eq_true hb⟩
 . cases h
theorem qX {α:Type} {l l':List α} {i n:Nat} (h:cut l i n=some l'):l'.length=n:=by
 obtain ⟨rfl,h2⟩:=zl h;simp;omega
theorem bM.loadCells (hW:bM ρ C st w) {b:Pos} {cs vs:List AV} {fz off n:Nat} (hb:st.heap.get b=some (.cells cs fz)) (hc:cut cs off n=some vs):
  ∃ys:List Value,(Go.loadCells ⟨(ρ b).aF,(ρ b).base+off,none⟩ n).run P w= .ok ys.toArray w/\az ρ st.next.toNat C vs ys:=by
 obtain ⟨_,_,c,e,fr,h1,h2,h3,h4,_⟩:=hW.live b _ hb
 obtain ⟨o8,hle⟩:=zl hc
 have hr:=(h4.drop off).take n
 rw[<-o8] at hr
 refine ⟨_,?_,hr⟩
 have hlen:(List.take n (List.drop off (List.take cs.length (List.drop (ρ b).base c.toList)))).length=n:=by
  rw[<-hr.1];exact qX hc
 conv=>lhs;rw[<-hlen]
 refine run_loadCells_list w _ _ fun j v hj=> ?_
 have Bk:j<n:=by rw[<-hlen];exact (List.getElem?_eq_some_iff.1 hj).1
 rw[List.getElem?_take,if_pos Bk,List.getElem?_drop,List.getElem?_take,if_pos (by omega),List.getElem?_drop] at hj
 rw[nk]
 simp[World.cell?,h1, <-hj,Nat.add_assoc]
theorem bM.LF (hW:bM ρ C st w) {b:Pos} {cs vs:List AV} {t:TypeId} {off n:Nat} (hb:st.heap.get b=some (.typed t cs)) (hc:cut cs off n=some vs):
  ∃ys:List Value,(Go.loadCells ⟨(ρ b).aF,(ρ b).base+off,none⟩ n).run P w= .ok ys.toArray w/\az ρ st.next.toNat C vs ys:=by
 obtain ⟨_,_,c,fr,h1,h2,h3,h4,_⟩:=hW.live b _ hb
 obtain ⟨o8,hle⟩:=zl hc
 have hr:=(h4.drop off).take n
 rw[<-o8] at hr
 refine ⟨_,?_,hr⟩
 have hlen:(List.take n (List.drop off (List.take cs.length (List.drop (ρ b).base c.toList)))).length=n:=by
  rw[<-hr.1];exact qX hc
 conv=>lhs;rw[<-hlen]
 refine run_loadCells_list w _ _ fun j v hj=> ?_
 have Bk:j<n:=by rw[<-hlen];exact (List.getElem?_eq_some_iff.1 hj).1
 rw[List.getElem?_take,if_pos Bk,List.getElem?_drop,List.getElem?_take,if_pos (by omega),List.getElem?_drop] at hj
 rw[nk]
 simp[World.cell?,h1, <-hj,Nat.add_assoc]
theorem lg (g e:Nat) (fr:Nat×Nat): ∀(vs:List Value) (i o:Nat) (cur:Array Value) (w:World),w.heap[g]? =some (.cells cur e fr)->o+i+vs.length<=cur.size->
  (∀v∈vs,v.oneCell'=true)->(∀k,o+i<=k->k<cur.size-> ¬(fr.1<=k/\k<fr.2))->
  ∃ w',(storeCells ⟨g,o,none⟩ vs i).run P w= .ok () w'/\w'.heap[g]? =some (.cells (aV cur.toList (o+i) vs).toArray e fr)/\
    w'.heap.size=w.heap.size/\(∀k,k≠g->w'.heap[k]? =w.heap[k]?)/\w'.os=w.os/\w'.tape=w.tape/\w'.output=w.output
 |[],i,o,cur,w,hg,_,_,_=>⟨w,by simp[storeCells],by rw[hg];simp[aV,List.take_append_drop],rfl,fun _ _=>rfl,rfl,rfl,rfl⟩
 |v ::vs,i,o,cur,w,hg,hle,h1,hf=>by
  simp only[List.length_cons] at hle
  have hv:v.oneCell'=true:=h1 v (by simp)
  have CQ:w.cell? ⟨g,o+i,none⟩=some (cur[o+i]'(by omega)):=by simp[World.cell?,hg]
  have WJ:w.frozen? ⟨g,o+i,none⟩=false:=by
    have:=hf (o+i) (Nat.le_refl _) (by omega)
    simp only[World.frozen?,hg]
    simpa using this
  have wP:(w.setCell ⟨g,o+i,none⟩ v).heap[g]? =some (.cells (cur.setIfInBounds (o+i) v) e fr):=by
    simp[World.setCell,Array.getElem?_modify,hg]
  obtain ⟨w',h2,h3,h4,h5,h6,h7,h8⟩:=lg g e fr vs (i+1) o _ _ wP (by simp;omega) (fun v hv=>h1 v (by simp[hv])) (by
    intro k hk qI;simp at qI;exact hf k (by omega) qI)
  refine ⟨w',?_,?_,by simp[h4],fun k hk=> ?_,h6,h7,h8⟩
  . simp only[storeCells,Sem.run_bind,nk,run_store P w _ _ _ hv,CQ,WJ]
    simpa using h2
  . rw[h3]
    congr 2
    simp only[aV,List.length_cons,Array.toList_setIfInBounds]
    rw[List.drop_set_of_lt (by omega)]
    have:o+(i+1)=(o+i)+1:=by omega
    rw[this,List.take_set,List.take_add_one]
    have bI:o+i<cur.toList.length:=by simp;omega
    rw[List.getElem?_eq_getElem bI]
    simp only[Option.toList_some,List.set_append,List.length_take]
    have hm:min (o+i) cur.toList.length=o+i:=Nat.min_eq_left (Nat.le_of_lt bI)
    rw[hm,if_neg (Nat.lt_irrefl _),Nat.sub_self]
    simp
    rw[show o+i+1+vs.length=o+i+(vs.length+1) from by omega]
  . rw[h5 k hk,Below.heap_setCell _ _ _ _ (by simpa using hk)]
end
end Go.Ai
end
section
namespace Go.Ai
open Go Go.RowKit
section
variable {P : Program} {tt : TT} {ρ : Pos -> Loc} {C : Cells} {st : St} {w : World} {n : Nat}
theorem Yields.value (x:Value):Yields (.value x) x:= .inl rfl
theorem ux.pure {v:AV} {x:Value} {r:Result Next} (h:r= .ok (.value x) w) (hv:aA ρ st.next.toNat C v x):ux P ρ C st w r (.val v):=
 ⟨_,x,h,Yields.value x,hv⟩
theorem aA.jB {k:IntKind} {i:Int} {x:Value} (h:aA ρ n C (.int k i) x):x= .int k i:=by cases h;rfl
theorem aA.jP {b:Bool} {x:Value} (h:aA ρ n C (.bool b) x):x= .bool b:=by cases h;rfl
theorem aA.dN {s:List Nat} {x:Value} (h:aA ρ n C (.str s) x): ∃bs:ByteArray,x= .string bs/\bs.data.toList.map UInt8.toNat=s:=by
 cases h with|str _ bs h=>exact ⟨bs,rfl,h⟩
theorem aA.qY {x:Value} (h:aA ρ n C .bq x):x= .pointer none:=by cases h;rfl
theorem aA.gD {x:Value} (h:aA ρ n C .aj x):x= .slice none 0 0:=by cases h;rfl
theorem aA.yf {x:Value} (h:aA ρ n C .gA x):x= .map none:=by cases h;rfl
theorem aA.Fh {x:Value} (h:aA ρ n C .ax x):x= .nilFunc:=by cases h;rfl
theorem aA.P5 {x:Value} (h:aA ρ n C .oN x):x= .nilIface:=by cases h;rfl
theorem aA.gv {b:Pos} {off:Nat} {x:Value} (h:aA ρ n C (.ptr b off) x):b.toNat<n/\x= .pointer (some ⟨(ρ b).aF,(ρ b).base+off,none⟩):=by
 cases h with|ptr _ _ h=>exact ⟨h,rfl⟩
theorem aA.yg {b:Pos} {x:Value} (h:aA ρ n C (.map b) x):b.toNat<n/\x= .map (some (ρ b).aF):=by
 cases h with|map _ h=>exact ⟨h,rfl⟩
theorem aA.N3 {t:TypeId} {v:AV} {x:Value} (h:aA ρ n C (.iface t v) x): ∃y,x= .iface t y/\aA ρ n C v y:=by
 cases h with|iface _ _ y h=>exact ⟨y,rfl,h⟩
theorem aA.dR {b:Pos} {off len es:Nat} {cap:Option Nat} {x:Value} (h:aA ρ n C (.slice b off len cap es) x):
  ∃(a:Addr) (aL:Nat),x= .slice (some a) len aL/\len<=aL/\(∀c,cap=some c->c=aL)/\
   (aL≠0->b.toNat<n/\a=⟨(ρ b).aF,(ρ b).base+off,none⟩/\(ρ b).base+off+aL*es<=(ρ b).size):=by
 cases h with|slice _ _ _ _ _ aL a hl hc ha _=>exact ⟨a,aL,rfl,hl,hc,ha⟩
theorem aA.N4 {b:Pos} {off len es:Nat} {cap:Option Nat} {x:Value} (h:aA ρ n C (.slice b off len cap es) x):cap=none->b.toNat<n:=by
 cases h with|slice _ _ _ _ _ _ _ _ _ _ hk=>exact hk
theorem aA.tu {xs:List (List AV)} {es:Nat} {x:Value} (h:aA ρ n C (.fl xs es) x):
  ∃(a:Addr) (aL:Nat) (cell:Nat->Nat->Value),x= .slice (some a) xs.length aL/\xs.length<=aL/\(xs≠[]->a.spot=none)/\
   (∀(i:Nat) (cs:List AV),xs[i]? =some cs->cs.length=es)/\
   (∀(i j:Nat) (cs:List AV) (v:AV),xs[i]? =some cs->cs[j]? =some v->C ⟨a.block,a.off+i*es+j,none⟩=some (cell i j))/\
   (∀(i j:Nat) (cs:List AV) (v:AV),xs[i]? =some cs->cs[j]? =some v->aA ρ n C v (cell i j)):=by
 cases h with|fl _ _ aL a cell hl hs gq hc hv=>exact ⟨a,aL,cell,rfl,hl,hs,gq,hc,hv⟩
theorem aA.Eg {xs:List (List AV)} {i j:Nat} {x:Value} (h:aA ρ n C (.fp xs i j) x):
  ∃(es aF base:Nat) (cell:Nat->Nat->Value),x= .pointer (some ⟨aF,base+i*es+j,none⟩)/\
   (∀(i:Nat) (cs:List AV),xs[i]? =some cs->cs.length=es)/\
   (∀(i j:Nat) (cs:List AV) (v:AV),xs[i]? =some cs->cs[j]? =some v->C ⟨aF,base+i*es+j,none⟩=some (cell i j))/\
   (∀(i j:Nat) (cs:List AV) (v:AV),xs[i]? =some cs->cs[j]? =some v->aA ρ n C v (cell i j)):=by
 cases h with|fp _ _ _ es aF base cell hl hc hv=>exact ⟨es,aF,base,cell,rfl,hl,hc,hv⟩
theorem tv (k:IntKind) (i:Int):aY k i=k.wrap i:=by
 unfold aY
 split
 . rename_i h1 _
   split
   . rename_i h2 _
     cases k<;>simp only[xO,T9] at h1 h2<;>simp only[IntKind.wrap,IntKind.bits,IntKind.signed]<;>simp<;>omega
   . rfl
 . rfl
theorem jr (a b:Int):qW a b=(a==b):=by
 unfold qW;split
 . rename_i h _;subst h;simp
 . rename_i h _;simp[h]
theorem iI (a b:Int):CI a b=decide (a<b):=by
 unfold CI;split<;>(rename_i h _;simp[h])
theorem lK (a b:Int):PA a b=decide (a<=b):=by
 unfold PA;split<;>(rename_i h _;simp[h])
theorem kD: ∀{a b:List Nat},iC a b=true↔a=b
 |[],[]=>by simp[iC]
 |[],_::_=>by simp[iC]
 |_::_,[]=>by simp[iC]
 |a::x,b::y=>by
  unfold iC
  split
  . rename_i h;have:=Nat.eq_of_beq_eq_true h;subst this;simp[kD (a:=x) (b:=y)]
  . rename_i h;have:=Nat.ne_of_beq_eq_false h;simp[this]
theorem Eh: ∀{a b:List UInt8},a.map UInt8.toNat=b.map UInt8.toNat->a=b
 |[],[],_=>rfl
 |[],_::_,h=>by simp at h
 |_::_,[],h=>by simp at h
 |a::x,b::y,h=>by
  simp at h
  rw[UInt8.toNat_inj.1 h.1,Eh h.2]
theorem toList_data (b:ByteArray):b.toList=b.data.toList:=ByteArray.toList_eq b
theorem sj: ∀(x y:List UInt8),ey (x.map UInt8.toNat) (y.map UInt8.toNat)=Op.bytesLess x y
 |[],[]=>by simp[ey,Op.bytesLess]
 |_::_,[]=>by simp[ey,Op.bytesLess]
 |[],_::_=>by simp[ey,Op.bytesLess]
 |a ::x,b::y=>by
  simp only[List.map_cons,ey,Op.bytesLess]
  split
  . rename_i h
    have:a<b:=by rw[UInt8.lt_iff_toNat_lt];simpa using h
    simp[this]
  . rename_i h
    have h1: ¬a<b:=by
        rw[UInt8.lt_iff_toNat_lt];intro h'
        have h2:Nat.blt a.toNat b.toNat=true:=by simpa using h'
        rw[h2] at h;cases h
    split
    .   rename_i h2
        have:a=b:=UInt8.toNat_inj.1 (Nat.eq_of_beq_eq_true h2)
        subst this;simp only[h1,decide_false,Bool.false_or,beq_self_eq_true,Bool.true_and];exact sj x y
    .   rename_i h2
        have:a≠b:=fun e=>Nat.ne_of_beq_eq_false h2 (by rw[e])
        simp[h1,this]
theorem Ei {a b:List Nat} {x y:ByteArray} (hx:x.data.toList.map UInt8.toNat=a) (hy:y.data.toList.map UInt8.toNat=b):(x.toList==y.toList)=iC a b:=by
 rw[toList_data,toList_data,Bool.eq_iff_iff,kD,beq_iff_eq, <-hx, <-hy]
 exact ⟨fun h=>by rw[h],fun h=>Eh h⟩
theorem Kw {a b:List Nat} {x y:ByteArray} (hx:x.data.toList.map UInt8.toNat=a) (hy:y.data.toList.map UInt8.toNat=b):Op.bytesLess x.toList y.toList=ey a b:=by
 rw[toList_data,toList_data, <-hx, <-hy,sj]
theorem vL {a:List Nat} {x:ByteArray} (hx:x.data.toList.map UInt8.toNat=a):x.size=a.length:=by
 rw[<-hx,List.length_map,Array.length_toList];rfl
def PK.fits:PK->TypeDesc->Bool
 | .b,.bool=>true
 | .i,.int _=>true
 | .s,.string=>true
 |_,_=>false
theorem P6 {t:TypeId} {d:TypeDesc} (hd:P.underlying t=some d) {pk:PK} (hk:pk.fits d=true) {a b:AV} {x y:Value} {r:Bool} {m:Nat}
   (ha:aA ρ n C a x) (hb:aA ρ n C b y) (h:xZ pk a b=some r) (w:World):(Op.equalIn (m+1) t x y).run P w= .ok r w:=by
 unfold xZ at h
 split at h
 . simp only[Option.some.injEq] at h;subst h
   rw[ha.jP,hb.jP]
   cases d<;>simp[PK.fits] at hk
   rw[run_equalIn_bool' w m t _ _ hd]
 . split at h
   . rename_i qI;have:=wh qI;subst this
     simp only[Option.some.injEq] at h;subst h
     rw[ha.jB,hb.jB]
     cases d<;>simp[PK.fits] at hk
     rw[run_equalIn_int w m t _ _ _ _ hd,jr]
   . cases h
 . simp only[Option.some.injEq] at h;subst h
   obtain ⟨bx,rfl,h1⟩:=ha.dN
   obtain ⟨bz,rfl,h2⟩:=hb.dN
   cases d<;>simp[PK.fits] at hk
   rw[run_equalIn_string w m t _ _ hd,Ei h1 h2]
 . cases h
theorem H7: ∀{fs:List (Nat×Nat×Bool)} {l:List (Nat×PK)} {gs:List Field} {xs ys:List AV} {cx cy:Array Value} {r:Bool} {m:Nat} (_hT:dh P tt)
  (_hm:bU.eA fs gs=true) (_hf:wI.fields tt fs=some l) (_hx:az ρ n C xs cx.toList) (_hy:az ρ n C ys cy.toList) (_h:eqFields xs ys l=some r) (w:World),
  (Op.eqFields (m+1) cx cy gs).run P w= .ok r w
 |[],l,gs,xs,ys,cx,cy,r,m,hT,hm,hf,hx,hy,h,w=>by
  cases gs with
  |cons f gs=>simp[bU.eA] at hm
  | nil=>
    simp[wI.fields] at hf;subst hf
    simp[eqFields] at h;subst h
    simp[Op.eqFields]
 |(off  , t,named)::fs,l,gs,xs,ys,cx,cy,r,m,hT,hm,hf,hx,hy,h,w=>by
  cases gs with
  |nil=>simp[bU.eA] at hm
  | cons f gs=>
    simp[bU.eA] at hm
    obtain ⟨⟨⟨ho,ht⟩,hn⟩,WL⟩:=hm
    unfold wI.fields at hf
    split at hf<;>first|(cases hf;done)|skip
    rename_i ti l' dV hl'
    obtain ⟨d,hd,cM⟩:=(hT.at dV).und
    have key: ∃pk,l=(off,pk)::l'/\pk.fits d=true/\(isAgg t).run P w= .ok false w:=by
        have pY:=Kv cM w hd
        split at hf<;>first|(cases hf;done)|skip
        all_goals
          rename_i hk
          simp only[Option.some.injEq] at hf
          rw[hk] at cM pY
          refine ⟨_,hf.symm,?_,pY⟩
        . rw[Nc cM];rfl
        . rw[Ef cM];rfl
        . rw[nQ cM];rfl
    obtain ⟨pk,rfl,oO,pY⟩:=key
    have en:f.name≠ "_" :=by intro e;rw[e] at hn;simp at hn
    unfold eqFields at h
    split at h<;>first|(cases h;done)|skip
    rename_i a b ha hb
    rw[nj] at ha hb
    obtain ⟨x,hx1,Ud⟩:=hx.get ha
    obtain ⟨y,JL,JM⟩:=hy.get hb
    have px:(part f.type cx f.offset).run P w= .ok x w:=by
        rw[<-ht, <-ho];simp at hx1;simp[part,pY,hx1]
    have py:(part f.type cy f.offset).run P w= .ok y w:=by
        rw[<-ht, <-ho];simp at JL;simp[part,pY,JL]
    simp only[Op.eqFields,Sem.run_bind,Sem.run_ite,en,px,py,Result.andThen_ok,ne_eq,not_false_eq_true,if_true]
    split at h
    .   rename_i he
        rw[<-ht,P6 hd oO Ud JM he w]
        simpa using H7 (m:=m) hT WL hl' hx hy h w
    .   rename_i he
        simp only[Option.some.injEq] at h;subst h
        rw[<-ht,P6 hd oO Ud JM he w]
        simp
    .   cases h
def aa1 (tt:TT) (op:BinOp) (q:jW) (t:TypeId):Prop:=wI tt t=some q\/(q= .num/\op≠ .eql/\op≠ .neq)
def ah4 (P:Program) (tt:TT) (t:TypeId):jW->Prop
 | .num=>True
 | .bool=>P.underlying t=some .bool
 | .ptr=> ∃e,P.underlying t=some (.pointer e)/\ ∃j,P.info? e=some j
 | .slice=> ∃e,P.underlying t=some (.slice e)
 | .map=> ∃k e,P.underlying t=some (.map k e)
 | .func=> ∃a b c,P.underlying t=some (.func a b c)
 | .iface=> ∃a,P.underlying t=some (.interface a)
 | .struct l=> ∃fs gs,P.underlying t=some (.struct gs)/\bU.eA fs gs.toList=true/\wI.fields tt fs=some l/\P.stoodInHeld t=false/\P.eqGuardType P.depth t=false
theorem Ue (hT:dh P tt) {t:TypeId} {q:jW} (hq:wI tt t=some q):ah4 P tt t q:=by
 unfold wI at hq
 split at hq<;>first|(cases hq;done)|skip
 rename_i ti dV
 obtain ⟨d,hd,cM⟩:=(hT.at dV).und
 split at hq<;>first|(cases hq;done)|skip
 all_goals rename_i hk
 all_goals rw[hk] at cM
 . simp only[Option.some.injEq] at hq;subst hq;rw[Nc cM] at hd;exact hd
 . simp only[Option.some.injEq] at hq;subst hq;trivial
 . simp only[Option.some.injEq] at hq;subst hq;trivial
 . simp only[Option.some.injEq] at hq;subst hq;rw[LA cM] at hd;exact ⟨_,hd,(hT.at dV).elem _ hk⟩
 . simp only[Option.some.injEq] at hq;subst hq;rw[ob cM] at hd;exact ⟨_,hd⟩
 . simp only[Option.some.injEq] at hq;subst hq;rw[H6 cM] at hd;exact ⟨_,_,hd⟩
 . simp only[Option.some.injEq] at hq;subst hq;obtain ⟨_,_,_,rfl⟩:=abq cM;exact ⟨_,_,_,hd⟩
 . simp only[Option.some.injEq] at hq;subst hq;obtain ⟨_,rfl⟩:=Zp cM;exact ⟨_,hd⟩
 . split at hq<;>first|(cases hq;done)|skip
   rename_i fs _ _ l hp hl
   simp only[Option.some.injEq] at hq;subst hq
   obtain ⟨gs,rfl,hm⟩:=CP cM
   exact ⟨fs,gs,hd,hm,hl,(hT.at dV).eqs hp⟩
theorem Vi (m:Nat) (hT:dh P tt) {t:TypeId} {q:jW} (hq:wI tt t=some q) {a b:AV} {x y:Value} {r:Bool} (ha:aA ρ n C a x) (hb:aA ρ n C b y) (h:EY q a b=some r) (w:World):
   (Op.equalIn (m+1+1) t x y).run P w= .ok r w:=by
 have hi:=Ue hT hq
 clear hq
 unfold EY at h
 split at h<;>first|(cases h;done)|skip
 . simp only[Option.some.injEq] at h;subst h
   rw[ha.jP,hb.jP,run_equalIn_bool' w _ t _ _ hi]
 all_goals first
   |(simp only[Option.some.injEq] at h;subst h)
   |skip
 . obtain ⟨e,hd,_⟩:=hi;rw[ha.qY,hb.qY];(unfold Op.equalIn;rw[Sem.run_bind,aQ hd];rfl)
 . obtain ⟨e,hd,_⟩:=hi;obtain ⟨_,hb⟩:=hb.gv;rw[ha.qY,hb];(unfold Op.equalIn;rw[Sem.run_bind,aQ hd];rfl)
 . obtain ⟨e,hd,_⟩:=hi;obtain ⟨_,ha⟩:=ha.gv;rw[hb.qY,ha];(unfold Op.equalIn;rw[Sem.run_bind,aQ hd];rfl)
 . obtain ⟨e,hd,_⟩:=hi;obtain ⟨_,_,_,_,hb,_⟩:=hb.Eg;rw[ha.qY,hb];(unfold Op.equalIn;rw[Sem.run_bind,aQ hd];rfl)
 . obtain ⟨e,hd,_⟩:=hi;obtain ⟨_,_,_,_,ha,_⟩:=ha.Eg;rw[hb.qY,ha];(unfold Op.equalIn;rw[Sem.run_bind,aQ hd];rfl)
 . obtain ⟨e,hd,j,hj⟩:=hi
   split at h<;>first|(cases h;done)|skip
   rename_i e1 e2
   have e1:=Pos.beq_eq.1 e1
   have e2:=Nat.eq_of_beq_eq_true e2
   subst e1;subst e2
   simp only[Option.some.injEq] at h;subst h
   obtain ⟨_,ha⟩:=ha.gv;obtain ⟨_,hb⟩:=hb.gv;rw[ha,hb]
   simp[Op.equalIn,aQ hd,sizeOf,typeInfo,hj,run_sameAddr_same]
 . obtain ⟨e,hd⟩:=hi;rw[ha.gD,hb.gD];(unfold Op.equalIn;rw[Sem.run_bind,aQ hd];rfl)
 . obtain ⟨e,hd⟩:=hi;obtain ⟨_,_,hb,_⟩:=hb.dR;rw[ha.gD,hb];(unfold Op.equalIn;rw[Sem.run_bind,aQ hd];rfl)
 . obtain ⟨e,hd⟩:=hi;obtain ⟨_,_,ha,_⟩:=ha.dR;rw[hb.gD,ha];(unfold Op.equalIn;rw[Sem.run_bind,aQ hd];rfl)
 . obtain ⟨e,hd⟩:=hi;obtain ⟨_,_,_,hb,_⟩:=hb.tu;rw[ha.gD,hb];(unfold Op.equalIn;rw[Sem.run_bind,aQ hd];rfl)
 . obtain ⟨e,hd⟩:=hi;obtain ⟨_,_,_,ha,_⟩:=ha.tu;rw[hb.gD,ha];(unfold Op.equalIn;rw[Sem.run_bind,aQ hd];rfl)
 . obtain ⟨k,e,hd⟩:=hi;rw[ha.yf,hb.yf];(unfold Op.equalIn;rw[Sem.run_bind,aQ hd];rfl)
 . obtain ⟨k,e,hd⟩:=hi;obtain ⟨_,hb⟩:=hb.yg;rw[ha.yf,hb];(unfold Op.equalIn;rw[Sem.run_bind,aQ hd];rfl)
 . obtain ⟨k,e,hd⟩:=hi;obtain ⟨_,ha⟩:=ha.yg;rw[hb.yf,ha];(unfold Op.equalIn;rw[Sem.run_bind,aQ hd];rfl)
 . obtain ⟨_,_,_,hd⟩:=hi;rw[ha.Fh,hb.Fh];(unfold Op.equalIn;rw[Sem.run_bind,aQ hd];rfl)
 . obtain ⟨_,_,_,hd⟩:=hi;obtain ⟨_,_,hb,_⟩:=hb.E9;rw[ha.Fh,hb];(unfold Op.equalIn;rw[Sem.run_bind,aQ hd];rfl)
 . obtain ⟨_,_,_,hd⟩:=hi;obtain ⟨_,_,ha,_⟩:=ha.E9;rw[hb.Fh,ha];(unfold Op.equalIn;rw[Sem.run_bind,aQ hd];rfl)
 . obtain ⟨_,hd⟩:=hi;obtain ⟨_,hb,_⟩:=hb.N3;rw[ha.P5,hb];(unfold Op.equalIn;rw[Sem.run_bind,aQ hd];rfl)
 . obtain ⟨_,hd⟩:=hi;obtain ⟨_,ha,_⟩:=ha.N3;rw[hb.P5,ha];(unfold Op.equalIn;rw[Sem.run_bind,aQ hd];rfl)
 . obtain ⟨fs,gs,hd,hm,hl,hp,_⟩:=hi
   obtain ⟨cx,rfl,hx⟩:=ha.yc
   obtain ⟨cy,rfl,hy⟩:=hb.yc
   have hfo:P.fieldsOf t=gs:=by simp[Program.fieldsOf,hd]
   rw[run_equalIn_agg w (m+1) t cx cy (by rw[hfo,hd]) hp,hfo]
   exact H7 (m:=m) hT hm hl hx hy h w
theorem P7 (hT:dh P tt) {t:TypeId} {q:jW} (hq:wI tt t=some q) {a b:AV} {x y:Value} {r:Bool} (ha:aA ρ n C a x) (hb:aA ρ n C b y) (h:EY q a b=some r) (w:World):
 (Op.equal t x y).run P w= .ok r w:=Vi 9998 hT hq ha hb h w
theorem LG (hT:dh P tt) {t:TypeId} {q:jW} (hq:wI tt t=some q) {a b:AV} {x y:Value} {r:Bool} (ha:aA ρ n C a x) (hb:aA ρ n C b y) (h:EY q a b=some r) (op:BinOp) (ox oy:Operand) (w:World):
  (eqGuard op t ox oy x y).run P w= .ok () w:=by
 have hi:=Ue hT hq
 clear hq
 unfold EY at h
 split at h<;>first|(cases h;done)|skip
 all_goals first
  |(obtain ⟨fs,gs,hd,hm,hl,hp,hg⟩:=hi
    obtain ⟨cx,rfl,hx⟩:=ha.yc
    obtain ⟨cy,rfl,hy⟩:=hb.yc
    exact run_eqGuard_agg w op t ox oy cx cy hg)
  |(cases ha<;>cases hb<;>cases op<;>rfl)
end
end Go.Ai
end
section
namespace Go.Ai
open Go Go.RowKit
section
variable {P : Program} {tt : TT} {ρ : Pos -> Loc} {C : Cells} {st : St} {w : World} {n : Nat}
theorem O3 (op:BinOp) (t:TypeId) (k:IntKind) (i j:Int) (hs:op≠ .shl) (hr:op≠ .shr):(binOp op t (.int k i) (.int k j)).run P w=
  (match op with
   | .add| .sub| .mul=>Op.intArith op k i j
   | .quo| .rem=>Op.intDiv op k i j
   | .and| .or| .xor| .andNot=>Op.intBits op k i j
   |_=>Op.intCmp op i j).run P w:=by
 cases op<;>first|(exact absurd rfl hs)|(exact absurd rfl hr)|simp[binOp]
theorem Zq (hT:dh P tt) {op:BinOp} {t:TypeId} {q:jW} (hq:aa1 tt op q t) {a b v:AV} {x y:Value} (ha:aA ρ n C a x) (hb:aA ρ n C b y) (h:n8 op q a b=some v) (ox oy:Operand):
  ∃z,(do eqGuard op t ox oy x y;binOp op t x y:Sem Value).run P w= .ok z w/\aA ρ n C v z:=by
 unfold n8 at h
 split at h
 ·
  rename_i k i k' j
  rw[ha.jB,hb.jB]
  have hg: ∀op,(eqGuard op t ox oy (.int k i) (.int k' j)).run P w= .ok () w:=by intro op;cases op<;>rfl
  rw[Sem.run_bind,hg,Result.andThen_ok]
  split at h
  . split at h
    .   cases h
    .   rename_i bI
        rw[iI] at bI;have bI:=of_decide_eq_false bI
        simp only[Option.some.injEq] at h;subst h
        exact ⟨_,by simp[binOp,Op.shift,bI,tv],.int _ _⟩
  . split at h
    .   cases h
    .   rename_i bI
        rw[iI] at bI;have bI:=of_decide_eq_false bI
        simp only[Option.some.injEq] at h;subst h
        exact ⟨_,by simp[binOp,Op.shift,bI],.int _ _⟩
  . rename_i hs hr
    split at h
    .   cases h
    .   rename_i hk
        have:=wh hk;subst this
        rw[O3 op t k i j (fun e=>hs e) (fun e=>hr e)]
        split at h
        . simp only[Option.some.injEq] at h;subst h;exact ⟨_,by simp[Op.intArith,tv],.int _ _⟩
        . simp only[Option.some.injEq] at h;subst h;exact ⟨_,by simp[Op.intArith,tv],.int _ _⟩
        . simp only[Option.some.injEq] at h;subst h;exact ⟨_,by simp[Op.intArith,tv],.int _ _⟩
        . split at h
          . cases h
          . rename_i h0;rw[jr] at h0;have h0': ¬j=0:=by simpa using h0
            simp only[Option.some.injEq] at h;subst h;exact ⟨_,by simp[Op.intDiv,h0',tv],.int _ _⟩
        . split at h
          . cases h
          . rename_i h0;rw[jr] at h0;have h0': ¬j=0:=by simpa using h0
            simp only[Option.some.injEq] at h;subst h;exact ⟨_,by simp[Op.intDiv,h0'],.int _ _⟩
        . simp only[Option.some.injEq] at h;subst h;exact ⟨_,by simp[Op.intBits],.int _ _⟩
        . simp only[Option.some.injEq] at h;subst h;exact ⟨_,by simp[Op.intBits],.int _ _⟩
        . simp only[Option.some.injEq] at h;subst h;exact ⟨_,by simp[Op.intBits],.int _ _⟩
        . simp only[Option.some.injEq] at h;subst h;exact ⟨_,by simp[Op.intBits],.int _ _⟩
        . simp only[Option.some.injEq] at h;subst h;exact ⟨_,by simp[Op.intCmp,jr],.bool _⟩
        . simp only[Option.some.injEq] at h;subst h;refine ⟨_,rfl,?_⟩;rw[jr];exact .bool _
        . simp only[Option.some.injEq] at h;subst h;refine ⟨_,rfl,?_⟩;rw[iI];exact .bool _
        . simp only[Option.some.injEq] at h;subst h;refine ⟨_,rfl,?_⟩;rw[lK];exact .bool _
        . simp only[Option.some.injEq] at h;subst h;refine ⟨_,rfl,?_⟩;rw[iI];exact .bool _
        . simp only[Option.some.injEq] at h;subst h;refine ⟨_,rfl,?_⟩;rw[lK];exact .bool _
        . cases h
 ·
  rename_i s u
  obtain ⟨bx,rfl,h1⟩:=ha.dN
  obtain ⟨bz,rfl,h2⟩:=hb.dN
  have hg: ∀op,(eqGuard op t ox oy (.string bx) (.string bz)).run P w= .ok () w:=by intro op;cases op<;>rfl
  rw[Sem.run_bind,hg,Result.andThen_ok]
  have hs:(binOp op t (.string bx) (.string bz)).run P w=(Op.stringOp op bx bz).run P w:=by cases op<;>rfl
  rw[hs]
  have e1:=Ei h1 h2
  have e2:=Kw h1 h2
  split at h
  . split at h
    .   rename_i hb
        have hb:=Nat.le_of_ble_eq_true hb
        simp only[Option.some.injEq] at h;subst h
        have nR: ¬(((bx.size+bz.size:Nat):Int)>IntKind.i64.max):=by
          rw[vL h1,vL h2];simp[IntKind.max,IntKind.signed,IntKind.bits];omega
        refine ⟨.string (bx++bz),?_,.str _ _ ?_⟩
        . simp only[Op.stringOp];rw[if_neg nR];rfl
        . rw[ByteArray.data_append,Array.toList_append,List.map_append,h1,h2]
    .   cases h
  all_goals first|(cases h;done)|skip
  all_goals
    simp only[Option.some.injEq] at h;subst h
    refine ⟨_,rfl,?_⟩
    first|rw[e1,e2]|rw[e1]|rw[e2]
    exact .bool _
 ·
  rename_i hni hns
  have CR: ∀op,(op= .eql\/op= .neq)->(binOp op t x y).run P w=((Op.equal t x y).run P w).andThen fun r w'=> .ok (.bool (if op= .eql then r else !r)) w':=by
    rintro op (rfl|rfl)
    all_goals
        cases ha<;>cases hb<;>first
          |(exact (hni _ _ _ _ rfl rfl).elim)
          |(exact (hns _ _ rfl rfl).elim)
          |simp[binOp]
  split at h
  . split at h
    .   rename_i r hr
        simp only[Option.some.injEq] at h;subst h
        rcases hq with hq|⟨_,hq,_⟩
        . refine ⟨.bool r,?_,.bool r⟩
          rw[Sem.run_bind,LG hT hq ha hb hr,Result.andThen_ok,CR _ (.inl rfl),P7 hT hq ha hb hr];rfl
        . exact absurd rfl hq
    .   cases h
  . split at h
    .   rename_i r hr
        simp only[Option.some.injEq] at h;subst h
        rcases hq with hq|⟨_,_,hq⟩
        . refine ⟨.bool (!r),?_,.bool _⟩
          rw[Sem.run_bind,LG hT hq ha hb hr,Result.andThen_ok,CR _ (.inr rfl),P7 hT hq ha hb hr];rfl
        . exact absurd rfl hq
    .   cases h
  . cases h
end
end Go.Ai
end
section
namespace Go.Ai
open Go Go.RowKit
def dO (P:Program) (tt:TT) (op:Op):Prop:=
 ∀  (ρ:Pos->Loc) (C:Cells) (st:St) (w:World) (k:aE) (xs:List mj) (cls:Ub) (fr:Fr) (a:Act) (o:Oper) (vs:List AV) (res:di),
    o.op=op->gU tt op=some (k,xs,cls)->bM ρ C st w->oa ρ st.next.toNat C fr a.tmps->eY fr xs=some vs->
    k.run (fun b=>st.heap.get b) st.next vs=some res->ux P ρ C st w ((execOp a.eval o).run P w) res
section
variable {P : Program} {tt : TT}
theorem Nd {ρ:Pos->Loc} {n:Nat} {C:Cells} {x y:Operand} {os:List mj} {fr:Fr} {a:Act} {vs:List AV} (h:kC [x,y]=some os) (hF:oa ρ n C fr a.tmps) (hv:eY fr os=some vs):
  ∃u v,vs=[u,v]/\aA ρ n C u (a.eval x)/\aA ρ n C v (a.eval y):=by
 have h1:=fk h hF hv
 cases vs with
 |nil=>have:=h1.1;simp at this
 |cons u vs=>
  cases vs with
  |nil=>have:=h1.1;simp at this
  |cons v vs=>
   cases vs with
   |nil=>exact ⟨u,v,rfl,h1.2 0 u _ rfl rfl,h1.2 1 v _ rfl rfl⟩
   |cons z vs=>have:=h1.1;simp at this
theorem evs3 {ρ:Pos->Loc} {n:Nat} {C:Cells} {x y z:Operand} {os:List mj} {fr:Fr} {a:Act} {vs:List AV} (h:kC [x,y,z]=some os) (hF:oa ρ n C fr a.tmps) (hv:eY fr os=some vs):
  ∃u v q,vs=[u,v,q]/\aA ρ n C u (a.eval x)/\aA ρ n C v (a.eval y)/\aA ρ n C q (a.eval z):=by
 have h1:=fk h hF hv
 match vs,h1 with
 |[u,v,q],h1=>exact ⟨u,v,q,rfl,h1.2 0 u _ rfl rfl,h1.2 1 v _ rfl rfl,h1.2 2 q _ rfl rfl⟩
 |[],h1=>have:=h1.1;simp at this
 |[_],h1=>have:=h1.1;simp at this
 |[_,_],h1=>have:=h1.1;simp at this
 |_::_::_::_::_,h1=>have:=h1.1;simp at this
theorem Zr (x:Operand):dO P tt (.move x):=by
 intro ρ C st w k xs cls fr a o vs res ho hc hW hF hx hr
 simp only[gU] at hc
 split at hc<;>first|(cases hc;done)|skip
 rename_i b hb
 cases hc
 obtain ⟨v,rfl,hv⟩:=fJ hb hF hx
 simp only[aE.run,I8,Option.some.injEq] at hr;subst hr
 exact .pure (by simp[execOp,ho]) hv
theorem Vj (x:Operand):dO P tt (.assign x):=by
 intro ρ C st w k xs cls fr a o vs res ho hc hW hF hx hr
 simp only[gU] at hc
 split at hc<;>first|(cases hc;done)|skip
 rename_i b hb
 cases hc
 obtain ⟨v,rfl,hv⟩:=fJ hb hF hx
 simp only[aE.run,I8,Option.some.injEq] at hr;subst hr
 exact .pure (by simp[execOp,ho]) hv
theorem Zs (c x y:Operand):dO P tt (.pick c x y):=by
 intro ρ C st w k xs cls fr a o vs res ho hc hW hF hx hr
 simp only[gU] at hc
 split at hc<;>first|(cases hc;done)|skip
 rename_i l hl
 cases hc
 obtain ⟨u,v,q,rfl,h1,h2,h3⟩:=evs3 hl hF hx
 simp only[aE.run,M9] at hr
 split at hr<;>first|(cases hr;done)|skip
 all_goals
   simp only[Option.some.injEq] at hr;subst hr
   have h1:=h1.jP
 . exact .pure (by simp[execOp,ho,h1,asBool]) h2
 . exact .pure (by simp[execOp,ho,h1,asBool]) h3
theorem WM (hT:dh P tt) (op:BinOp) (t:TypeId) (x y:Operand) (yt:TypeId):dO P tt (.binOp op t x y yt):=by
 intro ρ C st w k xs cls fr a o vs res ho hc hW hF hx hr
 have key: ∃q,aa1 tt op q t/\k= .bin op q/\kC [x,y]=some xs:=by
  simp only[gU] at hc
  split at hc
  . rename_i q l hq hl
    cases hc
    exact ⟨q,.inl hq,rfl,hl⟩
  . rename_i l hq hl
    split at hc<;>first|(cases hc;done)|skip
    rename_i h1 h2
    cases hc
    exact ⟨.num,.inr ⟨rfl,fun e=>h1 e,fun e=>h2 e⟩,rfl,hl⟩
  . cases hc
 obtain ⟨q,hq,rfl,hl⟩:=key
 obtain ⟨u,v,rfl,h1,h2⟩:=Nd hl hF hx
 simp only[aE.run,iH] at hr
 split at hr<;>first|(cases hr;done)|skip
 rename_i r hb
 simp only[Option.some.injEq] at hr;subst hr
 obtain ⟨z,hz,hv⟩:=Zq hT hq h1 h2 hb x y (w:=w)
 refine .pure ?_ hv
 simp only[execOp,ho]
 rw[Sem.run_bind,hz];rfl
theorem Zt (op:UnOp) (t:TypeId) (x:Operand):dO P tt (.unOp op t x):=by
 intro ρ C st w k xs cls fr a o vs res ho hc hW hF hx hr
 simp only[gU] at hc
 split at hc<;>first|(cases hc;done)|skip
 rename_i b hb
 cases hc
 obtain ⟨v,rfl,hv⟩:=fJ hb hF hx
 simp only[aE.run,Vc] at hr
 split at hr<;>first|(cases hr;done)|skip
 rename_i r hu
 simp only[Option.some.injEq] at hr;subst hr
 unfold unA at hu
 split at hu
 . split at hu<;>first|(cases hu;done)|skip
   simp only[Option.some.injEq] at hu;subst hu
   exact .pure (by simp[execOp,ho,hv.jP,Op.unary]) (.bool _)
 . split at hu<;>first|(cases hu;done)|skip
   simp only[Option.some.injEq] at hu;subst hu
   exact .pure (by simp[execOp,ho,hv.jB,Op.unary,Op.intArith];rfl) (by rw[tv];simpa using aA.int _ _)
 . cases hu
theorem P8 (x:Operand):dO P tt (.nilCheck x):=by
 intro ρ C st w k xs cls fr a o vs res ho hc hW hF hx hr
 simp only[gU] at hc
 split at hc<;>first|(cases hc;done)|skip
 rename_i b hb
 cases hc
 obtain ⟨v,rfl,hv⟩:=fJ hb hF hx
 simp only[aE.run,DD] at hr
 split at hr<;>first|(cases hr;done)|skip
 all_goals simp only[Option.some.injEq] at hr;subst hr
 . obtain ⟨_,he⟩:=hv.gv
   exact .pure (by simp[execOp,ho,he]) hv
 . obtain ⟨_,_,_,_,he,_⟩:=hv.Eg
   exact .pure (by simp[execOp,ho,he]) hv
 . obtain ⟨_,_,he,_⟩:=hv.E9
   exact .pure (by simp[execOp,ho,he]) hv
theorem To (x:Operand) (i:Nat):dO P tt (.extract x i):=by
 intro ρ C st w k xs cls fr a o vs res ho hc hW hF hx hr
 simp only[gU] at hc
 split at hc<;>first|(cases hc;done)|skip
 rename_i b hb
 cases hc
 obtain ⟨v,rfl,hv⟩:=fJ hb hF hx
 simp only[aE.run,Av] at hr
 split at hr<;>first|(cases hr;done)|skip
 split at hr<;>first|(cases hr;done)|skip
 rename_i u hu
 simp only[Option.some.injEq] at hr;subst hr
 obtain ⟨cs,he,hs⟩:=hv.NY
 rw[nj] at hu
 obtain ⟨y,hy,Bl⟩:=hs.get hu
 exact .pure (by simp at hy;simp[execOp,ho,he,Instr.extract,hy]) Bl
theorem Tp (hT:dh P tt) (t:TypeId) (x:Operand):dO P tt (.makeInterface t x):=by
 intro ρ C st w k xs cls fr a o vs res ho hc hW hF hx hr
 simp only[gU] at hc
 split at hc<;>first|(cases hc;done)|skip
 rename_i ti b dV hb
 split at hc<;>first|(cases hc;done)|skip
 rename_i h1 h2
 cases hc
 obtain ⟨v,rfl,hv⟩:=fJ hb hF hx
 simp only[aE.run,E2,Option.some.injEq] at hr;subst hr
 obtain ⟨d,hd,hk⟩:=(hT.at dV).und
 refine .pure (x:= .iface t (a.eval x)) ?_ (.iface _ _ _ hv)
 have hni: ∀ms,d≠ .interface ms:=by
  rintro ms rfl
  cases CS:ti.k<;>rw[CS] at hk<;>first|(simp[bU] at hk;done)|(exact h1 CS)|(exact h2 CS)
 simp only[execOp,ho,Instr.makeInterface,Sem.run_bind,aQ hd,Result.andThen_ok]
 cases d<;>first|rfl|(exact absurd rfl (hni _))
theorem Vk (fn:Fn) (first captured:Array Operand):dO P tt (.makeFunc fn first captured):=by
 intro ρ C st w k xs cls fr a o vs res ho hc hW hF hx hr
 simp only[gU] at hc
 split at hc<;>first|(cases hc;done)|skip
 rename_i f l hl
 cases hc
 have h:=fk hl hF hx
 simp only[aE.run,CJ,Option.some.injEq] at hr;subst hr
 have e1:vs.take first.size=vs.take first.size:=rfl
 have h1:=h.take first.size
 have h2:=h.drop first.size
 simp only[List.map_append] at h1 h2
 rw[List.take_left' (by simp)] at h1
 rw[List.drop_left' (by simp)] at h2
 refine .pure (x:= .func (.func f) (first.map a.eval) (captured.map a.eval)) (by simp[execOp,ho,Instr.makeFunc]) ?_
 exact .func _ _ _ _ _ (by simpa using h1.1) (by simpa using h2.1) (fun i v v' hv Ej=>h1.2 i v v' hv (by simpa using Ej)) (fun i v v' hv Ej=>h2.2 i v v' hv (by simpa using Ej))
theorem O4 (hT:dh P tt) (t:TypeId) (x:Operand) (f:Nat):dO P tt (.fieldAddr t x f):=by
 intro ρ C st w k xs cls fr a o vs res ho hc hW hF hx hr
 simp only[gU] at hc
 split at hc<;>first|(cases hc;done)|skip
 rename_i ti b dV hb
 split at hc<;>first|(cases hc;done)|skip
 rename_i fs hk
 split at hc<;>first|(cases hc;done)|skip
 rename_i off ft nm hf
 split at hc<;>first|(cases hc;done)|skip
 rename_i fi hfi
 split at hc<;>first|(cases hc;done)|skip
 rename_i fh
 cases hc
 obtain ⟨v,rfl,hv⟩:=fJ hb hF hx
 obtain ⟨d,hd,cM⟩:=(hT.at dV).und
 rw[hk] at cM
 obtain ⟨gs,rfl,hm⟩:=CP cM
 obtain ⟨g,hg,qJ,P9,_⟩:=Ff hm hf
 simp only at qJ P9
 obtain ⟨i,hi,lR,_⟩:=(hT.at hfi).info
 have hs0: ¬i.size=0:=by rw[lR];exact Nat.ne_of_beq_eq_false fh
 simp only[aE.run,HF] at hr
 split at hr<;>first|(cases hr;done)|skip
 . simp only[Option.some.injEq] at hr;subst hr
   obtain ⟨bI,he⟩:=hv.gv
   refine .pure (x:= .pointer (some ⟨(ρ _).aF,(ρ _).base+(_+off),none⟩)) ?_ (.ptr _ _ bI)
   simp at hg
   simp[execOp,ho,he,Instr.fieldAt,aQ hd,hg,Instr.sureAddr,fieldPlace,P9,jq hi,hs0,nk,qJ,Nat.add_assoc]
 . simp only[Option.some.injEq] at hr;subst hr
   obtain ⟨es,aF,base,cell,he,h1,h2,h3⟩:=hv.Eg
   rename_i uW i' j'
   refine .pure (x:= .pointer (some ⟨aF,base+i'*es+(j'+off),none⟩)) ?_ (.fp _ _ _ es aF base cell h1 h2 h3)
   simp at hg
   simp[execOp,ho,he,Instr.fieldAt,aQ hd,hg,Instr.sureAddr,fieldPlace,P9,jq hi,hs0,nk,qJ,Nat.add_assoc]
theorem kF {ρ:Pos->Loc} {n:Nat} {C:Cells} {v:AV} {x:Value} {i:Nat} (h:aA ρ n C v x) (hi:uN v=some i): ∃k,x= .int k (i:Int):=by
 unfold uN at hi
 split at hi<;>first|(cases hi;done)|skip
 split at hi<;>first|(cases hi;done)|skip
 simp only[Option.some.injEq] at hi;subst hi
 exact ⟨_,h.jB⟩
theorem O5 (hT:dh P tt) (t:TypeId) (x ix:Operand):dO P tt (.indexAddr t x ix):=by
 intro ρ C st w k xs cls fr a o vs res ho hc hW hF hx hr
 simp only[gU] at hc
 split at hc<;>first|(cases hc;done)|skip
 rename_i ti l dV hl
 obtain ⟨d,hd,cM⟩:=(hT.at dV).und
 obtain ⟨u,v,rfl,h1,h2⟩:=Nd hl hF (by
   split at hc<;>first|(cases hc;done)|skip
   all_goals
     split at hc<;>first|(cases hc;done)|skip
     cases hc
     exact hx)
 split at hc<;>first|(cases hc;done)|skip
 . rename_i e hk
   rw[hk] at cM
   rw[ob cM] at hd
   split at hc<;>first|(cases hc;done)|skip
   rename_i te fY
   cases hc
   obtain ⟨i0,mG,lR,_⟩:=(hT.at fY).info
   simp only[aE.run,uw] at hr
   split at hr<;>first|(cases hr;done)|skip
   rename_i i hi
   obtain ⟨kk,Uf⟩:=kF h2 hi
   split at hr<;>first|(cases hr;done)|skip
   . rename_i b off len cap es' _
     split at hr<;>first|(cases hr;done)|skip
     rename_i bI
     have bI:i<len:=by simpa using bI
     simp only[Option.some.injEq] at hr;subst hr
     obtain ⟨aa,aL,he,hle,_,ha⟩:=h1.dR
     obtain ⟨hb,rfl,_⟩:=ha (by omega)
     refine .pure (x:= .pointer (some ⟨(ρ b).aF,(ρ b).base+(off+i*te.size),none⟩)) ?_ (.ptr _ _ hb)
     simp[execOp,ho,he,Uf,Instr.indexAt,aQ hd,asIntOf,bI,jq mG,nk,lR,Nat.add_assoc]
   . rename_i uW es' _
     split at hr<;>first|(cases hr;done)|skip
     rename_i bI gq
     have bI:i<uW.length:=by simpa using bI
     have gq:te.size=es':=Nat.eq_of_beq_eq_true gq
     simp only[Option.some.injEq] at hr;subst hr
     obtain ⟨aa,aL,cell,he,hle,wQ,g1,g2,g3⟩:=h1.tu
     have wQ:=wQ (by intro e;rw[e] at bI;simp at bI)
     obtain ⟨ab,ao,asp⟩:=aa
     simp only at wQ;subst wQ
     refine .pure (x:= .pointer (some ⟨ab,ao+i*es'+0,none⟩)) ?_ (.fp _ _ _ es' ab ao cell g1 g2 g3)
     simp[execOp,ho,he,Uf,Instr.indexAt,aQ hd,asIntOf,bI,jq mG,nk,lR,gq]
   . rename_i hh;cases hh
 . rename_i m e hk
   rw[hk] at cM
   rw[P0 cM] at hd
   split at hc<;>first|(cases hc;done)|skip
   rename_i te fY
   cases hc
   obtain ⟨i0,mG,lR,_⟩:=(hT.at fY).info
   simp only[aE.run,uw] at hr
   split at hr<;>first|(cases hr;done)|skip
   rename_i i hi
   obtain ⟨kk,Uf⟩:=kF h2 hi
   split at hr<;>first|(cases hr;done)|skip
   . rename_i hh;cases hh
   . rename_i hh;cases hh
   . rename_i m' b off hh
     cases hh
     split at hr<;>first|(cases hr;done)|skip
     rename_i bI
     have bI:i<m:=by simpa using bI
     simp only[Option.some.injEq] at hr;subst hr
     obtain ⟨hb,he⟩:=h1.gv
     refine .pure (x:= .pointer (some ⟨(ρ b).aF,(ρ b).base+(off+i*te.size),none⟩)) ?_ (.ptr _ _ hb)
     simp[execOp,ho,he,Uf,Instr.indexAt,aQ hd,asIntOf,bI,jq mG,nk,lR,Nat.add_assoc,Instr.sureAddr]
end
end Go.Ai
end
section
namespace Go.Ai
open Go Go.RowKit
section
variable {P : Program} {tt : TT}
theorem WN (hT:dh P tt) (t:TypeId) (x:Operand) (f:Nat):dO P tt (.field t x f):=by
 intro ρ C st w k xs cls fr a o vs res ho hc hW hF hx hr
 simp only[gU] at hc
 split at hc<;>first|(cases hc;done)|skip
 rename_i ti b dV hb
 split at hc<;>first|(cases hc;done)|skip
 rename_i fs hk
 split at hc<;>first|(cases hc;done)|skip
 rename_i off ft nm hf
 split at hc<;>first|(cases hc;done)|skip
 rename_i fi hfi
 cases hc
 obtain ⟨v,rfl,hv⟩:=fJ hb hF hx
 obtain ⟨d,hd,cM⟩:=(hT.at dV).und
 rw[hk] at cM
 obtain ⟨gs,rfl,hm⟩:=CP cM
 obtain ⟨g,hg,qJ,P9,_⟩:=Ff hm hf
 simp only at qJ P9
 obtain ⟨i,hi,lR,_⟩:=(hT.at hfi).info
 obtain ⟨fd,hfd,hfk⟩:=(hT.at hfi).und
 have pY:=Kv hfk w hfd
 simp only[aE.run,Kr] at hr
 split at hr<;>first|(cases hr;done)|skip
 rename_i cs
 obtain ⟨cx,he,hs⟩:=hv.yc
 simp at hg
 split at hr
 . rename_i hn
   split at hr<;>first|(cases hr;done)|skip
   rename_i u hu
   simp only[Option.some.injEq] at hr;subst hr
   rw[nj] at hu
   obtain ⟨y,hy,Bl⟩:=hs.get hu
   have Vl:fi.k.isAgg=false:=by
     unfold wJ at hn;split at hn
     . cases hn
     . assumption
   rw[Vl] at pY
   refine .pure (x:=y) ?_ Bl
   simp at hy
   simp[execOp,ho,he,Instr.field,aQ hd,hg,part,P9,pY,asAgg,qJ,hy]
 . rename_i m hn
   simp only[Option.some.injEq] at hr;subst hr
   have Vl:fi.k.isAgg=true/\m=fi.size:=by
     unfold wJ at hn;split at hn
     . cases hn;exact ⟨by assumption,rfl⟩
     . cases hn
   rw[Vl.1] at pY
   refine .pure (x:= .agg (cx.extract off (off+m))) ?_ (.wM ?_)
   . simp[execOp,ho,he,Instr.field,aQ hd,hg,part,P9,pY,asAgg,qJ,jq hi,lR,Vl.2]
   . have:=(hs.drop off).take m
     simpa [Array.toList_extract,List.extract] using this
theorem WO (hT:dh P tt) (t:TypeId) (x ix:Operand):dO P tt (.index t x ix):=by
 intro ρ C st w k xs cls fr a o vs res ho hc hW hF hx hr
 simp only[gU] at hc
 split at hc<;>first|(cases hc;done)|skip
 rename_i ti l dV hl
 split at hc<;>first|(cases hc;done)|skip
 rename_i hk
 cases hc
 obtain ⟨u,v,rfl,h1,h2⟩:=Nd hl hF hx
 obtain ⟨d,hd,cM⟩:=(hT.at dV).und
 rw[hk] at cM
 rw[nQ cM] at hd
 simp only[aE.run,I9] at hr
 split at hr<;>first|(cases hr;done)|skip
 rename_i s i hi
 split at hr<;>first|(cases hr;done)|skip
 rename_i c hcx
 simp only[Option.some.injEq] at hr;subst hr
 obtain ⟨bs,he,hs⟩:=h1.dN
 obtain ⟨kk,Uf⟩:=kF h2 hi
 rw[nj, <-hs,List.getElem?_map] at hcx
 obtain ⟨b,hb,hbc⟩:=Option.map_eq_some_iff.1 hcx
 have gV:bs[i]? =some b:=by
  obtain ⟨bI,lp⟩:=List.getElem?_eq_some_iff.1 hb
  have Fg:i<bs.size:=by rw[Array.length_toList] at bI;exact bI
  rw[getElem?_pos bs i Fg]
  congr 1
 refine .pure (x:= .int .u8 (.ofNat c)) ?_ (.int _ _)
 simp[execOp,ho,he,Uf,Instr.index,aQ hd,asIntOf,gV, <-hbc]
theorem Zu (hT:dh P tt) (t:TypeId) (x:Operand):dO P tt (.load t x):=by
 intro ρ C st w k xs cls fr a o vs res ho hc hW hF hx hr
 simp only[gU] at hc
 split at hc<;>first|(cases hc;done)|skip
 rename_i ti b dV hb
 cases hc
 obtain ⟨v,rfl,hv⟩:=fJ hb hF hx
 obtain ⟨d,hd,cM⟩:=(hT.at dV).und
 obtain ⟨i,hi,lR,_⟩:=(hT.at dV).info
 have pY:=Kv cM w hd
 have hn:(wJ ti=none/\ti.k.isAgg=false)\/(wJ ti=some ti.size/\ti.k.isAgg=true):=by
   unfold wJ;split<;>simp_all
 simp only[aE.run,uu] at hr
 split at hr<;>first|(cases hr;done)|skip
 . rename_i bb off
   split at hr<;>first|(cases hr;done)|skip
   rename_i cs fz lp
   obtain ⟨_,he⟩:=hv.gv
   rcases hn with ⟨hn,hf⟩|⟨hn,hf⟩
   . rw[hn] at hr;rw[hf] at pY
     simp only at hr
     split at hr<;>first|(cases hr;done)|skip
     rename_i u hu
     simp only[Option.some.injEq] at hr;subst hr
     rw[nj] at hu
     obtain ⟨y,hy,Bl⟩:=hW.cell lp hu
     refine .pure (x:=y) ?_ Bl
     simp[execOp,ho,he,Instr.loadAt,Instr.sureAddr,loadVar,pY,hy]
   . rw[hn] at hr;rw[hf] at pY
     simp only at hr
     split at hr<;>first|(cases hr;done)|skip
     rename_i us hu
     simp only[Option.some.injEq] at hr;subst hr
     obtain ⟨ys,hy,Bl⟩:=hW.loadCells (P:=P) lp hu
     refine .pure (x:= .agg ys.toArray) ?_ (.wM (by simpa using Bl))
     simp[execOp,ho,he,Instr.loadAt,Instr.sureAddr,loadVar,pY,jq hi,lR,hy]
   rename_i tt0 cs lp
   obtain ⟨_,he⟩:=hv.gv
   rcases hn with ⟨hn,hf⟩|⟨hn,hf⟩
   . rw[hn] at hr;rw[hf] at pY
     simp only at hr
     split at hr<;>first|(cases hr;done)|skip
     rename_i u hu
     simp only[Option.some.injEq] at hr;subst hr
     rw[nj] at hu
     obtain ⟨y,hy,Bl⟩:=hW.ah3 lp hu
     refine .pure (x:=y) ?_ Bl
     simp[execOp,ho,he,Instr.loadAt,Instr.sureAddr,loadVar,pY,hy]
   . rw[hn] at hr;rw[hf] at pY
     simp only at hr
     split at hr<;>first|(cases hr;done)|skip
     rename_i us hu
     simp only[Option.some.injEq] at hr;subst hr
     obtain ⟨ys,hy,Bl⟩:=hW.LF (P:=P) lp hu
     refine .pure (x:= .agg ys.toArray) ?_ (.wM (by simpa using Bl))
     simp[execOp,ho,he,Instr.loadAt,Instr.sureAddr,loadVar,pY,jq hi,lR,hy]
 . rename_i uW i' j'
   split at hr<;>first|(cases hr;done)|skip
   rename_i cs iD
   rw[nj] at iD
   obtain ⟨es,aF,base,cell,he,g1,g2,g3⟩:=hv.Eg
   rcases hn with ⟨hn,hf⟩|⟨hn,hf⟩
   . rw[hn] at hr;rw[hf] at pY
     simp only at hr
     split at hr<;>first|(cases hr;done)|skip
     rename_i u hu
     simp only[Option.some.injEq] at hr;subst hr
     rw[nj] at hu
     have CQ:=(hW.dc _ _ (g2 _ _ _ _ iD hu)).1
     refine .pure (x:=cell i' j') ?_ (g3 _ _ _ _ iD hu)
     simp[execOp,ho,he,Instr.loadAt,Instr.sureAddr,loadVar,pY,CQ]
   . rw[hn] at hr;rw[hf] at pY
     simp only at hr
     split at hr<;>first|(cases hr;done)|skip
     rename_i us hu
     simp only[Option.some.injEq] at hr;subst hr
     obtain ⟨WQ,hle⟩:=zl hu
     have hlen:=qX hu
     have cA:(loadCells ⟨aF,base+i'*es+j',none⟩ ti.size).run P w= .ok ((List.range ti.size).map fun q=>cell i' (j'+q)).toArray w:=by
        refine run_loadCells w _ _ _ fun q hq=> ?_
        rw[nk]
        have:cs[j'+q]? =some (cs[j'+q]'(by omega)):=List.getElem?_eq_getElem (by omega)
        rw[Nat.add_assoc]
        exact (hW.dc _ _ (g2 _ _ _ _ iD this)).1
     refine .pure (x:= .agg ((List.range ti.size).map fun q=>cell i' (j'+q)).toArray) ?_ (.wM ⟨by simp[hlen],fun q u y hu' hy=> ?_⟩)
     .  simp[execOp,ho,he,Instr.loadAt,Instr.sureAddr,loadVar,pY,jq hi,lR,cA]
     .  have hq:q<ti.size:=by rw[<-hlen];exact (List.getElem?_eq_some_iff.1 hu').1
        rw[WQ,List.getElem?_take,if_pos hq,List.getElem?_drop] at hu'
        simp[hq] at hy
        subst hy
        exact g3 _ _ _ _ iD hu'
theorem Zv {x y:Value} {ρ:Pos->Loc} {n:Nat} {C:Cells} {u v r:AV} {w:World} {st:St} (h1:aA ρ n C u x) (h2:aA ρ n C v y) (hr:Ea (fun b=>st.heap.get b) st.next [u,v]=some (.val r)):
   ∃z,(Builtin.min2 x y).run P w= .ok z w/\aA ρ n C r z:=by
 simp only[Ea] at hr
 split at hr<;>first|(cases hr;done)|skip
 . simp only[Option.some.injEq,di.val.injEq] at hr;subst hr
   rw[h1.jB,h2.jB]
   refine ⟨_,rfl,?_⟩
   rw[iI]
   split
   . rename_i h;rw[if_pos (of_decide_eq_true h)];exact .int _ _
   . rename_i h;rw[if_neg (of_decide_eq_false h)];exact .int _ _
 . simp only[Option.some.injEq,di.val.injEq] at hr;subst hr
   rename_i sa sb
   obtain ⟨bx,rfl,e1⟩:=h1.dN
   obtain ⟨bz,rfl,e2⟩:=h2.dN
   have hh:(Op.stringOp .leq bx bz).run P w= .ok (.bool (ey sa sb||iC sa sb)) w:=by
     simp only[Op.stringOp,Sem.run_pure];rw[Kw e1 e2,Ei e1 e2]
   refine ⟨_,by simp only[Builtin.min2,Sem.run_bind,hh,Result.andThen_ok,asBool,Sem.run_pure];rfl,?_⟩
   split
   . rename_i h;rw[if_pos h];exact .str _ _ e1
   . rename_i h;rw[if_neg (by rw[h];simp)];exact .str _ _ e2
theorem Zw {x y:Value} {ρ:Pos->Loc} {n:Nat} {C:Cells} {u v r:AV} {w:World} {st:St} (h1:aA ρ n C u x) (h2:aA ρ n C v y) (hr:Eb (fun b=>st.heap.get b) st.next [u,v]=some (.val r)):
   ∃z,(Builtin.max2 x y).run P w= .ok z w/\aA ρ n C r z:=by
 simp only[Eb] at hr
 split at hr<;>first|(cases hr;done)|skip
 . simp only[Option.some.injEq,di.val.injEq] at hr;subst hr
   rw[h1.jB,h2.jB]
   refine ⟨_,rfl,?_⟩
   rw[iI]
   split
   . rename_i h;rw[if_pos (of_decide_eq_true h)];exact .int _ _
   . rename_i h;rw[if_neg (of_decide_eq_false h)];exact .int _ _
 . simp only[Option.some.injEq,di.val.injEq] at hr;subst hr
   rename_i sa sb
   obtain ⟨bx,rfl,e1⟩:=h1.dN
   obtain ⟨bz,rfl,e2⟩:=h2.dN
   have hh:(Op.stringOp .geq bx bz).run P w= .ok (.bool (!ey sa sb)) w:=by
     simp only[Op.stringOp,Sem.run_pure];rw[Kw e1 e2]
   refine ⟨_,by simp only[Builtin.max2,Sem.run_bind,hh,Result.andThen_ok,asBool,Sem.run_pure];rfl,?_⟩
   split
   . rename_i h;rw[if_neg (by rw[h];simp)];exact .str _ _ e2
   . rename_i h;rw[if_pos (by rw[h];rfl)];exact .str _ _ e1
theorem iq (xs:Array Operand) (a:Act):xs.toList.map a.eval=(xs.map a.eval).toList:=by simp
end
end Go.Ai
end
section
namespace Go.Ai
open Go Go.RowKit
section
variable {P : Program} {tt : TT}
theorem vs1 {ρ:Pos->Loc} {n:Nat} {C:Cells} {bs:List AV} {x:Value} (h:az ρ n C bs [x]): ∃b,bs=[b]/\aA ρ n C b x:=by
 match bs,h with
 |[b],h=>exact ⟨b,rfl,h.2 0 b x rfl rfl⟩
 |[],h=>have:=h.1;simp at this
 |_::_::_,h=>have:=h.1;simp at this
theorem vs2 {ρ:Pos->Loc} {n:Nat} {C:Cells} {bs:List AV} {x y:Value} (h:az ρ n C bs [x,y]): ∃b c,bs=[b,c]/\aA ρ n C b x/\aA ρ n C c y:=by
 match bs,h with
 |[b,c],h=>exact ⟨b,c,rfl,h.2 0 b x rfl rfl,h.2 1 c y rfl rfl⟩
 |[],h=>have:=h.1;simp at this
 |[_],h=>have:=h.1;simp at this
 |_::_::_::_,h=>have:=h.1;simp at this
theorem vs3 {ρ:Pos->Loc} {n:Nat} {C:Cells} {bs:List AV} {x y z:Value} (h:az ρ n C bs [x,y,z]): ∃b c d,bs=[b,c,d]/\aA ρ n C b x/\aA ρ n C c y/\aA ρ n C d z:=by
 match bs,h with
 |[b,c,d],h=>exact ⟨b,c,d,rfl,h.2 0 b x rfl rfl,h.2 1 c y rfl rfl,h.2 2 d z rfl rfl⟩
 |[],h=>have:=h.1;simp at this
 |[_],h=>have:=h.1;simp at this
 |[_,_],h=>have:=h.1;simp at this
 |_::_::_::_::_,h=>have:=h.1;simp at this
def Bm (x:Option Value) (i:Option Nat):Prop:=(x=none/\i=none)\/ ∃j k,i=some j/\x=some (.int k (j:Int))
theorem LH {ρ:Pos->Loc} {n:Nat} {C:Cells} {lo hi mx:Option Operand} {bs:List AV} {a:Act} {l h m:Option Nat}
   (hb:az ρ n C bs ((wK lo++wK hi++wK mx).map a.eval)) (hr:bounds lo.isSome hi.isSome mx.isSome bs=some (l,h,m)):
   Bm (lo.map a.eval) l/\Bm (hi.map a.eval) h/\Bm (mx.map a.eval) m/\(m.isSome=true->h.isSome=true):=by
 unfold bounds at hr
 cases lo<;>cases hi<;>cases mx<;>simp only[Option.isSome_some,Option.isSome_none,wK,List.nil_append,List.append_nil,List.cons_append,List.map_cons,List.map_nil] at hb hr<;>
   first|(cases hr;done)|skip
 . cases bs with
   |cons b bs=>have:=hb.1;simp at this
   |nil=>simp at hr;obtain ⟨rfl,rfl,rfl⟩:=hr;exact ⟨.inl ⟨rfl,rfl⟩,.inl ⟨rfl,rfl⟩,.inl ⟨rfl,rfl⟩,fun h=>by cases h⟩
 . obtain ⟨b,rfl,h1⟩:=vs1 hb
   simp only at hr
   split at hr<;>first|(cases hr;done)|skip
   rename_i j hj
   obtain ⟨k,hk⟩:=kF h1 hj
   simp at hr;obtain ⟨rfl,rfl,rfl⟩:=hr
   exact ⟨.inl ⟨rfl,rfl⟩,.inr ⟨j,k,rfl,by simp[hk]⟩,.inl ⟨rfl,rfl⟩,fun h=>by cases h⟩
 . obtain ⟨b,c,rfl,h1,h2⟩:=vs2 hb
   simp only at hr
   split at hr<;>first|(cases hr;done)|skip
   rename_i j j' hj Bk
   obtain ⟨k,hk⟩:=kF h1 hj
   obtain ⟨k',qI⟩:=kF h2 Bk
   simp at hr;obtain ⟨rfl,rfl,rfl⟩:=hr
   exact ⟨.inl ⟨rfl,rfl⟩,.inr ⟨j,k,rfl,by simp[hk]⟩,.inr ⟨j',k',rfl,by simp[qI]⟩,fun _=>rfl⟩
 . obtain ⟨b,rfl,h1⟩:=vs1 hb
   simp only at hr
   split at hr<;>first|(cases hr;done)|skip
   rename_i j hj
   obtain ⟨k,hk⟩:=kF h1 hj
   simp at hr;obtain ⟨rfl,rfl,rfl⟩:=hr
   exact ⟨.inr ⟨j,k,rfl,by simp[hk]⟩,.inl ⟨rfl,rfl⟩,.inl ⟨rfl,rfl⟩,fun h=>by cases h⟩
 . obtain ⟨b,c,rfl,h1,h2⟩:=vs2 hb
   simp only at hr
   split at hr<;>first|(cases hr;done)|skip
   rename_i j j' hj Bk
   obtain ⟨k,hk⟩:=kF h1 hj
   obtain ⟨k',qI⟩:=kF h2 Bk
   simp at hr;obtain ⟨rfl,rfl,rfl⟩:=hr
   exact ⟨.inr ⟨j,k,rfl,by simp[hk]⟩,.inr ⟨j',k',rfl,by simp[qI]⟩,.inl ⟨rfl,rfl⟩,fun h=>by cases h⟩
 . obtain ⟨b,c,d,rfl,h1,h2,h3⟩:=vs3 hb
   simp only at hr
   split at hr<;>first|(cases hr;done)|skip
   rename_i j j' j'' hj Bk hj''
   obtain ⟨k,hk⟩:=kF h1 hj
   obtain ⟨k',qI⟩:=kF h2 Bk
   obtain ⟨k'',hk''⟩:=kF h3 hj''
   simp at hr;obtain ⟨rfl,rfl,rfl⟩:=hr
   exact ⟨.inr ⟨j,k,rfl,by simp[hk]⟩,.inr ⟨j',k',rfl,by simp[qI]⟩,.inr ⟨j'',k'',rfl,by simp[hk'']⟩,fun _=>rfl⟩
theorem xP (isS:Bool) {len cap:Nat} {xl xh xm:Option Value} {l h m:Option Nat} (h1:Bm xl l) (h2:Bm xh h) (h3:Bm xm m) (hmh:m.isSome=true->h.isSome=true)
  (Ek:l.getD 0<=h.getD len) (hhm:h.getD len<=m.getD cap) (hmc:m.getD cap<=cap) (w:World):
  (Instr.sliceBounds isS len cap xl xh xm).run P w= .ok (l.getD 0,h.getD len,m.getD cap) w:=by
 rcases h1 with ⟨rfl,rfl⟩|⟨jl,kl,rfl,rfl⟩<;>rcases h2 with ⟨rfl,rfl⟩|⟨jh,kh,rfl,rfl⟩<;>rcases h3 with ⟨rfl,rfl⟩|⟨jm,km,rfl,rfl⟩<;>
  simp only[Option.getD_none,Option.getD_some,Option.isSome_some,Option.isSome_none] at Ek hhm hmc hmh ⊢ <;>
  first
   |(simp at hmh;done)
   |simp[Instr.sliceBounds,Instr.sliceBound,asIntOf,Ek,hhm,hmc,Int.ofNat_le]
theorem CT {ρ:Pos->Loc} {n:Nat} {C:Cells} {b:Pos} {off es aL l h M:Nat} {aa:Addr} {Zx:Option Nat}
   (ha:aL≠0->b.toNat<n/\aa=⟨(ρ b).aF,(ρ b).base+off,none⟩/\(ρ b).base+off+aL*es<=(ρ b).size)
   (h1:l<=h) (h2:h<=M) (h3:M<=aL) (hc: ∀c,Zx=some c->c=M - l) (hk:Zx=none->b.toNat<n):
   aA ρ n C (.slice b (off+l*es) (h - l) Zx es) (.slice (if M=l then some aa else (some aa).map (·.add (l*es))) (h - l) (M - l)):=by
 by_cases hm:M=l
 . rw[if_pos hm]
   exact .slice _ _ _ _ _ _ _ (by omega) hc (fun h0=>absurd (by omega) h0) hk
 . rw[if_neg hm]
   obtain ⟨hb,rfl,hle⟩:=ha (by omega)
   refine .slice _ _ _ _ _ _ _ (by omega) hc (fun _=>⟨hb,by show Addr.add _ _=_;rw[nk,Nat.add_assoc],?_⟩) hk
   have e1:l*es+(M - l)*es=M*es:=by rw[<-Nat.add_mul];congr 1;omega
   have e2:M*es<=aL*es:=Nat.mul_le_mul_right _ h3
   omega
theorem WR (hT:dh P tt) (t:TypeId) (x:Operand) (lo hi mx:Option Operand):dO P tt (.slice t x lo hi mx):=by
 intro ρ C st w k xs cls fr a o vs res ho hc hW hF hx hr
 simp only[gU] at hc
 split at hc<;>first|(cases hc;done)|skip
 rename_i ti l0 dV hl
 obtain ⟨d,hd,cM⟩:=(hT.at dV).und
 split at hc<;>first|(cases hc;done)|skip
 . rename_i hk
   rw[hk] at cM;rw[nQ cM] at hd
   split at hc<;>first|(cases hc;done)|skip
   cases hc
   have hv:=fk hl hF hx
   simp only[wK,List.append_nil,List.cons_append,List.nil_append,List.map_cons] at hv
   simp only[aE.run,HE] at hr
   split at hr<;>first|(cases hr;done)|skip
   rename_i u bs
   split at hr<;>first|(cases hr;done)|skip
   rename_i s l h m' hb
   split at hr<;>first|(cases hr;done)|skip
   rename_i h1 h2
   have h1:=Nat.le_of_ble_eq_true h1
   have h2:=Nat.le_of_ble_eq_true h2
   simp only[Option.some.injEq] at hr;subst hr
   obtain ⟨y,ys,uF,hu,mH⟩:=hv.cons_inv
   simp only[List.cons.injEq] at uF;obtain ⟨rfl,rfl⟩:=uF
   have lp:=LH (lo:=lo) (hi:=hi) (mx:=none) (a:=a) (by simpa [wK] using mH) hb
   obtain ⟨bs',he,hs⟩:=hu.dN
   have fh:=vL hs
   have cA:=xP (P:=P) false (len:=bs'.size) (cap:=bs'.size) lp.1 lp.2.1 (.inl ⟨rfl,rfl⟩:Bm none none) (fun h=>by cases h)
     (by rw[fh];exact h1) (by rw[fh];simpa using h2) (by simp) w
   refine .pure (x:= .string (bs'.extract (l.getD 0) (h.getD bs'.size))) ?_ (.str _ _ ?_)
   . simp only[execOp,ho,Instr.sliceAt,Sem.run_bind,aQ hd,Result.andThen_ok,he,Instr.slice]
     simp[cA]
   . rw[fh,ByteArray.data_extract,Array.toList_extract, <-hs,List.extract,List.map_take,List.map_drop]
     rw[List.drop_take]
 . rename_i e hk
   rw[hk] at cM;rw[ob cM] at hd
   split at hc<;>first|(cases hc;done)|skip
   rename_i te fY
   cases hc
   obtain ⟨i0,mG,lR,_⟩:=(hT.at fY).info
   have hv:=fk hl hF hx
   simp only[List.cons_append,List.nil_append,List.append_assoc,List.map_cons] at hv
   simp only[aE.run,tq] at hr
   split at hr<;>first|(cases hr;done)|skip
   rename_i u bs
   obtain ⟨y,ys,uF,hu,mH⟩:=hv.cons_inv
   simp only[List.cons.injEq] at uF;obtain ⟨rfl,rfl⟩:=uF
   have qJ: ∀(sa:Option Addr) (len cap:Nat) (l h m:Option Nat),a.eval x= .slice sa len cap->bounds lo.isSome hi.isSome mx.isSome bs=some (l,h,m)->
        l.getD 0<=h.getD len->h.getD len<=m.getD cap->m.getD cap<=cap->
        (execOp a.eval o).run P w= .ok (.value (.slice (if m.getD cap=l.getD 0 then sa else sa.map (·.add (l.getD 0*te.size))) (h.getD len - l.getD 0) (m.getD cap - l.getD 0))) w:=by
     intro sa len cap l h m he hb h1 h2 h3
     have lp:=LH (lo:=lo) (hi:=hi) (mx:=mx) (a:=a) (by simpa [List.append_assoc] using mH) hb
     have cA:=xP (P:=P) true (len:=len) (cap:=cap) lp.1 lp.2.1 lp.2.2.1 lp.2.2.2 h1 h2 h3 w
     simp only[execOp,ho,Instr.sliceAt,Sem.run_bind,aQ hd,Result.andThen_ok,he,Instr.slice,cA,jq mG,lR,Sem.run_pure]
   split at hr<;>first|(cases hr;done)|skip
   ·
     rename_i b off len cap es' l h m hb
     split at hr<;>first|(cases hr;done)|skip
     rename_i gq Ek
     have gq:te.size=es':=Nat.eq_of_beq_eq_true gq
     subst gq
     have Ek:=Nat.le_of_ble_eq_true Ek
     obtain ⟨aa,aL,he,hle,yh,ha⟩:=hu.dR
     split at hr
     .  rename_i c m'
        split at hr<;>first|(cases hr;done)|skip
        rename_i e1 e2
        have e1:=Nat.le_of_ble_eq_true e1
        have e2:=Nat.le_of_ble_eq_true e2
        have:=yh c rfl;subst this
        simp only[Option.some.injEq] at hr;subst hr
        exact .pure (qJ _ _ _ _ _ _ he hb Ek (by simpa using e1) (by simpa using e2)) (CT ha Ek e1 e2 (fun c hc=>by cases hc;rfl) (fun h=>by cases h))
     .  rename_i c
        split at hr<;>first|(cases hr;done)|skip
        rename_i e1
        have e1:=Nat.le_of_ble_eq_true e1
        have:=yh c rfl;subst this
        simp only[Option.some.injEq] at hr;subst hr
        exact .pure (qJ _ _ _ _ _ _ he hb Ek (by simpa using e1) (by simp)) (CT ha Ek e1 (Nat.le_refl _) (fun c hc=>by cases hc;rfl) (fun h=>by cases h))
     .  rename_i m'
        split at hr<;>first|(cases hr;done)|skip
        rename_i e1 e2
        have e1:=Nat.le_of_ble_eq_true e1
        have e2:=Nat.le_of_ble_eq_true e2
        simp only[Option.some.injEq] at hr;subst hr
        exact .pure (qJ _ _ _ _ _ _ he hb Ek (by simpa using e1) (by simp;omega)) (CT ha Ek e1 (by simp;omega) (fun c hc=>by cases hc;rfl) (fun h=>by cases h))
     .  split at hr<;>first|(cases hr;done)|skip
        rename_i e1
        have e1:=Nat.le_of_ble_eq_true e1
        simp only[Option.some.injEq] at hr;subst hr
        exact .pure (qJ _ _ _ _ _ _ he hb Ek (by simp;omega) (by simp)) (CT ha Ek (by simp;omega) (Nat.le_refl _) (fun c hc=>by cases hc) (fun _=>hu.N4 rfl))
   ·
     rename_i uW es' l h m hb
     split at hr<;>first|(cases hr;done)|skip
     rename_i gq
     have gq:te.size=es':=Nat.eq_of_beq_eq_true gq
     subst gq
     obtain ⟨aa,aL,cell,he,hle,wQ,g1,g2,g3⟩:=hu.tu
     split at hr
     .  rename_i m'
        split at hr<;>first|(cases hr;done)|skip
        rename_i e0 e1 e2
        have e0:=Nat.eq_of_beq_eq_true e0
        have e1:=Nat.eq_of_beq_eq_true e1
        have e2:=Nat.eq_of_beq_eq_true e2
        subst e2
        simp only[Option.some.injEq] at hr;subst hr
        refine .pure (qJ _ _ _ _ _ _ he hb (by omega) (by rw[e1];simp) (by simp)) ?_
        simp only[e0,e1,Option.getD_some,Nat.sub_self,if_true]
        exact .slice _ _ _ _ _ _ _ (Nat.le_refl _) (fun c hc=>by cases hc;rfl) (fun h0=>absurd rfl h0) (fun h=>by cases h)
     .  split at hr<;>first|(cases hr;done)|skip
        rename_i e0 e1
        have e0:=Nat.le_of_ble_eq_true e0
        have e1:=Nat.le_of_ble_eq_true e1
        simp only[Option.some.injEq] at hr;subst hr
        refine .pure (qJ _ _ _ _ _ _ he hb e0 (by simp;omega) (by simp)) ?_
        simp only[Option.getD_none]
        have hlen:(List.drop (l.getD 0) (List.take (h.getD uW.length) uW)).length=h.getD uW.length - l.getD 0:=by simp;omega
        rw[<-hlen]
        have mQ: ∀i cs,(List.drop (l.getD 0) (List.take (h.getD uW.length) uW))[i]? =some cs->uW[l.getD 0+i]? =some cs:=by
          intro i cs hi
          rw[List.getElem?_drop,List.getElem?_take] at hi
          split at hi
          . exact hi
          . cases hi
        by_cases WS:aL=l.getD 0
        . rw[if_pos WS]
          have hemp:List.drop (l.getD 0) (List.take (h.getD uW.length) uW)=[]:=by
            apply List.eq_nil_of_length_eq_zero;rw[hlen];omega
          rw[hemp]
          exact .fl _ _ _ _ (fun _ _=>undef) (by simp) (fun h=>absurd rfl h) (fun i cs hi=>by simp at hi) (fun i j cs v hi=>by simp at hi) (fun i j cs v hi=>by simp at hi)
        . rw[if_neg WS]
          by_cases en:uW=[]
          . subst en
            simp only[List.take_nil,List.drop_nil]
            exact .fl _ _ _ _ (fun _ _=>undef) (by simp) (fun h=>absurd rfl h) (fun i cs hi=>by simp at hi) (fun i j cs v hi=>by simp at hi) (fun i j cs v hi=>by simp at hi)
          . have wQ:=wQ en
            obtain ⟨ab,ao,asp⟩:=aa
            simp only at wQ;subst wQ
            simp only[Option.map_some,nk]
            refine .fl _ _ _ _ (fun i j=>cell (l.getD 0+i) j) (by rw[hlen];omega) (fun _=>rfl) (fun i cs hi=>g1 _ _ (mQ i cs hi)) (fun i j cs v hi hj=> ?_) (fun i j cs v hi hj=>g3 _ _ _ _ (mQ i cs hi) hj)
            have:=g2 _ _ _ _ (mQ i cs hi) hj
            simp only at this ⊢
            rw[<-this]
            congr 2
            rw[Nat.add_mul];omega
   ·
     rename_i l h m hb
     split at hr<;>first|(cases hr;done)|skip
     rename_i e0 e1 e2
     have e0:=Nat.eq_of_beq_eq_true e0
     have e1:=Nat.eq_of_beq_eq_true e1
     have e2:=Nat.eq_of_beq_eq_true e2
     simp only[Option.some.injEq] at hr;subst hr
     have he:=hu.gD
     refine .pure (qJ _ _ _ _ _ _ he hb (by omega) (by omega) (by omega)) ?_
     simp only[e0,e1,e2,Nat.sub_self,if_true]
     exact .aj
end
end Go.Ai
end
section
namespace Go.Ai
open Go Go.RowKit
section
variable {P : Program} {tt : TT}
theorem DE {ρ:Pos->Loc} {n:Nat} {C:Cells}: ∀{l:List AV} {s:List Nat} {ys:List Value},bytesOf l=some s->az ρ n C l ys->
  ys=(s.map Int.ofNat).map (Value.int .u8)/\ ∀c,c∈s->c<256
 |[],s,ys,h,hv=>by
  simp[bytesOf] at h;subst h
  exact ⟨by simpa using hv.kQ,fun c hc=>by simp at hc⟩
 |v ::l,s,ys,h,hv=>by
  unfold bytesOf at h
  split at h<;>first|(cases h;done)|skip
  . rename_i h0;simp at h0
  . rename_i c l' he
    simp only[List.cons.injEq] at he;obtain ⟨rfl,rfl⟩:=he
    split at h<;>first|(cases h;done)|skip
    rename_i s' bI nr
    simp only[Option.some.injEq] at h;subst h
    obtain ⟨y,ys',rfl,h1,h2⟩:=hv.cons_inv
    obtain ⟨e,oP⟩:=DE nr h2
    have bI:c<256:=by simpa using bI
    refine ⟨by rw[h1.jB,e];rfl,fun c' hc=> ?_⟩
    simp at hc;rcases hc with rfl|hc
    . exact bI
    . exact oP _ hc
theorem CU: ∀(s:List Nat) (acc:ByteArray),((s.map Int.ofNat).foldl (fun r n=>r.push (UInt8.ofNat n.toNat)) acc).data.toList=acc.data.toList++s.map UInt8.ofNat
 |[],acc=>by simp
 |c::s,acc=>by
  simp only[List.map_cons,List.foldl_cons]
  rw[CU s]
  simp[ByteArray.push]
theorem Tq {P:Program} {e:TypeId} (hc:P.cellsOf e≠0) (count:Nat) (hn:1<=count):liesAt P P.depth e count 0 e 1=true:=by
 have hd:P.depth=(2*(P.types.size+Made.depth)+1)+1:=rfl
 rw[hd]
 simp only[liesAt,Bool.or_eq_true]
 left
 rw[hd]
 simp[rowAt,hc,hn,sameLayout]
theorem Tr (hT:dh P tt) (src dst:TypeId) (x:Operand) (hnb: ∀k xs cls,gU tt (.convert src dst x)=some (k,xs,cls)->k≠ .conv .bytes):dO P tt (.convert src dst x):=by
 intro ρ C st w k xs cls fr a o vs res ho hc hW hF hx hr
 have hnb:=hnb _ _ _ hc
 simp only[gU] at hc
 split at hc<;>first|(cases hc;done)|skip
 rename_i s d b hs hd hb
 obtain ⟨ds,Bn,El⟩:=(hT.at hs).und
 obtain ⟨dd,hdd,cM⟩:=(hT.at hd).und
 split at hc<;>first|(cases hc;done)|skip
 . rename_i k1 k2 h1 h2
   cases hc
   obtain ⟨v,rfl,hv⟩:=fJ hb hF hx
   rw[h1] at El;rw[h2] at cM
   rw[Ef El] at Bn;rw[Ef cM] at hdd
   simp only[aE.run,uv] at hr
   split at hr<;>first|(cases hr;done)|(rename_i heq;cases heq;done)|(rename_i heq;cases heq)
   simp only[Option.some.injEq] at hr;subst hr
   refine .pure ?_ (by rw[tv];exact .int _ _)
   simp[execOp,ho,hv.jB,convert,aQ Bn,aQ hdd,Conv.intToInt]
 . rename_i h1 h2
   cases hc
   obtain ⟨v,rfl,hv⟩:=fJ hb hF hx
   rw[h1] at El;rw[h2] at cM
   rw[nQ El] at Bn;rw[nQ cM] at hdd
   simp only[aE.run,uv] at hr
   split at hr<;>first|(cases hr;done)|(rename_i heq;cases heq;done)|(rename_i heq;cases heq)
   simp only[Option.some.injEq] at hr;subst hr
   obtain ⟨bs,he,hs⟩:=hv.dN
   exact .pure (x:= .string bs) (by simp[execOp,ho,he,convert,aQ Bn,aQ hdd]) (.str _ _ hs)
 . split at hc<;>first|(cases hc;done)|skip
   split at hc<;>first|(cases hc;done)|skip
   cases hc
   exact absurd rfl hnb
 . rename_i e h1 h2
   split at hc<;>first|(cases hc;done)|skip
   rename_i te fY
   split at hc<;>first|(cases hc;done)|skip
   rename_i Qa
   cases hc
   obtain ⟨v,rfl,hv⟩:=fJ hb hF hx
   rw[h1] at El;rw[h2] at cM
   rw[ob El] at Bn;rw[nQ cM] at hdd
   obtain ⟨de,WT,WU⟩:=(hT.at fY).und
   rw[Qa] at WU;rw[Ef WU] at WT
   have qJ: ∀y:Option Addr×Nat×Nat,a.eval x= .slice y.1 y.2.1 y.2.2->(execOp a.eval o).run P w=((Conv.bytesToString (a.eval x)).run P w).andThen fun v w=> .ok (.value v) w:=by
     intro y he
     simp[execOp,ho,he,convert,aQ Bn,aQ hdd,aQ WT]
   simp only[aE.run,uv] at hr
   split at hr<;>first|(cases hr;done)|(rename_i heq;cases heq;done)|(rename_i heq;cases heq)
   . simp only[Option.some.injEq] at hr;subst hr
     have he:=hv.gD
     refine .pure (x:= .string .empty) ?_ (.str _ _ rfl)
     rw[qJ (none,0,0) he,he];simp[Conv.bytesToString]
   . rename_i bb off m cap es
     obtain ⟨aa,aL,he,hle,_,ha⟩:=hv.dR
     split at hr
     .  rename_i h0
        have:=Nat.eq_of_beq_eq_true h0;subst this
        simp only[Option.some.injEq] at hr;subst hr
        refine .pure (x:= .string .empty) ?_ (.str _ _ rfl)
        rw[qJ (some aa,0,aL) he,he];simp[Conv.bytesToString,loadCells,loadCellsFrom]
     .  rename_i h0
        have h0:=Nat.ne_of_beq_eq_false h0
        split at hr<;>first|(cases hr;done)|skip
        rename_i cs fz lp
        split at hr<;>first|(cases hr;done)|skip
        rename_i l hcut
        split at hr<;>first|(cases hr;done)|skip
        rename_i s' Qb
        simp only[Option.some.injEq] at hr;subst hr
        obtain ⟨bI,rfl,_⟩:=ha (by omega)
        obtain ⟨ys,uF,o8⟩:=hW.loadCells (P:=P) lp hcut
        obtain ⟨e1,e2⟩:=DE Qb o8
        rw[e1] at uF
        have cA:=run_bytesToString (P:=P) w ⟨(ρ bb).aF,(ρ bb).base+off,none⟩ m aL (s'.map Int.ofNat) uF
        refine .pure (x:= .string _) (by rw[qJ (some _,m,aL) he,he,cA];rfl) (.str _ _ ?_)
        rw[CU,List.map_append]
        have e0:ByteArray.empty.data.toList=[]:=rfl
        rw[e0,List.map_nil,List.nil_append,List.map_map]
        have e3:s'.map (UInt8.toNat∘UInt8.ofNat)=s'.map id:=List.map_congr_left fun c hc=>by
         have:=e2 c hc
         simp only[Function.comp,id,UInt8.toNat_ofNat']
         omega
        rw[e3,List.map_id]
 ·
   rename_i e h1 h2
   split at hc<;>first|(cases hc;done)|skip
   rename_i te fY
   split at hc<;>first|(cases hc;done)|skip
   rename_i fh
   cases hc
   obtain ⟨v,rfl,hv⟩:=fJ hb hF hx
   rw[h1] at El;rw[h2] at cM
   rw[LA El] at Bn;rw[WH cM] at hdd
   obtain ⟨i0,mG,lR,_⟩:=(hT.at fY).info
   have fh:=Nat.ne_of_beq_eq_false fh
   simp only[aE.run,HG] at hr
   split at hr<;>first|(cases hr;done)|skip
   . simp only[Option.some.injEq] at hr;subst hr
     refine .pure (x:= .pointer none) ?_ .bq
     simp[execOp,ho,hv.qY,convert,aQ Bn,aQ hdd,Conv.unsafePointer]
   . rename_i bb off
     split at hr<;>first|(cases hr;done)|skip
     rename_i t0 cs lp
     split at hr<;>first|(cases hr;done)|skip
     rename_i bI
     have bI:off<cs.length:=by simpa using bI
     simp only[Option.some.injEq] at hr;subst hr
     obtain ⟨_,he⟩:=hv.gv
     obtain ⟨_,_,c,fr,g1,g2,g3,g4,g5,g6⟩:=hW.live _ _ lp
     have JN:w.shape? (ρ bb).aF=some (t0,c.size):=by simp[World.shape?,g1]
     have:=Lib.run_to_unsafe (P:=P) (w:=w) (j:=i0) ⟨(ρ bb).aF,(ρ bb).base+off,none⟩ Bn hdd mG (by rw[lR];exact fh) JN (by show (ρ bb).base+off<c.size;omega)
     exact .pure (x:= .pointer (some ⟨(ρ bb).aF,(ρ bb).base+off,none⟩)) (by simp[execOp,ho,he,this]) (he ▸hv)
 ·
   rename_i e h1 h2
   split at hc<;>first|(cases hc;done)|skip
   rename_i te fY
   split at hc<;>first|(cases hc;done)|skip
   rename_i fh
   cases hc
   obtain ⟨v,rfl,hv⟩:=fJ hb hF hx
   rw[h1] at El;rw[h2] at cM
   rw[WH El] at Bn;rw[LA cM] at hdd
   obtain ⟨i0,mG,lR,_⟩:=(hT.at fY).info
   have fh:=Nat.ne_of_beq_eq_false fh
   simp only[aE.run,Be] at hr
   split at hr<;>first|(cases hr;done)|skip
   . simp only[Option.some.injEq] at hr;subst hr
     refine .pure (x:= .pointer none) ?_ .bq
     simp[execOp,ho,hv.qY,convert,aQ Bn,aQ hdd,Conv.unsafePointer]
   . rename_i bb
     split at hr<;>first|(cases hr;done)|skip
     rename_i t0 cs lp
     split at hr<;>first|(cases hr;done)|skip
     rename_i ht hle
     have ht:=Nat.eq_of_beq_eq_true ht
     have hle:=Nat.le_of_ble_eq_true hle
     subst ht
     simp only[Option.some.injEq] at hr;subst hr
     obtain ⟨_,he⟩:=hv.gv
     obtain ⟨_,_,c,fr,g1,g2,g3,g4,g5,g6⟩:=hW.live _ _ lp
     have JN:w.shape? (ρ bb).aF=some (t0,c.size):=by simp[World.shape?,g1]
     have CQ:P.cellsOf t0=te.size:=by simp[Program.cellsOf,mG,lR]
     have H8:1<=c.size / P.cellsOf t0:=by rw[CQ,Nat.le_div_iff_mul_le (by omega)];omega
     rw[Nat.add_zero] at he
     have:=Lib.run_from_unsafe (P:=P) (w:=w) (j:=i0) ⟨(ρ bb).aF,(ρ bb).base,none⟩ Bn hdd mG JN (by show liesAt P P.depth t0 _ (ρ bb).base t0 1=true;rw[g6];exact Tq (by rw[CQ];exact fh) _ H8)
     exact .pure (x:= .pointer (some ⟨(ρ bb).aF,(ρ bb).base,none⟩)) (by simp[execOp,ho,he,this]) (he ▸hv)
theorem Em {t:TypeId} {d:TypeDesc} (hd:P.underlying t=some d) {pk:PK} (hk:pk.fits d=true) (e:Bool) (m:Nat) (x:Value) (w:World):
  (Instr.checkKey e (m+1) t x).run P w= .ok () w:=by
 unfold Instr.checkKey
 rw[Sem.run_bind,aQ hd,Result.andThen_ok]
 cases pk<;>cases d<;>simp[PK.fits] at hk<;>rfl
theorem JO {ρ:Pos->Loc} {n:Nat} {C:Cells} {pk:PK} {d:TypeDesc} (hk:pk.fits d=true) {u v:AV} {x y:Value} {r:Bool}
   (h1:aA ρ n C u x) (h2:aA ρ n C v y) (h:xZ pk u v=some r):Instr.sameNow d x y=some r:=by
 unfold xZ at h
 split at h<;>first|(cases h;done)|skip
 . simp only[Option.some.injEq] at h;subst h
   cases d<;>simp[PK.fits] at hk
   rw[h1.jP,h2.jP];rfl
 . split at h<;>first|(cases h;done)|skip
   rename_i CS
   have:=wh CS;subst this
   simp only[Option.some.injEq] at h;subst h
   cases d<;>simp[PK.fits] at hk
   rw[h1.jB,h2.jB];simp[Instr.sameNow,jr]
 . simp only[Option.some.injEq] at h;subst h
   cases d<;>simp[PK.fits] at hk
   obtain ⟨bx,rfl,e1⟩:=h1.dN
   obtain ⟨bz,rfl,e2⟩:=h2.dN
   simp only[Instr.sameNow]
   rw[beq_toListBytes,Ei e1 e2]
def CV (ρ:Pos->Loc) (n:Nat) (C:Cells) (es:List (AV×AV×Nat)) (es':List MapEntry):Prop:=
 es.length=es'.length/\ ∀(i:Nat) (e:AV×AV×Nat) (e':MapEntry),es[i]? =some e->es'[i]? =some e'->aA ρ n C e.1 e'.key/\aA ρ n C e.2.1 e'.val/\e.2.2=e'.born
theorem zm {ρ:Pos->Loc} {n:Nat} {C:Cells} {pk:PK} {d:TypeDesc} (hk:pk.fits d=true) {u:AV} {x:Value} (hu:aA ρ n C u x):
  ∀{es:List (AV×AV×Nat)} {es':List MapEntry} {i:Nat} {r:Option (Nat×AV)},CV ρ n C es es'->sM pk u es i=some r->
  ∃r',Instr.findNow d x es' i=some r'/\((r=none/\r'=none)\/ ∃j v y,r=some (j,v)/\r'=some (j,y)/\aA ρ n C v y/\i<=j/\j<i+es.length)
 |[],es',i,r,he,h=>by
  simp[sM] at h;subst h
  cases es' with
  |nil=>exact ⟨none,rfl,.inl ⟨rfl,rfl⟩⟩
  |cons e es'=>have:=he.1;simp at this
 |(k',v,born)::es,es',i,r,he,h=>by
  cases es' with
  |nil=>have:=he.1;simp at this
  |cons e' es'=>
   have h0:=he.2 0 (k',v,born) e' rfl rfl
   have n9:CV ρ n C es es':=⟨by have:=he.1;simpa using this,fun j e e' h1 h2=>he.2 (j+1) e e' (by simpa using h1) (by simpa using h2)⟩
   unfold sM at h
   split at h<;>first|(cases h;done)|skip
   .    rename_i hq
        simp only[Option.some.injEq] at h;subst h
        refine ⟨some (i,e'.val),by simp[Instr.findNow,JO hk hu h0.1 hq],.inr ⟨i,v,e'.val,rfl,rfl,h0.2.1,Nat.le_refl _,by simp⟩⟩
   .    rename_i hq
        obtain ⟨r',h1,h2⟩:=zm hk hu n9 h
        refine ⟨r',by simp[Instr.findNow,JO hk hu h0.1 hq,h1],?_⟩
        rcases h2 with h2|⟨j,v',y,e1,e2,e3,e4,e5⟩
        . exact .inl h2
        . exact .inr ⟨j,v',y,e1,e2,e3,by omega,by simp;omega⟩
theorem run_findKey {t:TypeId} {d:TypeDesc} (hd:P.underlying t=some d) {x:Value} {es:List MapEntry} {r:Option (Nat×Value)} (h:Instr.findNow d x es 0=some r) (w:World):
  (Instr.findKey t x es).run P w= .ok r w:=by
 simp[Instr.findKey,aQ hd,h]
theorem run_getObj_map {r:Nat} {es:Array MapEntry} {c:Nat} {w:World} (h:w.heap[r]? =some (.map es c)):(getObj r).run P w= .ok (.map es c) w:=by
 simp[getObj,Sem.run,h]
theorem aa2 (k:TK) {d:TypeDesc} (h:bU k d=true) {pk:PK} (hp:(k= .bool/\pk= .b)\/((∃i,k= .int i)/\pk= .i)\/(k= .string/\pk= .s)):pk.fits d=true:=by
 rcases hp with ⟨rfl,rfl⟩|⟨⟨i,rfl⟩,rfl⟩|⟨rfl,rfl⟩
 . rw[Nc h];rfl
 . rw[Ef h];rfl
 . rw[nQ h];rfl
theorem tA (hT:dh P tt) {t:Nat} {ti:TI} (ht:tt.get (key t)=some ti) {z:List AV} (hz:ti.zero=some z) {ρ:Pos->Loc} {n:Nat} {C:Cells} (w:World):
   ∃v,(zeroValue t).run P w= .ok v w/\aA ρ n C (gU.Ec ti z) v/\az ρ n C z v.cells.toList:=by
 obtain ⟨i,hi,lR,_,xQ⟩:=(hT.at ht).info
 obtain ⟨v,hv,hs,hlen,h1,h2⟩:=xQ z hz
 refine ⟨v,Zo hi hv w,?_,rL hs⟩
 unfold gU.Ec
 split
 . rename_i ha
   obtain ⟨cs,rfl⟩:=h1 ha
   exact .wM (rL hs)
 . rename_i ha
   have hc:=h2 ha
   rw[hc] at hs
   simp only[qF] at hs
   split at hs<;>first|(cases hs;done)|skip
   rename_i a as e1 e2
   simp only[Option.some.injEq] at hs e2
   subst hs;subst e2
   simp only
   exact Bi e1
theorem Vm (hT:dh P tt) (t:TypeId) (x ix:Operand) (ok:Bool):dO P tt (.lookup t x ix ok):=by
 intro ρ C st w k xs cls fr a o vs res ho hc hW hF hx hr
 simp only[gU] at hc
 split at hc<;>first|(cases hc;done)|skip
 rename_i ti l dV hl
 split at hc<;>first|(cases hc;done)|skip
 rename_i kt et hk
 split at hc<;>first|(cases hc;done)|skip
 rename_i tk te Qc fY
 obtain ⟨d,hd,cM⟩:=(hT.at dV).und
 rw[hk] at cM;rw[H6 cM] at hd
 obtain ⟨dk,N5,CS⟩:=(hT.at Qc).und
 have key: ∃pk z,te.zero=some z/\k= .lookup pk (gU.Ec te z) ok/\xs=l/\cls= .read/\pk.fits dk=true:=by
  split at hc<;>first|(cases hc;done)|skip
  all_goals
    rename_i z h1 h2
    cases hc
    refine ⟨_,z,h2,rfl,rfl,rfl,aa2 tk.k CS ?_⟩
  . exact .inr (.inl ⟨⟨_,h1⟩,rfl⟩)
  . exact .inr (.inr ⟨h1,rfl⟩)
  . exact .inl ⟨h1,rfl⟩
 obtain ⟨pk,z,hz,rfl,rfl,rfl,oO⟩:=key
 obtain ⟨m,kk,rfl,h1,h2⟩:=Nd hl hF hx
 obtain ⟨zv,xR,LI,_⟩:=tA hT fY hz (ρ:=ρ) (n:=st.next.toNat) (C:=C) w
 have Ug: ∀e,(Instr.checkKey e 10000 kt (a.eval ix)).run P w= .ok () w:=fun e=>Em N5 oO e 9999 _ w
 simp only[aE.run,vZ] at hr
 split at hr<;>first|(cases hr;done)|skip
 ·
  rename_i j v hm
  simp only[Option.some.injEq] at hr;subst hr
  split at hm<;>first|(cases hm;done)|skip
  . split at hm<;>first|(cases hm;done)|(simp at hm;done)
  . rename_i b
    split at hm<;>first|(cases hm;done)|skip
    rename_i es c hb
    obtain ⟨_,he⟩:=h1.yg
    obtain ⟨_,_,es',gq,hlen,oP⟩:=hW.live _ _ hb
    have hE:CV ρ st.next.toNat C es es'.toList:=⟨by simpa using hlen,fun i e e' h1 h2=>oP i e e' h1 (by simpa using h2)⟩
    obtain ⟨r',hf,mo⟩:=zm oO h2 hE hm
    rcases mo with ⟨e1,_⟩|⟨j',v',y,e1,e2,e3,_⟩
    .   cases e1
    .   cases e1;subst e2
        have cA:(execOp a.eval o).run P w= .ok (.value (if ok then .tuple #[y,.bool true] else y)) w:=by
          simp only[execOp,ho,Instr.lookup,Sem.run_bind,aQ hd,Result.andThen_ok,he,run_getObj_map gq,Ug,run_findKey N5 hf,Sem.run_pure]
        refine .pure cA ?_
        cases ok
        . exact e3
        . exact .mP (az.cons e3 (az.cons (.bool true) az.nil))
 ·
  rename_i hm
  simp only[Option.some.injEq] at hr;subst hr
  have cA:(execOp a.eval o).run P w= .ok (.value (if ok then .tuple #[zv,.bool false] else zv)) w:=by
    split at hm<;>first|(cases hm;done)|skip
    .   split at hm<;>first|(cases hm;done)|skip
        have he:=h1.yf
        have hf:(Instr.findKey kt (a.eval ix) []).run P w= .ok none w:=run_findKey N5 rfl w
        simp only[execOp,ho,Instr.lookup,Sem.run_bind,aQ hd,Result.andThen_ok,he,Ug,hf,xR,Sem.run_pure]
    .   rename_i b
        split at hm<;>first|(cases hm;done)|skip
        rename_i es c hb
        obtain ⟨_,he⟩:=h1.yg
        obtain ⟨_,_,es',gq,hlen,oP⟩:=hW.live _ _ hb
        have hE:CV ρ st.next.toNat C es es'.toList:=⟨by simpa using hlen,fun i e e' h1 h2=>oP i e e' h1 (by simpa using h2)⟩
        obtain ⟨r',hf,mo⟩:=zm oO h2 hE hm
        rcases mo with ⟨_,e2⟩|⟨j',v',y,e1,_⟩
        . subst e2
          simp only[execOp,ho,Instr.lookup,Sem.run_bind,aQ hd,Result.andThen_ok,he,run_getObj_map gq,Ug,run_findKey N5 hf,xR,Sem.run_pure]
        . cases e1
  refine .pure cA ?_
  cases ok
  . exact LI
  . exact .mP (az.cons LI (az.cons (.bool false) az.nil))
end
end Go.Ai
end
section
namespace Go.Ai
open Go Go.RowKit
section
variable {P : Program} {tt : TT}
theorem Bo: ∀(l:List Value) (off k:Nat) (cs:Array Value),off+k+l.length<=cs.size->
  ((l.zipIdx k).foldl (fun cs (c,j)=>cs.setIfInBounds (off+j) c) cs).toList=aV cs.toList (off+k) l
 |[],off,k,cs,_=>by simp[aV,List.take_append_drop]
 |v::l,off,k,cs,h=>by
  simp only[List.length_cons] at h
  simp only[List.zipIdx_cons,List.foldl_cons]
  rw[Bo l off (k+1) _ (by simp;omega)]
  simp only[aV,List.length_cons,Array.toList_setIfInBounds]
  rw[List.drop_set_of_lt (by omega)]
  have:off+(k+1)=(off+k)+1:=by omega
  rw[this,List.take_set,List.take_add_one]
  have bI:off+k<cs.toList.length:=by simp;omega
  rw[List.getElem?_eq_getElem bI]
  simp only[Option.toList_some,List.set_append,List.length_take]
  have hm:min (off+k) cs.toList.length=off+k:=Nat.min_eq_left (Nat.le_of_lt bI)
  rw[hm,if_neg (Nat.lt_irrefl _),Nat.sub_self]
  simp
  rw[show off+k+1+l.length=off+k+(l.length+1) from by omega]
theorem Ky {ρ:Pos->Loc} {n:Nat} {C:Cells} (pl:Nat->Option (Nat×Nat)): ∀{pp:List (Nat×Nat)} {vs cells r:List AV} {ps:List (Nat×Value)} {cs:Array Value},
  dY cells pp vs=some r->az ρ n C cells cs.toList->az ρ n C vs (ps.map (·.2))->ps.map (fun x=>pl x.1)=pp.map some->
  ∃ql,Instr.fill pl cs ps=some ql/\az ρ n C r ql.toList
 |[],vs,cells,r,ps,cs,h,hc,hv,hp=>by
  unfold dY at h
  split at h<;>first|(cases h;done)|skip
  . simp only[Option.some.injEq] at h;subst h
    have:ps=[]:=by simpa using hv.kQ
    subst this
    exact ⟨cs,rfl,hc⟩
  . rename_i hh;cases hh
 |(off  ,size)::pp,vs,cells,r,ps,cs,h,hc,hv,hp=>by
  unfold dY at h
  split at h<;>first|(cases h;done)|skip
  . rename_i hh;cases hh
  . rename_i off' size' pp' v vs' hh
    simp only[List.cons.injEq,Prod.mk.injEq] at hh
    obtain ⟨⟨rfl,rfl⟩,rfl⟩:=hh
    split at h<;>first|(cases h;done)|skip
    rename_i h1 h2
    have h1:=Nat.eq_of_beq_eq_true h1
    have h2:=Nat.le_of_ble_eq_true h2
    cases ps with
    |nil=>have:=hv.1;simp at this
    |   cons p ps=>
        obtain ⟨i,x⟩:=p
        simp only[List.map_cons,List.cons.injEq] at hp hv
        obtain ⟨oJ,hp2⟩:=hp
        obtain ⟨y,ys,uF,hx,o8⟩:=hv.cons_inv
        simp only[List.cons.injEq] at uF;obtain ⟨rfl,rfl⟩:=uF
        have hxc:=hx.cells
        have hlen:x.cells.size=size:=by rw[<-h1,hxc.1];simp
        have fh:off+size<=cs.size:=by have:=hc.1;simp at this;omega
        have ah5:(x.cells.zipIdx.foldl (fun cs (c,j)=>cs.setIfInBounds (off+j) c) cs).toList=aV cs.toList off x.cells.toList:=by
         rw[<-Array.foldl_toList,Array.toList_zipIdx]
         have:=Bo x.cells.toList off 0 cs (by simp;omega)
         simpa using this
        obtain ⟨ql,e1,e2⟩:=Ky pl h (cs:=x.cells.zipIdx.foldl (fun cs (c,j)=>cs.setIfInBounds (off+j) c) cs) (by rw[ah5];exact hc.aV hxc off) o8 hp2
        refine ⟨ql,?_,e2⟩
        simp only[Instr.fill,oJ]
        rw[if_neg (by simp[hlen];omega)]
        exact e1
theorem G1 (hT:dh P tt) {gs:Array Field} (w:World): ∀{fs:List (Nat×Nat×Bool)} (_hm:bU.eA fs gs.toList=true) {is:List Nat} {pp:List (Nat×Nat)}
  (_h:gU.places tt fs is=some pp) {H9:List (Nat×Nat)} (_hpl: ∀(i:Nat) (f:Field) (inf:TypeInfo),gs.toList[i]? =some f->P.info? f.type=some inf->H9[i]? =some (f.offset,inf.size)),
  is.map (fun i=>H9[i]?)=pp.map some
 |fs,hm,[],pp,h,H9,Ia=>by simp[gU.places] at h;subst h;rfl
 |fs,hm,i::is,pp,h,H9,Ia=>by
  unfold gU.places at h
  split at h<;>first|(cases h;done)|skip
  rename_i off t nm l h1 h2
  split at h<;>first|(cases h;done)|skip
  rename_i ti N6
  simp only[Option.some.injEq] at h;subst h
  obtain ⟨f,hf,e1,e2,_⟩:=Ff hm h1
  obtain ⟨inf,Qd,fh,_⟩:=(hT.at N6).info
  simp only at e1 e2
  have:=Ia i f inf hf (by rw[e2];exact Qd)
  simp only[List.map_cons,this,e1,fh]
  rw[G1 hT w hm h2 Ia]
theorem LJ (hT:dh P tt): ∀{fs:List (Nat×Nat×Bool)} {gs:List Field} (_hm:bU.eA fs gs=true) (_ha:gU.PB tt fs=true),
  ∃H9:List (Nat×Nat),gs.mapM (fun f=>(P.info? f.type).map fun i=>(f.offset,i.size))=some H9/\
   ∀(i:Nat) (f:Field) (inf:TypeInfo),gs[i]? =some f->P.info? f.type=some inf->H9[i]? =some (f.offset,inf.size)
 |[],gs,hm,ha=>by
  cases gs with
  |cons g gs=>simp[bU.eA] at hm
  |nil=>exact ⟨[],rfl,fun i f inf h=>by simp at h⟩
 |(off,t,nm)::fs,gs,hm,ha=>by
  cases gs with
  |nil=>simp[bU.eA] at hm
  |cons g gs=>
   simp[bU.eA] at hm
   unfold gU.PB at ha
   split at ha<;>first|(cases ha;done)|skip
   rename_i ti N6
   obtain ⟨inf,Qd,_⟩:=(hT.at N6).info
   obtain ⟨H9,h1,h2⟩:=LJ hT hm.2 ha
   rw[hm.1.1.2] at Qd
   refine ⟨(g.offset,inf.size)::H9,by simp[Qd,h1],fun i f inf' hi hf=> ?_⟩
   cases i with
   |zero=>simp at hi;subst hi;rw[Qd] at hf;cases hf;rfl
   |succ i=>simp at hi ⊢; exact h2 i f inf' hi hf
theorem WV (hT:dh P tt) (t:TypeId) (ps:Array (Nat×Operand)):dO P tt (.build t ps):=by
 intro ρ C st w k xs cls fr a o vs res ho hc hW hF hx hr
 simp only[gU] at hc
 split at hc<;>first|(cases hc;done)|skip
 rename_i ti l dV hl
 obtain ⟨d,hd,cM⟩:=(hT.at dV).und
 obtain ⟨it,hit,_,_,xQ⟩:=(hT.at dV).info
 have qJ: ∀(pp:List (Nat×Nat)) (z:List AV) (pl:Nat->Option (Nat×Nat)),ti.zero=some z->k= .build z pp->xs=l->ps.toList.map (fun x=>pl x.1)=pp.map some->
    (∀(v:Value) (parts:List (Nat×Value)) (cells:Array Value),it.zero=some v->Instr.fill pl v.cells parts=some cells->P.built t parts=some cells)->
    ux P ρ C st w ((execOp a.eval o).run P w) res:=by
   rintro pp z pl hz rfl rfl Qe afK
   have hv:=fk hl hF hx
   obtain ⟨v,wj,hs,_⟩:=xQ z hz
   simp only[aE.run,E1] at hr
   split at hr<;>first|(cases hr;done)|skip
   rename_i cs Jd
   simp only[Option.some.injEq] at hr;subst hr
   have LI:az ρ st.next.toNat C z v.cells.toList:=rL hs
   have Uh:(ps.map fun (i,x)=>(i,a.eval x)).toList=ps.toList.map fun x=>(x.1,a.eval x.2):=by simp
   obtain ⟨ql,e1,e2⟩:=Ky pl Jd LI (ps:=ps.toList.map fun x=>(x.1,a.eval x.2)) (by simpa [List.map_map,Function.comp_def] using hv) (by simpa [List.map_map,Function.comp_def] using Qe)
   refine .pure (x:= .agg ql) ?_ (.wM e2)
   have cA:=run_build w t (ps.map fun (i,x)=>(i,a.eval x)) ql (afK v _ _ wj (by rw[Uh];exact e1))
   simp only[execOp,ho,Sem.run_bind]
   rw[cA];rfl
 split at hc<;>first|(cases hc;done)|skip
 . rename_i fs z hk hz
   rw[hk] at cM
   obtain ⟨gs,rfl,hm⟩:=CP cM
   split at hc<;>first|(cases hc;done)|skip
   rename_i pp Ia oP
   cases hc
   obtain ⟨H9,h1,h2⟩:=LJ hT hm oP
   have Qe:=G1 hT w hm Ia h2
   refine qJ pp z (fun i=>H9.toArray[i]?) hz rfl rfl (by simpa [List.map_map,Function.comp_def] using Qe) fun v parts cells hv hf=> ?_
   unfold Program.built
   rw[hit,hd]
   simp only[hv,h1]
   exact hf
 . rename_i e z hk hz
   rw[hk] at cM
   rw[P0 cM] at hd
   split at hc<;>first|(cases hc;done)|skip
   rename_i te fY
   cases hc
   obtain ⟨ie,WW,fh,_⟩:=(hT.at fY).info
   refine qJ _ z (fun i=>some (i*te.size,te.size)) hz rfl rfl (by simp[List.map_map,Function.comp_def]) fun v parts cells hv hf=> ?_
   unfold Program.built
   rw[hit,hd]
   simp only[hv,WW,fh]
   exact hf
end
end Go.Ai
end
