/- Its operations answer as the model does. -/
import Derived.Test.YtgihekklfnjkiaaGreatDoorGEvalA
import Derived.Laws.StructEq
import Derived.Lib.Builder
import Derived.Laws.BytesString
set_option linter.all false
set_option linter.unusedSectionVars false
set_option linter.deprecated false
namespace Go.Ai
section
def bZ:TK->TypeDesc->Bool
 | .bool,.bool=>true
 | .int k,.int k'=>KJ k k'
 | .string,.string=>true
 | .ptr e,.pointer e'=>Nat.beq e e'
 | .slice e,.slice e'=>Nat.beq e e'
 | .array n e,.array n' e'=>Nat.beq n n'&&Nat.beq e e'
 | .map k e,.map k' e'=>Nat.beq k k'&&Nat.beq e e'
 | .struct fs,.struct fs'=>fe fs fs'.toList
 | .func,.func _ _ _=>true
 | .iface,.interface _=>true
 | .upt,.unsafePointer=>true
 | .other,.interface _=>false
 | .other,.int _=>false
 | .other,.array _ _=>false
 | .other,.struct _=>false
 | .other,_=>true
 |_,_=>false
where
 fe:List (Nat×Nat×Bool)->List Field->Bool
  |[],[]=>true
  |(off,t,named)::l,f::l'=>Nat.beq off f.offset&&Nat.beq t f.type&&(named==(f.name != "_"))&&fe l l'
  |_,_=>false
structure akr(P:Program)(t:TypeId)(ti:TI):Prop where
 und:∃d,P.underlying t=some d/\bZ ti.k d=true
 info:∃i,P.info? t=some i/\i.size=ti.size/\i.bytes=ti.bytes/\
  ∀z,ti.zero=some z->∃v,i.zero=some v/\sM v.cells.toList=some z/\z.length=ti.size/\(ti.k.isAgg=true->∃cs,v= .agg cs)/\(ti.k.isAgg=false->v.cells= #[v])
 elem:∀e,ti.k= .ptr e->∃j,P.info? e=some j
 eqs:ti.Bc=true->P.stoodInHeld t=false/\P.eqGuardType P.depth t=false
def dy(P:Program)(tt:TT):Prop:=∀p ti,tt.get p=some ti->akr P (p.toNat - 1) ti
theorem dy.at{P:Program}{tt:TT}(h:dy P tt){t:Nat}{ti:TI}(ht:tt.get (key t)=some ti):akr P t ti:=by
 have:=h _ _ ht
 rwa [iQ,Zh4]at this
section
variable{P : Program}{tt : TT}{ρ : Pos -> Loc}{n : Nat}{C : Cells}
theorem bt{t:TypeId}{d:TypeDesc}(h:P.underlying t=some d)(w:World):(underlying t).run P w= .ok d w:=run_underlying h w
theorem agp{t:TypeId}{i:TypeInfo}(h:P.info? t=some i)(w:World):(typeInfo t).run P w= .ok i w:=by simp[typeInfo,h]
theorem mJ{t:TypeId}{i:TypeInfo}(h:P.info? t=some i)(w:World):(sizeOf t).run P w= .ok i.size w:=by simp[sizeOf,typeInfo,h]
theorem aoI{t:TypeId}{i:TypeInfo}{v:Value}(h:P.info? t=some i)(hz:i.zero=some v)(w:World):(zeroValue t).run P w= .ok v w:=by simp[zeroValue,typeInfo,h,hz]
theorem aaw{k:TK}{d:TypeDesc}(h:bZ k d=true)(w:World){t:TypeId}(ht:P.underlying t=some d):(isAgg t).run P w= .ok k.isAgg w:=by
 cases k<;>cases d<;>first|(simp[bZ]at h;done)|simp[isAgg,bt ht,TK.isAgg]
theorem tO{e:Nat}{d:TypeDesc}(h:bZ (.slice e) d=true):d= .slice e:=by
 cases d<;>simp[bZ]at h;rw[h]
theorem atn{e:Nat}{d:TypeDesc}(h:bZ (.ptr e) d=true):d= .pointer e:=by
 cases d<;>simp[bZ]at h;rw[h]
theorem agq{m e:Nat}{d:TypeDesc}(h:bZ (.array m e) d=true):d= .array m e:=by
 cases d<;>simp[bZ]at h;rw[h.1,h.2]
theorem Vi{k e:Nat}{d:TypeDesc}(h:bZ (.map k e) d=true):d= .map k e:=by
 cases d<;>simp[bZ]at h;rw[h.1,h.2]
theorem ade{d:TypeDesc}(h:bZ .bool d=true):d= .bool:=by cases d<;>simp[bZ]at h;rfl
theorem BU{a b:IntKind}(h:KJ a b=true):a=b:=by
 unfold KJ at h;split at h
 . assumption
 . cases h
theorem Vj{k:IntKind}{d:TypeDesc}(h:bZ (.int k) d=true):d= .int k:=by
 cases d<;>simp[bZ]at h;rw[BU h]
theorem u0{d:TypeDesc}(h:bZ .string d=true):d= .string:=by cases d<;>simp[bZ]at h;rfl
theorem MK{fs:List (Nat×Nat×Bool)}{d:TypeDesc}(h:bZ (.struct fs) d=true):∃gs,d= .struct gs/\bZ.fe fs gs.toList=true:=by
 cases d<;>simp[bZ]at h;exact⟨_,rfl,h⟩
theorem arH{d:TypeDesc}(h:bZ .func d=true):∃a b c,d= .func a b c:=by
 cases d<;>simp[bZ]at h;exact⟨_,_,_,rfl⟩
theorem aoJ{d:TypeDesc}(h:bZ .iface d=true):∃a,d= .interface a:=by
 cases d<;>simp[bZ]at h;exact⟨_,rfl⟩
theorem qI{α:Type}:∀(l:List α)(i:Nat),nth l i=l[i]?
 |[],_=>by simp[nth]
 |_::_,0=>rfl
 |_::l,i+1=>by simp[nth,qI l i]
theorem Q0:∀{fs:List (Nat×Nat×Bool)}{gs:List Field}{i:Nat}{x:Nat×Nat×Bool},bZ.fe fs gs=true->nth fs i=some x->
  ∃f,gs[i]? =some f/\f.offset=x.1/\f.type=x.2.1/\(f.name != "_")=x.2.2
 |[],_,i,_,_,h=>by simp[nth]at h
 |(off,t,named)::l,[],i,_,h,_=>by simp[bZ.fe]at h
 |(off,t,named)::l,f::l',0,x,h,hx=>by
  simp[bZ.fe]at h;simp[nth]at hx;subst hx;exact⟨f,rfl,h.1.1.1.symm,h.1.1.2.symm,h.1.2.symm⟩
 |(off,t,named)::l,f::l',i+1,x,h,hx=>by
  simp[bZ.fe]at h;simp[nth]at hx;obtain⟨f',h1,h2⟩:=Q0 h.2 hx;exact⟨f',by simpa using h1,h2⟩
theorem KP{v:Value}{a:AV}(h:QU v=some a):aC ρ n C a v:=by
 unfold QU at h
 split at h<;>first
   |(cases h;done)
   |(simp only[H5]at h;subst h)
 . exact .bool _
 . exact .int _ _
 . exact .str _ _ rfl
 . exact .jg
 . exact .af
 . exact .qG
 . exact .func _ _ _ _ _ rfl rfl (λ_ _ _ h=>by simp at h) (λ_ _ _ h=>by simp at h)
 . exact .jO
 . exact .Bo
theorem wC:∀{l:List Value}{as:List AV},sM l=some as->aK ρ n C as l
 |[],as,h=>by simp[sM]at h;subst h;exact aK.nil
 |v ::l,as,h=>by
  unfold sM at h;split at h
  . rename_i a as' h1 h2;simp only[H5]at h;subst h;exact aK.cons (KP h1) (wC h2)
  . cases h
theorem aiT{v:Value}{a:AV}(h:ac9 v=some a):aC ρ n C a v:=by
 unfold ac9 at h;split at h
 . split at h
   . rename_i l hl;simp only[H5]at h;subst h;exact .OP (wC hl)
   . cases h
 . exact KP h
theorem Bs{x:Operand}{o:ic}{fr:Fr}{a:Act}{v:AV}(h:uv x=some o)(hF:kV ρ n C fr a.tmps)(hv:Gn fr o=some v):aC ρ n C v (a.eval x):=by
 unfold uv at h;split at h
 . rename_i t;simp only[H5]at h;subst h;obtain⟨y,hy,hr⟩:=hF _ _ hv;rw[iQ,Zh4]at hy;simp only[Act.eval,Zm4,hy,Zf1];exact hr
 . split at h
   . rename_i c hc;simp only[H5]at h;subst h;simp only[Gn,H5]at hv;subst hv;exact aiT hc
   . cases h
 . rename_i f;simp only[H5]at h;subst h;simp only[Gn,H5]at hv;subst hv;exact .func _ _ _ _ _ rfl rfl (λ_ _ _ h=>by simp at h) (λ_ _ _ h=>by simp at h)
 . cases h
theorem iR:∀{xs:List Operand}{os:List ic}{fr:Fr}{a:Act}{vs:List AV},mI xs=some os->kV ρ n C fr a.tmps->fS fr os=some vs->aK ρ n C vs (xs.map a.eval)
 |[],os,fr,a,vs,h,_,hv=>by simp[mI]at h;subst h;simp[fS]at hv;subst hv;exact aK.nil
 |x ::xs,os,fr,a,vs,h,hF,hv=>by
  unfold mI at h;split at h
  . rename_i o os' h1 h2;simp only[H5]at h;subst h;unfold fS at hv;split at hv
    .   rename_i v hv1;split at hv
        . rename_i vs' OR;simp only[H5]at hv;subst hv;exact aK.cons (Bs h1 hF hv1) (iR h2 hF OR)
        . cases hv
    .   cases hv
  . cases h
theorem lO{x:Operand}{o:ic}{fr:Fr}{a:Act}{vs:List AV}(h:uv x=some o)(hF:kV ρ n C fr a.tmps)(hv:fS fr [o]=some vs):
   ∃v,vs=[v]/\aC ρ n C v (a.eval x):=by
 unfold fS at hv;split at hv
 . rename_i v hv1;simp only[fS,H5]at hv;subst hv;exact⟨v,rfl,Bs h hF hv1⟩
 . cases hv
end
def Yields(N:Next)(x:Value):Prop:=N= .value x\/(N= .skip/\x=undef)
def Ge(P:Program)(ρ:Pos->Loc)(C:Cells)(st:St)(w:World)(r:Result Next):eG->Prop
 | .val v=>∃N x,r= .ok N w/\Yields N x/\aC ρ st.next.toNat C v x
 | .bk v del set new=>∃N x w' ρ',r= .ok N w'/\Yields N x/\(∀b:Pos,b.toNat<st.next.toNat->ρ' b=ρ b)/\cq ρ' C (st.bk del set new) w'/\
  aC ρ' (st.bk del set new).next.toNat C v x/\qm ρ st w ρ' (st.bk del set new) w'
 | .call f args=>∃cM:List Value,r=(callFunc f cM.toArray).run P w/\aK ρ st.next.toNat C args cM
end
section
open Go Go.RowKit
theorem ux(b o i:Nat):(⟨b,o,none⟩:Addr).add i=⟨b,o+i,none⟩:=by
 unfold Addr.add;split
 . rename_i h;subst h;rfl
 . rfl
section
variable{P : Program}{ρ ρ' : Pos -> Loc}{C : Cells}{st : St}{w w' : World}
theorem cq.aks(hW:cq ρ C st w){akt:T AB}{next' b0:Pos}{x0:AB}
  (hn:st.next.toNat<=next'.toNat) (yj:b0.toNat<next'.toNat) (auj:akt.get b0=some x0)
  (Q3:∀b x,b≠b0->akt.get b=some x->st.heap.get b=some x/\(ρ b).aM≠(ρ' b0).aM)
  (bE:∀b:Pos,b.toNat<st.next.toNat->ρ' b=ρ b)
  (hB:tM ρ' next'.toNat C (ρ' b0) w' x0)
  (sO:∀a v,C a=some v->a.block≠(ρ' b0).aM)
  (aS:(ρ' b0).aM<w'.heap.size) (aku:w.heap.size<=w'.heap.size)
  (Vk:∀k,k<w.heap.size->k≠(ρ' b0).aM->w'.heap[k]? =w.heap[k]?):
  cq ρ' C ⟨akt,next'⟩ w' where
 live b x hb:=by
  by_cases h:b=b0
  .  subst h;rw[auj]at hb;cases hb;exact⟨yj,aS,hB⟩
  .  obtain⟨h1,h2⟩:=Q3 b x h hb;obtain⟨h3,h4,h5⟩:=hW.live b x h1;rw[bE b h3];exact⟨Zc8 h3 hn,Zc8 h4 aku,(h5.mono bE hn).of_heap (Vk _ h4 h2)⟩
 inj b  b' x x' hb eN he:=by
  by_cases h:b=b0
  .  subst h;by_cases h':b'=b
     .  exact h'.symm
     .  obtain⟨h1,h2⟩:=Q3 b' x' h' eN;rw[bE b' (hW.live b' x' h1).1]at he;exact absurd he.symm h2
  .  obtain⟨h1,h2⟩:=Q3 b x h hb;rw[bE b (hW.live b x h1).1]at he;by_cases h':b'=b0
     .  subst h';exact absurd he h2
     .  obtain⟨h1',h2'⟩:=Q3 b' x' h' eN;rw[bE b' (hW.live b' x' h1').1]at he;exact hW.inj b b' x x' h1 h1' he
 ei a v ha:=by
  obtain⟨h1,h2⟩:=hW.ei a v ha;have aoK:a.block<w.heap.size:=World.block_lt_of_cell? _ _ h1;refine⟨?_,λb x hb=> ?_⟩
  .  rw[World.cell?_of_block (w:=w) (Vk _ aoK (sO a v ha))];exact h1
  .  by_cases h:b=b0
     .  subst h;exact λe=>sO a v ha e.symm
     .  obtain⟨h3,_⟩:=Q3 b x h hb;rw[bE b (hW.live b x h3).1];exact h2 b x h3
 whole a v ha o ho:=by have u6:a.block<w.heap.size:=World.block_lt_of_cell? _ _ (hW.ei a v ha).1;rw[World.cell?_of_block (w:=w) (a:=⟨a.block,o,none⟩) (Vk _ u6 (sO a v ha))];exact hW.whole a v ha o ho
theorem cq.cell(hW:cq ρ C st w){b:Pos}{cs:List AV}{fz:Nat}(hb:st.heap.get b=some (.cells cs fz)){i:Nat}{v:AV}(hv:cs[i]? =some v):
  ∃x,w.cell? ⟨(ρ b).aM,(ρ b).base+i,none⟩=some x/\aC ρ st.next.toNat C v x:=by
 obtain⟨_,_,c,e,fr,h1,h2,h3,h4,_⟩:=hW.live b _ hb;obtain⟨x,hx,hr⟩:=h4.get hv;have hi:i<cs.length:=(Za2.1 hv).1;rw[Ze1,Zb3 hi,Ze7]at hx;exact⟨x,by simp[World.cell?,h1, <-hx],hr⟩
theorem abz{α:Type}{l l':List α}{i n:Nat}(h:cut l i n=some l'):l'=(l.drop i).take n/\i+n<=l.length:=by
 unfold cut at h;split at h
 . rename_i hb;cases h;exact⟨rfl,Zb4 hb⟩
 . cases h
theorem Q4{α:Type}{l l':List α}{i n:Nat}(h:cut l i n=some l'):l'.length=n:=by obtain⟨rfl,h2⟩:=abz h;simp;omega
theorem cq.loadCells(hW:cq ρ C st w){b:Pos}{cs vs:List AV}{fz off n:Nat}(hb:st.heap.get b=some (.cells cs fz))(hc:cut cs off n=some vs):
  ∃ys:List Value,(Go.loadCells ⟨(ρ b).aM,(ρ b).base+off,none⟩ n).run P w= .ok ys.toArray w/\aK ρ st.next.toNat C vs ys:=by
 obtain⟨_,_,c,e,fr,h1,h2,h3,h4,_⟩:=hW.live b _ hb;obtain⟨CA,hle⟩:=abz hc;have hr:=(h4.drop off).take n;rw[<-CA]at hr;refine⟨_,?_,hr⟩;have hlen:(List.take n (List.drop off (List.take cs.length (List.drop (ρ b).base c.toList)))).length=n:=by rw[<-hr.1];exact Q4 hc
 conv=>lhs;rw[<-hlen]
 refine run_loadCells_list w _ _ λj v hj=> ?_
 have KQ:j<n:=by rw[<-hlen];exact(Za2.1 hj).1
 rw[Ze1,Zb3 KQ,Ze7,Ze1,Zb3 (by omega),Ze7]at hj;rw[ux];simp[World.cell?,h1, <-hj,Zj1]
theorem wZ(g e:Nat)(fr:Nat×Nat):∀(vs:List Value)(i o:Nat)(cur:Array Value)(w:World),w.heap[g]? =some (.cells cur e fr)->o+i+vs.length<=cur.size->
  (∀v∈vs,v.oneCell'=true)->(∀k,o+i<=k->k<cur.size->¬(fr.1<=k/\k<fr.2))->
  ∃ w',(storeCells ⟨g,o,none⟩ vs i).run P w= .ok () w'/\w'.heap[g]? =some (.cells (aX cur.toList (o+i) vs).toArray e fr)/\
    w'.heap.size=w.heap.size/\(∀k,k≠g->w'.heap[k]? =w.heap[k]?)/\w'.os=w.os/\w'.tape=w.tape/\w'.output=w.output
 |[],i,o,cur,w,hg,_,_,_=>⟨w,by simp[storeCells],by rw[hg];simp[aX,Zm2],rfl,λ_ _=>rfl,rfl,rfl,rfl⟩
 |v ::vs,i,o,cur,w,hg,hle,h1,hf=>by
  simp only[Zc6]at hle;have hv:v.oneCell'=true:=h1 v (by simp);have CB:w.cell? ⟨g,o+i,none⟩=some (cur[o+i]'(by omega)):=by simp[World.cell?,hg]
  have hfz:w.frozen? ⟨g,o+i,none⟩=false:=by have:=hf (o+i) (Za3 _) (by omega);simp only[World.frozen?,hg];simpa using this
  have CC:(w.setCell ⟨g,o+i,none⟩ v).heap[g]? =some (.cells (cur.setIfInBounds (o+i) v) e fr):=by
    simp[World.setCell,Zl0,hg]
  obtain⟨w',h2,h3,h4,h5,h6,h7,h8⟩:=wZ g e fr vs (i+1) o _ _ CC (by simp;omega) (λv hv=>h1 v (by simp[hv])) (by intro k hk uf;simp at uf;exact hf k (by omega) uf);refine⟨w',?_,?_,by simp[h4],λk hk=> ?_,h6,h7,h8⟩
  . simp only[storeCells,Sem.run_bind,ux,run_store P w _ _ _ hv,CB,hfz];simpa using h2
  . rw[h3];congr 2;simp only[aX,Zc6,Zp5];rw[List.drop_set_of_lt (by omega)];have:o+(i+1)=(o+i)+1:=(by omega);rw[this,List.take_set,List.take_add_one];have aS:o+i<cur.toList.length:=(by simp;omega);rw[H0 aS];simp only[Option.toList_some,List.set_append,Zi4];have hm:min (o+i) cur.toList.length=o+i:=Zl3 (Zn6 aS);rw[hm,Za7 (Zo7 _),Zk8];simp;rw[show o+i+1+vs.length=o+i+(vs.length+1)from by omega]
  . rw[h5 k hk,Below.heap_setCell _ _ _ _ (by simpa using hk)]
end
section
variable{P : Program}{tt : TT}{ρ : Pos -> Loc}{C : Cells}{st : St}{w : World}{n : Nat}
theorem Yields.value(x:Value):Yields (.value x) x:= .inl rfl
theorem Ge.pure{v:AV}{x:Value}{r:Result Next}(h:r= .ok (.value x) w)(hv:aC ρ st.next.toNat C v x):Ge P ρ C st w r (.val v):=
 ⟨_,x,h,Yields.value x,hv⟩
theorem aC.iM{k:IntKind}{i:Int}{x:Value}(h:aC ρ n C (.int k i) x):x= .int k i:=by cases h;rfl
theorem aC.kW{b:Bool}{x:Value}(h:aC ρ n C (.bool b) x):x= .bool b:=by cases h;rfl
theorem aC.fu{s:List Nat}{x:Value}(h:aC ρ n C (.str s) x):∃bs:ByteArray,x= .string bs/\bs.data.toList.map UInt8.toNat=s:=by
 cases h with|str _ bs h=>exact⟨bs,rfl,h⟩
theorem aC.Fw{x:Value}(h:aC ρ n C .jg x):x= .pointer none:=by cases h;rfl
theorem aC.jv{x:Value}(h:aC ρ n C .af x):x= .slice none 0 0:=by cases h;rfl
theorem aC.Fx{x:Value}(h:aC ρ n C .qG x):x= .map none:=by cases h;rfl
theorem aC.Q5{x:Value}(h:aC ρ n C .jO x):x= .nilFunc:=by cases h;rfl
theorem aC.agr{x:Value}(h:aC ρ n C .Bo x):x= .nilIface:=by cases h;rfl
theorem aC.qz{b:Pos}{off:Nat}{x:Value}(h:aC ρ n C (.ptr b off) x):b.toNat<n/\x= .pointer (some ⟨(ρ b).aM,(ρ b).base+off,none⟩):=by
 cases h with|ptr _ _ h=>exact⟨h,rfl⟩
theorem aC.BV{b:Pos}{x:Value}(h:aC ρ n C (.map b) x):b.toNat<n/\x= .map (some (ρ b).aM):=by
 cases h with|map _ h=>exact⟨h,rfl⟩
theorem aC.aeh{t:TypeId}{v:AV}{x:Value}(h:aC ρ n C (.iface t v) x):∃y,x= .iface t y/\aC ρ n C v y:=by
 cases h with|iface _ _ y h=>exact⟨y,rfl,h⟩
theorem aC.gL{b:Pos}{off len es:Nat}{cap:Option Nat}{x:Value}(h:aC ρ n C (.slice b off len cap es) x):
  ∃(a:Addr) (bu:Nat),x= .slice (some a) len bu/\len<=bu/\(∀c,cap=some c->c=bu)/\
   (bu≠0->b.toNat<n/\a=⟨(ρ b).aM,(ρ b).base+off,none⟩/\(ρ b).base+off+bu*es<=(ρ b).size):=by
 cases h with|slice _ _ _ _ _ bu a hl hc ha _=>exact⟨a,bu,rfl,hl,hc,ha⟩
theorem aC.aei{b:Pos}{off len es:Nat}{cap:Option Nat}{x:Value}(h:aC ρ n C (.slice b off len cap es) x):cap=none->b.toNat<n:=by
 cases h with|slice _ _ _ _ _ _ _ _ _ _ hk=>exact hk
theorem aC.yl{xs:List (List AV)}{es:Nat}{x:Value}(h:aC ρ n C (.fl xs es) x):
  ∃(a:Addr) (bu:Nat) (cell:Nat->Nat->Value),x= .slice (some a) xs.length bu/\xs.length<=bu/\(xs≠[]->a.spot=none)/\
   (∀(i:Nat)(cs:List AV),xs[i]? =some cs->cs.length=es)/\
   (∀(i j:Nat)(cs:List AV)(v:AV),xs[i]? =some cs->cs[j]? =some v->C ⟨a.block,a.off+i*es+j,none⟩=some (cell i j))/\
   (∀(i j:Nat)(cs:List AV)(v:AV),xs[i]? =some cs->cs[j]? =some v->aC ρ n C v (cell i j)):=by
 cases h with|fl _ _ bu a cell hl hs dV hc hv=>exact⟨a,bu,cell,rfl,hl,hs,dV,hc,hv⟩
theorem aC.OS{xs:List (List AV)}{i j:Nat}{x:Value}(h:aC ρ n C (.fp xs i j) x):
  ∃(es aM base:Nat) (cell:Nat->Nat->Value),x= .pointer (some ⟨aM,base+i*es+j,none⟩)/\
   (∀(i:Nat)(cs:List AV),xs[i]? =some cs->cs.length=es)/\
   (∀(i j:Nat)(cs:List AV)(v:AV),xs[i]? =some cs->cs[j]? =some v->C ⟨aM,base+i*es+j,none⟩=some (cell i j))/\
   (∀(i j:Nat)(cs:List AV)(v:AV),xs[i]? =some cs->cs[j]? =some v->aC ρ n C v (cell i j)):=by
 cases h with|fp _ _ _ es aM base cell hl hc hv=>exact⟨es,aM,base,cell,rfl,hl,hc,hv⟩
theorem ym(k:IntKind)(i:Int):av k i=k.wrap i:=by
 unfold av;split
 . rename_i h1 _;split
   . rename_i h2 _;cases k<;>simp only[loI,hiI]at h1 h2<;>simp only[IntKind.wrap,IntKind.bits,IntKind.signed]<;>simp<;>omega
   . rfl
 . rfl
theorem mK(a b:Int):Ba a b=(a==b):=by
 unfold Ba;split
 . rename_i h _;subst h;simp
 . rename_i h _;simp[h]
theorem fc(a b:Int):Bb a b=decide (a<b):=by
 unfold Bb;split<;>(rename_i h _;simp[h])
theorem kX(a b:Int):afW a b=decide (a<=b):=by
 unfold afW;split<;>(rename_i h _;simp[h])
theorem mL:∀{a b:List Nat},ku a b=true↔a=b
 |[],[]=>by simp[ku]
 |[],_::_=>by simp[ku]
 |_::_,[]=>by simp[ku]
 |a::x,b::y=>by
  unfold ku;split
  . rename_i h;have:=Za6 h;subst this;simp[mL (a:=x) (b:=y)]
  . rename_i h;have:=Zf0 h;simp[this]
theorem OT:∀{a b:List UInt8},a.map UInt8.toNat=b.map UInt8.toNat->a=b
 |[],[],_=>rfl
 |[],_::_,h=>by simp at h
 |_::_,[],h=>by simp at h
 |a::x,b::y,h=>by
  simp at h;rw[Zr3.1 h.1,OT h.2]
theorem toList_data(b:ByteArray):b.toList=b.data.toList:=ByteArray.toList_eq b
theorem wQ:∀(x y:List UInt8),aN (x.map UInt8.toNat) (y.map UInt8.toNat)=Op.bytesLess x y
 |[],[]=>by simp[aN,Op.bytesLess]
 |_::_,[]=>by simp[aN,Op.bytesLess]
 |[],_::_=>by simp[aN,Op.bytesLess]
 |a ::x,b::y=>by
  simp only[Zd5,aN,Op.bytesLess];split
  . rename_i h;have:a<b:=(by rw[Zo3];simpa using h);simp[this]
  . (rename_i h;have h1:¬a<b:=by rw[Zo3];intro h';have h2:Nat.blt a.toNat b.toNat=true:=(by simpa using h');rw[h2]at h;cases h);split
    .   rename_i h2;have:a=b:=Zr3.1 (Za6 h2);subst this;simp only[h1,decide_false,Bool.false_or,beq_self_eq_true,Zg6];exact wQ x y
    .   (rename_i h2;have:a≠b:=λe=>Zf0 h2 (by rw[e]));simp[h1,this]
theorem OU{a b:List Nat}{x y:ByteArray}(hx:x.data.toList.map UInt8.toNat=a)(hy:y.data.toList.map UInt8.toNat=b):(x.toList==y.toList)=ku a b:=by
 rw[toList_data,toList_data,Zn3,mL,beq_iff_eq, <-hx, <-hy];exact⟨λh=>by rw[h],λh=>OT h⟩
theorem aax{a b:List Nat}{x y:ByteArray}(hx:x.data.toList.map UInt8.toNat=a)(hy:y.data.toList.map UInt8.toNat=b):Op.bytesLess x.toList y.toList=aN a b:=by
 rw[toList_data,toList_data, <-hx, <-hy,wQ]
theorem KR{a:List Nat}{x:ByteArray}(hx:x.data.toList.map UInt8.toNat=a):x.size=a.length:=by rw[<-hx,Za4,Zi7];rfl
def PK.fits:PK->TypeDesc->Bool
 | .b,.bool=>true
 | .i,.int _=>true
 | .s,.string=>true
 |_,_=>false
theorem ags{t:TypeId}{d:TypeDesc}(hd:P.underlying t=some d){pk:PK}(hk:pk.fits d=true){a b:AV}{x y:Value}{r:Bool}{m:Nat}
   (ha:aC ρ n C a x) (hb:aC ρ n C b y) (h:Bp pk a b=some r) (w:World):(Op.equalIn (m+1) t x y).run P w= .ok r w:=by
 unfold Bp at h;split at h
 . simp only[H5]at h;subst h;rw[ha.kW,hb.kW];cases d<;>simp[PK.fits]at hk;rw[run_equalIn_bool' w m t _ _ hd]
 . split at h
   . rename_i uf;have:=BU uf;subst this;simp only[H5]at h;subst h;rw[ha.iM,hb.iM];cases d<;>simp[PK.fits]at hk;rw[run_equalIn_int w m t _ _ _ _ hd,mK]
   . cases h
 . simp only[H5]at h;subst h;obtain⟨bx,rfl,h1⟩:=ha.fu;obtain⟨bz,rfl,h2⟩:=hb.fu;cases d<;>simp[PK.fits]at hk;rw[run_equalIn_string w m t _ _ hd,OU h1 h2]
 . cases h
theorem Vl:∀{fs:List (Nat×Nat×Bool)}{l:List (Nat×PK)}{gs:List Field}{xs ys:List AV}{cx cy:Array Value}{r:Bool}{m:Nat}(_hT:dy P tt)
  (_hm:bZ.fe fs gs=true) (_hf:Cx.fields tt fs=some l) (_hx:aK ρ n C xs cx.toList) (_hy:aK ρ n C ys cy.toList) (_h:eqFields xs ys l=some r) (w:World),
  (Op.eqFields (m+1) cx cy gs).run P w= .ok r w
 |[],l,gs,xs,ys,cx,cy,r,m,hT,hm,hf,hx,hy,h,w=>by
  cases gs with
  |cons f gs=>simp[bZ.fe]at hm
  | nil=>
    simp[Cx.fields]at hf;subst hf;simp[eqFields]at h;subst h;simp[Op.eqFields]
 |(off  , t,named)::fs,l,gs,xs,ys,cx,cy,r,m,hT,hm,hf,hx,hy,h,w=>by
  cases gs with
  |nil=>simp[bZ.fe]at hm
  | cons f gs=>
    simp[bZ.fe]at hm;obtain⟨⟨⟨ho,ht⟩,hn⟩,hm'⟩:=hm;unfold Cx.fields at hf;(split at hf<;>first|(cases hf;done)|skip);rename_i ti l' fI hl';obtain⟨d,hd,dH⟩:=(hT.at fI).und;have key:∃pk,l=(off,pk)::l'/\pk.fits d=true/\(isAgg t).run P w= .ok false w:=by
        have xI:=aaw dH w hd;split at hf<;>first|(cases hf;done)|skip
        all_goals
          rename_i hk;simp only[H5]at hf;rw[hk]at dH xI;refine⟨_,hf.symm,?_,xI⟩
        . rw[ade dH];rfl
        . rw[Vj dH];rfl
        . rw[u0 dH];rfl
    obtain⟨pk,rfl,NT,xI⟩:=key;have dJ:f.name≠ "_" :=(by intro e;rw[e]at hn;simp at hn);unfold eqFields at h;(split at h<;>first|(cases h;done)|skip);rename_i a b ha hb;rw[qI]at ha hb;obtain⟨x,hx1,Zr⟩:=hx.get ha;obtain⟨y,Vm,hy2⟩:=hy.get hb;have px:(part f.type cx f.offset).run P w= .ok x w:=by
        rw[<-ht, <-ho];simp at hx1;simp[part,xI,hx1]
    have py:(part f.type cy f.offset).run P w= .ok y w:=by
        rw[<-ht, <-ho];simp at Vm;simp[part,xI,Vm]
    simp only[Op.eqFields,Sem.run_bind,Sem.run_ite,dJ,px,py,Result.andThen_ok,ne_eq,not_false_eq_true,Zh5];split at h
    .   rename_i he;rw[<-ht,ags hd NT Zr hy2 he w];simpa using Vl (m:=m) hT hm' hl' hx hy h w
    .   rename_i he;simp only[H5]at h;subst h;rw[<-ht,ags hd NT Zr hy2 he w];simp
    .   cases h
def aq3(tt:TT)(op:BinOp)(q:gP)(t:TypeId):Prop:=Cx tt t=some q\/(q= .num/\op≠ .eql/\op≠ .neq)
def auk(P:Program)(tt:TT)(t:TypeId):gP->Prop
 | .num=>True
 | .bool=>P.underlying t=some .bool
 | .ptr=>∃e,P.underlying t=some (.pointer e)/\∃j,P.info? e=some j
 | .slice=>∃e,P.underlying t=some (.slice e)
 | .map=>∃k e,P.underlying t=some (.map k e)
 | .func=>∃a b c,P.underlying t=some (.func a b c)
 | .iface=>∃a,P.underlying t=some (.interface a)
 | .struct l=>∃fs gs,P.underlying t=some (.struct gs)/\bZ.fe fs gs.toList=true/\Cx.fields tt fs=some l/\P.stoodInHeld t=false/\P.eqGuardType P.depth t=false
theorem ajy(hT:dy P tt){t:TypeId}{q:gP}(hq:Cx tt t=some q):auk P tt t q:=by
 unfold Cx at hq;split at hq<;>first|(cases hq;done)|skip
 rename_i ti fI;obtain⟨d,hd,dH⟩:=(hT.at fI).und;split at hq<;>first|(cases hq;done)|skip
 all_goals rename_i hk
 all_goals rw[hk]at dH
 . simp only[H5]at hq;subst hq;rw[ade dH]at hd;exact hd
 . simp only[H5]at hq;subst hq;trivial
 . simp only[H5]at hq;subst hq;trivial
 . simp only[H5]at hq;subst hq;rw[atn dH]at hd;exact⟨_,hd,(hT.at fI).elem _ hk⟩
 . simp only[H5]at hq;subst hq;rw[tO dH]at hd;exact⟨_,hd⟩
 . simp only[H5]at hq;subst hq;rw[Vi dH]at hd;exact⟨_,_,hd⟩
 . simp only[H5]at hq;subst hq;obtain⟨_,_,_,rfl⟩:=arH dH;exact⟨_,_,_,hd⟩
 . simp only[H5]at hq;subst hq;obtain⟨_,rfl⟩:=aoJ dH;exact⟨_,hd⟩
 . (split at hq<;>first|(cases hq;done)|skip);rename_i fs _ _ l hp hl;simp only[H5]at hq;subst hq;obtain⟨gs,rfl,hm⟩:=MK dH;exact⟨fs,gs,hd,hm,hl,(hT.at fI).eqs hp⟩
theorem akv(m:Nat)(hT:dy P tt){t:TypeId}{q:gP}(hq:Cx tt t=some q){a b:AV}{x y:Value}{r:Bool}(ha:aC ρ n C a x)(hb:aC ρ n C b y)(h:aas q a b=some r)(w:World):
   (Op.equalIn (m+1+1) t x y).run P w= .ok r w:=by
 have hi:=ajy hT hq;clear hq;unfold aas at h;split at h<;>first|(cases h;done)|skip
 . simp only[H5]at h;subst h;rw[ha.kW,hb.kW,run_equalIn_bool' w _ t _ _ hi]
 all_goals first
   |(simp only[H5]at h;subst h)
   |skip
 . obtain⟨e,hd,_⟩:=hi;rw[ha.Fw,hb.Fw];(unfold Op.equalIn;rw[Sem.run_bind,bt hd];rfl)
 . obtain⟨e,hd,_⟩:=hi;obtain⟨_,hb⟩:=hb.qz;rw[ha.Fw,hb];(unfold Op.equalIn;rw[Sem.run_bind,bt hd];rfl)
 . obtain⟨e,hd,_⟩:=hi;obtain⟨_,ha⟩:=ha.qz;rw[hb.Fw,ha];(unfold Op.equalIn;rw[Sem.run_bind,bt hd];rfl)
 . obtain⟨e,hd,_⟩:=hi;obtain⟨_,_,_,_,hb,_⟩:=hb.OS;rw[ha.Fw,hb];(unfold Op.equalIn;rw[Sem.run_bind,bt hd];rfl)
 . obtain⟨e,hd,_⟩:=hi;obtain⟨_,_,_,_,ha,_⟩:=ha.OS;rw[hb.Fw,ha];(unfold Op.equalIn;rw[Sem.run_bind,bt hd];rfl)
 . obtain⟨e,hd,j,hj⟩:=hi;(split at h<;>first|(cases h;done)|skip);rename_i e1 e2;have e1:=Pos.beq_eq.1 e1;have e2:=Za6 e2;subst e1;subst e2;simp only[H5]at h;subst h;obtain⟨_,ha⟩:=ha.qz;obtain⟨_,hb⟩:=hb.qz;rw[ha,hb];simp[Op.equalIn,bt hd,sizeOf,typeInfo,hj,run_sameAddr_same]
 . obtain⟨e,hd⟩:=hi;rw[ha.jv,hb.jv];(unfold Op.equalIn;rw[Sem.run_bind,bt hd];rfl)
 . obtain⟨e,hd⟩:=hi;obtain⟨_,_,hb,_⟩:=hb.gL;rw[ha.jv,hb];(unfold Op.equalIn;rw[Sem.run_bind,bt hd];rfl)
 . obtain⟨e,hd⟩:=hi;obtain⟨_,_,ha,_⟩:=ha.gL;rw[hb.jv,ha];(unfold Op.equalIn;rw[Sem.run_bind,bt hd];rfl)
 . obtain⟨e,hd⟩:=hi;obtain⟨_,_,_,hb,_⟩:=hb.yl;rw[ha.jv,hb];(unfold Op.equalIn;rw[Sem.run_bind,bt hd];rfl)
 . obtain⟨e,hd⟩:=hi;obtain⟨_,_,_,ha,_⟩:=ha.yl;rw[hb.jv,ha];(unfold Op.equalIn;rw[Sem.run_bind,bt hd];rfl)
 . obtain⟨k,e,hd⟩:=hi;rw[ha.Fx,hb.Fx];(unfold Op.equalIn;rw[Sem.run_bind,bt hd];rfl)
 . obtain⟨k,e,hd⟩:=hi;obtain⟨_,hb⟩:=hb.BV;rw[ha.Fx,hb];(unfold Op.equalIn;rw[Sem.run_bind,bt hd];rfl)
 . obtain⟨k,e,hd⟩:=hi;obtain⟨_,ha⟩:=ha.BV;rw[hb.Fx,ha];(unfold Op.equalIn;rw[Sem.run_bind,bt hd];rfl)
 . obtain⟨_,_,_,hd⟩:=hi;rw[ha.Q5,hb.Q5];(unfold Op.equalIn;rw[Sem.run_bind,bt hd];rfl)
 . obtain⟨_,_,_,hd⟩:=hi;obtain⟨_,_,hb,_⟩:=hb.QV;rw[ha.Q5,hb];(unfold Op.equalIn;rw[Sem.run_bind,bt hd];rfl)
 . obtain⟨_,_,_,hd⟩:=hi;obtain⟨_,_,ha,_⟩:=ha.QV;rw[hb.Q5,ha];(unfold Op.equalIn;rw[Sem.run_bind,bt hd];rfl)
 . obtain⟨_,hd⟩:=hi;obtain⟨_,hb,_⟩:=hb.aeh;rw[ha.agr,hb];(unfold Op.equalIn;rw[Sem.run_bind,bt hd];rfl)
 . obtain⟨_,hd⟩:=hi;obtain⟨_,ha,_⟩:=ha.aeh;rw[hb.agr,ha];(unfold Op.equalIn;rw[Sem.run_bind,bt hd];rfl)
 . obtain⟨fs,gs,hd,hm,hl,hp,_⟩:=hi;obtain⟨cx,rfl,hx⟩:=ha.Fu;obtain⟨cy,rfl,hy⟩:=hb.Fu;have hfo:P.fieldsOf t=gs:=(by simp[Program.fieldsOf,hd]);rw[run_equalIn_agg w (m+1) t cx cy (by rw[hfo,hd]) hp,hfo];exact Vl (m:=m) hT hm hl hx hy h w
theorem agt(hT:dy P tt){t:TypeId}{q:gP}(hq:Cx tt t=some q){a b:AV}{x y:Value}{r:Bool}(ha:aC ρ n C a x)(hb:aC ρ n C b y)(h:aas q a b=some r)(w:World):
 (Op.equal t x y).run P w= .ok r w:=akv 9998 hT hq ha hb h w
theorem abA(hT:dy P tt){t:TypeId}{q:gP}(hq:Cx tt t=some q){a b:AV}{x y:Value}{r:Bool}(ha:aC ρ n C a x)(hb:aC ρ n C b y)(h:aas q a b=some r)(op:BinOp)(ox oy:Operand)(w:World):
  (eqGuard op t ox oy x y).run P w= .ok () w:=by
 have hi:=ajy hT hq;clear hq;unfold aas at h;split at h<;>first|(cases h;done)|skip
 all_goals first
  |(obtain⟨fs,gs,hd,hm,hl,hp,hg⟩:=hi
    obtain⟨cx,rfl,hx⟩:=ha.Fu;obtain⟨cy,rfl,hy⟩:=hb.Fu;exact run_eqGuard_agg w op t ox oy cx cy hg)
  |(cases ha<;>cases hb<;>cases op<;>rfl)
end
section
variable{P : Program}{tt : TT}{ρ : Pos -> Loc}{C : Cells}{st : St}{w : World}{n : Nat}
theorem afk(op:BinOp)(t:TypeId)(k:IntKind)(i j:Int)(hs:op≠ .shl)(hr:op≠ .shr):(binOp op t (.int k i) (.int k j)).run P w=
  (match op with
   | .add| .sub| .mul=>Op.intArith op k i j
   | .quo| .rem=>Op.intDiv op k i j
   | .and| .or| .xor| .andNot=>Op.intBits op k i j
   |_=>Op.intCmp op i j).run P w:=by
 cases op<;>first|(exact absurd rfl hs)|(exact absurd rfl hr)|simp[binOp]
theorem aoL(hT:dy P tt){op:BinOp}{t:TypeId}{q:gP}(hq:aq3 tt op q t){a b v:AV}{x y:Value}(ha:aC ρ n C a x)(hb:aC ρ n C b y)(h:pz op q a b=some v)(ox oy:Operand):
  ∃z,(do eqGuard op t ox oy x y;binOp op t x y:Sem Value).run P w= .ok z w/\aC ρ n C v z:=by
 unfold pz at h;split at h
 ·
  rename_i k i k' j;rw[ha.iM,hb.iM];have hg:∀op,(eqGuard op t ox oy (.int k i) (.int k' j)).run P w= .ok () w:=by intro op;cases op<;>rfl
  rw[Sem.run_bind,hg,Result.andThen_ok];split at h
  . split at h
    .   cases h
    .   rename_i aS;rw[fc]at aS;have aS:=Zl9 aS;simp only[H5]at h;subst h;exact⟨_,by simp[binOp,Op.shift,aS,ym],.int _ _⟩
  . split at h
    .   cases h
    .   rename_i aS;rw[fc]at aS;have aS:=Zl9 aS;simp only[H5]at h;subst h;exact⟨_,by simp[binOp,Op.shift,aS],.int _ _⟩
  . rename_i hs hr;split at h
    .   cases h
    .   rename_i hk;have:=BU hk;subst this;rw[afk op t k i j (λe=>hs e) (λe=>hr e)];split at h
        . simp only[H5]at h;subst h;exact⟨_,by simp[Op.intArith,ym],.int _ _⟩
        . simp only[H5]at h;subst h;exact⟨_,by simp[Op.intArith,ym],.int _ _⟩
        . simp only[H5]at h;subst h;exact⟨_,by simp[Op.intArith,ym],.int _ _⟩
        . split at h
          . cases h
          . (rename_i h0;rw[mK]at h0;have h0':¬j=0:=by simpa using h0);simp only[H5]at h;subst h;exact⟨_,by simp[Op.intDiv,h0',ym],.int _ _⟩
        . split at h
          . cases h
          . (rename_i h0;rw[mK]at h0;have h0':¬j=0:=by simpa using h0);simp only[H5]at h;subst h;exact⟨_,by simp[Op.intDiv,h0'],.int _ _⟩
        . simp only[H5]at h;subst h;exact⟨_,by simp[Op.intBits],.int _ _⟩
        . simp only[H5]at h;subst h;exact⟨_,by simp[Op.intBits],.int _ _⟩
        . simp only[H5]at h;subst h;exact⟨_,by simp[Op.intBits],.int _ _⟩
        . simp only[H5]at h;subst h;exact⟨_,by simp[Op.intBits],.int _ _⟩
        . simp only[H5]at h;subst h;exact⟨_,by simp[Op.intCmp,mK],.bool _⟩
        . simp only[H5]at h;subst h;refine⟨_,rfl,?_⟩;rw[mK];exact .bool _
        . simp only[H5]at h;subst h;refine⟨_,rfl,?_⟩;rw[fc];exact .bool _
        . simp only[H5]at h;subst h;refine⟨_,rfl,?_⟩;rw[kX];exact .bool _
        . simp only[H5]at h;subst h;refine⟨_,rfl,?_⟩;rw[fc];exact .bool _
        . simp only[H5]at h;subst h;refine⟨_,rfl,?_⟩;rw[kX];exact .bool _
        . cases h
 ·
  rename_i s u;obtain⟨bx,rfl,h1⟩:=ha.fu;obtain⟨bz,rfl,h2⟩:=hb.fu;have hg:∀op,(eqGuard op t ox oy (.string bx) (.string bz)).run P w= .ok () w:=by intro op;cases op<;>rfl
  rw[Sem.run_bind,hg,Result.andThen_ok];have hs:(binOp op t (.string bx) (.string bz)).run P w=(Op.stringOp op bx bz).run P w:=by cases op<;>rfl
  rw[hs];have e1:=OU h1 h2;have e2:=aax h1 h2;split at h
  . split at h
    .   rename_i hb;have hb:=Zb4 hb;simp only[H5]at h;subst h;have nQ:¬(((bx.size+bz.size:Nat):Int)>IntKind.i64.max):=(by rw[KR h1,KR h2];simp[IntKind.max,IntKind.signed,IntKind.bits];omega);refine⟨.string (bx++bz),?_,.str _ _ ?_⟩
        . simp only[Op.stringOp];rw[Za7 nQ];rfl
        . rw[ByteArray.data_append,Array.toList_append,Zd3,h1,h2]
    .   cases h
  all_goals first|(cases h;done)|skip
  all_goals
    simp only[H5]at h;subst h;refine⟨_,rfl,?_⟩
    first|rw[e1,e2]|rw[e1]|rw[e2]
    exact .bool _
 ·
  rename_i hni hns;have afZ:∀op,(op= .eql\/op= .neq)->(binOp op t x y).run P w=((Op.equal t x y).run P w).andThen λr w'=> .ok (.bool (if op= .eql then r else !r)) w':=by
    rintro op (rfl|rfl)
    all_goals
        cases ha<;>cases hb<;>first
          |(exact(hni _ _ _ _ rfl rfl).elim)
          |(exact(hns _ _ rfl rfl).elim)
          |simp[binOp]
  split at h
  . split at h
    .   rename_i r hr;simp only[H5]at h;subst h;rcases hq with hq|⟨_,hq,_⟩
        . refine⟨.bool r,?_,.bool r⟩;rw[Sem.run_bind,abA hT hq ha hb hr,Result.andThen_ok,afZ _ (.inl rfl),agt hT hq ha hb hr];rfl
        . exact absurd rfl hq
    .   cases h
  . split at h
    .   rename_i r hr;simp only[H5]at h;subst h;rcases hq with hq|⟨_,_,hq⟩
        . refine⟨.bool (!r),?_,.bool _⟩;rw[Sem.run_bind,abA hT hq ha hb hr,Result.andThen_ok,afZ _ (.inr rfl),agt hT hq ha hb hr];rfl
        . exact absurd rfl hq
    .   cases h
  . cases h
end
def fy(P:Program)(tt:TT)(op:Op):Prop:=
 ∀  (ρ:Pos->Loc)(C:Cells)(st:St)(w:World)(k:aG)(xs:List ic)(cls:Cls)(fr:Fr)(a:Act)(o:Oper)(vs:List AV)(res:eG),
    o.op=op->kg tt op=some (k,xs,cls)->cq ρ C st w->kV ρ st.next.toNat C fr a.tmps->fS fr xs=some vs->
    k.run (λb=>st.heap.get b) st.next vs=some res->Ge P ρ C st w ((execOp a.eval o).run P w) res
section
variable{P : Program}{tt : TT}
theorem adf{ρ:Pos->Loc}{n:Nat}{C:Cells}{x y:Operand}{os:List ic}{fr:Fr}{a:Act}{vs:List AV}(h:mI [x,y]=some os)(hF:kV ρ n C fr a.tmps)(hv:fS fr os=some vs):
  ∃u v,vs=[u,v]/\aC ρ n C u (a.eval x)/\aC ρ n C v (a.eval y):=by
 have h1:=iR h hF hv;cases vs with
 |nil=>have:=h1.1;simp at this
 |cons u vs=>
  cases vs with
  |nil=>have:=h1.1;simp at this
  |cons v vs=>
   cases vs with
   |nil=>exact⟨u,v,rfl,h1.2 0 u _ rfl rfl,h1.2 1 v _ rfl rfl⟩
   |cons z vs=>have:=h1.1;simp at this
theorem evs3{ρ:Pos->Loc}{n:Nat}{C:Cells}{x y z:Operand}{os:List ic}{fr:Fr}{a:Act}{vs:List AV}(h:mI [x,y,z]=some os)(hF:kV ρ n C fr a.tmps)(hv:fS fr os=some vs):
  ∃u v q,vs=[u,v,q]/\aC ρ n C u (a.eval x)/\aC ρ n C v (a.eval y)/\aC ρ n C q (a.eval z):=by
 have h1:=iR h hF hv
 match vs,h1 with
 |[u,v,q],h1=>exact⟨u,v,q,rfl,h1.2 0 u _ rfl rfl,h1.2 1 v _ rfl rfl,h1.2 2 q _ rfl rfl⟩
 |[],h1=>have:=h1.1;simp at this
 |[_],h1=>have:=h1.1;simp at this
 |[_,_],h1=>have:=h1.1;simp at this
 |_::_::_::_::_,h1=>have:=h1.1;simp at this
theorem aoM(x:Operand):fy P tt (.move x):=by
 intro ρ C st w k xs cls fr a o vs res ho hc hW hF hx hr;simp only[kg]at hc;split at hc<;>first|(cases hc;done)|skip
 rename_i b hb;cases hc;obtain⟨v,rfl,hv⟩:=lO hb hF hx;simp only[aG.run,Yd,H5]at hr;subst hr;exact .pure (by simp[execOp,ho]) hv
theorem akw(x:Operand):fy P tt (.assign x):=by
 intro ρ C st w k xs cls fr a o vs res ho hc hW hF hx hr;simp only[kg]at hc;split at hc<;>first|(cases hc;done)|skip
 rename_i b hb;cases hc;obtain⟨v,rfl,hv⟩:=lO hb hF hx;simp only[aG.run,Yd,H5]at hr;subst hr;exact .pure (by simp[execOp,ho]) hv
theorem aoN(c x y:Operand):fy P tt (.pick c x y):=by
 intro ρ C st w k xs cls fr a o vs res ho hc hW hF hx hr;simp only[kg]at hc;split at hc<;>first|(cases hc;done)|skip
 rename_i l hl;cases hc;obtain⟨u,v,q,rfl,h1,h2,h3⟩:=evs3 hl hF hx;simp only[aG.run,ac8]at hr;split at hr<;>first|(cases hr;done)|skip
 all_goals
   simp only[H5]at hr;subst hr;have h1:=h1.kW
 . exact .pure (by simp[execOp,ho,h1,asBool]) h2
 . exact .pure (by simp[execOp,ho,h1,asBool]) h3
theorem amr(hT:dy P tt)(op:BinOp)(t:TypeId)(x y:Operand)(yt:TypeId):fy P tt (.binOp op t x y yt):=by
 intro ρ C st w k xs cls fr a o vs res ho hc hW hF hx hr;have key:∃q,aq3 tt op q t/\k= .bin op q/\mI [x,y]=some xs:=by
  simp only[kg]at hc;split at hc
  . rename_i q l hq hl;cases hc;exact⟨q,.inl hq,rfl,hl⟩
  . rename_i l hq hl;(split at hc<;>first|(cases hc;done)|skip);rename_i h1 h2;cases hc;exact⟨.num,.inr ⟨rfl,λe=>h1 e,λe=>h2 e⟩,rfl,hl⟩
  . cases hc
 obtain⟨q,hq,rfl,hl⟩:=key;obtain⟨u,v,rfl,h1,h2⟩:=adf hl hF hx;simp only[aG.run,ju]at hr;split at hr<;>first|(cases hr;done)|skip
 rename_i r hb;simp only[H5]at hr;subst hr;obtain⟨z,hz,hv⟩:=aoL hT hq h1 h2 hb x y (w:=w);refine .pure ?_ hv;simp only[execOp,ho];rw[Sem.run_bind,hz];rfl
theorem aoO(op:UnOp)(t:TypeId)(x:Operand):fy P tt (.unOp op t x):=by
 intro ρ C st w k xs cls fr a o vs res ho hc hW hF hx hr;simp only[kg]at hc;split at hc<;>first|(cases hc;done)|skip
 rename_i b hb;cases hc;obtain⟨v,rfl,hv⟩:=lO hb hF hx;simp only[aG.run,ako]at hr;split at hr<;>first|(cases hr;done)|skip
 rename_i r hu;simp only[H5]at hr;subst hr;unfold unA at hu;split at hu
 . (split at hu<;>first|(cases hu;done)|skip);simp only[H5]at hu;subst hu;exact .pure (by simp[execOp,ho,hv.kW,Op.unary]) (.bool _)
 . (split at hu<;>first|(cases hu;done)|skip);simp only[H5]at hu;subst hu;exact .pure (by simp[execOp,ho,hv.iM,Op.unary,Op.intArith];rfl) (by rw[ym];simpa using aC.int _ _)
 . cases hu
theorem agu(x:Operand):fy P tt (.nilCheck x):=by
 intro ρ C st w k xs cls fr a o vs res ho hc hW hF hx hr;simp only[kg]at hc;split at hc<;>first|(cases hc;done)|skip
 rename_i b hb;cases hc;obtain⟨v,rfl,hv⟩:=lO hb hF hx;simp only[aG.run,NR]at hr;split at hr<;>first|(cases hr;done)|skip
 all_goals simp only[H5]at hr;subst hr
 . obtain⟨_,he⟩:=hv.qz;exact .pure (by simp[execOp,ho,he]) hv
 . obtain⟨_,_,_,_,he,_⟩:=hv.OS;exact .pure (by simp[execOp,ho,he]) hv
 . obtain⟨_,_,he,_⟩:=hv.QV;exact .pure (by simp[execOp,ho,he]) hv
theorem aiU(x:Operand)(i:Nat):fy P tt (.extract x i):=by
 intro ρ C st w k xs cls fr a o vs res ho hc hW hF hx hr;simp only[kg]at hc;split at hc<;>first|(cases hc;done)|skip
 rename_i b hb;cases hc;obtain⟨v,rfl,hv⟩:=lO hb hF hx;simp only[aG.run,Kc]at hr;split at hr<;>first|(cases hr;done)|skip
 split at hr<;>first|(cases hr;done)|skip
 rename_i u hu;simp only[H5]at hr;subst hr;obtain⟨cs,he,hs⟩:=hv.Vg;rw[qI]at hu;obtain⟨y,hy,Vn⟩:=hs.get hu;exact .pure (by simp at hy;simp[execOp,ho,he,Instr.extract,hy]) Vn
theorem aiV(hT:dy P tt)(t:TypeId)(x:Operand):fy P tt (.makeInterface t x):=by
 intro ρ C st w k xs cls fr a o vs res ho hc hW hF hx hr;simp only[kg]at hc;split at hc<;>first|(cases hc;done)|skip
 rename_i ti b fI hb;split at hc<;>first|(cases hc;done)|skip
 rename_i h1 h2;cases hc;obtain⟨v,rfl,hv⟩:=lO hb hF hx;simp only[aG.run,QN,H5]at hr;subst hr;obtain⟨d,hd,hk⟩:=(hT.at fI).und;refine .pure (x:= .iface t (a.eval x)) ?_ (.iface _ _ _ hv);have hni:∀ms,d≠ .interface ms:=by
  rintro ms rfl;cases ML:ti.k<;>rw[ML]at hk<;>first|(simp[bZ]at hk;done)|(exact h1 ML)|(exact h2 ML)
 simp only[execOp,ho,Instr.makeInterface,Sem.run_bind,bt hd,Result.andThen_ok];cases d<;>first|rfl|(exact absurd rfl (hni _))
theorem akx(fn:Fn)(first captured:Array Operand):fy P tt (.makeFunc fn first captured):=by
 intro ρ C st w k xs cls fr a o vs res ho hc hW hF hx hr;simp only[kg]at hc;split at hc<;>first|(cases hc;done)|skip
 rename_i f l hl;cases hc;have h:=iR hl hF hx;simp only[aG.run,Gm,H5]at hr;subst hr;have e1:vs.take first.size=vs.take first.size:=rfl
 have h1:=h.take first.size
 have h2:=h.drop first.size
 simp only[Zd3]at h1 h2;rw[Zr4 (by simp)]at h1;rw[List.drop_left' (by simp)]at h2;refine .pure (x:= .func (.func f) (first.map a.eval) (captured.map a.eval)) (by simp[execOp,ho,Instr.makeFunc]) ?_;exact .func _ _ _ _ _ (by simpa using h1.1) (by simpa using h2.1) (λi v v' hv OV=>h1.2 i v v' hv (by simpa using OV)) (λi v v' hv OV=>h2.2 i v v' hv (by simpa using OV))
theorem afl(hT:dy P tt)(t:TypeId)(x:Operand)(f:Nat):fy P tt (.fieldAddr t x f):=by
 intro ρ C st w k xs cls fr a o vs res ho hc hW hF hx hr;simp only[kg]at hc;split at hc<;>first|(cases hc;done)|skip
 rename_i ti b fI hb;split at hc<;>first|(cases hc;done)|skip
 rename_i fs hk;split at hc<;>first|(cases hc;done)|skip
 rename_i off ft nm hf;split at hc<;>first|(cases hc;done)|skip
 rename_i fi hfi;split at hc<;>first|(cases hc;done)|skip
 rename_i gR;cases hc;obtain⟨v,rfl,hv⟩:=lO hb hF hx;obtain⟨d,hd,dH⟩:=(hT.at fI).und;rw[hk]at dH;obtain⟨gs,rfl,hm⟩:=MK dH;obtain⟨g,hg,u7,EI,_⟩:=Q0 hm hf;simp only at u7 EI;obtain⟨i,hi,u9,_⟩:=(hT.at hfi).info;have hs0:¬i.size=0:=by rw[u9];exact Zf0 gR
 simp only[aG.run,Ve]at hr;split at hr<;>first|(cases hr;done)|skip
 . simp only[H5]at hr;subst hr;obtain⟨aS,he⟩:=hv.qz;refine .pure (x:= .pointer (some ⟨(ρ _).aM,(ρ _).base+(_+off),none⟩)) ?_ (.ptr _ _ aS);simp at hg;simp[execOp,ho,he,Instr.fieldAt,bt hd,hg,Instr.sureAddr,fieldPlace,EI,mJ hi,hs0,ux,u7,Zj1]
 . simp only[H5]at hr;subst hr;obtain⟨es,aM,base,cell,he,h1,h2,h3⟩:=hv.OS;rename_i BT i' j';refine .pure (x:= .pointer (some ⟨aM,base+i'*es+(j'+off),none⟩)) ?_ (.fp _ _ _ es aM base cell h1 h2 h3);simp at hg;simp[execOp,ho,he,Instr.fieldAt,bt hd,hg,Instr.sureAddr,fieldPlace,EI,mJ hi,hs0,ux,u7,Zj1]
theorem mM{ρ:Pos->Loc}{n:Nat}{C:Cells}{v:AV}{x:Value}{i:Nat}(h:aC ρ n C v x)(hi:zR v=some i):∃k,x= .int k (i:Int):=by
 unfold zR at hi;split at hi<;>first|(cases hi;done)|skip
 split at hi<;>first|(cases hi;done)|skip
 simp only[H5]at hi;subst hi;exact⟨_,h.iM⟩
theorem afm(hT:dy P tt)(t:TypeId)(x ix:Operand):fy P tt (.indexAddr t x ix):=by
 intro ρ C st w k xs cls fr a o vs res ho hc hW hF hx hr;simp only[kg]at hc;split at hc<;>first|(cases hc;done)|skip
 rename_i ti l fI hl;obtain⟨d,hd,dH⟩:=(hT.at fI).und;obtain⟨u,v,rfl,h1,h2⟩:=adf hl hF (by
   split at hc<;>first|(cases hc;done)|skip
   all_goals
     (split at hc<;>first|(cases hc;done)|skip);cases hc;exact hx)
 split at hc<;>first|(cases hc;done)|skip
 . rename_i e hk;rw[hk]at dH;rw[tO dH]at hd;(split at hc<;>first|(cases hc;done)|skip);rename_i te oZ;cases hc;obtain⟨i0,sP,u9,_⟩:=(hT.at oZ).info;simp only[aG.run,sw]at hr;(split at hr<;>first|(cases hr;done)|skip);rename_i i hi;obtain⟨kk,EJ⟩:=mM h2 hi;split at hr<;>first|(cases hr;done)|skip
   . rename_i b off len cap es' _;(split at hr<;>first|(cases hr;done)|skip);rename_i aS;have aS:i<len:=(by simpa using aS);simp only[H5]at hr;subst hr;obtain⟨aa,bu,he,hle,_,ha⟩:=h1.gL;obtain⟨hb,rfl,_⟩:=ha (by omega);refine .pure (x:= .pointer (some ⟨(ρ b).aM,(ρ b).base+(off+i*te.size),none⟩)) ?_ (.ptr _ _ hb);simp[execOp,ho,he,EJ,Instr.indexAt,bt hd,asIntOf,aS,mJ sP,ux,u9,Zj1]
   . rename_i BT es' _;(split at hr<;>first|(cases hr;done)|skip);rename_i aS dV;have aS:i<BT.length:=(by simpa using aS);have dV:te.size=es':=Za6 dV;simp only[H5]at hr;subst hr;obtain⟨aa,bu,cell,he,hle,Aw,g1,g2,g3⟩:=h1.yl;have Aw:=Aw (by intro e;rw[e]at aS;simp at aS);obtain⟨ab,ao,asp⟩:=aa;simp only at Aw;subst Aw;refine .pure (x:= .pointer (some ⟨ab,ao+i*es'+0,none⟩)) ?_ (.fp _ _ _ es' ab ao cell g1 g2 g3);simp[execOp,ho,he,EJ,Instr.indexAt,bt hd,asIntOf,aS,mJ sP,ux,u9,dV]
   . rename_i hh;cases hh
 . rename_i m e hk;rw[hk]at dH;rw[agq dH]at hd;(split at hc<;>first|(cases hc;done)|skip);rename_i te oZ;cases hc;obtain⟨i0,sP,u9,_⟩:=(hT.at oZ).info;simp only[aG.run,sw]at hr;(split at hr<;>first|(cases hr;done)|skip);rename_i i hi;obtain⟨kk,EJ⟩:=mM h2 hi;split at hr<;>first|(cases hr;done)|skip
   . rename_i hh;cases hh
   . rename_i hh;cases hh
   . rename_i m' b off hh;cases hh;(split at hr<;>first|(cases hr;done)|skip);rename_i aS;have aS:i<m:=(by simpa using aS);simp only[H5]at hr;subst hr;obtain⟨hb,he⟩:=h1.qz;refine .pure (x:= .pointer (some ⟨(ρ b).aM,(ρ b).base+(off+i*te.size),none⟩)) ?_ (.ptr _ _ hb);simp[execOp,ho,he,EJ,Instr.indexAt,bt hd,asIntOf,aS,mJ sP,ux,u9,Zj1,Instr.sureAddr]
end
section
variable{P : Program}{tt : TT}
theorem ams(hT:dy P tt)(t:TypeId)(x:Operand)(f:Nat):fy P tt (.field t x f):=by
 intro ρ C st w k xs cls fr a o vs res ho hc hW hF hx hr;simp only[kg]at hc;split at hc<;>first|(cases hc;done)|skip
 rename_i ti b fI hb;split at hc<;>first|(cases hc;done)|skip
 rename_i fs hk;split at hc<;>first|(cases hc;done)|skip
 rename_i off ft nm hf;split at hc<;>first|(cases hc;done)|skip
 rename_i fi hfi;cases hc;obtain⟨v,rfl,hv⟩:=lO hb hF hx;obtain⟨d,hd,dH⟩:=(hT.at fI).und;rw[hk]at dH;obtain⟨gs,rfl,hm⟩:=MK dH;obtain⟨g,hg,u7,EI,_⟩:=Q0 hm hf;simp only at u7 EI;obtain⟨i,hi,u9,_⟩:=(hT.at hfi).info;obtain⟨fd,hfd,hfk⟩:=(hT.at hfi).und;have xI:=aaw hfk w hfd;simp only[aG.run,QT]at hr;split at hr<;>first|(cases hr;done)|skip
 rename_i cs;obtain⟨cx,he,hs⟩:=hv.Fu;simp at hg;split at hr
 . rename_i hn;(split at hr<;>first|(cases hr;done)|skip);rename_i u hu;simp only[H5]at hr;subst hr;rw[qI]at hu;obtain⟨y,hy,Vn⟩:=hs.get hu;have aky:fi.k.isAgg=false:=by
     unfold Cy at hn;split at hn
     . cases hn
     . assumption
   rw[aky]at xI;refine .pure (x:=y) ?_ Vn;simp at hy;simp[execOp,ho,he,Instr.field,bt hd,hg,part,EI,xI,asAgg,u7,hy]
 . rename_i m hn;simp only[H5]at hr;subst hr;have aky:fi.k.isAgg=true/\m=fi.size:=by
     unfold Cy at hn;split at hn
     . cases hn;exact⟨by assumption,rfl⟩
     . cases hn
   rw[aky.1]at xI;refine .pure (x:= .agg (cx.extract off (off+m))) ?_ (.OP ?_)
   . simp[execOp,ho,he,Instr.field,bt hd,hg,part,EI,xI,asAgg,u7,mJ hi,u9,aky.2]
   . have:=(hs.drop off).take m;simpa [Zo9,List.extract]using this
theorem amt(hT:dy P tt)(t:TypeId)(x ix:Operand):fy P tt (.index t x ix):=by
 intro ρ C st w k xs cls fr a o vs res ho hc hW hF hx hr;simp only[kg]at hc;split at hc<;>first|(cases hc;done)|skip
 rename_i ti l fI hl;split at hc<;>first|(cases hc;done)|skip
 rename_i hk;cases hc;obtain⟨u,v,rfl,h1,h2⟩:=adf hl hF hx;obtain⟨d,hd,dH⟩:=(hT.at fI).und;rw[hk]at dH;rw[u0 dH]at hd;simp only[aG.run,Ye]at hr;split at hr<;>first|(cases hr;done)|skip
 rename_i s i hi;split at hr<;>first|(cases hr;done)|skip
 rename_i c hcx;simp only[H5]at hr;subst hr;obtain⟨bs,he,hs⟩:=h1.fu;obtain⟨kk,EJ⟩:=mM h2 hi;rw[qI, <-hs,Zb7]at hcx;obtain⟨b,hb,hbc⟩:=Zf3.1 hcx;have eN:bs[i]? =some b:=by
  obtain⟨aS,ve⟩:=Za2.1 hb;have aoK:i<bs.size:=by rw[Zi7]at aS;exact aS
  rw[getElem?_pos bs i aoK];congr 1
 refine .pure (x:= .int .u8 (.ofNat c)) ?_ (.int _ _);simp[execOp,ho,he,EJ,Instr.index,bt hd,asIntOf,eN, <-hbc]
theorem aoP(hT:dy P tt)(t:TypeId)(x:Operand):fy P tt (.load t x):=by
 intro ρ C st w k xs cls fr a o vs res ho hc hW hF hx hr;simp only[kg]at hc;split at hc<;>first|(cases hc;done)|skip
 rename_i ti b fI hb;cases hc;obtain⟨v,rfl,hv⟩:=lO hb hF hx;obtain⟨d,hd,dH⟩:=(hT.at fI).und;obtain⟨i,hi,u9,_⟩:=(hT.at fI).info;have xI:=aaw dH w hd;have hn:(Cy ti=none/\ti.k.isAgg=false)\/(Cy ti=some ti.size/\ti.k.isAgg=true):=by unfold Cy;split<;>simp_all
 simp only[aG.run,zh]at hr;split at hr<;>first|(cases hr;done)|skip
 . rename_i bb off;(split at hr<;>first|(cases hr;done)|skip);rename_i cs fz ve;obtain⟨_,he⟩:=hv.qz;rcases hn with⟨hn,hf⟩|⟨hn,hf⟩
   . rw[hn]at hr;rw[hf]at xI;simp only at hr;(split at hr<;>first|(cases hr;done)|skip);rename_i u hu;simp only[H5]at hr;subst hr;rw[qI]at hu;obtain⟨y,hy,Vn⟩:=hW.cell ve hu;refine .pure (x:=y) ?_ Vn;simp[execOp,ho,he,Instr.loadAt,Instr.sureAddr,loadVar,xI,hy]
   . rw[hn]at hr;rw[hf]at xI;simp only at hr;(split at hr<;>first|(cases hr;done)|skip);rename_i us hu;simp only[H5]at hr;subst hr;obtain⟨ys,hy,Vn⟩:=hW.loadCells (P:=P) ve hu;refine .pure (x:= .agg ys.toArray) ?_ (.OP (by simpa using Vn));simp[execOp,ho,he,Instr.loadAt,Instr.sureAddr,loadVar,xI,mJ hi,u9,hy]
 . rename_i BT i' j';(split at hr<;>first|(cases hr;done)|skip);rename_i cs eX;rw[qI]at eX;obtain⟨es,aM,base,cell,he,g1,g2,g3⟩:=hv.OS;rcases hn with⟨hn,hf⟩|⟨hn,hf⟩
   . rw[hn]at hr;rw[hf]at xI;simp only at hr;(split at hr<;>first|(cases hr;done)|skip);rename_i u hu;simp only[H5]at hr;subst hr;rw[qI]at hu;have CB:=(hW.ei _ _ (g2 _ _ _ _ eX hu)).1;refine .pure (x:=cell i' j') ?_ (g3 _ _ _ _ eX hu);simp[execOp,ho,he,Instr.loadAt,Instr.sureAddr,loadVar,xI,CB]
   . rw[hn]at hr;rw[hf]at xI;simp only at hr;(split at hr<;>first|(cases hr;done)|skip);rename_i us hu;simp only[H5]at hr;subst hr;obtain⟨hus,hle⟩:=abz hu;have hlen:=Q4 hu;have dP:(loadCells ⟨aM,base+i'*es+j',none⟩ ti.size).run P w= .ok ((List.range ti.size).map λq=>cell i' (j'+q)).toArray w:=by
        (refine run_loadCells w _ _ _ λq hq=> ?_);rw[ux];have:cs[j'+q]? =some (cs[j'+q]'(by omega)):=H0 (by omega);rw[Zj1];exact(hW.ei _ _ (g2 _ _ _ _ eX this)).1
     refine .pure (x:= .agg ((List.range ti.size).map λq=>cell i' (j'+q)).toArray) ?_ (.OP ⟨by simp[hlen],λq u y hu' hy=> ?_⟩)
     .  simp[execOp,ho,he,Instr.loadAt,Instr.sureAddr,loadVar,xI,mJ hi,u9,dP]
     .  have hq:q<ti.size:=(by rw[<-hlen];exact(Za2.1 hu').1);rw[hus,Ze1,Zb3 hq,Ze7]at hu';simp[hq]at hy;subst hy;exact g3 _ _ _ _ eX hu'
theorem aoQ{x y:Value}{ρ:Pos->Loc}{n:Nat}{C:Cells}{u v r:AV}{w:World}{st:St}(h1:aC ρ n C u x)(h2:aC ρ n C v y)(hr:Ku (λb=>st.heap.get b) st.next [u,v]=some (.val r)):
   ∃z,(Builtin.min2 x y).run P w= .ok z w/\aC ρ n C r z:=by
 simp only[Ku]at hr;split at hr<;>first|(cases hr;done)|skip
 . simp only[H5,eG.val.injEq]at hr;subst hr;rw[h1.iM,h2.iM];refine⟨_,rfl,?_⟩;rw[fc];split
   . rename_i h;rw[Zb3 (Zh1 h)];exact .int _ _
   . rename_i h;rw[Za7 (Zl9 h)];exact .int _ _
 . simp only[H5,eG.val.injEq]at hr;subst hr;rename_i sa sb;obtain⟨bx,rfl,e1⟩:=h1.fu;obtain⟨bz,rfl,e2⟩:=h2.fu;have hh:(Op.stringOp .leq bx bz).run P w= .ok (.bool (aN sa sb||ku sa sb)) w:=by
     simp only[Op.stringOp,Sem.run_pure];rw[aax e1 e2,OU e1 e2]
   refine⟨_,by simp only[Builtin.min2,Sem.run_bind,hh,Result.andThen_ok,asBool,Sem.run_pure];rfl,?_⟩;split
   . rename_i h;rw[Zb3 h];exact .str _ _ e1
   . rename_i h;rw[Za7 (by rw[h];simp)];exact .str _ _ e2
theorem aoR{x y:Value}{ρ:Pos->Loc}{n:Nat}{C:Cells}{u v r:AV}{w:World}{st:St}(h1:aC ρ n C u x)(h2:aC ρ n C v y)(hr:Kv (λb=>st.heap.get b) st.next [u,v]=some (.val r)):
   ∃z,(Builtin.max2 x y).run P w= .ok z w/\aC ρ n C r z:=by
 simp only[Kv]at hr;split at hr<;>first|(cases hr;done)|skip
 . simp only[H5,eG.val.injEq]at hr;subst hr;rw[h1.iM,h2.iM];refine⟨_,rfl,?_⟩;rw[fc];split
   . rename_i h;rw[Zb3 (Zh1 h)];exact .int _ _
   . rename_i h;rw[Za7 (Zl9 h)];exact .int _ _
 . simp only[H5,eG.val.injEq]at hr;subst hr;rename_i sa sb;obtain⟨bx,rfl,e1⟩:=h1.fu;obtain⟨bz,rfl,e2⟩:=h2.fu;have hh:(Op.stringOp .geq bx bz).run P w= .ok (.bool (!aN sa sb)) w:=by
     simp only[Op.stringOp,Sem.run_pure];rw[aax e1 e2]
   refine⟨_,by simp only[Builtin.max2,Sem.run_bind,hh,Result.andThen_ok,asBool,Sem.run_pure];rfl,?_⟩;split
   . rename_i h;rw[Za7 (by rw[h];simp)];exact .str _ _ e2
   . rename_i h;rw[Zb3 (by rw[h];rfl)];exact .str _ _ e1
theorem o6(xs:Array Operand)(a:Act):xs.toList.map a.eval=(xs.map a.eval).toList:=by simp
end
section
variable{P : Program}{tt : TT}
theorem vs1{ρ:Pos->Loc}{n:Nat}{C:Cells}{bs:List AV}{x:Value}(h:aK ρ n C bs [x]):∃b,bs=[b]/\aC ρ n C b x:=by
 match bs,h with
 |[b],h=>exact⟨b,rfl,h.2 0 b x rfl rfl⟩
 |[],h=>have:=h.1;simp at this
 |_::_::_,h=>have:=h.1;simp at this
theorem vs2{ρ:Pos->Loc}{n:Nat}{C:Cells}{bs:List AV}{x y:Value}(h:aK ρ n C bs [x,y]):∃b c,bs=[b,c]/\aC ρ n C b x/\aC ρ n C c y:=by
 match bs,h with
 |[b,c],h=>exact⟨b,c,rfl,h.2 0 b x rfl rfl,h.2 1 c y rfl rfl⟩
 |[],h=>have:=h.1;simp at this
 |[_],h=>have:=h.1;simp at this
 |_::_::_::_,h=>have:=h.1;simp at this
theorem vs3{ρ:Pos->Loc}{n:Nat}{C:Cells}{bs:List AV}{x y z:Value}(h:aK ρ n C bs [x,y,z]):∃b c d,bs=[b,c,d]/\aC ρ n C b x/\aC ρ n C c y/\aC ρ n C d z:=by
 match bs,h with
 |[b,c,d],h=>exact⟨b,c,d,rfl,h.2 0 b x rfl rfl,h.2 1 c y rfl rfl,h.2 2 d z rfl rfl⟩
 |[],h=>have:=h.1;simp at this
 |[_],h=>have:=h.1;simp at this
 |[_,_],h=>have:=h.1;simp at this
 |_::_::_::_::_,h=>have:=h.1;simp at this
def KS(x:Option Value)(i:Option Nat):Prop:=(x=none/\i=none)\/∃j k,i=some j/\x=some (.int k (j:Int))
theorem abB{ρ:Pos->Loc}{n:Nat}{C:Cells}{lo hi mx:Option Operand}{bs:List AV}{a:Act}{l h m:Option Nat}
   (hb:aK ρ n C bs ((Cz lo++Cz hi++Cz mx).map a.eval)) (hr:bounds lo.isSome hi.isSome mx.isSome bs=some (l,h,m)):
   KS (lo.map a.eval) l/\KS (hi.map a.eval) h/\KS (mx.map a.eval) m/\(m.isSome=true->h.isSome=true):=by
 unfold bounds at hr
 cases lo<;>cases hi<;>cases mx<;>simp only[Option.isSome_some,Option.isSome_none,Cz,Ze3,Ze0,Zd9,Zd5,Zi5]at hb hr<;>
   first|(cases hr;done)|skip
 . cases bs with
   |cons b bs=>have:=hb.1;simp at this
   |nil=>simp at hr;obtain⟨rfl,rfl,rfl⟩:=hr;exact⟨.inl ⟨rfl,rfl⟩,.inl ⟨rfl,rfl⟩,.inl ⟨rfl,rfl⟩,λh=>by cases h⟩
 . obtain⟨b,rfl,h1⟩:=vs1 hb;simp only at hr;(split at hr<;>first|(cases hr;done)|skip);rename_i j hj;obtain⟨k,hk⟩:=mM h1 hj;simp at hr;obtain⟨rfl,rfl,rfl⟩:=hr;exact⟨.inl ⟨rfl,rfl⟩,.inr ⟨j,k,rfl,by simp[hk]⟩,.inl ⟨rfl,rfl⟩,λh=>by cases h⟩
 . obtain⟨b,c,rfl,h1,h2⟩:=vs2 hb;simp only at hr;(split at hr<;>first|(cases hr;done)|skip);rename_i j j' hj KQ;obtain⟨k,hk⟩:=mM h1 hj;obtain⟨k',uf⟩:=mM h2 KQ;simp at hr;obtain⟨rfl,rfl,rfl⟩:=hr;exact⟨.inl ⟨rfl,rfl⟩,.inr ⟨j,k,rfl,by simp[hk]⟩,.inr ⟨j',k',rfl,by simp[uf]⟩,λ_=>rfl⟩
 . obtain⟨b,rfl,h1⟩:=vs1 hb;simp only at hr;(split at hr<;>first|(cases hr;done)|skip);rename_i j hj;obtain⟨k,hk⟩:=mM h1 hj;simp at hr;obtain⟨rfl,rfl,rfl⟩:=hr;exact⟨.inr ⟨j,k,rfl,by simp[hk]⟩,.inl ⟨rfl,rfl⟩,.inl ⟨rfl,rfl⟩,λh=>by cases h⟩
 . obtain⟨b,c,rfl,h1,h2⟩:=vs2 hb;simp only at hr;(split at hr<;>first|(cases hr;done)|skip);rename_i j j' hj KQ;obtain⟨k,hk⟩:=mM h1 hj;obtain⟨k',uf⟩:=mM h2 KQ;simp at hr;obtain⟨rfl,rfl,rfl⟩:=hr;exact⟨.inr ⟨j,k,rfl,by simp[hk]⟩,.inr ⟨j',k',rfl,by simp[uf]⟩,.inl ⟨rfl,rfl⟩,λh=>by cases h⟩
 . obtain⟨b,c,d,rfl,h1,h2,h3⟩:=vs3 hb;simp only at hr;(split at hr<;>first|(cases hr;done)|skip);rename_i j j' j'' hj KQ hj'';obtain⟨k,hk⟩:=mM h1 hj;obtain⟨k',uf⟩:=mM h2 KQ;obtain⟨k'',hk''⟩:=mM h3 hj'';simp at hr;obtain⟨rfl,rfl,rfl⟩:=hr;exact⟨.inr ⟨j,k,rfl,by simp[hk]⟩,.inr ⟨j',k',rfl,by simp[uf]⟩,.inr ⟨j'',k'',rfl,by simp[hk'']⟩,λ_=>rfl⟩
theorem EK(isS:Bool){len cap:Nat}{xl xh xm:Option Value}{l h m:Option Nat}(h1:KS xl l)(h2:KS xh h)(h3:KS xm m)(hmh:m.isSome=true->h.isSome=true)
  (OW:l.getD 0<=h.getD len) (hhm:h.getD len<=m.getD cap) (hmc:m.getD cap<=cap) (w:World):
  (Instr.sliceBounds isS len cap xl xh xm).run P w= .ok (l.getD 0,h.getD len,m.getD cap) w:=by
 rcases h1 with⟨rfl,rfl⟩|⟨jl,kl,rfl,rfl⟩<;>rcases h2 with⟨rfl,rfl⟩|⟨jh,kh,rfl,rfl⟩<;>rcases h3 with⟨rfl,rfl⟩|⟨jm,km,rfl,rfl⟩<;>
  simp only[Zj0,Zf1,Option.isSome_some,Option.isSome_none]at OW hhm hmc hmh ⊢ <;>
  first
   |(simp at hmh;done)
   |simp[Instr.sliceBounds,Instr.sliceBound,asIntOf,OW,hhm,hmc,Int.ofNat_le]
theorem MM{ρ:Pos->Loc}{n:Nat}{C:Cells}{b:Pos}{off es bu l h M:Nat}{aa:Addr}{akz:Option Nat}
   (ha:bu≠0->b.toNat<n/\aa=⟨(ρ b).aM,(ρ b).base+off,none⟩/\(ρ b).base+off+bu*es<=(ρ b).size)
   (h1:l<=h) (h2:h<=M) (h3:M<=bu) (hc:∀c,akz=some c->c=M - l) (hk:akz=none->b.toNat<n):
   aC ρ n C (.slice b (off+l*es) (h - l) akz es) (.slice (if M=l then some aa else(some aa).map (·.add (l*es))) (h - l) (M - l)):=by
 by_cases hm:M=l
 . rw[Zb3 hm];exact .slice _ _ _ _ _ _ _ (by omega) hc (λh0=>absurd (by omega) h0) hk
 . rw[Za7 hm];obtain⟨hb,rfl,hle⟩:=ha (by omega);refine .slice _ _ _ _ _ _ _ (by omega) hc (λ_=>⟨hb,by show Addr.add _ _=_;rw[ux,Zj1],?_⟩) hk;have e1:l*es+(M - l)*es=M*es:=(by rw[<-Zj3];congr 1;omega);have e2:M*es<=bu*es:=Zh0 _ h3;omega
theorem amu(hT:dy P tt)(t:TypeId)(x:Operand)(lo hi mx:Option Operand):fy P tt (.slice t x lo hi mx):=by
 intro ρ C st w k xs cls fr a o vs res ho hc hW hF hx hr;simp only[kg]at hc;split at hc<;>first|(cases hc;done)|skip
 rename_i ti l0 fI hl;obtain⟨d,hd,dH⟩:=(hT.at fI).und;split at hc<;>first|(cases hc;done)|skip
 . rename_i hk;rw[hk]at dH;rw[u0 dH]at hd;(split at hc<;>first|(cases hc;done)|skip);cases hc;have hv:=iR hl hF hx;simp only[Cz,Ze0,Zd9,Ze3,Zd5]at hv;simp only[aG.run,Vd]at hr;(split at hr<;>first|(cases hr;done)|skip);rename_i u bs;(split at hr<;>first|(cases hr;done)|skip);rename_i s l h m' hb;(split at hr<;>first|(cases hr;done)|skip);rename_i h1 h2;have h1:=Zb4 h1;have h2:=Zb4 h2;simp only[H5]at hr;subst hr;obtain⟨y,ys,zA,hu,Gq⟩:=hv.cons_inv;simp only[Zg2]at zA;obtain⟨rfl,rfl⟩:=zA;have ve:=abB (lo:=lo) (hi:=hi) (mx:=none) (a:=a) (by simpa [Cz]using Gq) hb;obtain⟨bs',he,hs⟩:=hu.fu;have gR:=KR hs
   have dP:=EK (P:=P) false (len:=bs'.size) (cap:=bs'.size) ve.1 ve.2.1 (.inl ⟨rfl,rfl⟩:KS none none) (λh=>by cases h)
     (by rw[gR];exact h1) (by rw[gR];simpa using h2) (by simp) w
   refine .pure (x:= .string (bs'.extract (l.getD 0) (h.getD bs'.size))) ?_ (.str _ _ ?_)
   . simp only[execOp,ho,Instr.sliceAt,Sem.run_bind,bt hd,Result.andThen_ok,he,Instr.slice];simp[dP]
   . rw[gR,ByteArray.data_extract,Zo9, <-hs,List.extract,List.map_take,List.map_drop];rw[Zn7]
 . rename_i e hk;rw[hk]at dH;rw[tO dH]at hd;(split at hc<;>first|(cases hc;done)|skip);rename_i te oZ;cases hc;obtain⟨i0,sP,u9,_⟩:=(hT.at oZ).info;have hv:=iR hl hF hx;simp only[Zd9,Ze3,Zf4,Zd5]at hv;simp only[aG.run,iP]at hr;(split at hr<;>first|(cases hr;done)|skip);rename_i u bs;obtain⟨y,ys,zA,hu,Gq⟩:=hv.cons_inv;simp only[Zg2]at zA;obtain⟨rfl,rfl⟩:=zA
   have u7:∀(sa:Option Addr)(len cap:Nat)(l h m:Option Nat),a.eval x= .slice sa len cap->bounds lo.isSome hi.isSome mx.isSome bs=some (l,h,m)->
        l.getD 0<=h.getD len->h.getD len<=m.getD cap->m.getD cap<=cap->
        (execOp a.eval o).run P w= .ok (.value (.slice (if m.getD cap=l.getD 0 then sa else sa.map (·.add (l.getD 0*te.size))) (h.getD len - l.getD 0) (m.getD cap - l.getD 0))) w:=by
     intro sa len cap l h m he hb h1 h2 h3;have ve:=abB (lo:=lo) (hi:=hi) (mx:=mx) (a:=a) (by simpa [Zf4]using Gq) hb;have dP:=EK (P:=P) true (len:=len) (cap:=cap) ve.1 ve.2.1 ve.2.2.1 ve.2.2.2 h1 h2 h3 w;simp only[execOp,ho,Instr.sliceAt,Sem.run_bind,bt hd,Result.andThen_ok,he,Instr.slice,dP,mJ sP,u9,Sem.run_pure]
   split at hr<;>first|(cases hr;done)|skip
   ·
     rename_i b off len cap es' l h m hb;(split at hr<;>first|(cases hr;done)|skip);rename_i dV OW;have dV:te.size=es':=Za6 dV;subst dV;have OW:=Zb4 OW;obtain⟨aa,bu,he,hle,agv,ha⟩:=hu.gL;split at hr
     .  rename_i c m';(split at hr<;>first|(cases hr;done)|skip);rename_i e1 e2;have e1:=Zb4 e1;have e2:=Zb4 e2;have:=agv c rfl;subst this;simp only[H5]at hr;subst hr;exact .pure (u7 _ _ _ _ _ _ he hb OW (by simpa using e1) (by simpa using e2)) (MM ha OW e1 e2 (λc hc=>by cases hc;rfl) (λh=>by cases h))
     .  rename_i c;(split at hr<;>first|(cases hr;done)|skip);rename_i e1;have e1:=Zb4 e1;have:=agv c rfl;subst this;simp only[H5]at hr;subst hr;exact .pure (u7 _ _ _ _ _ _ he hb OW (by simpa using e1) (by simp)) (MM ha OW e1 (Za3 _) (λc hc=>by cases hc;rfl) (λh=>by cases h))
     .  rename_i m';(split at hr<;>first|(cases hr;done)|skip);rename_i e1 e2;have e1:=Zb4 e1;have e2:=Zb4 e2;simp only[H5]at hr;subst hr;exact .pure (u7 _ _ _ _ _ _ he hb OW (by simpa using e1) (by simp;omega)) (MM ha OW e1 (by simp;omega) (λc hc=>by cases hc;rfl) (λh=>by cases h))
     .  (split at hr<;>first|(cases hr;done)|skip);rename_i e1;have e1:=Zb4 e1;simp only[H5]at hr;subst hr;exact .pure (u7 _ _ _ _ _ _ he hb OW (by simp;omega) (by simp)) (MM ha OW (by simp;omega) (Za3 _) (λc hc=>by cases hc) (λ_=>hu.aei rfl))
   ·
     rename_i BT es' l h m hb;(split at hr<;>first|(cases hr;done)|skip);rename_i dV;have dV:te.size=es':=Za6 dV;subst dV;obtain⟨aa,bu,cell,he,hle,Aw,g1,g2,g3⟩:=hu.yl;split at hr
     .  rename_i m';(split at hr<;>first|(cases hr;done)|skip);rename_i e0 e1 e2;have e0:=Za6 e0;have e1:=Za6 e1;have e2:=Za6 e2;subst e2;simp only[H5]at hr;subst hr;refine .pure (u7 _ _ _ _ _ _ he hb (by omega) (by rw[e1];simp) (by simp)) ?_;simp only[e0,e1,Zf1,Zk8,Zh5];exact .slice _ _ _ _ _ _ _ (Za3 _) (λc hc=>by cases hc;rfl) (λh0=>absurd rfl h0) (λh=>by cases h)
     .  (split at hr<;>first|(cases hr;done)|skip);rename_i e0 e1;have e0:=Zb4 e0;have e1:=Zb4 e1;simp only[H5]at hr;subst hr;refine .pure (u7 _ _ _ _ _ _ he hb e0 (by simp;omega) (by simp)) ?_;simp only[Zj0];have hlen:(List.drop (l.getD 0) (List.take (h.getD BT.length) BT)).length=h.getD BT.length - l.getD 0:=(by simp;omega);rw[<-hlen];have Q3:∀i cs,(List.drop (l.getD 0) (List.take (h.getD BT.length) BT))[i]? =some cs->BT[l.getD 0+i]? =some cs:=by
          intro i cs hi;rw[Ze7,Ze1]at hi;split at hi
          . exact hi
          . cases hi
        by_cases hcl:bu=l.getD 0
        . rw[Zb3 hcl];have hemp:List.drop (l.getD 0) (List.take (h.getD BT.length) BT)=[]:=(by apply Zc4;rw[hlen];omega);rw[hemp];exact .fl _ _ _ _ (λ_ _=>undef) (by simp) (λh=>absurd rfl h) (λi cs hi=>by simp at hi) (λi j cs v hi=>by simp at hi) (λi j cs v hi=>by simp at hi)
        . rw[Za7 hcl];by_cases dJ:BT=[]
          . subst dJ;simp only[List.take_nil,List.drop_nil];exact .fl _ _ _ _ (λ_ _=>undef) (by simp) (λh=>absurd rfl h) (λi cs hi=>by simp at hi) (λi j cs v hi=>by simp at hi) (λi j cs v hi=>by simp at hi)
          . have Aw:=Aw dJ;obtain⟨ab,ao,asp⟩:=aa;simp only at Aw;subst Aw;simp only[Ze5,ux];refine .fl _ _ _ _ (λi j=>cell (l.getD 0+i) j) (by rw[hlen];omega) (λ_=>rfl) (λi cs hi=>g1 _ _ (Q3 i cs hi)) (λi j cs v hi hj=> ?_) (λi j cs v hi hj=>g3 _ _ _ _ (Q3 i cs hi) hj);have:=g2 _ _ _ _ (Q3 i cs hi) hj;simp only at this ⊢;rw[<-this];congr 2;rw[Zj3];omega
   ·
     rename_i l h m hb;(split at hr<;>first|(cases hr;done)|skip);rename_i e0 e1 e2;have e0:=Za6 e0;have e1:=Za6 e1;have e2:=Za6 e2;simp only[H5]at hr;subst hr;have he:=hu.jv;refine .pure (u7 _ _ _ _ _ _ he hb (by omega) (by omega) (by omega)) ?_;simp only[e0,e1,e2,Zk8,Zh5];exact .af
end
section
variable{P : Program}{tt : TT}
theorem Zs{ρ:Pos->Loc}{n:Nat}{C:Cells}:∀{l:List AV}{s:List Nat}{ys:List Value},bytesOf l=some s->aK ρ n C l ys->
  ys=(s.map Int.ofNat).map (Value.int .u8)/\∀c,c∈s->c<256
 |[],s,ys,h,hv=>by
  simp[bytesOf]at h;subst h;exact⟨by simpa using hv.qy,λc hc=>by simp at hc⟩
 |v ::l,s,ys,h,hv=>by
  unfold bytesOf at h;split at h<;>first|(cases h;done)|skip
  . rename_i h0;simp at h0
  . rename_i c l' he;simp only[Zg2]at he;obtain⟨rfl,rfl⟩:=he;(split at h<;>first|(cases h;done)|skip);rename_i s' aS qJ;simp only[H5]at h;subst h;obtain⟨y,ys',rfl,h1,h2⟩:=hv.cons_inv;obtain⟨e,pF⟩:=Zs qJ h2;have aS:c<256:=(by simpa using aS);refine⟨by rw[h1.iM,e];rfl,λc' hc=> ?_⟩;simp at hc;rcases hc with rfl|hc
    . exact aS
    . exact pF _ hc
theorem MN:∀(s:List Nat)(acc:ByteArray),((s.map Int.ofNat).foldl (λr n=>r.push (UInt8.ofNat n.toNat)) acc).data.toList=acc.data.toList++s.map UInt8.ofNat
 |[],acc=>by simp
 |c::s,acc=>by
  simp only[Zd5,Zr5];rw[MN s];simp[ByteArray.push]
theorem aiW(hT:dy P tt)(src dst:TypeId)(x:Operand):fy P tt (.convert src dst x):=by
 intro ρ C st w k xs cls fr a o vs res ho hc hW hF hx hr;simp only[kg]at hc;split at hc<;>first|(cases hc;done)|skip
 rename_i s d b hs hd hb;obtain⟨ds,OX,hks⟩:=(hT.at hs).und;obtain⟨dd,hdd,dH⟩:=(hT.at hd).und;split at hc<;>first|(cases hc;done)|skip
 . rename_i k1 k2 h1 h2;cases hc;obtain⟨v,rfl,hv⟩:=lO hb hF hx;rw[h1]at hks;rw[h2]at dH;rw[Vj hks]at OX;rw[Vj dH]at hdd;simp only[aG.run,Ft]at hr;split at hr<;>first|(cases hr;done)|(rename_i heq;cases heq;done)|(rename_i heq;cases heq)
   simp only[H5]at hr;subst hr;refine .pure ?_ (by rw[ym];exact .int _ _);simp[execOp,ho,hv.iM,convert,bt OX,bt hdd,Conv.intToInt]
 . rename_i h1 h2;cases hc;obtain⟨v,rfl,hv⟩:=lO hb hF hx;rw[h1]at hks;rw[h2]at dH;rw[u0 hks]at OX;rw[u0 dH]at hdd;simp only[aG.run,Ft]at hr;split at hr<;>first|(cases hr;done)|(rename_i heq;cases heq;done)|(rename_i heq;cases heq)
   simp only[H5]at hr;subst hr;obtain⟨bs,he,hs⟩:=hv.fu;exact .pure (x:= .string bs) (by simp[execOp,ho,he,convert,bt OX,bt hdd]) (.str _ _ hs)
 . rename_i e h1 h2;(split at hc<;>first|(cases hc;done)|skip);rename_i te oZ;(split at hc<;>first|(cases hc;done)|skip);rename_i hk8;cases hc;obtain⟨v,rfl,hv⟩:=lO hb hF hx;rw[h1]at hks;rw[h2]at dH;rw[tO hks]at OX;rw[u0 dH]at hdd;obtain⟨de,hde,hke⟩:=(hT.at oZ).und;rw[hk8]at hke;rw[Vj hke]at hde;have u7:∀y:Option Addr×Nat×Nat,a.eval x= .slice y.1 y.2.1 y.2.2->(execOp a.eval o).run P w=((Conv.bytesToString (a.eval x)).run P w).andThen λv w=> .ok (.value v) w:=by
     intro y he;simp[execOp,ho,he,convert,bt OX,bt hdd,bt hde]
   simp only[aG.run,Ft]at hr;split at hr<;>first|(cases hr;done)|(rename_i heq;cases heq;done)|(rename_i heq;cases heq)
   . simp only[H5]at hr;subst hr;have he:=hv.jv;refine .pure (x:= .string .empty) ?_ (.str _ _ rfl);rw[u7 (none,0,0) he,he];simp[Conv.bytesToString]
   . rename_i bb off m cap es;obtain⟨aa,bu,he,hle,_,ha⟩:=hv.gL;split at hr
     .  rename_i h0;have:=Za6 h0;subst this;simp only[H5]at hr;subst hr;refine .pure (x:= .string .empty) ?_ (.str _ _ rfl);rw[u7 (some aa,0,bu) he,he];simp[Conv.bytesToString,loadCells,loadCellsFrom]
     .  (rename_i h0;have h0:=Zf0 h0;(split at hr<;>first|(cases hr;done)|skip);rename_i cs fz ve;(split at hr<;>first|(cases hr;done)|skip);rename_i l hcut;(split at hr<;>first|(cases hr;done)|skip);rename_i s' ato;simp only[H5]at hr;subst hr;obtain⟨aS,rfl,_⟩:=ha (by omega);obtain⟨ys,zA,CA⟩:=hW.loadCells (P:=P) ve hcut;obtain⟨e1,e2⟩:=Zs ato CA;rw[e1]at zA;have dP:=run_bytesToString (P:=P) w ⟨(ρ bb).aM,(ρ bb).base+off,none⟩ m bu (s'.map Int.ofNat) zA;refine .pure (x:= .string _) (by rw[u7 (some _,m,bu) he,he,dP];rfl) (.str _ _ ?_);rw[MN,Zd3];have e0:ByteArray.empty.data.toList=[]:=rfl;rw[e0,Zi5,Ze3,Zh8];have e3:s'.map (UInt8.toNat∘UInt8.ofNat)=s'.map id:=Zj2 λc hc=>by have:=e2 c hc;simp only[Function.comp,id,UInt8.toNat_ofNat'];omega);rw[e3,Zr9]
theorem OY{t:TypeId}{d:TypeDesc}(hd:P.underlying t=some d){pk:PK}(hk:pk.fits d=true)(e:Bool)(m:Nat)(x:Value)(w:World):
  (Instr.checkKey e (m+1) t x).run P w= .ok () w:=by
 unfold Instr.checkKey;rw[Sem.run_bind,bt hd,Result.andThen_ok];cases pk<;>cases d<;>simp[PK.fits]at hk<;>rfl
theorem Zt{ρ:Pos->Loc}{n:Nat}{C:Cells}{pk:PK}{d:TypeDesc}(hk:pk.fits d=true){u v:AV}{x y:Value}{r:Bool}
   (h1:aC ρ n C u x) (h2:aC ρ n C v y) (h:Bp pk u v=some r):Instr.sameNow d x y=some r:=by
 unfold Bp at h;split at h<;>first|(cases h;done)|skip
 . simp only[H5]at h;subst h;cases d<;>simp[PK.fits]at hk;rw[h1.kW,h2.kW];rfl
 . (split at h<;>first|(cases h;done)|skip);rename_i ML;have:=BU ML;subst this;simp only[H5]at h;subst h;cases d<;>simp[PK.fits]at hk;rw[h1.iM,h2.iM];simp[Instr.sameNow,mK]
 . simp only[H5]at h;subst h;cases d<;>simp[PK.fits]at hk;obtain⟨bx,rfl,e1⟩:=h1.fu;obtain⟨bz,rfl,e2⟩:=h2.fu;simp only[Instr.sameNow];rw[beq_toListBytes,OU e1 e2]
def MO(ρ:Pos->Loc)(n:Nat)(C:Cells)(es:List (AV×AV×Nat))(es':List MapEntry):Prop:=
 es.length=es'.length/\∀(i:Nat)(e:AV×AV×Nat)(e':MapEntry),es[i]? =some e->es'[i]? =some e'->aC ρ n C e.1 e'.key/\aC ρ n C e.2.1 e'.val/\e.2.2=e'.born
theorem Gr{ρ:Pos->Loc}{n:Nat}{C:Cells}{pk:PK}{d:TypeDesc}(hk:pk.fits d=true){u:AV}{x:Value}(hu:aC ρ n C u x):
  ∀{es:List (AV×AV×Nat)}{es':List MapEntry}{i:Nat}{r:Option (Nat×AV)},MO ρ n C es es'->iu pk u es i=some r->
  ∃r',Instr.findNow d x es' i=some r'/\((r=none/\r'=none)\/∃j v y,r=some (j,v)/\r'=some (j,y)/\aC ρ n C v y/\i<=j/\j<i+es.length)
 |[],es',i,r,he,h=>by
  simp[iu]at h;subst h;cases es' with
  |nil=>exact⟨none,rfl,.inl ⟨rfl,rfl⟩⟩
  |cons e es'=>have:=he.1;simp at this
 |(k',v,born)::es,es',i,r,he,h=>by
  cases es' with
  |nil=>have:=he.1;simp at this
  |cons e' es'=>
   have h0:=he.2 0 (k',v,born) e' rfl rfl;have rH:MO ρ n C es es':=⟨by have:=he.1;simpa using this,λj e e' h1 h2=>he.2 (j+1) e e' (by simpa using h1) (by simpa using h2)⟩
   unfold iu at h;split at h<;>first|(cases h;done)|skip
   .    rename_i hq;simp only[H5]at h;subst h;refine⟨some (i,e'.val),by simp[Instr.findNow,Zt hk hu h0.1 hq],.inr ⟨i,v,e'.val,rfl,rfl,h0.2.1,Za3 _,by simp⟩⟩
   .    rename_i hq;obtain⟨r',h1,h2⟩:=Gr hk hu rH h;refine⟨r',by simp[Instr.findNow,Zt hk hu h0.1 hq,h1],?_⟩;rcases h2 with h2|⟨j,v',y,e1,e2,e3,e4,e5⟩
        . exact .inl h2
        . exact .inr ⟨j,v',y,e1,e2,e3,by omega,by simp;omega⟩
theorem run_findKey{t:TypeId}{d:TypeDesc}(hd:P.underlying t=some d){x:Value}{es:List MapEntry}{r:Option (Nat×Value)}(h:Instr.findNow d x es 0=some r)(w:World):
  (Instr.findKey t x es).run P w= .ok r w:=by
 simp[Instr.findKey,bt hd,h]
theorem run_getObj_map{r:Nat}{es:Array MapEntry}{c:Nat}{w:World}(h:w.heap[r]? =some (.map es c)):(getObj r).run P w= .ok (.map es c) w:=by
 simp[getObj,Sem.run,h]
theorem aq4(k:TK){d:TypeDesc}(h:bZ k d=true){pk:PK}(hp:(k= .bool/\pk= .b)\/((∃i,k= .int i)/\pk= .i)\/(k= .string/\pk= .s)):pk.fits d=true:=by
 rcases hp with⟨rfl,rfl⟩|⟨⟨i,rfl⟩,rfl⟩|⟨rfl,rfl⟩
 . rw[ade h];rfl
 . rw[Vj h];rfl
 . rw[u0 h];rfl
theorem Fy(hT:dy P tt){t:Nat}{ti:TI}(ht:tt.get (key t)=some ti){z:List AV}(hz:ti.zero=some z){ρ:Pos->Loc}{n:Nat}{C:Cells}(w:World):
   ∃v,(zeroValue t).run P w= .ok v w/\aC ρ n C (kg.OM ti z) v/\aK ρ n C z v.cells.toList:=by
 obtain⟨i,hi,u9,_,MP⟩:=(hT.at ht).info;obtain⟨v,hv,hs,hlen,h1,h2⟩:=MP z hz;refine⟨v,aoI hi hv w,?_,wC hs⟩;unfold kg.OM;split
 . rename_i ha;obtain⟨cs,rfl⟩:=h1 ha;exact .OP (wC hs)
 . rename_i ha;have hc:=h2 ha;rw[hc]at hs;simp only[sM]at hs;(split at hs<;>first|(cases hs;done)|skip);rename_i a as e1 e2;simp only[H5]at hs e2;subst hs;subst e2;simp only;exact KP e1
theorem akA(hT:dy P tt)(t:TypeId)(x ix:Operand)(ok:Bool):fy P tt (.lookup t x ix ok):=by
 intro ρ C st w k xs cls fr a o vs res ho hc hW hF hx hr;simp only[kg]at hc;split at hc<;>first|(cases hc;done)|skip
 rename_i ti l fI hl;split at hc<;>first|(cases hc;done)|skip
 rename_i kt et hk;split at hc<;>first|(cases hc;done)|skip
 rename_i tk te htk oZ;obtain⟨d,hd,dH⟩:=(hT.at fI).und;rw[hk]at dH;rw[Vi dH]at hd;obtain⟨dk,hdk,ML⟩:=(hT.at htk).und;have key:∃pk z,te.zero=some z/\k= .lookup pk (kg.OM te z) ok/\xs=l/\cls= .read/\pk.fits dk=true:=by
  split at hc<;>first|(cases hc;done)|skip
  all_goals
    rename_i z h1 h2;cases hc;refine⟨_,z,h2,rfl,rfl,rfl,aq4 tk.k ML ?_⟩
  . exact .inr (.inl ⟨⟨_,h1⟩,rfl⟩)
  . exact .inr (.inr ⟨h1,rfl⟩)
  . exact .inl ⟨h1,rfl⟩
 obtain⟨pk,z,hz,rfl,rfl,rfl,NT⟩:=key;obtain⟨m,kk,rfl,h1,h2⟩:=adf hl hF hx;obtain⟨zv,Ts,hzr,_⟩:=Fy hT oZ hz (ρ:=ρ) (n:=st.next.toNat) (C:=C) w;have hck:∀e,(Instr.checkKey e 10000 kt (a.eval ix)).run P w= .ok () w:=λe=>OY hdk NT e 9999 _ w
 simp only[aG.run,lH]at hr;split at hr<;>first|(cases hr;done)|skip
 ·
  rename_i j v hm;simp only[H5]at hr;subst hr;split at hm<;>first|(cases hm;done)|skip
  . split at hm<;>first|(cases hm;done)|(simp at hm;done)
  . rename_i b;(split at hm<;>first|(cases hm;done)|skip);rename_i es c hb;obtain⟨_,he⟩:=h1.BV;obtain⟨_,_,es',dV,hlen,pF⟩:=hW.live _ _ hb;have hE:MO ρ st.next.toNat C es es'.toList:=⟨by simpa using hlen,λi e e' h1 h2=>pF i e e' h1 (by simpa using h2)⟩
    obtain⟨r',hf,nR⟩:=Gr NT h2 hE hm;rcases nR with⟨e1,_⟩|⟨j',v',y,e1,e2,e3,_⟩
    .   cases e1
    .   cases e1;subst e2;have dP:(execOp a.eval o).run P w= .ok (.value (if ok then .tuple #[y,.bool true]else y)) w:=by
          simp only[execOp,ho,Instr.lookup,Sem.run_bind,bt hd,Result.andThen_ok,he,run_getObj_map dV,hck,run_findKey hdk hf,Sem.run_pure]
        refine .pure dP ?_;cases ok
        . exact e3
        . exact .yg (aK.cons e3 (aK.cons (.bool true) aK.nil))
 ·
  rename_i hm;simp only[H5]at hr;subst hr;have dP:(execOp a.eval o).run P w= .ok (.value (if ok then .tuple #[zv,.bool false]else zv)) w:=by
    split at hm<;>first|(cases hm;done)|skip
    .   (split at hm<;>first|(cases hm;done)|skip);have he:=h1.Fx;have hf:(Instr.findKey kt (a.eval ix) []).run P w= .ok none w:=run_findKey hdk rfl w;simp only[execOp,ho,Instr.lookup,Sem.run_bind,bt hd,Result.andThen_ok,he,hck,hf,Ts,Sem.run_pure]
    .   rename_i b;(split at hm<;>first|(cases hm;done)|skip);rename_i es c hb;obtain⟨_,he⟩:=h1.BV;obtain⟨_,_,es',dV,hlen,pF⟩:=hW.live _ _ hb;have hE:MO ρ st.next.toNat C es es'.toList:=⟨by simpa using hlen,λi e e' h1 h2=>pF i e e' h1 (by simpa using h2)⟩
        obtain⟨r',hf,nR⟩:=Gr NT h2 hE hm;rcases nR with⟨_,e2⟩|⟨j',v',y,e1,_⟩
        . subst e2;simp only[execOp,ho,Instr.lookup,Sem.run_bind,bt hd,Result.andThen_ok,he,run_getObj_map dV,hck,run_findKey hdk hf,Ts,Sem.run_pure]
        . cases e1
  refine .pure dP ?_;cases ok
  . exact hzr
  . exact .yg (aK.cons hzr (aK.cons (.bool false) aK.nil))
end
section
variable{P : Program}{tt : TT}
theorem KT:∀(l:List Value)(off k:Nat)(cs:Array Value),off+k+l.length<=cs.size->
  ((l.zipIdx k).foldl (λcs (c,j)=>cs.setIfInBounds (off+j) c) cs).toList=aX cs.toList (off+k) l
 |[],off,k,cs,_=>by simp[aX,Zm2]
 |v::l,off,k,cs,h=>by
  simp only[Zc6]at h;simp only[List.zipIdx_cons,Zr5];rw[KT l off (k+1) _ (by simp;omega)];simp only[aX,Zc6,Zp5];rw[List.drop_set_of_lt (by omega)];have:off+(k+1)=(off+k)+1:=by omega
  rw[this,List.take_set,List.take_add_one];have aS:off+k<cs.toList.length:=by simp;omega
  rw[H0 aS];simp only[Option.toList_some,List.set_append,Zi4];have hm:min (off+k) cs.toList.length=off+k:=Zl3 (Zn6 aS);rw[hm,Za7 (Zo7 _),Zk8];simp;rw[show off+k+1+l.length=off+k+(l.length+1)from by omega]
theorem aay{ρ:Pos->Loc}{n:Nat}{C:Cells}(pl:Nat->Option (Nat×Nat)):∀{pp:List (Nat×Nat)}{vs cells r:List AV}{ps:List (Nat×Value)}{cs:Array Value},
  cE cells pp vs=some r->aK ρ n C cells cs.toList->aK ρ n C vs (ps.map (·.2))->ps.map (λx=>pl x.1)=pp.map some->
  ∃nv,Instr.fill pl cs ps=some nv/\aK ρ n C r nv.toList
 |[],vs,cells,r,ps,cs,h,hc,hv,hp=>by
  unfold cE at h;split at h<;>first|(cases h;done)|skip
  . simp only[H5]at h;subst h;have:ps=[]:=(by simpa using hv.qy);subst this;exact⟨cs,rfl,hc⟩
  . rename_i hh;cases hh
 |(off  ,size)::pp,vs,cells,r,ps,cs,h,hc,hv,hp=>by
  unfold cE at h;split at h<;>first|(cases h;done)|skip
  . rename_i hh;cases hh
  . rename_i off' size' pp' v vs' hh;simp only[Zg2,Zc9]at hh;obtain⟨⟨rfl,rfl⟩,rfl⟩:=hh;(split at h<;>first|(cases h;done)|skip);rename_i h1 h2;have h1:=Za6 h1;have h2:=Zb4 h2;cases ps with
    |nil=>have:=hv.1;simp at this
    |   cons p ps=>
        obtain⟨i,x⟩:=p;simp only[Zd5,Zg2]at hp hv;obtain⟨ki,Gs⟩:=hp;obtain⟨y,ys,zA,hx,CA⟩:=hv.cons_inv;simp only[Zg2]at zA;obtain⟨rfl,rfl⟩:=zA;have hxc:=hx.cells;have hlen:x.cells.size=size:=(by rw[<-h1,hxc.1];simp);have gR:off+size<=cs.size:=(by have:=hc.1;simp at this;omega);have aul:(x.cells.zipIdx.foldl (λcs (c,j)=>cs.setIfInBounds (off+j) c) cs).toList=aX cs.toList off x.cells.toList:=(by rw[<-Array.foldl_toList,Array.toList_zipIdx];have:=KT x.cells.toList off 0 cs (by simp;omega);simpa using this);obtain⟨nv,e1,e2⟩:=aay pl h (cs:=x.cells.zipIdx.foldl (λcs (c,j)=>cs.setIfInBounds (off+j) c) cs) (by rw[aul];exact hc.aX hxc off) CA Gs;refine⟨nv,?_,e2⟩;simp only[Instr.fill,ki];rw[Za7 (by simp[hlen];omega)];exact e1
theorem Tt(hT:dy P tt){gs:Array Field}(w:World):∀{fs:List (Nat×Nat×Bool)}(_hm:bZ.fe fs gs.toList=true){is:List Nat}{pp:List (Nat×Nat)}
  (_h:kg.places tt fs is=some pp) {Vo:List (Nat×Nat)} (_hpl:∀(i:Nat)(f:Field)(inf:TypeInfo),gs.toList[i]? =some f->P.info? f.type=some inf->Vo[i]? =some (f.offset,inf.size)),
  is.map (λi=>Vo[i]?)=pp.map some
 |fs,hm,[],pp,h,Vo,zB=>by simp[kg.places]at h;subst h;rfl
 |fs,hm,i::is,pp,h,Vo,zB=>by
  unfold kg.places at h;split at h<;>first|(cases h;done)|skip
  rename_i off t nm l h1 h2;split at h<;>first|(cases h;done)|skip
  rename_i ti Vp;simp only[H5]at h;subst h;obtain⟨f,hf,e1,e2,_⟩:=Q0 hm h1;obtain⟨inf,agw,gR,_⟩:=(hT.at Vp).info;simp only at e1 e2;have:=zB i f inf hf (by rw[e2];exact agw);simp only[Zd5,this,e1,gR];rw[Tt hT w hm h2 zB]
theorem abC(hT:dy P tt):∀{fs:List (Nat×Nat×Bool)}{gs:List Field}(_hm:bZ.fe fs gs=true)(_ha:kg.afX tt fs=true),
  ∃Vo:List (Nat×Nat),gs.mapM (λf=>(P.info? f.type).map λi=>(f.offset,i.size))=some Vo/\
   ∀(i:Nat)(f:Field)(inf:TypeInfo),gs[i]? =some f->P.info? f.type=some inf->Vo[i]? =some (f.offset,inf.size)
 |[],gs,hm,ha=>by
  cases gs with
  |cons g gs=>simp[bZ.fe]at hm
  |nil=>exact⟨[],rfl,λi f inf h=>by simp at h⟩
 |(off,t,nm)::fs,gs,hm,ha=>by
  cases gs with
  |nil=>simp[bZ.fe]at hm
  |cons g gs=>
   simp[bZ.fe]at hm;unfold kg.afX at ha;(split at ha<;>first|(cases ha;done)|skip);rename_i ti Vp;obtain⟨inf,agw,_⟩:=(hT.at Vp).info;obtain⟨Vo,h1,h2⟩:=abC hT hm.2 ha;rw[hm.1.1.2]at agw;refine⟨(g.offset,inf.size)::Vo,by simp[agw,h1],λi f inf' hi hf=> ?_⟩;cases i with
   |zero=>simp at hi;subst hi;rw[agw]at hf;cases hf;rfl
   |succ i=>simp at hi ⊢; exact h2 i f inf' hi hf
theorem amv(hT:dy P tt)(t:TypeId)(ps:Array (Nat×Operand)):fy P tt (.build t ps):=by
 intro ρ C st w k xs cls fr a o vs res ho hc hW hF hx hr;simp only[kg]at hc;split at hc<;>first|(cases hc;done)|skip
 rename_i ti l fI hl;obtain⟨d,hd,dH⟩:=(hT.at fI).und;obtain⟨it,hit,_,_,MP⟩:=(hT.at fI).info
 have u7:∀(pp:List (Nat×Nat))(z:List AV)(pl:Nat->Option (Nat×Nat)),ti.zero=some z->k= .build z pp->xs=l->ps.toList.map (λx=>pl x.1)=pp.map some->
    (∀(v:Value)(parts:List (Nat×Value))(cells:Array Value),it.zero=some v->Instr.fill pl v.cells parts=some cells->P.built t parts=some cells)->
    Ge P ρ C st w ((execOp a.eval o).run P w) res:=by
   rintro pp z pl hz rfl rfl Zu atp;have hv:=iR hl hF hx;obtain⟨v,hv0,hs,_⟩:=MP z hz;simp only[aG.run,QM]at hr;(split at hr<;>first|(cases hr;done)|skip);rename_i cs CE;simp only[H5]at hr;subst hr;have hzr:aK ρ st.next.toNat C z v.cells.toList:=wC hs;have hps:(ps.map λ(i,x)=>(i,a.eval x)).toList=ps.toList.map λx=>(x.1,a.eval x.2):=(by simp);obtain⟨nv,e1,e2⟩:=aay pl CE hzr (ps:=ps.toList.map λx=>(x.1,a.eval x.2)) (by simpa [Zh8,Zl4]using hv) (by simpa [Zh8,Zl4]using Zu);refine .pure (x:= .agg nv) ?_ (.OP e2);have dP:=run_build w t (ps.map λ(i,x)=>(i,a.eval x)) nv (atp v _ _ hv0 (by rw[hps];exact e1));simp only[execOp,ho,Sem.run_bind];rw[dP];rfl
 split at hc<;>first|(cases hc;done)|skip
 . rename_i fs z hk hz;rw[hk]at dH;obtain⟨gs,rfl,hm⟩:=MK dH;(split at hc<;>first|(cases hc;done)|skip);rename_i pp zB pF;cases hc;obtain⟨Vo,h1,h2⟩:=abC hT hm pF;have Zu:=Tt hT w hm zB h2;(refine u7 pp z (λi=>Vo.toArray[i]?) hz rfl rfl (by simpa [Zh8,Zl4]using Zu) λv parts cells hv hf=> ?_);unfold Program.built;rw[hit,hd];simp only[hv,h1];exact hf
 . rename_i e z hk hz;rw[hk]at dH;rw[agq dH]at hd;(split at hc<;>first|(cases hc;done)|skip);rename_i te oZ;cases hc;obtain⟨ie,hie,gR,_⟩:=(hT.at oZ).info;(refine u7 _ z (λi=>some (i*te.size,te.size)) hz rfl rfl (by simp[Zh8,Zl4]) λv parts cells hv hf=> ?_);unfold Program.built;rw[hit,hd];simp only[hv,hie,gR];exact hf
end
end
end Go.Ai
