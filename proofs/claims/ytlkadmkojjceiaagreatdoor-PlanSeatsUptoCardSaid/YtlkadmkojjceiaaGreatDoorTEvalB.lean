/- Its operations answer as the model does. -/
import Derived.Test.YtlkadmkojjceiaaGreatDoorTEvalA
import Derived.Laws.StructEq
import Derived.Lib.Builder
import Derived.Laws.BytesString
set_option linter.all false
namespace Go.Ai
section
def bt:TK->TypeDesc->Bool
 |.bool,.bool=>true
 |.int k,.int k'=>Bm k k'
 |.string,.string=>true
 |.ptr e,.pointer e'=>Nat.beq e e'
 |.slice e,.slice e'=>Nat.beq e e'
 |.array n e,.array n' e'=>Nat.beq n n'&&Nat.beq e e'
 |.map k e,.map k' e'=>Nat.beq k k'&&Nat.beq e e'
 |.struct fs,.struct fs'=>cP fs fs'.toList
 |.func,.func _ _ _=>true
 |.iface,.interface _=>true
 | .Yu,.unsafePointer=>true
 |.other,.interface _=>false
 |.other,.int _=>false
 |.other,.array _ _=>false
 |.other,.struct _=>false
 |.other,_=>true
 |_,_=>false
where
 cP:List (Nat×Nat×Bool)->List Field->Bool
  |[],[]=>true
  |(off,t,named)::l,f::l'=>Nat.beq off f.offset&&Nat.beq t f.type&&(named==(f.name != "_"))&&cP l l'
  |_,_=>false
structure Xc(P:Program)(t:TypeId)(ti:TI):Prop where
 und:∃d,P.underlying t=some d/\bt ti.k d=true
 info:∃i,P.info? t=some i/\i.size=ti.size/\i.bytes=ti.bytes/\
  ∀z,ti.zero=some z->∃v,i.zero=some v/\lB v.cells.toList=some z/\z.length=ti.size/\(ti.k.isAgg=true->∃cs,v= .agg cs)/\(ti.k.isAgg=false->v.cells= #[v])
 elem:∀e,ti.k= .ptr e->∃j,P.info? e=some j
 eqs:ti.uy=true->P.stoodInHeld t=false/\P.eqGuardType P.depth t=false
def bG(P:Program)(tt:TT):Prop:=∀p ti,tt.get p=some ti->Xc P (p.toNat - 1) ti
theorem bG.at{P:Program}{tt:TT}(h:bG P tt){t:Nat}{ti:TI}(ht:tt.get (key t)=some ti):Xc P t ti:=by
 have:=h _ _ ht
 rwa [dU,Ze1]at this
section
variable{P:Program}{tt:TT}{ρ:Pos->Loc}{n:Nat}{C:Cells}
theorem aJ{t:TypeId}{d:TypeDesc}(h:P.underlying t=some d)(w:World):(underlying t).run P w= .ok d w:=run_underlying h w
theorem SH{t:TypeId}{i:TypeInfo}(h:P.info? t=some i)(w:World):(typeInfo t).run P w= .ok i w:=by simp[typeInfo,h]
theorem fW{t:TypeId}{i:TypeInfo}(h:P.info? t=some i)(w:World):(sizeOf t).run P w= .ok i.size w:=by simp[sizeOf,typeInfo,h]
theorem aau{t:TypeId}{i:TypeInfo}{v:Value}(h:P.info? t=some i)(hz:i.zero=some v)(w:World):(zeroValue t).run P w= .ok v w:=by simp[zeroValue,typeInfo,h,hz]
theorem Mt{k:TK}{d:TypeDesc}(h:bt k d=true)(w:World){t:TypeId}(ht:P.underlying t=some d):(isAgg t).run P w= .ok k.isAgg w:=by
 cases k<;>cases d<;>first|(simp[bt]at h;done)|simp[isAgg,aJ ht,TK.isAgg]
theorem ke{e:Nat}{d:TypeDesc}(h:bt (.slice e) d=true):d= .slice e:=by
 cases d<;>simp[bt]at h;rw[h]
theorem Nu{e:Nat}{d:TypeDesc}(h:bt (.ptr e) d=true):d= .pointer e:=by
 cases d<;>simp[bt]at h;rw[h]
theorem SI{m e:Nat}{d:TypeDesc}(h:bt (.array m e) d=true):d= .array m e:=by
 cases d<;>simp[bt]at h;rw[h.1,h.2]
theorem I4{k e:Nat}{d:TypeDesc}(h:bt (.map k e) d=true):d= .map k e:=by
 cases d<;>simp[bt]at h;rw[h.1,h.2]
theorem O3{d:TypeDesc}(h:bt .bool d=true):d= .bool:=by cases d<;>simp[bt]at h;rfl
theorem vk{a b:IntKind}(h:Bm a b=true):a=b:=by
 unfold Bm at h;split at h
 .assumption
 .cases h
theorem EL{k:IntKind}{d:TypeDesc}(h:bt (.int k) d=true):d= .int k:=by
 cases d<;>simp[bt]at h;rw[vk h]
theorem jX{d:TypeDesc}(h:bt .string d=true):d= .string:=by cases d<;>simp[bt]at h;rfl
theorem Df{fs:List (Nat×Nat×Bool)}{d:TypeDesc}(h:bt (.struct fs) d=true):∃gs,d= .struct gs/\bt.cP fs gs.toList=true:=by
 cases d<;>simp[bt]at h;exact⟨_,rfl,h⟩
theorem acA{d:TypeDesc}(h:bt .func d=true):∃a b c,d= .func a b c:=by
 cases d<;>simp[bt]at h;exact⟨_,_,_,rfl⟩
theorem aav{d:TypeDesc}(h:bt .iface d=true):∃a,d= .interface a:=by
 cases d<;>simp[bt]at h;exact⟨_,rfl⟩
theorem Yx{d:TypeDesc}(h:bt .Yu d=true):d= .unsafePointer:=by cases d<;>simp[bt]at h;rfl
theorem jL{α:Type}:∀(l:List α)(i:Nat),nth l i=l[i]?
 |[],_=>by simp[nth]
 |_::_,0=>rfl
 |_::l,i+1=>by simp[nth,jL l i]
theorem Gj:∀{fs:List (Nat×Nat×Bool)}{gs:List Field}{i:Nat}{x:Nat×Nat×Bool},bt.cP fs gs=true->nth fs i=some x->
  ∃f,gs[i]? =some f/\f.offset=x.1/\f.type=x.2.1/\(f.name != "_")=x.2.2
 |[],_,i,_,_,h=>by simp[nth]at h
 |(off,t,named)::l,[],i,_,h,_=>by simp[bt.cP]at h
 |(off,t,named)::l,f::l',0,x,h,hx=>by
  simp[bt.cP]at h;simp[nth]at hx;subst hx;exact⟨f,rfl,h.1.1.1.symm,h.1.1.2.symm,h.1.2.symm⟩
 |(off,t,named)::l,f::l',i+1,x,h,hx=>by
  simp[bt.cP]at h;simp[nth]at hx;obtain⟨f',h1,h2⟩:=Gj h.2 hx;exact⟨f',by simpa using h1,h2⟩
theorem Br{v:Value}{a:AV}(h:Ge v=some a):aj ρ n C a v:=by
 unfold Ge at h
 split at h<;>first
   |(cases h;done)
   |(simp only[H0]at h;subst h)
 .exact .bool _
 .exact .int _ _
 .exact .str _ _ rfl
 .exact .gq
 .exact .ax
 .exact .mO
 .exact .func _ _ _ _ _ rfl rfl (λ_ _ _ h=>by simp at h) (λ_ _ _ h=>by simp at h)
 .exact .ir
 .exact .uI
theorem o7:∀{l:List Value}{as:List AV},lB l=some as->ak ρ n C as l
 |[],as,h=>by simp[lB]at h;subst h;exact ak.nil
 |v ::l,as,h=>by
  unfold lB at h;split at h
  .rename_i a as' h1 h2;simp only[H0]at h;subst h;exact ak.cons (Br h1) (o7 h2)
  .cases h
theorem Vl{v:Value}{a:AV}(h:OZ v=some a):aj ρ n C a v:=by
 unfold OZ at h;split at h
 . split at h
   .rename_i l hl;simp only[H0]at h;subst h;exact .Bq (o7 hl)
   .cases h
 .exact Br h
theorem n8{x:Operand}{o:dA}{fr:Fr}{a:Act}{v:AV}(h:jx x=some o)(hF:eB ρ n C fr a.tmps)(hv:zb fr o=some v):aj ρ n C v (a.eval x):=by
 unfold jx at h;split at h
 .rename_i t;simp only[H0]at h;subst h;obtain⟨y,hy,hr⟩:=hF _ _ hv;rw[dU,Ze1]at hy;simp only[Act.eval,Zh4,hy,Zi5];exact hr
 . split at h
   .rename_i c hc;simp only[H0]at h;subst h;simp only[zb,H0]at hv;subst hv;exact Vl hc
   .cases h
 .rename_i f;simp only[H0]at h;subst h;simp only[zb,H0]at hv;subst hv;exact .func _ _ _ _ _ rfl rfl (λ_ _ _ h=>by simp at h) (λ_ _ _ h=>by simp at h)
 .cases h
theorem di:∀{xs:List Operand}{os:List dA}{fr:Fr}{a:Act}{vs:List AV},gZ xs=some os->eB ρ n C fr a.tmps->dB fr os=some vs->ak ρ n C vs (xs.map a.eval)
 |[],os,fr,a,vs,h,_,hv=>by simp[gZ]at h;subst h;simp[dB]at hv;subst hv;exact ak.nil
 |x ::xs,os,fr,a,vs,h,hF,hv=>by
  unfold gZ at h;split at h
  . rename_i o os' h1 h2;simp only[H0]at h;subst h;unfold dB at hv;split at hv
    .   rename_i v Lo;split at hv
        .rename_i vs' I5;simp only[H0]at hv;subst hv;exact ak.cons (n8 h1 hF Lo) (di h2 hF I5)
        .cases hv
    .   cases hv
  .cases h
theorem dV{x:Operand}{o:dA}{fr:Fr}{a:Act}{vs:List AV}(h:jx x=some o)(hF:eB ρ n C fr a.tmps)(hv:dB fr [o]=some vs):
   ∃v,vs=[v]/\aj ρ n C v (a.eval x):=by
 unfold dB at hv;split at hv
 .rename_i v Lo;simp only[dB,H0]at hv;subst hv;exact⟨v,rfl,n8 h hF Lo⟩
 .cases hv
end
def Yields(N:Next)(x:Value):Prop:=N= .value x\/(N= .skip/\x=undef)
def rU(P:Program)(ρ:Pos->Loc)(C:Cells)(st:St)(w:World)(r:Result Next):bV->Prop
 |.val v=>∃N x,r= .ok N w/\Yields N x/\aj ρ st.next.toNat C v x
 |.aG v del set new=>∃N x w' ρ',r= .ok N w'/\Yields N x/\(∀b:Pos,b.toNat<st.next.toNat->ρ' b=ρ b)/\aP ρ' C (st.aG del set new) w'/\
  aj ρ' (st.aG del set new).next.toNat C v x/\iL ρ st w ρ' (st.aG del set new) w'
 |.call f args=>∃bu:List Value,r=(callFunc f bu.toArray).run P w/\ak ρ st.next.toNat C args bu
end
section
open Go Go.RowKit
theorem jM(b o i:Nat):(⟨b,o,none⟩:Addr).add i=⟨b,o+i,none⟩:=by
 unfold Addr.add;split
 .rename_i h;subst h;rfl
 .rfl
section
variable{P:Program}{ρ ρ':Pos->Loc}{C:Cells}{st:St}{w w':World}
theorem aP.Xd(hW:aP ρ C st w){Xe:T AB}{next' b0:Pos}{x0:AB}
  (hn:st.next.toNat<=next'.toNat) (VQ:b0.toNat<next'.toNat) (aeb:Xe.get b0=some x0)
  (pP:∀b x,b≠b0->Xe.get b=some x->st.heap.get b=some x/\(ρ b).au≠(ρ' b0).au)
  (aN:∀b:Pos,b.toNat<st.next.toNat->ρ' b=ρ b)
  (hB:j7 ρ' next'.toNat C (ρ' b0) w' x0)
  (VW:∀a v,C a=some v->a.block≠(ρ' b0).au)
  (aY:(ρ' b0).au<w'.heap.size) (aec:w.heap.size<=w'.heap.size)
  (sY:∀k,k<w.heap.size->k≠(ρ' b0).au->w'.heap[k]? =w.heap[k]?):
  aP ρ' C ⟨Xe,next'⟩ w' where
 live b x hb:=by
  by_cases h:b=b0
  .  subst h;rw[aeb]at hb;cases hb;exact⟨VQ,aY,hB⟩
  .  obtain⟨h1,h2⟩:=pP b x h hb;obtain⟨h3,h4,h5⟩:=hW.live b x h1;rw[aN b h3];exact⟨Zb7 h3 hn,Zb7 h4 aec,(h5.mono aN hn).of_heap (sY _ h4 h2)⟩
 inj b  b' x x' hb iz he:=by
  by_cases h:b=b0
  .  subst h;by_cases h':b'=b
     .  exact h'.symm
     .  obtain⟨h1,h2⟩:=pP b' x' h' iz;rw[aN b' (hW.live b' x' h1).1]at he;exact absurd he.symm h2
  .  obtain⟨h1,h2⟩:=pP b x h hb;rw[aN b (hW.live b x h1).1]at he;by_cases h':b'=b0
     .  subst h';exact absurd he h2
     .  obtain⟨VX,h2'⟩:=pP b' x' h' iz;rw[aN b' (hW.live b' x' VX).1]at he;exact hW.inj b b' x x' h1 VX he
 cO a v ha:=by
  obtain⟨h1,h2⟩:=hW.cO a v ha;have Gk:a.block<w.heap.size:=World.block_lt_of_cell? _ _ h1;refine⟨?_,λb x hb=> ?_⟩
  .  rw[World.cell?_of_block (w:=w) (sY _ Gk (VW a v ha))];exact h1
  .  by_cases h:b=b0
     .  subst h;exact λe=>VW a v ha e.symm
     .  obtain⟨h3,_⟩:=pP b x h hb;rw[aN b (hW.live b x h3).1];exact h2 b x h3
 whole a v ha o ho:=by have jE:a.block<w.heap.size:=World.block_lt_of_cell? _ _ (hW.cO a v ha).1;rw[World.cell?_of_block (w:=w) (a:=⟨a.block,o,none⟩) (sY _ jE (VW a v ha))];exact hW.whole a v ha o ho
theorem aP.cell(hW:aP ρ C st w){b:Pos}{cs:List AV}{fz:Nat}(hb:st.heap.get b=some (.cells cs fz)){i:Nat}{v:AV}(hv:cs[i]? =some v):
  ∃x,w.cell? ⟨(ρ b).au,(ρ b).base+i,none⟩=some x/\aj ρ st.next.toNat C v x:=by
 obtain⟨_,_,c,e,fr,h1,h2,h3,h4,_⟩:=hW.live b _ hb;obtain⟨x,hx,hr⟩:=h4.get hv;have hi:i<cs.length:=(H3.1 hv).1;rw[Za9,Za6 hi,Zc9]at hx;exact⟨x,by simp[World.cell?,h1, <-hx],hr⟩
theorem aP.aed(hW:aP ρ C st w){b:Pos}{cs:List AV}{t:TypeId}(hb:st.heap.get b=some (.typed t cs)){i:Nat}{v:AV}(hv:cs[i]? =some v):
  ∃x,w.cell? ⟨(ρ b).au,(ρ b).base+i,none⟩=some x/\aj ρ st.next.toNat C v x:=by
 obtain⟨_,_,c,fr,h1,h2,h3,h4,_⟩:=hW.live b _ hb;obtain⟨x,hx,hr⟩:=h4.get hv;have hi:i<cs.length:=(H3.1 hv).1;rw[Za9,Za6 hi,Zc9]at hx;exact⟨x,by simp[World.cell?,h1, <-hx],hr⟩
theorem Bs{α:Type}{l l':List α}{i n:Nat}(h:cut l i n=some l'):l'=(l.drop i).take n/\i+n<=l.length:=by
 unfold cut at h;split at h
 .rename_i hb;cases h;exact⟨rfl,H4 hb⟩
 .cases h
theorem rV{α:Type}{l l':List α}{i n:Nat}(h:cut l i n=some l'):l'.length=n:=by obtain⟨rfl,h2⟩:=Bs h;simp;omega
theorem aP.loadCells(hW:aP ρ C st w){b:Pos}{cs vs:List AV}{fz off n:Nat}(hb:st.heap.get b=some (.cells cs fz))(hc:cut cs off n=some vs):
  ∃ys:List Value,(Go.loadCells ⟨(ρ b).au,(ρ b).base+off,none⟩ n).run P w= .ok ys.toArray w/\ak ρ st.next.toNat C vs ys:=by
 obtain⟨_,_,c,e,fr,h1,h2,h3,h4,_⟩:=hW.live b _ hb;obtain⟨gu,hle⟩:=Bs hc;have hr:=(h4.drop off).take n;rw[<-gu]at hr;refine⟨_,?_,hr⟩;have hlen:(List.take n (List.drop off (List.take cs.length (List.drop (ρ b).base c.toList)))).length=n:=by rw[<-hr.1];exact rV hc
 conv=>lhs;rw[<-hlen]
 refine run_loadCells_list w _ _ λj v hj=> ?_
 have Ad:j<n:=by rw[<-hlen];exact(H3.1 hj).1
 rw[Za9,Za6 Ad,Zc9,Za9,Za6 (by omega),Zc9]at hj;rw[jM];simp[World.cell?,h1, <-hj,Zg5]
theorem aP.Nv(hW:aP ρ C st w){b:Pos}{cs vs:List AV}{t:TypeId}{off n:Nat}(hb:st.heap.get b=some (.typed t cs))(hc:cut cs off n=some vs):
  ∃ys:List Value,(Go.loadCells ⟨(ρ b).au,(ρ b).base+off,none⟩ n).run P w= .ok ys.toArray w/\ak ρ st.next.toNat C vs ys:=by
 obtain⟨_,_,c,fr,h1,h2,h3,h4,_⟩:=hW.live b _ hb;obtain⟨gu,hle⟩:=Bs hc;have hr:=(h4.drop off).take n;rw[<-gu]at hr;refine⟨_,?_,hr⟩;have hlen:(List.take n (List.drop off (List.take cs.length (List.drop (ρ b).base c.toList)))).length=n:=by rw[<-hr.1];exact rV hc
 conv=>lhs;rw[<-hlen]
 refine run_loadCells_list w _ _ λj v hj=> ?_
 have Ad:j<n:=by rw[<-hlen];exact(H3.1 hj).1
 rw[Za9,Za6 Ad,Zc9,Za9,Za6 (by omega),Zc9]at hj;rw[jM];simp[World.cell?,h1, <-hj,Zg5]
theorem iW(g e:Nat)(fr:Nat×Nat):∀(vs:List Value)(i o:Nat)(cur:Array Value)(w:World),w.heap[g]? =some (.cells cur e fr)->o+i+vs.length<=cur.size->
  (∀v∈vs,v.oneCell'=true)->(∀k,o+i<=k->k<cur.size->¬(fr.1<=k/\k<fr.2))->
  ∃ w',(storeCells ⟨g,o,none⟩ vs i).run P w= .ok () w'/\w'.heap[g]? =some (.cells (aK cur.toList (o+i) vs).toArray e fr)/\
    w'.heap.size=w.heap.size/\(∀k,k≠g->w'.heap[k]? =w.heap[k]?)/\w'.os=w.os/\w'.tape=w.tape/\w'.output=w.output
 |[],i,o,cur,w,hg,_,_,_=>⟨w,by simp[storeCells],by rw[hg];simp[aK,Zj9],rfl,λ_ _=>rfl,rfl,rfl,rfl⟩
 |v ::vs,i,o,cur,w,hg,hle,h1,hf=>by
  simp only[Ze3]at hle;have hv:v.oneCell'=true:=h1 v (by simp);have Dg:w.cell? ⟨g,o+i,none⟩=some (cur[o+i]'(by omega)):=by simp[World.cell?,hg]
  have Yi:w.frozen? ⟨g,o+i,none⟩=false:=by have:=hf (o+i) (Za1 _) (by omega);simp only[World.frozen?,hg];simpa using this
  have Nw:(w.setCell ⟨g,o+i,none⟩ v).heap[g]? =some (.cells (cur.setIfInBounds (o+i) v) e fr):=by
    simp[World.setCell,Zl7,hg]
  obtain⟨w',h2,h3,h4,h5,h6,h7,h8⟩:=iW g e fr vs (i+1) o _ _ Nw (by simp;omega) (λv hv=>h1 v (by simp[hv])) (by intro k hk jy;simp at jy;exact hf k (by omega) jy);refine⟨w',?_,?_,by simp[h4],λk hk=> ?_,h6,h7,h8⟩
  .simp only[storeCells,Sem.run_bind,jM,run_store P w _ _ _ hv,Dg,Yi];simpa using h2
  .rw[h3];congr 2;simp only[aK,Ze3,Zn2];rw[List.drop_set_of_lt (by omega)];have:o+(i+1)=(o+i)+1:=(by omega);rw[this,List.take_set,Zk9];have aY:o+i<cur.toList.length:=(by simp;omega);rw[H1 aY];simp only[Option.toList_some,List.set_append,Zh9];have hm:min (o+i) cur.toList.length=o+i:=Zj5 (Nat.le_of_lt aY);rw[hm,Za5 (Zm3 _),Zn1];simp;rw[show o+i+1+vs.length=o+i+(vs.length+1)from by omega]
  .rw[h5 k hk,Below.heap_setCell _ _ _ _ (by simpa using hk)]
end
section
variable{P:Program}{tt:TT}{ρ:Pos->Loc}{C:Cells}{st:St}{w:World}{n:Nat}
theorem Yields.value(x:Value):Yields (.value x) x:= .inl rfl
theorem rU.pure{v:AV}{x:Value}{r:Result Next}(h:r= .ok (.value x) w)(hv:aj ρ st.next.toNat C v x):rU P ρ C st w r (.val v):=
 ⟨_,x,h,Yields.value x,hv⟩
theorem aj.gh{k:IntKind}{i:Int}{x:Value}(h:aj ρ n C (.int k i) x):x= .int k i:=by cases h;rfl
theorem aj.fD{b:Bool}{x:Value}(h:aj ρ n C (.bool b) x):x= .bool b:=by cases h;rfl
theorem aj.dD{s:List Nat}{x:Value}(h:aj ρ n C (.str s) x):∃bs:ByteArray,x= .string bs/\bs.data.toList.map UInt8.toNat=s:=by
 cases h with|str _ bs h=>exact⟨bs,rfl,h⟩
theorem aj.n9{x:Value}(h:aj ρ n C .gq x):x= .pointer none:=by cases h;rfl
theorem aj.eF{x:Value}(h:aj ρ n C .ax x):x= .slice none 0 0:=by cases h;rfl
theorem aj.yD{x:Value}(h:aj ρ n C .mO x):x= .map none:=by cases h;rfl
theorem aj.Gl{x:Value}(h:aj ρ n C .ir x):x= .nilFunc:=by cases h;rfl
theorem aj.SJ{x:Value}(h:aj ρ n C .uI x):x= .nilIface:=by cases h;rfl
theorem aj.dQ{b:Pos}{off:Nat}{x:Value}(h:aj ρ n C (.ptr b off) x):b.toNat<n/\x= .pointer (some ⟨(ρ b).au,(ρ b).base+off,none⟩):=by
 cases h with|ptr _ _ h=>exact⟨h,rfl⟩
theorem aj.vn{b:Pos}{x:Value}(h:aj ρ n C (.map b) x):b.toNat<n/\x= .map (some (ρ b).au):=by
 cases h with|map _ h=>exact⟨h,rfl⟩
theorem aj.Qo{t:TypeId}{v:AV}{x:Value}(h:aj ρ n C (.iface t v) x):∃y,x= .iface t y/\aj ρ n C v y:=by
 cases h with|iface _ _ y h=>exact⟨y,rfl,h⟩
theorem aj.cK{b:Pos}{off len es:Nat}{cap:Option Nat}{x:Value}(h:aj ρ n C (.slice b off len cap es) x):
  ∃(a:Addr) (aH:Nat),x= .slice (some a) len aH/\len<=aH/\(∀c,cap=some c->c=aH)/\
   (aH≠0->b.toNat<n/\a=⟨(ρ b).au,(ρ b).base+off,none⟩/\(ρ b).base+off+aH*es<=(ρ b).size):=by
 cases h with|slice _ _ _ _ _ aH a hl hc ha _=>exact⟨a,aH,rfl,hl,hc,ha⟩
theorem aj.Qp{b:Pos}{off len es:Nat}{cap:Option Nat}{x:Value}(h:aj ρ n C (.slice b off len cap es) x):cap=none->b.toNat<n:=by
 cases h with|slice _ _ _ _ _ _ _ _ _ _ hk=>exact hk
theorem aj.qE{xs:List (List AV)}{es:Nat}{x:Value}(h:aj ρ n C (.fl xs es) x):
  ∃(a:Addr) (aH:Nat) (cell:Nat->Nat->Value),x= .slice (some a) xs.length aH/\xs.length<=aH/\(xs≠[]->a.spot=none)/\
   (∀(i:Nat)(cs:List AV),xs[i]? =some cs->cs.length=es)/\
   (∀(i j:Nat)(cs:List AV)(v:AV),xs[i]? =some cs->cs[j]? =some v->C ⟨a.block,a.off+i*es+j,none⟩=some (cell i j))/\
   (∀(i j:Nat)(cs:List AV)(v:AV),xs[i]? =some cs->cs[j]? =some v->aj ρ n C v (cell i j)):=by
 cases h with|fl _ _ aH a cell hl hs cX hc hv=>exact⟨a,aH,cell,rfl,hl,hs,cX,hc,hv⟩
theorem aj.EM{xs:List (List AV)}{i j:Nat}{x:Value}(h:aj ρ n C (.fp xs i j) x):
  ∃(es au base:Nat) (cell:Nat->Nat->Value),x= .pointer (some ⟨au,base+i*es+j,none⟩)/\
   (∀(i:Nat)(cs:List AV),xs[i]? =some cs->cs.length=es)/\
   (∀(i j:Nat)(cs:List AV)(v:AV),xs[i]? =some cs->cs[j]? =some v->C ⟨au,base+i*es+j,none⟩=some (cell i j))/\
   (∀(i j:Nat)(cs:List AV)(v:AV),xs[i]? =some cs->cs[j]? =some v->aj ρ n C v (cell i j)):=by
 cases h with|fp _ _ _ es au base cell hl hc hv=>exact⟨es,au,base,cell,rfl,hl,hc,hv⟩
theorem qF(k:IntKind)(i:Int):aD k i=k.wrap i:=by
 unfold aD;split
 . rename_i h1 _;split
   .rename_i h2 _;cases k<;>simp only[SA,SB]at h1 h2<;>simp only[IntKind.wrap,IntKind.bits,IntKind.signed]<;>simp<;>omega
   .rfl
 .rfl
theorem kf(a b:Int):yW a b=(a==b):=by
 unfold yW;split
 .rename_i h _;subst h;simp
 .rename_i h _;simp[h]
theorem cZ(a b:Int):yX a b=decide (a<b):=by
 unfold yX;split<;>(rename_i h _;simp[h])
theorem fX(a b:Int):R8 a b=decide (a<=b):=by
 unfold R8;split<;>(rename_i h _;simp[h])
theorem lD:∀{a b:List Nat},gM a b=true↔a=b
 |[],[]=>by simp[gM]
 |[],_::_=>by simp[gM]
 |_::_,[]=>by simp[gM]
 |a::x,b::y=>by
  unfold gM;split
  .rename_i h;have:=H2 h;subst this;simp[lD (a:=x) (b:=y)]
  .rename_i h;have:=Zb0 h;simp[this]
theorem EN:∀{a b:List UInt8},a.map UInt8.toNat=b.map UInt8.toNat->a=b
 |[],[],_=>rfl
 |[],_::_,h=>by simp at h
 |_::_,[],h=>by simp at h
 |a::x,b::y,h=>by
  simp at h;rw[Zo1.1 h.1,EN h.2]
theorem toList_data(b:ByteArray):b.toList=b.data.toList:=ByteArray.toList_eq b
theorem pM:∀(x y:List UInt8),aA (x.map UInt8.toNat) (y.map UInt8.toNat)=Op.bytesLess x y
 |[],[]=>by simp[aA,Op.bytesLess]
 |_::_,[]=>by simp[aA,Op.bytesLess]
 |[],_::_=>by simp[aA,Op.bytesLess]
 |a ::x,b::y=>by
  simp only[Zb1,aA,Op.bytesLess];split
  .rename_i h;have:a<b:=(by rw[Zl8];simpa using h);simp[this]
  . (rename_i h;have h1:¬a<b:=by rw[Zl8];intro h';have h2:Nat.blt a.toNat b.toNat=true:=(by simpa using h');rw[h2]at h;cases h);split
    .   rename_i h2;have:a=b:=Zo1.1 (H2 h2);subst this;simp only[h1,Zn9,Bool.false_or,beq_self_eq_true,Ze0];exact pM x y
    .   (rename_i h2;have:a≠b:=λe=>Zb0 h2 (by rw[e]));simp[h1,this]
theorem EO{a b:List Nat}{x y:ByteArray}(hx:x.data.toList.map UInt8.toNat=a)(hy:y.data.toList.map UInt8.toNat=b):(x.toList==y.toList)=gM a b:=by
 rw[toList_data,toList_data,Zh5,lD,Zo0, <-hx, <-hy];exact⟨λh=>by rw[h],λh=>EN h⟩
theorem Mu{a b:List Nat}{x y:ByteArray}(hx:x.data.toList.map UInt8.toNat=a)(hy:y.data.toList.map UInt8.toNat=b):Op.bytesLess x.toList y.toList=aA a b:=by
 rw[toList_data,toList_data, <-hx, <-hy,pM]
theorem uL{a:List Nat}{x:ByteArray}(hx:x.data.toList.map UInt8.toNat=a):x.size=a.length:=by rw[<-hx,Zb3,Ze7];rfl
def PK.fits:PK->TypeDesc->Bool
 |.b,.bool=>true
 |.i,.int _=>true
 |.s,.string=>true
 |_,_=>false
theorem SK{t:TypeId}{d:TypeDesc}(hd:P.underlying t=some d){pk:PK}(hk:pk.fits d=true){a b:AV}{x y:Value}{r:Bool}{m:Nat}
   (ha:aj ρ n C a x) (hb:aj ρ n C b y) (h:uJ pk a b=some r) (w:World):(Op.equalIn (m+1) t x y).run P w= .ok r w:=by
 unfold uJ at h;split at h
 .simp only[H0]at h;subst h;rw[ha.fD,hb.fD];cases d<;>simp[PK.fits]at hk;rw[run_equalIn_bool' w m t _ _ hd]
 . split at h
   .rename_i jy;have:=vk jy;subst this;simp only[H0]at h;subst h;rw[ha.gh,hb.gh];cases d<;>simp[PK.fits]at hk;rw[run_equalIn_int w m t _ _ _ _ hd,kf]
   .cases h
 .simp only[H0]at h;subst h;obtain⟨bx,rfl,h1⟩:=ha.dD;obtain⟨bz,rfl,h2⟩:=hb.dD;cases d<;>simp[PK.fits]at hk;rw[run_equalIn_string w m t _ _ hd,EO h1 h2]
 .cases h
theorem I6:∀{fs:List (Nat×Nat×Bool)}{l:List (Nat×PK)}{gs:List Field}{xs ys:List AV}{cx cy:Array Value}{r:Bool}{m:Nat}(_hT:bG P tt)
  (_hm:bt.cP fs gs=true) (_hf:wz.fields tt fs=some l) (_hx:ak ρ n C xs cx.toList) (_hy:ak ρ n C ys cy.toList) (_h:eqFields xs ys l=some r) (w:World),
  (Op.eqFields (m+1) cx cy gs).run P w= .ok r w
 |[],l,gs,xs,ys,cx,cy,r,m,hT,hm,hf,hx,hy,h,w=>by
  cases gs with
  |cons f gs=>simp[bt.cP]at hm
  | nil=>
    simp[wz.fields]at hf;subst hf;simp[eqFields]at h;subst h;simp[Op.eqFields]
 |(off  , t,named)::fs,l,gs,xs,ys,cx,cy,r,m,hT,hm,hf,hx,hy,h,w=>by
  cases gs with
  |nil=>simp[bt.cP]at hm
  | cons f gs=>
    simp[bt.cP]at hm;obtain⟨⟨⟨ho,ht⟩,hn⟩,Yy⟩:=hm;unfold wz.fields at hf;(split at hf<;>first|(cases hf;done)|skip);rename_i ti l' cC hl';obtain⟨d,hd,bP⟩:=(hT.at cC).und;have key:∃pk,l=(off,pk)::l'/\pk.fits d=true/\(isAgg t).run P w= .ok false w:=by
        have mG:=Mt bP w hd;split at hf<;>first|(cases hf;done)|skip
        all_goals
          rename_i hk;simp only[H0]at hf;rw[hk]at bP mG;refine⟨_,hf.symm,?_,mG⟩
        .rw[O3 bP];rfl
        .rw[EL bP];rfl
        .rw[jX bP];rfl
    obtain⟨pk,rfl,DS,mG⟩:=key;have c9:f.name≠ "_" :=(by intro e;rw[e]at hn;simp at hn);unfold eqFields at h;(split at h<;>first|(cases h;done)|skip);rename_i a b ha hb;rw[jL]at ha hb;obtain⟨x,hx1,VY⟩:=hx.get ha;obtain⟨y,Ae,Bt⟩:=hy.get hb;have px:(part f.type cx f.offset).run P w= .ok x w:=by
        rw[<-ht, <-ho];simp at hx1;simp[part,mG,hx1]
    have py:(part f.type cy f.offset).run P w= .ok y w:=by
        rw[<-ht, <-ho];simp at Ae;simp[part,mG,Ae]
    simp only[Op.eqFields,Sem.run_bind,Sem.run_ite,c9,px,py,Result.andThen_ok,ne_eq,Zl0,Ze8];split at h
    .   rename_i he;rw[<-ht,SK hd DS VY Bt he w];simpa using I6 (m:=m) hT Yy hl' hx hy h w
    .   rename_i he;simp only[H0]at h;subst h;rw[<-ht,SK hd DS VY Bt he w];simp
    .   cases h
def ab9(tt:TT)(op:BinOp)(q:eI)(t:TypeId):Prop:=wz tt t=some q\/(q= .num/\op≠ .eql/\op≠ .neq)
def aee(P:Program)(tt:TT)(t:TypeId):eI->Prop
 |.num=>True
 |.bool=>P.underlying t=some .bool
 |.ptr=>∃e,P.underlying t=some (.pointer e)/\∃j,P.info? e=some j
 |.slice=>∃e,P.underlying t=some (.slice e)
 |.map=>∃k e,P.underlying t=some (.map k e)
 |.func=>∃a b c,P.underlying t=some (.func a b c)
 |.iface=>∃a,P.underlying t=some (.interface a)
 |.struct l=>∃fs gs,P.underlying t=some (.struct gs)/\bt.cP fs gs.toList=true/\wz.fields tt fs=some l/\P.stoodInHeld t=false/\P.eqGuardType P.depth t=false
theorem VZ(hT:bG P tt){t:TypeId}{q:eI}(hq:wz tt t=some q):aee P tt t q:=by
 unfold wz at hq;split at hq<;>first|(cases hq;done)|skip
 rename_i ti cC;obtain⟨d,hd,bP⟩:=(hT.at cC).und;split at hq<;>first|(cases hq;done)|skip
 all_goals rename_i hk
 all_goals rw[hk]at bP
 .simp only[H0]at hq;subst hq;rw[O3 bP]at hd;exact hd
 .simp only[H0]at hq;subst hq;trivial
 .simp only[H0]at hq;subst hq;trivial
 .simp only[H0]at hq;subst hq;rw[Nu bP]at hd;exact⟨_,hd,(hT.at cC).elem _ hk⟩
 .simp only[H0]at hq;subst hq;rw[ke bP]at hd;exact⟨_,hd⟩
 .simp only[H0]at hq;subst hq;rw[I4 bP]at hd;exact⟨_,_,hd⟩
 .simp only[H0]at hq;subst hq;obtain⟨_,_,_,rfl⟩:=acA bP;exact⟨_,_,_,hd⟩
 .simp only[H0]at hq;subst hq;obtain⟨_,rfl⟩:=aav bP;exact⟨_,hd⟩
 . (split at hq<;>first|(cases hq;done)|skip);rename_i fs _ _ l hp hl;simp only[H0]at hq;subst hq;obtain⟨gs,rfl,hm⟩:=Df bP;exact⟨fs,gs,hd,hm,hl,(hT.at cC).eqs hp⟩
theorem Xf(m:Nat)(hT:bG P tt){t:TypeId}{q:eI}(hq:wz tt t=some q){a b:AV}{x y:Value}{r:Bool}(ha:aj ρ n C a x)(hb:aj ρ n C b y)(h:F0 q a b=some r)(w:World):
   (Op.equalIn (m+1+1) t x y).run P w= .ok r w:=by
 have hi:=VZ hT hq;clear hq;unfold F0 at h;split at h<;>first|(cases h;done)|skip
 .simp only[H0]at h;subst h;rw[ha.fD,hb.fD,run_equalIn_bool' w _ t _ _ hi]
 all_goals first
   |(simp only[H0]at h;subst h)
   |skip
 .obtain⟨e,hd,_⟩:=hi;rw[ha.n9,hb.n9];(unfold Op.equalIn;rw[Sem.run_bind,aJ hd];rfl)
 .obtain⟨e,hd,_⟩:=hi;obtain⟨_,hb⟩:=hb.dQ;rw[ha.n9,hb];(unfold Op.equalIn;rw[Sem.run_bind,aJ hd];rfl)
 .obtain⟨e,hd,_⟩:=hi;obtain⟨_,ha⟩:=ha.dQ;rw[hb.n9,ha];(unfold Op.equalIn;rw[Sem.run_bind,aJ hd];rfl)
 .obtain⟨e,hd,_⟩:=hi;obtain⟨_,_,_,_,hb,_⟩:=hb.EM;rw[ha.n9,hb];(unfold Op.equalIn;rw[Sem.run_bind,aJ hd];rfl)
 .obtain⟨e,hd,_⟩:=hi;obtain⟨_,_,_,_,ha,_⟩:=ha.EM;rw[hb.n9,ha];(unfold Op.equalIn;rw[Sem.run_bind,aJ hd];rfl)
 .obtain⟨e,hd,j,hj⟩:=hi;(split at h<;>first|(cases h;done)|skip);rename_i e1 e2;have e1:=Pos.beq_eq.1 e1;have e2:=H2 e2;subst e1;subst e2;simp only[H0]at h;subst h;obtain⟨_,ha⟩:=ha.dQ;obtain⟨_,hb⟩:=hb.dQ;rw[ha,hb];simp[Op.equalIn,aJ hd,sizeOf,typeInfo,hj,run_sameAddr_same]
 .obtain⟨e,hd⟩:=hi;rw[ha.eF,hb.eF];(unfold Op.equalIn;rw[Sem.run_bind,aJ hd];rfl)
 .obtain⟨e,hd⟩:=hi;obtain⟨_,_,hb,_⟩:=hb.cK;rw[ha.eF,hb];(unfold Op.equalIn;rw[Sem.run_bind,aJ hd];rfl)
 .obtain⟨e,hd⟩:=hi;obtain⟨_,_,ha,_⟩:=ha.cK;rw[hb.eF,ha];(unfold Op.equalIn;rw[Sem.run_bind,aJ hd];rfl)
 .obtain⟨e,hd⟩:=hi;obtain⟨_,_,_,hb,_⟩:=hb.qE;rw[ha.eF,hb];(unfold Op.equalIn;rw[Sem.run_bind,aJ hd];rfl)
 .obtain⟨e,hd⟩:=hi;obtain⟨_,_,_,ha,_⟩:=ha.qE;rw[hb.eF,ha];(unfold Op.equalIn;rw[Sem.run_bind,aJ hd];rfl)
 .obtain⟨k,e,hd⟩:=hi;rw[ha.yD,hb.yD];(unfold Op.equalIn;rw[Sem.run_bind,aJ hd];rfl)
 .obtain⟨k,e,hd⟩:=hi;obtain⟨_,hb⟩:=hb.vn;rw[ha.yD,hb];(unfold Op.equalIn;rw[Sem.run_bind,aJ hd];rfl)
 .obtain⟨k,e,hd⟩:=hi;obtain⟨_,ha⟩:=ha.vn;rw[hb.yD,ha];(unfold Op.equalIn;rw[Sem.run_bind,aJ hd];rfl)
 .obtain⟨_,_,_,hd⟩:=hi;rw[ha.Gl,hb.Gl];(unfold Op.equalIn;rw[Sem.run_bind,aJ hd];rfl)
 .obtain⟨_,_,_,hd⟩:=hi;obtain⟨_,_,hb,_⟩:=hb.yA;rw[ha.Gl,hb];(unfold Op.equalIn;rw[Sem.run_bind,aJ hd];rfl)
 .obtain⟨_,_,_,hd⟩:=hi;obtain⟨_,_,ha,_⟩:=ha.yA;rw[hb.Gl,ha];(unfold Op.equalIn;rw[Sem.run_bind,aJ hd];rfl)
 .obtain⟨_,hd⟩:=hi;obtain⟨_,hb,_⟩:=hb.Qo;rw[ha.SJ,hb];(unfold Op.equalIn;rw[Sem.run_bind,aJ hd];rfl)
 .obtain⟨_,hd⟩:=hi;obtain⟨_,ha,_⟩:=ha.Qo;rw[hb.SJ,ha];(unfold Op.equalIn;rw[Sem.run_bind,aJ hd];rfl)
 .obtain⟨fs,gs,hd,hm,hl,hp,_⟩:=hi;obtain⟨cx,rfl,hx⟩:=ha.A4;obtain⟨cy,rfl,hy⟩:=hb.A4;have hfo:P.fieldsOf t=gs:=(by simp[Program.fieldsOf,hd]);rw[run_equalIn_agg w (m+1) t cx cy (by rw[hfo,hd]) hp,hfo];exact I6 (m:=m) hT hm hl hx hy h w
theorem SL(hT:bG P tt){t:TypeId}{q:eI}(hq:wz tt t=some q){a b:AV}{x y:Value}{r:Bool}(ha:aj ρ n C a x)(hb:aj ρ n C b y)(h:F0 q a b=some r)(w:World):
 (Op.equal t x y).run P w= .ok r w:=Xf 9998 hT hq ha hb h w
theorem Nx(hT:bG P tt){t:TypeId}{q:eI}(hq:wz tt t=some q){a b:AV}{x y:Value}{r:Bool}(ha:aj ρ n C a x)(hb:aj ρ n C b y)(h:F0 q a b=some r)(op:BinOp)(ox oy:Operand)(w:World):
  (eqGuard op t ox oy x y).run P w= .ok () w:=by
 have hi:=VZ hT hq;clear hq;unfold F0 at h;split at h<;>first|(cases h;done)|skip
 all_goals first
  |(obtain⟨fs,gs,hd,hm,hl,hp,hg⟩:=hi
    obtain⟨cx,rfl,hx⟩:=ha.A4;obtain⟨cy,rfl,hy⟩:=hb.A4;exact run_eqGuard_agg w op t ox oy cx cy hg)
  |(cases ha<;>cases hb<;>cases op<;>rfl)
end
section
variable{P:Program}{tt:TT}{ρ:Pos->Loc}{C:Cells}{st:St}{w:World}{n:Nat}
theorem Rz(op:BinOp)(t:TypeId)(k:IntKind)(i j:Int)(hs:op≠ .shl)(hr:op≠ .shr):(binOp op t (.int k i) (.int k j)).run P w=
  (match op with
   |.add|.sub|.mul=>Op.intArith op k i j
   |.quo|.rem=>Op.intDiv op k i j
   |.and|.or|.xor|.andNot=>Op.intBits op k i j
   |_=>Op.intCmp op i j).run P w:=by
 cases op<;>first|(exact absurd rfl hs)|(exact absurd rfl hr)|simp[binOp]
theorem aaw(hT:bG P tt){op:BinOp}{t:TypeId}{q:eI}(hq:ab9 tt op q t){a b v:AV}{x y:Value}(ha:aj ρ n C a x)(hb:aj ρ n C b y)(h:mP op q a b=some v)(ox oy:Operand):
  ∃z,(do eqGuard op t ox oy x y;binOp op t x y:Sem Value).run P w= .ok z w/\aj ρ n C v z:=by
 unfold mP at h;split at h
 ·
  rename_i k i k' j;rw[ha.gh,hb.gh];have hg:∀op,(eqGuard op t ox oy (.int k i) (.int k' j)).run P w= .ok () w:=by intro op;cases op<;>rfl
  rw[Sem.run_bind,hg,Result.andThen_ok];split at h
  . split at h
    .   cases h
    .   rename_i aY;rw[cZ]at aY;have aY:=Zk5 aY;simp only[H0]at h;subst h;exact⟨_,by simp[binOp,Op.shift,aY,qF],.int _ _⟩
  . split at h
    .   cases h
    .   rename_i aY;rw[cZ]at aY;have aY:=Zk5 aY;simp only[H0]at h;subst h;exact⟨_,by simp[binOp,Op.shift,aY],.int _ _⟩
  . rename_i hs hr;split at h
    .   cases h
    .   rename_i hk;have:=vk hk;subst this;rw[Rz op t k i j (λe=>hs e) (λe=>hr e)];split at h
        .simp only[H0]at h;subst h;exact⟨_,by simp[Op.intArith,qF],.int _ _⟩
        .simp only[H0]at h;subst h;exact⟨_,by simp[Op.intArith,qF],.int _ _⟩
        .simp only[H0]at h;subst h;exact⟨_,by simp[Op.intArith,qF],.int _ _⟩
        . split at h
          .cases h
          . (rename_i h0;rw[kf]at h0;have h0':¬j=0:=by simpa using h0);simp only[H0]at h;subst h;exact⟨_,by simp[Op.intDiv,h0',qF],.int _ _⟩
        . split at h
          .cases h
          . (rename_i h0;rw[kf]at h0;have h0':¬j=0:=by simpa using h0);simp only[H0]at h;subst h;exact⟨_,by simp[Op.intDiv,h0'],.int _ _⟩
        .simp only[H0]at h;subst h;exact⟨_,by simp[Op.intBits],.int _ _⟩
        .simp only[H0]at h;subst h;exact⟨_,by simp[Op.intBits],.int _ _⟩
        .simp only[H0]at h;subst h;exact⟨_,by simp[Op.intBits],.int _ _⟩
        .simp only[H0]at h;subst h;exact⟨_,by simp[Op.intBits],.int _ _⟩
        .simp only[H0]at h;subst h;exact⟨_,by simp[Op.intCmp,kf],.bool _⟩
        .simp only[H0]at h;subst h;refine⟨_,rfl,?_⟩;rw[kf];exact .bool _
        .simp only[H0]at h;subst h;refine⟨_,rfl,?_⟩;rw[cZ];exact .bool _
        .simp only[H0]at h;subst h;refine⟨_,rfl,?_⟩;rw[fX];exact .bool _
        .simp only[H0]at h;subst h;refine⟨_,rfl,?_⟩;rw[cZ];exact .bool _
        .simp only[H0]at h;subst h;refine⟨_,rfl,?_⟩;rw[fX];exact .bool _
        .cases h
 ·
  rename_i s u;obtain⟨bx,rfl,h1⟩:=ha.dD;obtain⟨bz,rfl,h2⟩:=hb.dD;have hg:∀op,(eqGuard op t ox oy (.string bx) (.string bz)).run P w= .ok () w:=by intro op;cases op<;>rfl
  rw[Sem.run_bind,hg,Result.andThen_ok];have hs:(binOp op t (.string bx) (.string bz)).run P w=(Op.stringOp op bx bz).run P w:=by cases op<;>rfl
  rw[hs];have e1:=EO h1 h2;have e2:=Mu h1 h2;split at h
  . split at h
    .   rename_i hb;have hb:=H4 hb;simp only[H0]at h;subst h;have mH:¬(((bx.size+bz.size:Nat):Int)>IntKind.i64.max):=(by rw[uL h1,uL h2];simp[IntKind.max,IntKind.signed,IntKind.bits];omega);refine⟨.string (bx++bz),?_,.str _ _ ?_⟩
        .simp only[Op.stringOp];rw[Za5 mH];rfl
        .rw[ByteArray.data_append,Array.toList_append,Zf4,h1,h2]
    .   cases h
  all_goals first|(cases h;done)|skip
  all_goals
    simp only[H0]at h;subst h;refine⟨_,rfl,?_⟩
    first|rw[e1,e2]|rw[e1]|rw[e2]
    exact .bool _
 ·
  rename_i hni hns;have Dh:∀op,(op= .eql\/op= .neq)->(binOp op t x y).run P w=((Op.equal t x y).run P w).andThen λr w'=>.ok (.bool (if op= .eql then r else !r)) w':=by
    rintro op (rfl|rfl)
    all_goals
        cases ha<;>cases hb<;>first
          |(exact(hni _ _ _ _ rfl rfl).elim)
          |(exact(hns _ _ rfl rfl).elim)
          |simp[binOp]
  split at h
  . split at h
    .   rename_i r hr;simp only[H0]at h;subst h;rcases hq with hq|⟨_,hq,_⟩
        .refine⟨.bool r,?_,.bool r⟩;rw[Sem.run_bind,Nx hT hq ha hb hr,Result.andThen_ok,Dh _ (.inl rfl),SL hT hq ha hb hr];rfl
        .exact absurd rfl hq
    .   cases h
  . split at h
    .   rename_i r hr;simp only[H0]at h;subst h;rcases hq with hq|⟨_,_,hq⟩
        .refine⟨.bool (!r),?_,.bool _⟩;rw[Sem.run_bind,Nx hT hq ha hb hr,Result.andThen_ok,Dh _ (.inr rfl),SL hT hq ha hb hr];rfl
        .exact absurd rfl hq
    .   cases h
  .cases h
end
def cw(P:Program)(tt:TT)(op:Op):Prop:=
 ∀  (ρ:Pos->Loc)(C:Cells)(st:St)(w:World)(k:az)(xs:List dA)(cls:VV)(fr:Fr)(a:Act)(o:Oper)(vs:List AV)(res:bV),
    o.op=op->eV tt op=some (k,xs,cls)->aP ρ C st w->eB ρ st.next.toNat C fr a.tmps->dB fr xs=some vs->
    k.run (λb=>st.heap.get b) st.next vs=some res->rU P ρ C st w ((execOp a.eval o).run P w) res
section
variable{P:Program}{tt:TT}
theorem O4{ρ:Pos->Loc}{n:Nat}{C:Cells}{x y:Operand}{os:List dA}{fr:Fr}{a:Act}{vs:List AV}(h:gZ [x,y]=some os)(hF:eB ρ n C fr a.tmps)(hv:dB fr os=some vs):
  ∃u v,vs=[u,v]/\aj ρ n C u (a.eval x)/\aj ρ n C v (a.eval y):=by
 have h1:=di h hF hv;cases vs with
 |nil=>have:=h1.1;simp at this
 |cons u vs=>
  cases vs with
  |nil=>have:=h1.1;simp at this
  |cons v vs=>
   cases vs with
   |nil=>exact⟨u,v,rfl,h1.2 0 u _ rfl rfl,h1.2 1 v _ rfl rfl⟩
   |cons z vs=>have:=h1.1;simp at this
theorem evs3{ρ:Pos->Loc}{n:Nat}{C:Cells}{x y z:Operand}{os:List dA}{fr:Fr}{a:Act}{vs:List AV}(h:gZ [x,y,z]=some os)(hF:eB ρ n C fr a.tmps)(hv:dB fr os=some vs):
  ∃u v q,vs=[u,v,q]/\aj ρ n C u (a.eval x)/\aj ρ n C v (a.eval y)/\aj ρ n C q (a.eval z):=by
 have h1:=di h hF hv
 match vs,h1 with
 |[u,v,q],h1=>exact⟨u,v,q,rfl,h1.2 0 u _ rfl rfl,h1.2 1 v _ rfl rfl,h1.2 2 q _ rfl rfl⟩
 |[],h1=>have:=h1.1;simp at this
 |[_],h1=>have:=h1.1;simp at this
 |[_,_],h1=>have:=h1.1;simp at this
 |_::_::_::_::_,h1=>have:=h1.1;simp at this
theorem aax(x:Operand):cw P tt (.move x):=by
 intro ρ C st w k xs cls fr a o vs res ho hc hW hF hx hr;simp only[eV]at hc;split at hc<;>first|(cases hc;done)|skip
 rename_i b hb;cases hc;obtain⟨v,rfl,hv⟩:=dV hb hF hx;simp only[az.run,KJ,H0]at hr;subst hr;exact .pure (by simp[execOp,ho]) hv
theorem Xg(x:Operand):cw P tt (.assign x):=by
 intro ρ C st w k xs cls fr a o vs res ho hc hW hF hx hr;simp only[eV]at hc;split at hc<;>first|(cases hc;done)|skip
 rename_i b hb;cases hc;obtain⟨v,rfl,hv⟩:=dV hb hF hx;simp only[az.run,KJ,H0]at hr;subst hr;exact .pure (by simp[execOp,ho]) hv
theorem aay(c x y:Operand):cw P tt (.pick c x y):=by
 intro ρ C st w k xs cls fr a o vs res ho hc hW hF hx hr;simp only[eV]at hc;split at hc<;>first|(cases hc;done)|skip
 rename_i l hl;cases hc;obtain⟨u,v,q,rfl,h1,h2,h3⟩:=evs3 hl hF hx;simp only[az.run,OY]at hr;split at hr<;>first|(cases hr;done)|skip
 all_goals
   simp only[H0]at hr;subst hr;have h1:=h1.fD
 .exact .pure (by simp[execOp,ho,h1,asBool]) h2
 .exact .pure (by simp[execOp,ho,h1,asBool]) h3
theorem Yz(hT:bG P tt)(op:BinOp)(t:TypeId)(x y:Operand)(yt:TypeId):cw P tt (.binOp op t x y yt):=by
 intro ρ C st w k xs cls fr a o vs res ho hc hW hF hx hr;have key:∃q,ab9 tt op q t/\k= .bin op q/\gZ [x,y]=some xs:=by
  simp only[eV]at hc;split at hc
  .rename_i q l hq hl;cases hc;exact⟨q,.inl hq,rfl,hl⟩
  .rename_i l hq hl;(split at hc<;>first|(cases hc;done)|skip);rename_i h1 h2;cases hc;exact⟨.num,.inr ⟨rfl,λe=>h1 e,λe=>h2 e⟩,rfl,hl⟩
  .cases hc
 obtain⟨q,hq,rfl,hl⟩:=key;obtain⟨u,v,rfl,h1,h2⟩:=O4 hl hF hx;simp only[az.run,gO]at hr;split at hr<;>first|(cases hr;done)|skip
 rename_i r hb;simp only[H0]at hr;subst hr;obtain⟨z,hz,hv⟩:=aaw hT hq h1 h2 hb x y (w:=w);refine .pure ?_ hv;simp only[execOp,ho];rw[Sem.run_bind,hz];rfl
theorem aaz(op:UnOp)(t:TypeId)(x:Operand):cw P tt (.unOp op t x):=by
 intro ρ C st w k xs cls fr a o vs res ho hc hW hF hx hr;simp only[eV]at hc;split at hc<;>first|(cases hc;done)|skip
 rename_i b hb;cases hc;obtain⟨v,rfl,hv⟩:=dV hb hF hx;simp only[az.run,Xa]at hr;split at hr<;>first|(cases hr;done)|skip
 rename_i r hu;simp only[H0]at hr;subst hr;unfold unA at hu;split at hu
 . (split at hu<;>first|(cases hu;done)|skip);simp only[H0]at hu;subst hu;exact .pure (by simp[execOp,ho,hv.fD,Op.unary]) (.bool _)
 . (split at hu<;>first|(cases hu;done)|skip);simp only[H0]at hu;subst hu;exact .pure (by simp[execOp,ho,hv.gh,Op.unary,Op.intArith];rfl) (by rw[qF];simpa using aj.int _ _)
 .cases hu
theorem SM(x:Operand):cw P tt (.nilCheck x):=by
 intro ρ C st w k xs cls fr a o vs res ho hc hW hF hx hr;simp only[eV]at hc;split at hc<;>first|(cases hc;done)|skip
 rename_i b hb;cases hc;obtain⟨v,rfl,hv⟩:=dV hb hF hx;simp only[az.run,DQ]at hr;split at hr<;>first|(cases hr;done)|skip
 all_goals simp only[H0]at hr;subst hr
 .obtain⟨_,he⟩:=hv.dQ;exact .pure (by simp[execOp,ho,he]) hv
 .obtain⟨_,_,_,_,he,_⟩:=hv.EM;exact .pure (by simp[execOp,ho,he]) hv
 .obtain⟨_,_,he,_⟩:=hv.yA;exact .pure (by simp[execOp,ho,he]) hv
theorem Vm(x:Operand)(i:Nat):cw P tt (.extract x i):=by
 intro ρ C st w k xs cls fr a o vs res ho hc hW hF hx hr;simp only[eV]at hc;split at hc<;>first|(cases hc;done)|skip
 rename_i b hb;cases hc;obtain⟨v,rfl,hv⟩:=dV hb hF hx;simp only[az.run,AH]at hr;split at hr<;>first|(cases hr;done)|skip
 split at hr<;>first|(cases hr;done)|skip
 rename_i u hu;simp only[H0]at hr;subst hr;obtain⟨cs,he,hs⟩:=hv.Ql;rw[jL]at hu;obtain⟨y,hy,Bu⟩:=hs.get hu;exact .pure (by simp at hy;simp[execOp,ho,he,Instr.extract,hy]) Bu
theorem Vn(hT:bG P tt)(t:TypeId)(x:Operand):cw P tt (.makeInterface t x):=by
 intro ρ C st w k xs cls fr a o vs res ho hc hW hF hx hr;simp only[eV]at hc;split at hc<;>first|(cases hc;done)|skip
 rename_i ti b cC hb;split at hc<;>first|(cases hc;done)|skip
 rename_i h1 h2;cases hc;obtain⟨v,rfl,hv⟩:=dV hb hF hx;simp only[az.run,F9,H0]at hr;subst hr;obtain⟨d,hd,hk⟩:=(hT.at cC).und;refine .pure (x:= .iface t (a.eval x)) ?_ (.iface _ _ _ hv);have hni:∀ms,d≠ .interface ms:=by
  rintro ms rfl;cases Af:ti.k<;>rw[Af]at hk<;>first|(simp[bt]at hk;done)|(exact h1 Af)|(exact h2 Af)
 simp only[execOp,ho,Instr.makeInterface,Sem.run_bind,aJ hd,Result.andThen_ok];cases d<;>first|rfl|(exact absurd rfl (hni _))
theorem Xh(fn:Fn)(first captured:Array Operand):cw P tt (.makeFunc fn first captured):=by
 intro ρ C st w k xs cls fr a o vs res ho hc hW hF hx hr;simp only[eV]at hc;split at hc<;>first|(cases hc;done)|skip
 rename_i f l hl;cases hc;have h:=di hl hF hx;simp only[az.run,Da,H0]at hr;subst hr;have e1:vs.take first.size=vs.take first.size:=rfl
 have h1:=h.take first.size
 have h2:=h.drop first.size
 simp only[Zf4]at h1 h2;rw[Zj6 (by simp)]at h1;rw[List.drop_left' (by simp)]at h2;refine .pure (x:= .func (.func f) (first.map a.eval) (captured.map a.eval)) (by simp[execOp,ho,Instr.makeFunc]) ?_;exact .func _ _ _ _ _ (by simpa using h1.1) (by simpa using h2.1) (λi v v' hv xZ=>h1.2 i v v' hv (by simpa using xZ)) (λi v v' hv xZ=>h2.2 i v v' hv (by simpa using xZ))
theorem RA(hT:bG P tt)(t:TypeId)(x:Operand)(f:Nat):cw P tt (.fieldAddr t x f):=by
 intro ρ C st w k xs cls fr a o vs res ho hc hW hF hx hr;simp only[eV]at hc;split at hc<;>first|(cases hc;done)|skip
 rename_i ti b cC hb;split at hc<;>first|(cases hc;done)|skip
 rename_i fs hk;split at hc<;>first|(cases hc;done)|skip
 rename_i off ft nm hf;split at hc<;>first|(cases hc;done)|skip
 rename_i fi hfi;split at hc<;>first|(cases hc;done)|skip
 rename_i ei;cases hc;obtain⟨v,rfl,hv⟩:=dV hb hF hx;obtain⟨d,hd,bP⟩:=(hT.at cC).und;rw[hk]at bP;obtain⟨gs,rfl,hm⟩:=Df bP;obtain⟨g,hg,lF,ya,_⟩:=Gj hm hf;simp only at lF ya;obtain⟨i,hi,jq,_⟩:=(hT.at hfi).info;have hs0:¬i.size=0:=by rw[jq];exact Zb0 ei
 simp only[az.run,I1]at hr;split at hr<;>first|(cases hr;done)|skip
 .simp only[H0]at hr;subst hr;obtain⟨aY,he⟩:=hv.dQ;refine .pure (x:= .pointer (some ⟨(ρ _).au,(ρ _).base+(_+off),none⟩)) ?_ (.ptr _ _ aY);simp at hg;simp[execOp,ho,he,Instr.fieldAt,aJ hd,hg,Instr.sureAddr,fieldPlace,ya,fW hi,hs0,jM,lF,Zg5]
 .simp only[H0]at hr;subst hr;obtain⟨es,au,base,cell,he,h1,h2,h3⟩:=hv.EM;rename_i tD i' j';refine .pure (x:= .pointer (some ⟨au,base+i'*es+(j'+off),none⟩)) ?_ (.fp _ _ _ es au base cell h1 h2 h3);simp at hg;simp[execOp,ho,he,Instr.fieldAt,aJ hd,hg,Instr.sureAddr,fieldPlace,ya,fW hi,hs0,jM,lF,Zg5]
theorem iA{ρ:Pos->Loc}{n:Nat}{C:Cells}{v:AV}{x:Value}{i:Nat}(h:aj ρ n C v x)(hi:sX v=some i):∃k,x= .int k (i:Int):=by
 unfold sX at hi;split at hi<;>first|(cases hi;done)|skip
 split at hi<;>first|(cases hi;done)|skip
 simp only[H0]at hi;subst hi;exact⟨_,h.gh⟩
theorem RB(hT:bG P tt)(t:TypeId)(x ix:Operand):cw P tt (.indexAddr t x ix):=by
 intro ρ C st w k xs cls fr a o vs res ho hc hW hF hx hr;simp only[eV]at hc;split at hc<;>first|(cases hc;done)|skip
 rename_i ti l cC hl;obtain⟨d,hd,bP⟩:=(hT.at cC).und;obtain⟨u,v,rfl,h1,h2⟩:=O4 hl hF (by
   split at hc<;>first|(cases hc;done)|skip
   all_goals
     (split at hc<;>first|(cases hc;done)|skip);cases hc;exact hx)
 split at hc<;>first|(cases hc;done)|skip
 . rename_i e hk;rw[hk]at bP;rw[ke bP]at hd;(split at hc<;>first|(cases hc;done)|skip);rename_i te eo;cases hc;obtain⟨i0,jY,jq,_⟩:=(hT.at eo).info;simp only[az.run,mQ]at hr;(split at hr<;>first|(cases hr;done)|skip);rename_i i hi;obtain⟨kk,Lp⟩:=iA h2 hi;split at hr<;>first|(cases hr;done)|skip
   .rename_i b off len cap es' _;(split at hr<;>first|(cases hr;done)|skip);rename_i aY;have aY:i<len:=(by simpa using aY);simp only[H0]at hr;subst hr;obtain⟨aa,aH,he,hle,_,ha⟩:=h1.cK;obtain⟨hb,rfl,_⟩:=ha (by omega);refine .pure (x:= .pointer (some ⟨(ρ b).au,(ρ b).base+(off+i*te.size),none⟩)) ?_ (.ptr _ _ hb);simp[execOp,ho,he,Lp,Instr.indexAt,aJ hd,asIntOf,aY,fW jY,jM,jq,Zg5]
   .rename_i tD es' _;(split at hr<;>first|(cases hr;done)|skip);rename_i aY cX;have aY:i<tD.length:=(by simpa using aY);have cX:te.size=es':=H2 cX;simp only[H0]at hr;subst hr;obtain⟨aa,aH,cell,he,hle,wD,g1,g2,g3⟩:=h1.qE;have wD:=wD (by intro e;rw[e]at aY;simp at aY);obtain⟨ab,ao,asp⟩:=aa;simp only at wD;subst wD;refine .pure (x:= .pointer (some ⟨ab,ao+i*es'+0,none⟩)) ?_ (.fp _ _ _ es' ab ao cell g1 g2 g3);simp[execOp,ho,he,Lp,Instr.indexAt,aJ hd,asIntOf,aY,fW jY,jM,jq,cX]
   .rename_i hh;cases hh
 . rename_i m e hk;rw[hk]at bP;rw[SI bP]at hd;(split at hc<;>first|(cases hc;done)|skip);rename_i te eo;cases hc;obtain⟨i0,jY,jq,_⟩:=(hT.at eo).info;simp only[az.run,mQ]at hr;(split at hr<;>first|(cases hr;done)|skip);rename_i i hi;obtain⟨kk,Lp⟩:=iA h2 hi;split at hr<;>first|(cases hr;done)|skip
   .rename_i hh;cases hh
   .rename_i hh;cases hh
   .rename_i m' b off hh;cases hh;(split at hr<;>first|(cases hr;done)|skip);rename_i aY;have aY:i<m:=(by simpa using aY);simp only[H0]at hr;subst hr;obtain⟨hb,he⟩:=h1.dQ;refine .pure (x:= .pointer (some ⟨(ρ b).au,(ρ b).base+(off+i*te.size),none⟩)) ?_ (.ptr _ _ hb);simp[execOp,ho,he,Lp,Instr.indexAt,aJ hd,asIntOf,aY,fW jY,jM,jq,Zg5,Instr.sureAddr]
end
section
variable{P:Program}{tt:TT}
theorem YA(hT:bG P tt)(t:TypeId)(x:Operand)(f:Nat):cw P tt (.field t x f):=by
 intro ρ C st w k xs cls fr a o vs res ho hc hW hF hx hr;simp only[eV]at hc;split at hc<;>first|(cases hc;done)|skip
 rename_i ti b cC hb;split at hc<;>first|(cases hc;done)|skip
 rename_i fs hk;split at hc<;>first|(cases hc;done)|skip
 rename_i off ft nm hf;split at hc<;>first|(cases hc;done)|skip
 rename_i fi hfi;cases hc;obtain⟨v,rfl,hv⟩:=dV hb hF hx;obtain⟨d,hd,bP⟩:=(hT.at cC).und;rw[hk]at bP;obtain⟨gs,rfl,hm⟩:=Df bP;obtain⟨g,hg,lF,ya,_⟩:=Gj hm hf;simp only at lF ya;obtain⟨i,hi,jq,_⟩:=(hT.at hfi).info;obtain⟨fd,hfd,hfk⟩:=(hT.at hfi).und;have mG:=Mt hfk w hfd;simp only[az.run,Mo]at hr;split at hr<;>first|(cases hr;done)|skip
 rename_i cs;obtain⟨cx,he,hs⟩:=hv.A4;simp at hg;split at hr
 . rename_i hn;(split at hr<;>first|(cases hr;done)|skip);rename_i u hu;simp only[H0]at hr;subst hr;rw[jL]at hu;obtain⟨y,hy,Bu⟩:=hs.get hu;have Xi:fi.k.isAgg=false:=by
     unfold wA at hn;split at hn
     .cases hn
     .assumption
   rw[Xi]at mG;refine .pure (x:=y) ?_ Bu;simp at hy;simp[execOp,ho,he,Instr.field,aJ hd,hg,part,ya,mG,asAgg,lF,hy]
 . rename_i m hn;simp only[H0]at hr;subst hr;have Xi:fi.k.isAgg=true/\m=fi.size:=by
     unfold wA at hn;split at hn
     .cases hn;exact⟨by assumption,rfl⟩
     .cases hn
   rw[Xi.1]at mG;refine .pure (x:= .agg (cx.extract off (off+m))) ?_ (.Bq ?_)
   .simp[execOp,ho,he,Instr.field,aJ hd,hg,part,ya,mG,asAgg,lF,fW hi,jq,Xi.2]
   .have:=(hs.drop off).take m;simpa [Zm7,List.extract]using this
theorem YB(hT:bG P tt)(t:TypeId)(x ix:Operand):cw P tt (.index t x ix):=by
 intro ρ C st w k xs cls fr a o vs res ho hc hW hF hx hr;simp only[eV]at hc;split at hc<;>first|(cases hc;done)|skip
 rename_i ti l cC hl;split at hc<;>first|(cases hc;done)|skip
 rename_i hk;cases hc;obtain⟨u,v,rfl,h1,h2⟩:=O4 hl hF hx;obtain⟨d,hd,bP⟩:=(hT.at cC).und;rw[hk]at bP;rw[jX bP]at hd;simp only[az.run,KL]at hr;split at hr<;>first|(cases hr;done)|skip
 rename_i s i hi;split at hr<;>first|(cases hr;done)|skip
 rename_i c hcx;simp only[H0]at hr;subst hr;obtain⟨bs,he,hs⟩:=h1.dD;obtain⟨kk,Lp⟩:=iA h2 hi;rw[jL, <-hs,Zb6]at hcx;obtain⟨b,hb,hbc⟩:=Zf0.1 hcx;have iz:bs[i]? =some b:=by
  obtain⟨aY,iX⟩:=H3.1 hb;have Gk:i<bs.size:=by rw[Ze7]at aY;exact aY
  rw[getElem?_pos bs i Gk];congr 1
 refine .pure (x:= .int .u8 (.ofNat c)) ?_ (.int _ _);simp[execOp,ho,he,Lp,Instr.index,aJ hd,asIntOf,iz, <-hbc]
theorem aaA(hT:bG P tt)(t:TypeId)(x:Operand):cw P tt (.load t x):=by
 intro ρ C st w k xs cls fr a o vs res ho hc hW hF hx hr;simp only[eV]at hc;split at hc<;>first|(cases hc;done)|skip
 rename_i ti b cC hb;cases hc;obtain⟨v,rfl,hv⟩:=dV hb hF hx;obtain⟨d,hd,bP⟩:=(hT.at cC).und;obtain⟨i,hi,jq,_⟩:=(hT.at cC).info;have mG:=Mt bP w hd;have hn:(wA ti=none/\ti.k.isAgg=false)\/(wA ti=some ti.size/\ti.k.isAgg=true):=by unfold wA;split<;>simp_all
 simp only[az.run,rR]at hr;split at hr<;>first|(cases hr;done)|skip
 . rename_i bb off;(split at hr<;>first|(cases hr;done)|skip);rename_i cs fz iX;obtain⟨_,he⟩:=hv.dQ;rcases hn with⟨hn,hf⟩|⟨hn,hf⟩
   .rw[hn]at hr;rw[hf]at mG;simp only at hr;(split at hr<;>first|(cases hr;done)|skip);rename_i u hu;simp only[H0]at hr;subst hr;rw[jL]at hu;obtain⟨y,hy,Bu⟩:=hW.cell iX hu;refine .pure (x:=y) ?_ Bu;simp[execOp,ho,he,Instr.loadAt,Instr.sureAddr,loadVar,mG,hy]
   .rw[hn]at hr;rw[hf]at mG;simp only at hr;(split at hr<;>first|(cases hr;done)|skip);rename_i us hu;simp only[H0]at hr;subst hr;obtain⟨ys,hy,Bu⟩:=hW.loadCells (P:=P) iX hu;refine .pure (x:= .agg ys.toArray) ?_ (.Bq (by simpa using Bu));simp[execOp,ho,he,Instr.loadAt,Instr.sureAddr,loadVar,mG,fW hi,jq,hy]
   rename_i tt0 cs iX;obtain⟨_,he⟩:=hv.dQ;rcases hn with⟨hn,hf⟩|⟨hn,hf⟩
   .rw[hn]at hr;rw[hf]at mG;simp only at hr;(split at hr<;>first|(cases hr;done)|skip);rename_i u hu;simp only[H0]at hr;subst hr;rw[jL]at hu;obtain⟨y,hy,Bu⟩:=hW.aed iX hu;refine .pure (x:=y) ?_ Bu;simp[execOp,ho,he,Instr.loadAt,Instr.sureAddr,loadVar,mG,hy]
   .rw[hn]at hr;rw[hf]at mG;simp only at hr;(split at hr<;>first|(cases hr;done)|skip);rename_i us hu;simp only[H0]at hr;subst hr;obtain⟨ys,hy,Bu⟩:=hW.Nv (P:=P) iX hu;refine .pure (x:= .agg ys.toArray) ?_ (.Bq (by simpa using Bu));simp[execOp,ho,he,Instr.loadAt,Instr.sureAddr,loadVar,mG,fW hi,jq,hy]
 . rename_i tD i' j';(split at hr<;>first|(cases hr;done)|skip);rename_i cs e8;rw[jL]at e8;obtain⟨es,au,base,cell,he,g1,g2,g3⟩:=hv.EM;rcases hn with⟨hn,hf⟩|⟨hn,hf⟩
   .rw[hn]at hr;rw[hf]at mG;simp only at hr;(split at hr<;>first|(cases hr;done)|skip);rename_i u hu;simp only[H0]at hr;subst hr;rw[jL]at hu;have Dg:=(hW.cO _ _ (g2 _ _ _ _ e8 hu)).1;refine .pure (x:=cell i' j') ?_ (g3 _ _ _ _ e8 hu);simp[execOp,ho,he,Instr.loadAt,Instr.sureAddr,loadVar,mG,Dg]
   . rw[hn]at hr;rw[hf]at mG;simp only at hr;(split at hr<;>first|(cases hr;done)|skip);rename_i us hu;simp only[H0]at hr;subst hr;obtain⟨YC,hle⟩:=Bs hu;have hlen:=rV hu;have bQ:(loadCells ⟨au,base+i'*es+j',none⟩ ti.size).run P w= .ok ((List.range ti.size).map λq=>cell i' (j'+q)).toArray w:=by
        (refine run_loadCells w _ _ _ λq hq=> ?_);rw[jM];have:cs[j'+q]? =some (cs[j'+q]'(by omega)):=H1 (by omega);rw[Zg5];exact(hW.cO _ _ (g2 _ _ _ _ e8 this)).1
     refine .pure (x:= .agg ((List.range ti.size).map λq=>cell i' (j'+q)).toArray) ?_ (.Bq ⟨by simp[hlen],λq u y hu' hy=> ?_⟩)
     .  simp[execOp,ho,he,Instr.loadAt,Instr.sureAddr,loadVar,mG,fW hi,jq,bQ]
     .  have hq:q<ti.size:=(by rw[<-hlen];exact(H3.1 hu').1);rw[YC,Za9,Za6 hq,Zc9]at hu';simp[hq]at hy;subst hy;exact g3 _ _ _ _ e8 hu'
theorem aaB{x y:Value}{ρ:Pos->Loc}{n:Nat}{C:Cells}{u v r:AV}{w:World}{st:St}(h1:aj ρ n C u x)(h2:aj ρ n C v y)(hr:A0 (λb=>st.heap.get b) st.next [u,v]=some (.val r)):
   ∃z,(Builtin.min2 x y).run P w= .ok z w/\aj ρ n C r z:=by
 simp only[A0]at hr;split at hr<;>first|(cases hr;done)|skip
 . simp only[H0,bV.val.injEq]at hr;subst hr;rw[h1.gh,h2.gh];refine⟨_,rfl,?_⟩;rw[cZ];split
   .rename_i h;rw[Za6 (Zg8 h)];exact .int _ _
   .rename_i h;rw[Za5 (Zk5 h)];exact .int _ _
 . simp only[H0,bV.val.injEq]at hr;subst hr;rename_i sa sb;obtain⟨bx,rfl,e1⟩:=h1.dD;obtain⟨bz,rfl,e2⟩:=h2.dD;have hh:(Op.stringOp .leq bx bz).run P w= .ok (.bool (aA sa sb||gM sa sb)) w:=by
     simp only[Op.stringOp,Sem.run_pure];rw[Mu e1 e2,EO e1 e2]
   refine⟨_,by simp only[Builtin.min2,Sem.run_bind,hh,Result.andThen_ok,asBool,Sem.run_pure];rfl,?_⟩;split
   .rename_i h;rw[Za6 h];exact .str _ _ e1
   .rename_i h;rw[Za5 (by rw[h];simp)];exact .str _ _ e2
theorem aaC{x y:Value}{ρ:Pos->Loc}{n:Nat}{C:Cells}{u v r:AV}{w:World}{st:St}(h1:aj ρ n C u x)(h2:aj ρ n C v y)(hr:A3 (λb=>st.heap.get b) st.next [u,v]=some (.val r)):
   ∃z,(Builtin.max2 x y).run P w= .ok z w/\aj ρ n C r z:=by
 simp only[A3]at hr;split at hr<;>first|(cases hr;done)|skip
 . simp only[H0,bV.val.injEq]at hr;subst hr;rw[h1.gh,h2.gh];refine⟨_,rfl,?_⟩;rw[cZ];split
   .rename_i h;rw[Za6 (Zg8 h)];exact .int _ _
   .rename_i h;rw[Za5 (Zk5 h)];exact .int _ _
 . simp only[H0,bV.val.injEq]at hr;subst hr;rename_i sa sb;obtain⟨bx,rfl,e1⟩:=h1.dD;obtain⟨bz,rfl,e2⟩:=h2.dD;have hh:(Op.stringOp .geq bx bz).run P w= .ok (.bool (!aA sa sb)) w:=by
     simp only[Op.stringOp,Sem.run_pure];rw[Mu e1 e2]
   refine⟨_,by simp only[Builtin.max2,Sem.run_bind,hh,Result.andThen_ok,asBool,Sem.run_pure];rfl,?_⟩;split
   .rename_i h;rw[Za5 (by rw[h];simp)];exact .str _ _ e2
   .rename_i h;rw[Za6 (by rw[h];rfl)];exact .str _ _ e1
theorem e9(xs:Array Operand)(a:Act):xs.toList.map a.eval=(xs.map a.eval).toList:=by simp
end
section
variable{P:Program}{tt:TT}
theorem vs1{ρ:Pos->Loc}{n:Nat}{C:Cells}{bs:List AV}{x:Value}(h:ak ρ n C bs [x]):∃b,bs=[b]/\aj ρ n C b x:=by
 match bs,h with
 |[b],h=>exact⟨b,rfl,h.2 0 b x rfl rfl⟩
 |[],h=>have:=h.1;simp at this
 |_::_::_,h=>have:=h.1;simp at this
theorem vs2{ρ:Pos->Loc}{n:Nat}{C:Cells}{bs:List AV}{x y:Value}(h:ak ρ n C bs [x,y]):∃b c,bs=[b,c]/\aj ρ n C b x/\aj ρ n C c y:=by
 match bs,h with
 |[b,c],h=>exact⟨b,c,rfl,h.2 0 b x rfl rfl,h.2 1 c y rfl rfl⟩
 |[],h=>have:=h.1;simp at this
 |[_],h=>have:=h.1;simp at this
 |_::_::_::_,h=>have:=h.1;simp at this
theorem vs3{ρ:Pos->Loc}{n:Nat}{C:Cells}{bs:List AV}{x y z:Value}(h:ak ρ n C bs [x,y,z]):∃b c d,bs=[b,c,d]/\aj ρ n C b x/\aj ρ n C c y/\aj ρ n C d z:=by
 match bs,h with
 |[b,c,d],h=>exact⟨b,c,d,rfl,h.2 0 b x rfl rfl,h.2 1 c y rfl rfl,h.2 2 d z rfl rfl⟩
 |[],h=>have:=h.1;simp at this
 |[_],h=>have:=h.1;simp at this
 |[_,_],h=>have:=h.1;simp at this
 |_::_::_::_::_,h=>have:=h.1;simp at this
def Bv(x:Option Value)(i:Option Nat):Prop:=(x=none/\i=none)\/∃j k,i=some j/\x=some (.int k (j:Int))
theorem Ny{ρ:Pos->Loc}{n:Nat}{C:Cells}{lo hi mx:Option Operand}{bs:List AV}{a:Act}{l h m:Option Nat}
   (hb:ak ρ n C bs ((wB lo++wB hi++wB mx).map a.eval)) (hr:bounds lo.isSome hi.isSome mx.isSome bs=some (l,h,m)):
   Bv (lo.map a.eval) l/\Bv (hi.map a.eval) h/\Bv (mx.map a.eval) m/\(m.isSome=true->h.isSome=true):=by
 unfold bounds at hr
 cases lo<;>cases hi<;>cases mx<;>simp only[Option.isSome_some,Option.isSome_none,wB,Ze5,Zf7,Ze9,Zb1,Zd3]at hb hr<;>
   first|(cases hr;done)|skip
 . cases bs with
   |cons b bs=>have:=hb.1;simp at this
   |nil=>simp at hr;obtain⟨rfl,rfl,rfl⟩:=hr;exact⟨.inl ⟨rfl,rfl⟩,.inl ⟨rfl,rfl⟩,.inl ⟨rfl,rfl⟩,λh=>by cases h⟩
 .obtain⟨b,rfl,h1⟩:=vs1 hb;simp only at hr;(split at hr<;>first|(cases hr;done)|skip);rename_i j hj;obtain⟨k,hk⟩:=iA h1 hj;simp at hr;obtain⟨rfl,rfl,rfl⟩:=hr;exact⟨.inl ⟨rfl,rfl⟩,.inr ⟨j,k,rfl,by simp[hk]⟩,.inl ⟨rfl,rfl⟩,λh=>by cases h⟩
 .obtain⟨b,c,rfl,h1,h2⟩:=vs2 hb;simp only at hr;(split at hr<;>first|(cases hr;done)|skip);rename_i j j' hj Ad;obtain⟨k,hk⟩:=iA h1 hj;obtain⟨k',jy⟩:=iA h2 Ad;simp at hr;obtain⟨rfl,rfl,rfl⟩:=hr;exact⟨.inl ⟨rfl,rfl⟩,.inr ⟨j,k,rfl,by simp[hk]⟩,.inr ⟨j',k',rfl,by simp[jy]⟩,λ_=>rfl⟩
 .obtain⟨b,rfl,h1⟩:=vs1 hb;simp only at hr;(split at hr<;>first|(cases hr;done)|skip);rename_i j hj;obtain⟨k,hk⟩:=iA h1 hj;simp at hr;obtain⟨rfl,rfl,rfl⟩:=hr;exact⟨.inr ⟨j,k,rfl,by simp[hk]⟩,.inl ⟨rfl,rfl⟩,.inl ⟨rfl,rfl⟩,λh=>by cases h⟩
 .obtain⟨b,c,rfl,h1,h2⟩:=vs2 hb;simp only at hr;(split at hr<;>first|(cases hr;done)|skip);rename_i j j' hj Ad;obtain⟨k,hk⟩:=iA h1 hj;obtain⟨k',jy⟩:=iA h2 Ad;simp at hr;obtain⟨rfl,rfl,rfl⟩:=hr;exact⟨.inr ⟨j,k,rfl,by simp[hk]⟩,.inr ⟨j',k',rfl,by simp[jy]⟩,.inl ⟨rfl,rfl⟩,λh=>by cases h⟩
 .obtain⟨b,c,d,rfl,h1,h2,h3⟩:=vs3 hb;simp only at hr;(split at hr<;>first|(cases hr;done)|skip);rename_i j j' j'' hj Ad hj'';obtain⟨k,hk⟩:=iA h1 hj;obtain⟨k',jy⟩:=iA h2 Ad;obtain⟨k'',hk''⟩:=iA h3 hj'';simp at hr;obtain⟨rfl,rfl,rfl⟩:=hr;exact⟨.inr ⟨j,k,rfl,by simp[hk]⟩,.inr ⟨j',k',rfl,by simp[jy]⟩,.inr ⟨j'',k'',rfl,by simp[hk'']⟩,λ_=>rfl⟩
theorem yb(isS:Bool){len cap:Nat}{xl xh xm:Option Value}{l h m:Option Nat}(h1:Bv xl l)(h2:Bv xh h)(h3:Bv xm m)(hmh:m.isSome=true->h.isSome=true)
  (EP:l.getD 0<=h.getD len) (hhm:h.getD len<=m.getD cap) (hmc:m.getD cap<=cap) (w:World):
  (Instr.sliceBounds isS len cap xl xh xm).run P w= .ok (l.getD 0,h.getD len,m.getD cap) w:=by
 rcases h1 with⟨rfl,rfl⟩|⟨jl,kl,rfl,rfl⟩<;>rcases h2 with⟨rfl,rfl⟩|⟨jh,kh,rfl,rfl⟩<;>rcases h3 with⟨rfl,rfl⟩|⟨jm,km,rfl,rfl⟩<;>
  simp only[Option.getD_none,Zi5,Option.isSome_some,Option.isSome_none]at EP hhm hmc hmh ⊢ <;>
  first
   |(simp at hmh;done)
   |simp[Instr.sliceBounds,Instr.sliceBound,asIntOf,EP,hhm,hmc,Int.ofNat_le]
theorem Di{ρ:Pos->Loc}{n:Nat}{C:Cells}{b:Pos}{off es aH l h M:Nat}{aa:Addr}{aaD:Option Nat}
   (ha:aH≠0->b.toNat<n/\aa=⟨(ρ b).au,(ρ b).base+off,none⟩/\(ρ b).base+off+aH*es<=(ρ b).size)
   (h1:l<=h) (h2:h<=M) (h3:M<=aH) (hc:∀c,aaD=some c->c=M - l) (hk:aaD=none->b.toNat<n):
   aj ρ n C (.slice b (off+l*es) (h - l) aaD es) (.slice (if M=l then some aa else(some aa).map (·.add (l*es))) (h - l) (M - l)):=by
 by_cases hm:M=l
 .rw[Za6 hm];exact .slice _ _ _ _ _ _ _ (by omega) hc (λh0=>absurd (by omega) h0) hk
 .rw[Za5 hm];obtain⟨hb,rfl,hle⟩:=ha (by omega);refine .slice _ _ _ _ _ _ _ (by omega) hc (λ_=>⟨hb,by show Addr.add _ _=_;rw[jM,Zg5],?_⟩) hk;have e1:l*es+(M - l)*es=M*es:=(by rw[<-Zi1];congr 1;omega);have e2:M*es<=aH*es:=Zh3 _ h3;omega
theorem YD(hT:bG P tt)(t:TypeId)(x:Operand)(lo hi mx:Option Operand):cw P tt (.slice t x lo hi mx):=by
 intro ρ C st w k xs cls fr a o vs res ho hc hW hF hx hr;simp only[eV]at hc;split at hc<;>first|(cases hc;done)|skip
 rename_i ti l0 cC hl;obtain⟨d,hd,bP⟩:=(hT.at cC).und;split at hc<;>first|(cases hc;done)|skip
 . rename_i hk;rw[hk]at bP;rw[jX bP]at hd;(split at hc<;>first|(cases hc;done)|skip);cases hc;have hv:=di hl hF hx;simp only[wB,Zf7,Ze9,Ze5,Zb1]at hv;simp only[az.run,I0]at hr;(split at hr<;>first|(cases hr;done)|skip);rename_i u bs;(split at hr<;>first|(cases hr;done)|skip);rename_i s l h m' hb;(split at hr<;>first|(cases hr;done)|skip);rename_i h1 h2;have h1:=H4 h1;have h2:=H4 h2;simp only[H0]at hr;subst hr;obtain⟨y,ys,Bp,hu,HX⟩:=hv.cons_inv;simp only[Zh6]at Bp;obtain⟨rfl,rfl⟩:=Bp;have iX:=Ny (lo:=lo) (hi:=hi) (mx:=none) (a:=a) (by simpa [wB]using HX) hb;obtain⟨bs',he,hs⟩:=hu.dD;have ei:=uL hs
   have bQ:=yb (P:=P) false (len:=bs'.size) (cap:=bs'.size) iX.1 iX.2.1 (.inl ⟨rfl,rfl⟩:Bv none none) (λh=>by cases h)
     (by rw[ei];exact h1) (by rw[ei];simpa using h2) (by simp) w
   refine .pure (x:= .string (bs'.extract (l.getD 0) (h.getD bs'.size))) ?_ (.str _ _ ?_)
   .simp only[execOp,ho,Instr.sliceAt,Sem.run_bind,aJ hd,Result.andThen_ok,he,Instr.slice];simp[bQ]
   .rw[ei,ByteArray.data_extract,Zm7, <-hs,List.extract,Zm4,List.map_drop];rw[List.drop_take]
 . rename_i e hk;rw[hk]at bP;rw[ke bP]at hd;(split at hc<;>first|(cases hc;done)|skip);rename_i te eo;cases hc;obtain⟨i0,jY,jq,_⟩:=(hT.at eo).info;have hv:=di hl hF hx;simp only[Ze9,Ze5,Zi2,Zb1]at hv;simp only[az.run,nQ]at hr;(split at hr<;>first|(cases hr;done)|skip);rename_i u bs;obtain⟨y,ys,Bp,hu,HX⟩:=hv.cons_inv;simp only[Zh6]at Bp;obtain⟨rfl,rfl⟩:=Bp
   have lF:∀(sa:Option Addr)(len cap:Nat)(l h m:Option Nat),a.eval x= .slice sa len cap->bounds lo.isSome hi.isSome mx.isSome bs=some (l,h,m)->
        l.getD 0<=h.getD len->h.getD len<=m.getD cap->m.getD cap<=cap->
        (execOp a.eval o).run P w= .ok (.value (.slice (if m.getD cap=l.getD 0 then sa else sa.map (·.add (l.getD 0*te.size))) (h.getD len - l.getD 0) (m.getD cap - l.getD 0))) w:=by
     intro sa len cap l h m he hb h1 h2 h3;have iX:=Ny (lo:=lo) (hi:=hi) (mx:=mx) (a:=a) (by simpa [Zi2]using HX) hb;have bQ:=yb (P:=P) true (len:=len) (cap:=cap) iX.1 iX.2.1 iX.2.2.1 iX.2.2.2 h1 h2 h3 w;simp only[execOp,ho,Instr.sliceAt,Sem.run_bind,aJ hd,Result.andThen_ok,he,Instr.slice,bQ,fW jY,jq,Sem.run_pure]
   split at hr<;>first|(cases hr;done)|skip
   ·
     rename_i b off len cap es' l h m hb;(split at hr<;>first|(cases hr;done)|skip);rename_i cX EP;have cX:te.size=es':=H2 cX;subst cX;have EP:=H4 EP;obtain⟨aa,aH,he,hle,O5,ha⟩:=hu.cK;split at hr
     .  rename_i c m';(split at hr<;>first|(cases hr;done)|skip);rename_i e1 e2;have e1:=H4 e1;have e2:=H4 e2;have:=O5 c rfl;subst this;simp only[H0]at hr;subst hr;exact .pure (lF _ _ _ _ _ _ he hb EP (by simpa using e1) (by simpa using e2)) (Di ha EP e1 e2 (λc hc=>by cases hc;rfl) (λh=>by cases h))
     .  rename_i c;(split at hr<;>first|(cases hr;done)|skip);rename_i e1;have e1:=H4 e1;have:=O5 c rfl;subst this;simp only[H0]at hr;subst hr;exact .pure (lF _ _ _ _ _ _ he hb EP (by simpa using e1) (by simp)) (Di ha EP e1 (Za1 _) (λc hc=>by cases hc;rfl) (λh=>by cases h))
     .  rename_i m';(split at hr<;>first|(cases hr;done)|skip);rename_i e1 e2;have e1:=H4 e1;have e2:=H4 e2;simp only[H0]at hr;subst hr;exact .pure (lF _ _ _ _ _ _ he hb EP (by simpa using e1) (by simp;omega)) (Di ha EP e1 (by simp;omega) (λc hc=>by cases hc;rfl) (λh=>by cases h))
     .  (split at hr<;>first|(cases hr;done)|skip);rename_i e1;have e1:=H4 e1;simp only[H0]at hr;subst hr;exact .pure (lF _ _ _ _ _ _ he hb EP (by simp;omega) (by simp)) (Di ha EP (by simp;omega) (Za1 _) (λc hc=>by cases hc) (λ_=>hu.Qp rfl))
   ·
     rename_i tD es' l h m hb;(split at hr<;>first|(cases hr;done)|skip);rename_i cX;have cX:te.size=es':=H2 cX;subst cX;obtain⟨aa,aH,cell,he,hle,wD,g1,g2,g3⟩:=hu.qE;split at hr
     .  rename_i m';(split at hr<;>first|(cases hr;done)|skip);rename_i e0 e1 e2;have e0:=H2 e0;have e1:=H2 e1;have e2:=H2 e2;subst e2;simp only[H0]at hr;subst hr;refine .pure (lF _ _ _ _ _ _ he hb (by omega) (by rw[e1];simp) (by simp)) ?_;simp only[e0,e1,Zi5,Zn1,Ze8];exact .slice _ _ _ _ _ _ _ (Za1 _) (λc hc=>by cases hc;rfl) (λh0=>absurd rfl h0) (λh=>by cases h)
     .  (split at hr<;>first|(cases hr;done)|skip);rename_i e0 e1;have e0:=H4 e0;have e1:=H4 e1;simp only[H0]at hr;subst hr;refine .pure (lF _ _ _ _ _ _ he hb e0 (by simp;omega) (by simp)) ?_;simp only[Option.getD_none];have hlen:(List.drop (l.getD 0) (List.take (h.getD tD.length) tD)).length=h.getD tD.length - l.getD 0:=(by simp;omega);rw[<-hlen];have pP:∀i cs,(List.drop (l.getD 0) (List.take (h.getD tD.length) tD))[i]? =some cs->tD[l.getD 0+i]? =some cs:=by
          intro i cs hi;rw[Zc9,Za9]at hi;split at hi
          .exact hi
          .cases hi
        by_cases hcl:aH=l.getD 0
        .rw[Za6 hcl];have hemp:List.drop (l.getD 0) (List.take (h.getD tD.length) tD)=[]:=(by apply Za7;rw[hlen];omega);rw[hemp];exact .fl _ _ _ _ (λ_ _=>undef) (by simp) (λh=>absurd rfl h) (λi cs hi=>by simp at hi) (λi j cs v hi=>by simp at hi) (λi j cs v hi=>by simp at hi)
        . rw[Za5 hcl];by_cases c9:tD=[]
          .subst c9;simp only[List.take_nil,List.drop_nil];exact .fl _ _ _ _ (λ_ _=>undef) (by simp) (λh=>absurd rfl h) (λi cs hi=>by simp at hi) (λi j cs v hi=>by simp at hi) (λi j cs v hi=>by simp at hi)
          .have wD:=wD c9;obtain⟨ab,ao,asp⟩:=aa;simp only at wD;subst wD;simp only[Zd9,jM];refine .fl _ _ _ _ (λi j=>cell (l.getD 0+i) j) (by rw[hlen];omega) (λ_=>rfl) (λi cs hi=>g1 _ _ (pP i cs hi)) (λi j cs v hi hj=> ?_) (λi j cs v hi hj=>g3 _ _ _ _ (pP i cs hi) hj);have:=g2 _ _ _ _ (pP i cs hi) hj;simp only at this ⊢;rw[<-this];congr 2;rw[Zi1];omega
   ·
     rename_i l h m hb;(split at hr<;>first|(cases hr;done)|skip);rename_i e0 e1 e2;have e0:=H2 e0;have e1:=H2 e1;have e2:=H2 e2;simp only[H0]at hr;subst hr;have he:=hu.eF;refine .pure (lF _ _ _ _ _ _ he hb (by omega) (by omega) (by omega)) ?_;simp only[e0,e1,e2,Zn1,Ze8];exact .ax
end
section
variable{P:Program}{tt:TT}
theorem DT{ρ:Pos->Loc}{n:Nat}{C:Cells}:∀{l:List AV}{s:List Nat}{ys:List Value},bytesOf l=some s->ak ρ n C l ys->
  ys=(s.map Int.ofNat).map (Value.int .u8)/\∀c,c∈s->c<256
 |[],s,ys,h,hv=>by
  simp[bytesOf]at h;subst h;exact⟨by simpa using hv.k8,λc hc=>by simp at hc⟩
 |v ::l,s,ys,h,hv=>by
  unfold bytesOf at h;split at h<;>first|(cases h;done)|skip
  .rename_i h0;simp at h0
  . rename_i c l' he;simp only[Zh6]at he;obtain⟨rfl,rfl⟩:=he;(split at h<;>first|(cases h;done)|skip);rename_i s' aY kg;simp only[H0]at h;subst h;obtain⟨y,ys',rfl,h1,h2⟩:=hv.cons_inv;obtain⟨e,fE⟩:=DT kg h2;have aY:c<256:=(by simpa using aY);refine⟨by rw[h1.gh,e];rfl,λc' hc=> ?_⟩;simp at hc;rcases hc with rfl|hc
    .exact aY
    .exact fE _ hc
theorem Dj:∀(s:List Nat)(acc:ByteArray),((s.map Int.ofNat).foldl (λr n=>r.push (UInt8.ofNat n.toNat)) acc).data.toList=acc.data.toList++s.map UInt8.ofNat
 |[],acc=>by simp
 |c::s,acc=>by
  simp only[Zb1,Zo2];rw[Dj s];simp[ByteArray.push]
theorem Vo{P:Program}{e:TypeId}(hc:P.cellsOf e≠0)(count:Nat)(hn:1<=count):liesAt P P.depth e count 0 e 1=true:=by
 have hd:P.depth=(2*(P.types.size+Made.depth)+1)+1:=rfl;rw[hd];simp only[liesAt,Zg6];left;rw[hd];simp[rowAt,hc,hn,sameLayout]
theorem Vp(hT:bG P tt)(src dst:TypeId)(x:Operand)(hnb:∀k xs cls,eV tt (.convert src dst x)=some (k,xs,cls)->k≠ .conv .bytes):cw P tt (.convert src dst x):=by
 intro ρ C st w k xs cls fr a o vs res ho hc hW hF hx hr;have hnb:=hnb _ _ _ hc;simp only[eV]at hc;split at hc<;>first|(cases hc;done)|skip
 rename_i s d b hs hd hb;obtain⟨ds,sw,Ag⟩:=(hT.at hs).und;obtain⟨dd,hdd,bP⟩:=(hT.at hd).und;split at hc<;>first|(cases hc;done)|skip
 . rename_i k1 k2 h1 h2;cases hc;obtain⟨v,rfl,hv⟩:=dV hb hF hx;rw[h1]at Ag;rw[h2]at bP;rw[EL Ag]at sw;rw[EL bP]at hdd;simp only[az.run,yw]at hr;split at hr<;>first|(cases hr;done)|(rename_i heq;cases heq;done)|(rename_i heq;cases heq)
   simp only[H0]at hr;subst hr;refine .pure ?_ (by rw[qF];exact .int _ _);simp[execOp,ho,hv.gh,convert,aJ sw,aJ hdd,Conv.intToInt]
 . rename_i h1 h2;cases hc;obtain⟨v,rfl,hv⟩:=dV hb hF hx;rw[h1]at Ag;rw[h2]at bP;rw[jX Ag]at sw;rw[jX bP]at hdd;simp only[az.run,yw]at hr;split at hr<;>first|(cases hr;done)|(rename_i heq;cases heq;done)|(rename_i heq;cases heq)
   simp only[H0]at hr;subst hr;obtain⟨bs,he,hs⟩:=hv.dD;exact .pure (x:= .string bs) (by simp[execOp,ho,he,convert,aJ sw,aJ hdd]) (.str _ _ hs)
 . (split at hc<;>first|(cases hc;done)|skip);(split at hc<;>first|(cases hc;done)|skip);cases hc;exact absurd rfl hnb
 . rename_i e h1 h2;(split at hc<;>first|(cases hc;done)|skip);rename_i te eo;(split at hc<;>first|(cases hc;done)|skip);rename_i YE;cases hc;obtain⟨v,rfl,hv⟩:=dV hb hF hx;rw[h1]at Ag;rw[h2]at bP;rw[ke Ag]at sw;rw[jX bP]at hdd;obtain⟨de,YF,YG⟩:=(hT.at eo).und;rw[YE]at YG;rw[EL YG]at YF;have lF:∀y:Option Addr×Nat×Nat,a.eval x= .slice y.1 y.2.1 y.2.2->(execOp a.eval o).run P w=((Conv.bytesToString (a.eval x)).run P w).andThen λv w=>.ok (.value v) w:=by
     intro y he;simp[execOp,ho,he,convert,aJ sw,aJ hdd,aJ YF]
   simp only[az.run,yw]at hr;split at hr<;>first|(cases hr;done)|(rename_i heq;cases heq;done)|(rename_i heq;cases heq)
   .simp only[H0]at hr;subst hr;have he:=hv.eF;refine .pure (x:= .string .empty) ?_ (.str _ _ rfl);rw[lF (none,0,0) he,he];simp[Conv.bytesToString]
   . rename_i bb off m cap es;obtain⟨aa,aH,he,hle,_,ha⟩:=hv.cK;split at hr
     .  rename_i h0;have:=H2 h0;subst this;simp only[H0]at hr;subst hr;refine .pure (x:= .string .empty) ?_ (.str _ _ rfl);rw[lF (some aa,0,aH) he,he];simp[Conv.bytesToString,loadCells,loadCellsFrom]
     .  (rename_i h0;have h0:=Zb0 h0;(split at hr<;>first|(cases hr;done)|skip);rename_i cs fz iX;(split at hr<;>first|(cases hr;done)|skip);rename_i l hcut;(split at hr<;>first|(cases hr;done)|skip);rename_i s' SN;simp only[H0]at hr;subst hr;obtain⟨aY,rfl,_⟩:=ha (by omega);obtain⟨ys,Bp,gu⟩:=hW.loadCells (P:=P) iX hcut;obtain⟨e1,e2⟩:=DT SN gu;rw[e1]at Bp;have bQ:=run_bytesToString (P:=P) w ⟨(ρ bb).au,(ρ bb).base+off,none⟩ m aH (s'.map Int.ofNat) Bp;refine .pure (x:= .string _) (by rw[lF (some _,m,aH) he,he,bQ];rfl) (.str _ _ ?_);rw[Dj,Zf4];have e0:ByteArray.empty.data.toList=[]:=rfl;rw[e0,Zd3,Ze5,Zf8];have e3:s'.map (UInt8.toNat∘UInt8.ofNat)=s'.map id:=Zi4 λc hc=>by have:=e2 c hc;simp only[Function.comp,id,UInt8.toNat_ofNat'];omega);rw[e3,List.map_id]
 ·
   rename_i e h1 h2;(split at hc<;>first|(cases hc;done)|skip);rename_i te eo;(split at hc<;>first|(cases hc;done)|skip);rename_i ei;cases hc;obtain⟨v,rfl,hv⟩:=dV hb hF hx;rw[h1]at Ag;rw[h2]at bP;rw[Nu Ag]at sw;rw[Yx bP]at hdd;obtain⟨i0,jY,jq,_⟩:=(hT.at eo).info;have ei:=Zb0 ei;simp only[az.run,Nq]at hr;split at hr<;>first|(cases hr;done)|skip
   .simp only[H0]at hr;subst hr;refine .pure (x:= .pointer none) ?_ .gq;simp[execOp,ho,hv.n9,convert,aJ sw,aJ hdd,Conv.unsafePointer]
   .rename_i bb off;(split at hr<;>first|(cases hr;done)|skip);rename_i t0 cs iX;(split at hr<;>first|(cases hr;done)|skip);rename_i aY;have aY:off<cs.length:=(by simpa using aY);simp only[H0]at hr;subst hr;obtain⟨_,he⟩:=hv.dQ;obtain⟨_,_,c,fr,g1,g2,g3,g4,g5,g6⟩:=hW.live _ _ iX;have Ni:w.shape? (ρ bb).au=some (t0,c.size):=(by simp[World.shape?,g1]);have:=Lib.run_to_unsafe (P:=P) (w:=w) (j:=i0) ⟨(ρ bb).au,(ρ bb).base+off,none⟩ sw hdd jY (by rw[jq];exact ei) Ni (by show(ρ bb).base+off<c.size;omega);exact .pure (x:= .pointer (some ⟨(ρ bb).au,(ρ bb).base+off,none⟩)) (by simp[execOp,ho,he,this]) (he ▸hv)
 ·
   rename_i e h1 h2;(split at hc<;>first|(cases hc;done)|skip);rename_i te eo;(split at hc<;>first|(cases hc;done)|skip);rename_i ei;cases hc;obtain⟨v,rfl,hv⟩:=dV hb hF hx;rw[h1]at Ag;rw[h2]at bP;rw[Yx Ag]at sw;rw[Nu bP]at hdd;obtain⟨i0,jY,jq,_⟩:=(hT.at eo).info;have ei:=Zb0 ei;simp only[az.run,Gc]at hr;split at hr<;>first|(cases hr;done)|skip
   .simp only[H0]at hr;subst hr;refine .pure (x:= .pointer none) ?_ .gq;simp[execOp,ho,hv.n9,convert,aJ sw,aJ hdd,Conv.unsafePointer]
   .rename_i bb;(split at hr<;>first|(cases hr;done)|skip);rename_i t0 cs iX;(split at hr<;>first|(cases hr;done)|skip);rename_i ht hle;have ht:=H2 ht;have hle:=H4 hle;subst ht;simp only[H0]at hr;subst hr;obtain⟨_,he⟩:=hv.dQ;obtain⟨_,_,c,fr,g1,g2,g3,g4,g5,g6⟩:=hW.live _ _ iX;have Ni:w.shape? (ρ bb).au=some (t0,c.size):=(by simp[World.shape?,g1]);have Dg:P.cellsOf t0=te.size:=(by simp[Program.cellsOf,jY,jq]);have hone:1<=c.size / P.cellsOf t0:=(by rw[Dg,Nat.le_div_iff_mul_le (by omega)];omega);rw[Zh1]at he;have:=Lib.run_from_unsafe (P:=P) (w:=w) (j:=i0) ⟨(ρ bb).au,(ρ bb).base,none⟩ sw hdd jY Ni (by show liesAt P P.depth t0 _ (ρ bb).base t0 1=true;rw[g6];exact Vo (by rw[Dg];exact ei) _ hone);exact .pure (x:= .pointer (some ⟨(ρ bb).au,(ρ bb).base,none⟩)) (by simp[execOp,ho,he,this]) (he ▸hv)
theorem ER{t:TypeId}{d:TypeDesc}(hd:P.underlying t=some d){pk:PK}(hk:pk.fits d=true)(e:Bool)(m:Nat)(x:Value)(w:World):
  (Instr.checkKey e (m+1) t x).run P w= .ok () w:=by
 unfold Instr.checkKey;rw[Sem.run_bind,aJ hd,Result.andThen_ok];cases pk<;>cases d<;>simp[PK.fits]at hk<;>rfl
theorem Lq{ρ:Pos->Loc}{n:Nat}{C:Cells}{pk:PK}{d:TypeDesc}(hk:pk.fits d=true){u v:AV}{x y:Value}{r:Bool}
   (h1:aj ρ n C u x) (h2:aj ρ n C v y) (h:uJ pk u v=some r):Instr.sameNow d x y=some r:=by
 unfold uJ at h;split at h<;>first|(cases h;done)|skip
 .simp only[H0]at h;subst h;cases d<;>simp[PK.fits]at hk;rw[h1.fD,h2.fD];rfl
 . (split at h<;>first|(cases h;done)|skip);rename_i Af;have:=vk Af;subst this;simp only[H0]at h;subst h;cases d<;>simp[PK.fits]at hk;rw[h1.gh,h2.gh];simp[Instr.sameNow,kf]
 .simp only[H0]at h;subst h;cases d<;>simp[PK.fits]at hk;obtain⟨bx,rfl,e1⟩:=h1.dD;obtain⟨bz,rfl,e2⟩:=h2.dD;simp only[Instr.sameNow];rw[beq_toListBytes,EO e1 e2]
def Dk(ρ:Pos->Loc)(n:Nat)(C:Cells)(es:List (AV×AV×Nat))(es':List MapEntry):Prop:=
 es.length=es'.length/\∀(i:Nat)(e:AV×AV×Nat)(e':MapEntry),es[i]? =some e->es'[i]? =some e'->aj ρ n C e.1 e'.key/\aj ρ n C e.2.1 e'.val/\e.2.2=e'.born
theorem zc{ρ:Pos->Loc}{n:Nat}{C:Cells}{pk:PK}{d:TypeDesc}(hk:pk.fits d=true){u:AV}{x:Value}(hu:aj ρ n C u x):
  ∀{es:List (AV×AV×Nat)}{es':List MapEntry}{i:Nat}{r:Option (Nat×AV)},Dk ρ n C es es'->iw pk u es i=some r->
  ∃r',Instr.findNow d x es' i=some r'/\((r=none/\r'=none)\/∃j v y,r=some (j,v)/\r'=some (j,y)/\aj ρ n C v y/\i<=j/\j<i+es.length)
 |[],es',i,r,he,h=>by
  simp[iw]at h;subst h;cases es' with
  |nil=>exact⟨none,rfl,.inl ⟨rfl,rfl⟩⟩
  |cons e es'=>have:=he.1;simp at this
 |(k',v,born)::es,es',i,r,he,h=>by
  cases es' with
  |nil=>have:=he.1;simp at this
  |cons e' es'=>
   have h0:=he.2 0 (k',v,born) e' rfl rfl;have ji:Dk ρ n C es es':=⟨by have:=he.1;simpa using this,λj e e' h1 h2=>he.2 (j+1) e e' (by simpa using h1) (by simpa using h2)⟩
   unfold iw at h;split at h<;>first|(cases h;done)|skip
   .    rename_i hq;simp only[H0]at h;subst h;refine⟨some (i,e'.val),by simp[Instr.findNow,Lq hk hu h0.1 hq],.inr ⟨i,v,e'.val,rfl,rfl,h0.2.1,Za1 _,by simp⟩⟩
   .    rename_i hq;obtain⟨r',h1,h2⟩:=zc hk hu ji h;refine⟨r',by simp[Instr.findNow,Lq hk hu h0.1 hq,h1],?_⟩;rcases h2 with h2|⟨j,v',y,e1,e2,e3,e4,e5⟩
        .exact .inl h2
        .exact .inr ⟨j,v',y,e1,e2,e3,by omega,by simp;omega⟩
theorem run_findKey{t:TypeId}{d:TypeDesc}(hd:P.underlying t=some d){x:Value}{es:List MapEntry}{r:Option (Nat×Value)}(h:Instr.findNow d x es 0=some r)(w:World):
  (Instr.findKey t x es).run P w= .ok r w:=by
 simp[Instr.findKey,aJ hd,h]
theorem run_getObj_map{r:Nat}{es:Array MapEntry}{c:Nat}{w:World}(h:w.heap[r]? =some (.map es c)):(getObj r).run P w= .ok (.map es c) w:=by
 simp[getObj,Sem.run,h]
theorem acd(k:TK){d:TypeDesc}(h:bt k d=true){pk:PK}(hp:(k= .bool/\pk= .b)\/((∃i,k= .int i)/\pk= .i)\/(k= .string/\pk= .s)):pk.fits d=true:=by
 rcases hp with⟨rfl,rfl⟩|⟨⟨i,rfl⟩,rfl⟩|⟨rfl,rfl⟩
 .rw[O3 h];rfl
 .rw[EL h];rfl
 .rw[jX h];rfl
theorem qG(hT:bG P tt){t:Nat}{ti:TI}(ht:tt.get (key t)=some ti){z:List AV}(hz:ti.zero=some z){ρ:Pos->Loc}{n:Nat}{C:Cells}(w:World):
   ∃v,(zeroValue t).run P w= .ok v w/\aj ρ n C (eV.EI ti z) v/\ak ρ n C z v.cells.toList:=by
 obtain⟨i,hi,jq,_,yc⟩:=(hT.at ht).info;obtain⟨v,hv,hs,hlen,h1,h2⟩:=yc z hz;refine⟨v,aau hi hv w,?_,o7 hs⟩;unfold eV.EI;split
 .rename_i ha;obtain⟨cs,rfl⟩:=h1 ha;exact .Bq (o7 hs)
 .rename_i ha;have hc:=h2 ha;rw[hc]at hs;simp only[lB]at hs;(split at hs<;>first|(cases hs;done)|skip);rename_i a as e1 e2;simp only[H0]at hs e2;subst hs;subst e2;simp only;exact Br e1
theorem Xj(hT:bG P tt)(t:TypeId)(x ix:Operand)(ok:Bool):cw P tt (.lookup t x ix ok):=by
 intro ρ C st w k xs cls fr a o vs res ho hc hW hF hx hr;simp only[eV]at hc;split at hc<;>first|(cases hc;done)|skip
 rename_i ti l cC hl;split at hc<;>first|(cases hc;done)|skip
 rename_i kt et hk;split at hc<;>first|(cases hc;done)|skip
 rename_i tk te yd eo;obtain⟨d,hd,bP⟩:=(hT.at cC).und;rw[hk]at bP;rw[I4 bP]at hd;obtain⟨dk,Qq,Af⟩:=(hT.at yd).und;have key:∃pk z,te.zero=some z/\k= .lookup pk (eV.EI te z) ok/\xs=l/\cls= .read/\pk.fits dk=true:=by
  split at hc<;>first|(cases hc;done)|skip
  all_goals
    rename_i z h1 h2;cases hc;refine⟨_,z,h2,rfl,rfl,rfl,acd tk.k Af ?_⟩
  .exact .inr (.inl ⟨⟨_,h1⟩,rfl⟩)
  .exact .inr (.inr ⟨h1,rfl⟩)
  .exact .inl ⟨h1,rfl⟩
 obtain⟨pk,z,hz,rfl,rfl,rfl,DS⟩:=key;obtain⟨m,kk,rfl,h1,h2⟩:=O4 hl hF hx;obtain⟨zv,ye,Nz,_⟩:=qG hT eo hz (ρ:=ρ) (n:=st.next.toNat) (C:=C) w;have HY:∀e,(Instr.checkKey e 10000 kt (a.eval ix)).run P w= .ok () w:=λe=>ER Qq DS e 9999 _ w
 simp only[az.run,u9]at hr;split at hr<;>first|(cases hr;done)|skip
 ·
  rename_i j v hm;simp only[H0]at hr;subst hr;split at hm<;>first|(cases hm;done)|skip
  .split at hm<;>first|(cases hm;done)|(simp at hm;done)
  . rename_i b;(split at hm<;>first|(cases hm;done)|skip);rename_i es c hb;obtain⟨_,he⟩:=h1.vn;obtain⟨_,_,es',cX,hlen,fE⟩:=hW.live _ _ hb;have hE:Dk ρ st.next.toNat C es es'.toList:=⟨by simpa using hlen,λi e e' h1 h2=>fE i e e' h1 (by simpa using h2)⟩
    obtain⟨r',hf,o8⟩:=zc DS h2 hE hm;rcases o8 with⟨e1,_⟩|⟨j',v',y,e1,e2,e3,_⟩
    .   cases e1
    .   cases e1;subst e2;have bQ:(execOp a.eval o).run P w= .ok (.value (if ok then .tuple #[y,.bool true]else y)) w:=by
          simp only[execOp,ho,Instr.lookup,Sem.run_bind,aJ hd,Result.andThen_ok,he,run_getObj_map cX,HY,run_findKey Qq hf,Sem.run_pure]
        refine .pure bQ ?_;cases ok
        .exact e3
        .exact .qC (ak.cons e3 (ak.cons (.bool true) ak.nil))
 ·
  rename_i hm;simp only[H0]at hr;subst hr;have bQ:(execOp a.eval o).run P w= .ok (.value (if ok then .tuple #[zv,.bool false]else zv)) w:=by
    split at hm<;>first|(cases hm;done)|skip
    .   (split at hm<;>first|(cases hm;done)|skip);have he:=h1.yD;have hf:(Instr.findKey kt (a.eval ix) []).run P w= .ok none w:=run_findKey Qq rfl w;simp only[execOp,ho,Instr.lookup,Sem.run_bind,aJ hd,Result.andThen_ok,he,HY,hf,ye,Sem.run_pure]
    .   rename_i b;(split at hm<;>first|(cases hm;done)|skip);rename_i es c hb;obtain⟨_,he⟩:=h1.vn;obtain⟨_,_,es',cX,hlen,fE⟩:=hW.live _ _ hb;have hE:Dk ρ st.next.toNat C es es'.toList:=⟨by simpa using hlen,λi e e' h1 h2=>fE i e e' h1 (by simpa using h2)⟩
        obtain⟨r',hf,o8⟩:=zc DS h2 hE hm;rcases o8 with⟨_,e2⟩|⟨j',v',y,e1,_⟩
        .subst e2;simp only[execOp,ho,Instr.lookup,Sem.run_bind,aJ hd,Result.andThen_ok,he,run_getObj_map cX,HY,run_findKey Qq hf,ye,Sem.run_pure]
        .cases e1
  refine .pure bQ ?_;cases ok
  .exact Nz
  .exact .qC (ak.cons Nz (ak.cons (.bool false) ak.nil))
end
section
variable{P:Program}{tt:TT}
theorem Bw:∀(l:List Value)(off k:Nat)(cs:Array Value),off+k+l.length<=cs.size->
  ((l.zipIdx k).foldl (λcs (c,j)=>cs.setIfInBounds (off+j) c) cs).toList=aK cs.toList (off+k) l
 |[],off,k,cs,_=>by simp[aK,Zj9]
 |v::l,off,k,cs,h=>by
  simp only[Ze3]at h;simp only[List.zipIdx_cons,Zo2];rw[Bw l off (k+1) _ (by simp;omega)];simp only[aK,Ze3,Zn2];rw[List.drop_set_of_lt (by omega)];have:off+(k+1)=(off+k)+1:=by omega
  rw[this,List.take_set,Zk9];have aY:off+k<cs.toList.length:=by simp;omega
  rw[H1 aY];simp only[Option.toList_some,List.set_append,Zh9];have hm:min (off+k) cs.toList.length=off+k:=Zj5 (Nat.le_of_lt aY);rw[hm,Za5 (Zm3 _),Zn1];simp;rw[show off+k+1+l.length=off+k+(l.length+1)from by omega]
theorem Mw{ρ:Pos->Loc}{n:Nat}{C:Cells}(pl:Nat->Option (Nat×Nat)):∀{pp:List (Nat×Nat)}{vs cells r:List AV}{ps:List (Nat×Value)}{cs:Array Value},
  bS cells pp vs=some r->ak ρ n C cells cs.toList->ak ρ n C vs (ps.map (·.2))->ps.map (λx=>pl x.1)=pp.map some->
  ∃jZ,Instr.fill pl cs ps=some jZ/\ak ρ n C r jZ.toList
 |[],vs,cells,r,ps,cs,h,hc,hv,hp=>by
  unfold bS at h;split at h<;>first|(cases h;done)|skip
  .simp only[H0]at h;subst h;have:ps=[]:=(by simpa using hv.k8);subst this;exact⟨cs,rfl,hc⟩
  .rename_i hh;cases hh
 |(off  ,size)::pp,vs,cells,r,ps,cs,h,hc,hv,hp=>by
  unfold bS at h;split at h<;>first|(cases h;done)|skip
  .rename_i hh;cases hh
  . rename_i off' size' pp' v vs' hh;simp only[Zh6,Za8]at hh;obtain⟨⟨rfl,rfl⟩,rfl⟩:=hh;(split at h<;>first|(cases h;done)|skip);rename_i h1 h2;have h1:=H2 h1;have h2:=H4 h2;cases ps with
    |nil=>have:=hv.1;simp at this
    |   cons p ps=>
        obtain⟨i,x⟩:=p;simp only[Zb1,Zh6]at hp hv;obtain⟨dm,zd⟩:=hp;obtain⟨y,ys,Bp,hx,gu⟩:=hv.cons_inv;simp only[Zh6]at Bp;obtain⟨rfl,rfl⟩:=Bp;have hxc:=hx.cells;have hlen:x.cells.size=size:=(by rw[<-h1,hxc.1];simp);have ei:off+size<=cs.size:=(by have:=hc.1;simp at this;omega);have aef:(x.cells.zipIdx.foldl (λcs (c,j)=>cs.setIfInBounds (off+j) c) cs).toList=aK cs.toList off x.cells.toList:=(by rw[<-Array.foldl_toList,Array.toList_zipIdx];have:=Bw x.cells.toList off 0 cs (by simp;omega);simpa using this);obtain⟨jZ,e1,e2⟩:=Mw pl h (cs:=x.cells.zipIdx.foldl (λcs (c,j)=>cs.setIfInBounds (off+j) c) cs) (by rw[aef];exact hc.aK hxc off) gu zd;refine⟨jZ,?_,e2⟩;simp only[Instr.fill,dm];rw[Za5 (by simp[hlen];omega)];exact e1
theorem HZ(hT:bG P tt){gs:Array Field}(w:World):∀{fs:List (Nat×Nat×Bool)}(_hm:bt.cP fs gs.toList=true){is:List Nat}{pp:List (Nat×Nat)}
  (_h:eV.places tt fs is=some pp) {I7:List (Nat×Nat)} (_hpl:∀(i:Nat)(f:Field)(inf:TypeInfo),gs.toList[i]? =some f->P.info? f.type=some inf->I7[i]? =some (f.offset,inf.size)),
  is.map (λi=>I7[i]?)=pp.map some
 |fs,hm,[],pp,h,I7,mT=>by simp[eV.places]at h;subst h;rfl
 |fs,hm,i::is,pp,h,I7,mT=>by
  unfold eV.places at h;split at h<;>first|(cases h;done)|skip
  rename_i off t nm l h1 h2;split at h<;>first|(cases h;done)|skip
  rename_i ti Qr;simp only[H0]at h;subst h;obtain⟨f,hf,e1,e2,_⟩:=Gj hm h1;obtain⟨inf,SP,ei,_⟩:=(hT.at Qr).info;simp only at e1 e2;have:=mT i f inf hf (by rw[e2];exact SP);simp only[Zb1,this,e1,ei];rw[HZ hT w hm h2 mT]
theorem NA(hT:bG P tt):∀{fs:List (Nat×Nat×Bool)}{gs:List Field}(_hm:bt.cP fs gs=true)(_ha:eV.R9 tt fs=true),
  ∃I7:List (Nat×Nat),gs.mapM (λf=>(P.info? f.type).map λi=>(f.offset,i.size))=some I7/\
   ∀(i:Nat)(f:Field)(inf:TypeInfo),gs[i]? =some f->P.info? f.type=some inf->I7[i]? =some (f.offset,inf.size)
 |[],gs,hm,ha=>by
  cases gs with
  |cons g gs=>simp[bt.cP]at hm
  |nil=>exact⟨[],rfl,λi f inf h=>by simp at h⟩
 |(off,t,nm)::fs,gs,hm,ha=>by
  cases gs with
  |nil=>simp[bt.cP]at hm
  |cons g gs=>
   simp[bt.cP]at hm;unfold eV.R9 at ha;(split at ha<;>first|(cases ha;done)|skip);rename_i ti Qr;obtain⟨inf,SP,_⟩:=(hT.at Qr).info;obtain⟨I7,h1,h2⟩:=NA hT hm.2 ha;rw[hm.1.1.2]at SP;refine⟨(g.offset,inf.size)::I7,by simp[SP,h1],λi f inf' hi hf=> ?_⟩;cases i with
   |zero=>simp at hi;subst hi;rw[SP]at hf;cases hf;rfl
   |succ i=>simp at hi ⊢; exact h2 i f inf' hi hf
theorem YH(hT:bG P tt)(t:TypeId)(ps:Array (Nat×Operand)):cw P tt (.build t ps):=by
 intro ρ C st w k xs cls fr a o vs res ho hc hW hF hx hr;simp only[eV]at hc;split at hc<;>first|(cases hc;done)|skip
 rename_i ti l cC hl;obtain⟨d,hd,bP⟩:=(hT.at cC).und;obtain⟨it,H6,_,_,yc⟩:=(hT.at cC).info
 have lF:∀(pp:List (Nat×Nat))(z:List AV)(pl:Nat->Option (Nat×Nat)),ti.zero=some z->k= .build z pp->xs=l->ps.toList.map (λx=>pl x.1)=pp.map some->
    (∀(v:Value)(parts:List (Nat×Value))(cells:Array Value),it.zero=some v->Instr.fill pl v.cells parts=some cells->P.built t parts=some cells)->
    rU P ρ C st w ((execOp a.eval o).run P w) res:=by
   rintro pp z pl hz rfl rfl hpp adz;have hv:=di hl hF hx;obtain⟨v,ES,hs,_⟩:=yc z hz;simp only[az.run,F8]at hr;(split at hr<;>first|(cases hr;done)|skip);rename_i cs wE;simp only[H0]at hr;subst hr;have Nz:ak ρ st.next.toNat C z v.cells.toList:=o7 hs;have V0:(ps.map λ(i,x)=>(i,a.eval x)).toList=ps.toList.map λx=>(x.1,a.eval x.2):=(by simp);obtain⟨jZ,e1,e2⟩:=Mw pl wE Nz (ps:=ps.toList.map λx=>(x.1,a.eval x.2)) (by simpa [Zf8,Zi7]using hv) (by simpa [Zf8,Zi7]using hpp);refine .pure (x:= .agg jZ) ?_ (.Bq e2);have bQ:=run_build w t (ps.map λ(i,x)=>(i,a.eval x)) jZ (adz v _ _ ES (by rw[V0];exact e1));simp only[execOp,ho,Sem.run_bind];rw[bQ];rfl
 split at hc<;>first|(cases hc;done)|skip
 .rename_i fs z hk hz;rw[hk]at bP;obtain⟨gs,rfl,hm⟩:=Df bP;(split at hc<;>first|(cases hc;done)|skip);rename_i pp mT fE;cases hc;obtain⟨I7,h1,h2⟩:=NA hT hm fE;have hpp:=HZ hT w hm mT h2;(refine lF pp z (λi=>I7.toArray[i]?) hz rfl rfl (by simpa [Zf8,Zi7]using hpp) λv parts cells hv hf=> ?_);unfold Program.built;rw[H6,hd];simp only[hv,h1];exact hf
 .rename_i e z hk hz;rw[hk]at bP;rw[SI bP]at hd;(split at hc<;>first|(cases hc;done)|skip);rename_i te eo;cases hc;obtain⟨ie,hie,ei,_⟩:=(hT.at eo).info;(refine lF _ z (λi=>some (i*te.size,te.size)) hz rfl rfl (by simp[Zf8,Zi7]) λv parts cells hv hf=> ?_);unfold Program.built;rw[H6,hd];simp only[hv,hie,ei];exact hf
end
end
end Go.Ai
