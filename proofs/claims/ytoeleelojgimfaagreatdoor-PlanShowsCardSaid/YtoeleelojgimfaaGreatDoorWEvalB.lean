/- Its operations answer as the model does. -/
import Derived.Test.YtoeleelojgimfaaGreatDoorWEvalA
import Derived.Laws.StructEq
import Derived.Lib.Builder
import Derived.Laws.BytesString
set_option linter.all false
namespace Go.Ai
section
def bw:TK->TypeDesc->Bool
 |.bool,.bool=>true
 |.int k,.int k'=>zN k k'
 |.string,.string=>true
 |.ptr e,.pointer e'=>Nat.beq e e'
 |.slice e,.slice e'=>Nat.beq e e'
 |.array n e,.array n' e'=>Nat.beq n n'&&Nat.beq e e'
 |.map k e,.map k' e'=>Nat.beq k k'&&Nat.beq e e'
 |.struct fs,.struct fs'=>dh fs fs'.toList
 |.func,.func _ _ _=>true
 |.iface,.interface _=>true
 | .Wy,.unsafePointer=>true
 |.other,.interface _=>false
 |.other,.int _=>false
 |.other,.array _ _=>false
 |.other,.struct _=>false
 |.other,_=>true
 |_,_=>false
where
 dh:List (Nat×Nat×Bool)->List Field->Bool
  |[],[]=>true
  |(off,t,named)::l,f::l'=>Nat.beq off f.offset&&Nat.beq t f.type&&(named==(f.name != "_"))&&dh l l'
  |_,_=>false
structure U1(P:Program)(t:TypeId)(ti:TI):Prop where
 und:∃d,P.underlying t=some d/\bw ti.k d=true
 info:∃i,P.info? t=some i/\i.size=ti.size/\i.bytes=ti.bytes/\
  ∀z,ti.zero=some z->∃v,i.zero=some v/\mq v.cells.toList=some z/\z.length=ti.size/\(ti.k.isAgg=true->∃cs,v= .agg cs)/\(ti.k.isAgg=false->v.cells= #[v])
 elem:∀e,ti.k= .ptr e->∃j,P.info? e=some j
 eqs:ti.sV=true->P.stoodInHeld t=false/\P.eqGuardType P.depth t=false
def bH(P:Program)(tt:TT):Prop:=∀p ti,tt.get p=some ti->U1 P (p.toNat - 1) ti
theorem bH.at{P:Program}{tt:TT}(h:bH P tt){t:Nat}{ti:TI}(ht:tt.get (key t)=some ti):U1 P t ti:=by
 have:=h _ _ ht
 rwa [eo,Ze9]at this
section
variable{P:Program}{tt:TT}{ρ:Pos->Loc}{n:Nat}{C:Cells}
theorem aH{t:TypeId}{d:TypeDesc}(h:P.underlying t=some d)(w:World):(underlying t).run P w= .ok d w:=run_underlying h w
theorem Qy{t:TypeId}{i:TypeInfo}(h:P.info? t=some i)(w:World):(typeInfo t).run P w= .ok i w:=by simp[typeInfo,h]
theorem gH{t:TypeId}{i:TypeInfo}(h:P.info? t=some i)(w:World):(sizeOf t).run P w= .ok i.size w:=by simp[sizeOf,typeInfo,h]
theorem Zu{t:TypeId}{i:TypeInfo}{v:Value}(h:P.info? t=some i)(hz:i.zero=some v)(w:World):(zeroValue t).run P w= .ok v w:=by simp[zeroValue,typeInfo,h,hz]
theorem J1{k:TK}{d:TypeDesc}(h:bw k d=true)(w:World){t:TypeId}(ht:P.underlying t=some d):(isAgg t).run P w= .ok k.isAgg w:=by
 cases k<;>cases d<;>first|(simp[bw]at h;done)|simp[isAgg,aH ht,TK.isAgg]
theorem kQ{e:Nat}{d:TypeDesc}(h:bw (.slice e) d=true):d= .slice e:=by
 cases d<;>simp[bw]at h;rw[h]
theorem K9{e:Nat}{d:TypeDesc}(h:bw (.ptr e) d=true):d= .pointer e:=by
 cases d<;>simp[bw]at h;rw[h]
theorem Qz{m e:Nat}{d:TypeDesc}(h:bw (.array m e) d=true):d= .array m e:=by
 cases d<;>simp[bw]at h;rw[h.1,h.2]
theorem Gm{k e:Nat}{d:TypeDesc}(h:bw (.map k e) d=true):d= .map k e:=by
 cases d<;>simp[bw]at h;rw[h.1,h.2]
theorem MO{d:TypeDesc}(h:bw .bool d=true):d= .bool:=by cases d<;>simp[bw]at h;rfl
theorem tP{a b:IntKind}(h:zN a b=true):a=b:=by
 unfold zN at h;split at h
 .assumption
 .cases h
theorem CQ{k:IntKind}{d:TypeDesc}(h:bw (.int k) d=true):d= .int k:=by
 cases d<;>simp[bw]at h;rw[tP h]
theorem kF{d:TypeDesc}(h:bw .string d=true):d= .string:=by cases d<;>simp[bw]at h;rfl
theorem Bp{fs:List (Nat×Nat×Bool)}{d:TypeDesc}(h:bw (.struct fs) d=true):∃gs,d= .struct gs/\bw.dh fs gs.toList=true:=by
 cases d<;>simp[bw]at h;exact⟨_,rfl,h⟩
theorem abJ{d:TypeDesc}(h:bw .func d=true):∃a b c,d= .func a b c:=by
 cases d<;>simp[bw]at h;exact⟨_,_,_,rfl⟩
theorem Zv{d:TypeDesc}(h:bw .iface d=true):∃a,d= .interface a:=by
 cases d<;>simp[bw]at h;exact⟨_,rfl⟩
theorem WE{d:TypeDesc}(h:bw .Wy d=true):d= .unsafePointer:=by cases d<;>simp[bw]at h;rfl
theorem ki{α:Type}:∀(l:List α)(i:Nat),nth l i=l[i]?
 |[],_=>by simp[nth]
 |_::_,0=>rfl
 |_::l,i+1=>by simp[nth,ki l i]
theorem DU:∀{fs:List (Nat×Nat×Bool)}{gs:List Field}{i:Nat}{x:Nat×Nat×Bool},bw.dh fs gs=true->nth fs i=some x->
  ∃f,gs[i]? =some f/\f.offset=x.1/\f.type=x.2.1/\(f.name != "_")=x.2.2
 |[],_,i,_,_,h=>by simp[nth]at h
 |(off,t,named)::l,[],i,_,h,_=>by simp[bw.dh]at h
 |(off,t,named)::l,f::l',0,x,h,hx=>by
  simp[bw.dh]at h;simp[nth]at hx;subst hx;exact⟨f,rfl,h.1.1.1.symm,h.1.1.2.symm,h.1.2.symm⟩
 |(off,t,named)::l,f::l',i+1,x,h,hx=>by
  simp[bw.dh]at h;simp[nth]at hx;obtain⟨f',h1,h2⟩:=DU h.2 hx;exact⟨f',by simpa using h1,h2⟩
theorem zS{v:Value}{a:AV}(h:DP v=some a):aj ρ n C a v:=by
 unfold DP at h
 split at h<;>first
   |(cases h;done)
   |(simp only[H0]at h;subst h)
 .exact .bool _
 .exact .int _ _
 .exact .str _ _ rfl
 .exact .gP
 .exact .ah
 .exact .nj
 .exact .func _ _ _ _ _ rfl rfl (λ_ _ _ h=>by simp at h) (λ_ _ _ h=>by simp at h)
 .exact .iI
 .exact .th
theorem oZ:∀{l:List Value}{as:List AV},mq l=some as->av ρ n C as l
 |[],as,h=>by simp[mq]at h;subst h;exact av.nil
 |v ::l,as,h=>by
  unfold mq at h;split at h
  .rename_i a as' h1 h2;simp only[H0]at h;subst h;exact av.cons (zS h1) (oZ h2)
  .cases h
theorem S7{v:Value}{a:AV}(h:MM v=some a):aj ρ n C a v:=by
 unfold MM at h;split at h
 . split at h
   .rename_i l hl;simp only[H0]at h;subst h;exact .zR (oZ hl)
   .cases h
 .exact zS h
theorem oh{x:Operand}{o:dK}{fr:Fr}{a:Act}{v:AV}(h:jY x=some o)(hF:eJ ρ n C fr a.tmps)(hv:xC fr o=some v):aj ρ n C v (a.eval x):=by
 unfold jY at h;split at h
 .rename_i t;simp only[H0]at h;subst h;obtain⟨y,hy,hr⟩:=hF _ _ hv;rw[eo,Ze9]at hy;simp only[Act.eval,Zh7,hy,Zj3];exact hr
 . split at h
   .rename_i c hc;simp only[H0]at h;subst h;simp only[xC,H0]at hv;subst hv;exact S7 hc
   .cases h
 .rename_i f;simp only[H0]at h;subst h;simp only[xC,H0]at hv;subst hv;exact .func _ _ _ _ _ rfl rfl (λ_ _ _ h=>by simp at h) (λ_ _ _ h=>by simp at h)
 .cases h
theorem dF:∀{xs:List Operand}{os:List dK}{fr:Fr}{a:Act}{vs:List AV},iz xs=some os->eJ ρ n C fr a.tmps->dL fr os=some vs->av ρ n C vs (xs.map a.eval)
 |[],os,fr,a,vs,h,_,hv=>by simp[iz]at h;subst h;simp[dL]at hv;subst hv;exact av.nil
 |x ::xs,os,fr,a,vs,h,hF,hv=>by
  unfold iz at h;split at h
  . rename_i o os' h1 h2;simp only[H0]at h;subst h;unfold dL at hv;split at hv
    .   rename_i v Jb;split at hv
        .rename_i vs' Gn;simp only[H0]at hv;subst hv;exact av.cons (oh h1 hF Jb) (dF h2 hF Gn)
        .cases hv
    .   cases hv
  .cases h
theorem ep{x:Operand}{o:dK}{fr:Fr}{a:Act}{vs:List AV}(h:jY x=some o)(hF:eJ ρ n C fr a.tmps)(hv:dL fr [o]=some vs):
   ∃v,vs=[v]/\aj ρ n C v (a.eval x):=by
 unfold dL at hv;split at hv
 .rename_i v Jb;simp only[dL,H0]at hv;subst hv;exact⟨v,rfl,oh h hF Jb⟩
 .cases hv
end
def Yields(N:Next)(x:Value):Prop:=N= .value x\/(N= .skip/\x=undef)
def qU(P:Program)(ρ:Pos->Loc)(C:Cells)(st:St)(w:World)(r:Result Next):bV->Prop
 |.val v=>∃N x,r= .ok N w/\Yields N x/\aj ρ st.next.toNat C v x
 |.aD v del set new=>∃N x w' ρ',r= .ok N w'/\Yields N x/\(∀b:Pos,b.toNat<st.next.toNat->ρ' b=ρ b)/\aV ρ' C (st.aD del set new) w'/\
  aj ρ' (st.aD del set new).next.toNat C v x/\je ρ st w ρ' (st.aD del set new) w'
 |.call f args=>∃bC:List Value,r=(callFunc f bC.toArray).run P w/\av ρ st.next.toNat C args bC
end
section
open Go Go.RowKit
theorem kj(b o i:Nat):(⟨b,o,none⟩:Addr).add i=⟨b,o+i,none⟩:=by
 unfold Addr.add;split
 .rename_i h;subst h;rfl
 .rfl
section
variable{P:Program}{ρ ρ':Pos->Loc}{C:Cells}{st:St}{w w':World}
theorem aV.U2(hW:aV ρ C st w){U3:T AB}{next' b0:Pos}{x0:AB}
  (hn:st.next.toNat<=next'.toNat) (hb0:b0.toNat<next'.toNat) (adj:U3.get b0=some x0)
  (pI:∀b x,b≠b0->U3.get b=some x->st.heap.get b=some x/\(ρ b).aq≠(ρ' b0).aq)
  (aR:∀b:Pos,b.toNat<st.next.toNat->ρ' b=ρ b)
  (hB:kN ρ' next'.toNat C (ρ' b0) w' x0)
  (Jc:∀a v,C a=some v->a.block≠(ρ' b0).aq)
  (aU:(ρ' b0).aq<w'.heap.size) (adk:w.heap.size<=w'.heap.size)
  (rM:∀k,k<w.heap.size->k≠(ρ' b0).aq->w'.heap[k]? =w.heap[k]?):
  aV ρ' C ⟨U3,next'⟩ w' where
 live b x hb:=by
  by_cases h:b=b0
  .  subst h;rw[adj]at hb;cases hb;exact⟨hb0,aU,hB⟩
  .  obtain⟨h1,h2⟩:=pI b x h hb;obtain⟨h3,h4,h5⟩:=hW.live b x h1;rw[aR b h3];exact⟨Zc5 h3 hn,Zc5 h4 adk,(h5.mono aR hn).of_heap (rM _ h4 h2)⟩
 inj b  b' x x' hb jf he:=by
  by_cases h:b=b0
  .  subst h;by_cases h':b'=b
     .  exact h'.symm
     .  obtain⟨h1,h2⟩:=pI b' x' h' jf;rw[aR b' (hW.live b' x' h1).1]at he;exact absurd he.symm h2
  .  obtain⟨h1,h2⟩:=pI b x h hb;rw[aR b (hW.live b x h1).1]at he;by_cases h':b'=b0
     .  subst h';exact absurd he h2
     .  obtain⟨TN,h2'⟩:=pI b' x' h' jf;rw[aR b' (hW.live b' x' TN).1]at he;exact hW.inj b b' x x' h1 TN he
 cZ a v ha:=by
  obtain⟨h1,h2⟩:=hW.cZ a v ha;have DV:a.block<w.heap.size:=World.block_lt_of_cell? _ _ h1;refine⟨?_,λb x hb=> ?_⟩
  .  rw[World.cell?_of_block (w:=w) (rM _ DV (Jc a v ha))];exact h1
  .  by_cases h:b=b0
     .  subst h;exact λe=>Jc a v ha e.symm
     .  obtain⟨h3,_⟩:=pI b x h hb;rw[aR b (hW.live b x h3).1];exact h2 b x h3
 whole a v ha o ho:=by have nY:a.block<w.heap.size:=World.block_lt_of_cell? _ _ (hW.cZ a v ha).1;rw[World.cell?_of_block (w:=w) (a:=⟨a.block,o,none⟩) (rM _ nY (Jc a v ha))];exact hW.whole a v ha o ho
theorem aV.cell(hW:aV ρ C st w){b:Pos}{cs:List AV}{fz:Nat}(hb:st.heap.get b=some (.cells cs fz)){i:Nat}{v:AV}(hv:cs[i]? =some v):
  ∃x,w.cell? ⟨(ρ b).aq,(ρ b).base+i,none⟩=some x/\aj ρ st.next.toNat C v x:=by
 obtain⟨_,_,c,e,fr,h1,h2,h3,h4,_⟩:=hW.live b _ hb;obtain⟨x,hx,hr⟩:=h4.get hv;have hi:i<cs.length:=(Za1.1 hv).1;rw[Zb8,Za8 hi,Zc8]at hx;exact⟨x,by simp[World.cell?,h1, <-hx],hr⟩
theorem aV.adl(hW:aV ρ C st w){b:Pos}{cs:List AV}{t:TypeId}(hb:st.heap.get b=some (.typed t cs)){i:Nat}{v:AV}(hv:cs[i]? =some v):
  ∃x,w.cell? ⟨(ρ b).aq,(ρ b).base+i,none⟩=some x/\aj ρ st.next.toNat C v x:=by
 obtain⟨_,_,c,fr,h1,h2,h3,h4,_⟩:=hW.live b _ hb;obtain⟨x,hx,hr⟩:=h4.get hv;have hi:i<cs.length:=(Za1.1 hv).1;rw[Zb8,Za8 hi,Zc8]at hx;exact⟨x,by simp[World.cell?,h1, <-hx],hr⟩
theorem zT{α:Type}{l l':List α}{i n:Nat}(h:cut l i n=some l'):l'=(l.drop i).take n/\i+n<=l.length:=by
 unfold cut at h;split at h
 .rename_i hb;cases h;exact⟨rfl,Za3 hb⟩
 .cases h
theorem qV{α:Type}{l l':List α}{i n:Nat}(h:cut l i n=some l'):l'.length=n:=by obtain⟨rfl,h2⟩:=zT h;simp;omega
theorem aV.loadCells(hW:aV ρ C st w){b:Pos}{cs vs:List AV}{fz off n:Nat}(hb:st.heap.get b=some (.cells cs fz))(hc:cut cs off n=some vs):
  ∃ys:List Value,(Go.loadCells ⟨(ρ b).aq,(ρ b).base+off,none⟩ n).run P w= .ok ys.toArray w/\av ρ st.next.toNat C vs ys:=by
 obtain⟨_,_,c,e,fr,h1,h2,h3,h4,_⟩:=hW.live b _ hb;obtain⟨gQ,hle⟩:=zT hc;have hr:=(h4.drop off).take n;rw[<-gQ]at hr;refine⟨_,?_,hr⟩;have hlen:(List.take n (List.drop off (List.take cs.length (List.drop (ρ b).base c.toList)))).length=n:=by rw[<-hr.1];exact qV hc
 conv=>lhs;rw[<-hlen]
 refine run_loadCells_list w _ _ λj v hj=> ?_
 have xD:j<n:=by rw[<-hlen];exact(Za1.1 hj).1
 rw[Zb8,Za8 xD,Zc8,Zb8,Za8 (by omega),Zc8]at hj;rw[kj];simp[World.cell?,h1, <-hj,Zh2]
theorem aV.La(hW:aV ρ C st w){b:Pos}{cs vs:List AV}{t:TypeId}{off n:Nat}(hb:st.heap.get b=some (.typed t cs))(hc:cut cs off n=some vs):
  ∃ys:List Value,(Go.loadCells ⟨(ρ b).aq,(ρ b).base+off,none⟩ n).run P w= .ok ys.toArray w/\av ρ st.next.toNat C vs ys:=by
 obtain⟨_,_,c,fr,h1,h2,h3,h4,_⟩:=hW.live b _ hb;obtain⟨gQ,hle⟩:=zT hc;have hr:=(h4.drop off).take n;rw[<-gQ]at hr;refine⟨_,?_,hr⟩;have hlen:(List.take n (List.drop off (List.take cs.length (List.drop (ρ b).base c.toList)))).length=n:=by rw[<-hr.1];exact qV hc
 conv=>lhs;rw[<-hlen]
 refine run_loadCells_list w _ _ λj v hj=> ?_
 have xD:j<n:=by rw[<-hlen];exact(Za1.1 hj).1
 rw[Zb8,Za8 xD,Zc8,Zb8,Za8 (by omega),Zc8]at hj;rw[kj];simp[World.cell?,h1, <-hj,Zh2]
theorem jA(g e:Nat)(fr:Nat×Nat):∀(vs:List Value)(i o:Nat)(cur:Array Value)(w:World),w.heap[g]? =some (.cells cur e fr)->o+i+vs.length<=cur.size->
  (∀v∈vs,v.oneCell'=true)->(∀k,o+i<=k->k<cur.size->¬(fr.1<=k/\k<fr.2))->
  ∃ w',(storeCells ⟨g,o,none⟩ vs i).run P w= .ok () w'/\w'.heap[g]? =some (.cells (aM cur.toList (o+i) vs).toArray e fr)/\
    w'.heap.size=w.heap.size/\(∀k,k≠g->w'.heap[k]? =w.heap[k]?)/\w'.os=w.os/\w'.tape=w.tape/\w'.output=w.output
 |[],i,o,cur,w,hg,_,_,_=>⟨w,by simp[storeCells],by rw[hg];simp[aM,Zk1],rfl,λ_ _=>rfl,rfl,rfl,rfl⟩
 |v ::vs,i,o,cur,w,hg,hle,h1,hf=>by
  simp only[Ze2]at hle;have hv:v.oneCell'=true:=h1 v (by simp);have Bq:w.cell? ⟨g,o+i,none⟩=some (cur[o+i]'(by omega)):=by simp[World.cell?,hg]
  have Wm:w.frozen? ⟨g,o+i,none⟩=false:=by have:=hf (o+i) (Za4 _) (by omega);simp only[World.frozen?,hg];simpa using this
  have Lb:(w.setCell ⟨g,o+i,none⟩ v).heap[g]? =some (.cells (cur.setIfInBounds (o+i) v) e fr):=by
    simp[World.setCell,Zl9,hg]
  obtain⟨w',h2,h3,h4,h5,h6,h7,h8⟩:=jA g e fr vs (i+1) o _ _ Lb (by simp;omega) (λv hv=>h1 v (by simp[hv])) (by intro k hk jB;simp at jB;exact hf k (by omega) jB);refine⟨w',?_,?_,by simp[h4],λk hk=> ?_,h6,h7,h8⟩
  .simp only[storeCells,Sem.run_bind,kj,run_store P w _ _ _ hv,Bq,Wm];simpa using h2
  .rw[h3];congr 2;simp only[aM,Ze2,Zn6];rw[List.drop_set_of_lt (by omega)];have:o+(i+1)=(o+i)+1:=(by omega);rw[this,List.take_set,Zo6];have aU:o+i<cur.toList.length:=(by simp;omega);rw[H4 aU];simp only[Option.toList_some,List.set_append,Zh5];have hm:min (o+i) cur.toList.length=o+i:=Zj7 (Nat.le_of_lt aU);rw[hm,Za5 (Zm8 _),Zn5];simp;rw[show o+i+1+vs.length=o+i+(vs.length+1)from by omega]
  .rw[h5 k hk,Below.heap_setCell _ _ _ _ (by simpa using hk)]
end
section
variable{P:Program}{tt:TT}{ρ:Pos->Loc}{C:Cells}{st:St}{w:World}{n:Nat}
theorem Yields.value(x:Value):Yields (.value x) x:= .inl rfl
theorem qU.pure{v:AV}{x:Value}{r:Result Next}(h:r= .ok (.value x) w)(hv:aj ρ st.next.toNat C v x):qU P ρ C st w r (.val v):=
 ⟨_,x,h,Yields.value x,hv⟩
theorem aj.gL{k:IntKind}{i:Int}{x:Value}(h:aj ρ n C (.int k i) x):x= .int k i:=by cases h;rfl
theorem aj.fS{b:Bool}{x:Value}(h:aj ρ n C (.bool b) x):x= .bool b:=by cases h;rfl
theorem aj.dN{s:List Nat}{x:Value}(h:aj ρ n C (.str s) x):∃bs:ByteArray,x= .string bs/\bs.data.toList.map UInt8.toNat=s:=by
 cases h with|str _ bs h=>exact⟨bs,rfl,h⟩
theorem aj.om{x:Value}(h:aj ρ n C .gP x):x= .pointer none:=by cases h;rfl
theorem aj.eO{x:Value}(h:aj ρ n C .ah x):x= .slice none 0 0:=by cases h;rfl
theorem aj.wC{x:Value}(h:aj ρ n C .nj x):x= .map none:=by cases h;rfl
theorem aj.DW{x:Value}(h:aj ρ n C .iI x):x= .nilFunc:=by cases h;rfl
theorem aj.QA{x:Value}(h:aj ρ n C .th x):x= .nilIface:=by cases h;rfl
theorem aj.ei{b:Pos}{off:Nat}{x:Value}(h:aj ρ n C (.ptr b off) x):b.toNat<n/\x= .pointer (some ⟨(ρ b).aq,(ρ b).base+off,none⟩):=by
 cases h with|ptr _ _ h=>exact⟨h,rfl⟩
theorem aj.tQ{b:Pos}{x:Value}(h:aj ρ n C (.map b) x):b.toNat<n/\x= .map (some (ρ b).aq):=by
 cases h with|map _ h=>exact⟨h,rfl⟩
theorem aj.NX{t:TypeId}{v:AV}{x:Value}(h:aj ρ n C (.iface t v) x):∃y,x= .iface t y/\aj ρ n C v y:=by
 cases h with|iface _ _ y h=>exact⟨y,rfl,h⟩
theorem aj.cO{b:Pos}{off len es:Nat}{cap:Option Nat}{x:Value}(h:aj ρ n C (.slice b off len cap es) x):
  ∃(a:Addr) (aG:Nat),x= .slice (some a) len aG/\len<=aG/\(∀c,cap=some c->c=aG)/\
   (aG≠0->b.toNat<n/\a=⟨(ρ b).aq,(ρ b).base+off,none⟩/\(ρ b).base+off+aG*es<=(ρ b).size):=by
 cases h with|slice _ _ _ _ _ aG a hl hc ha _=>exact⟨a,aG,rfl,hl,hc,ha⟩
theorem aj.NY{b:Pos}{off len es:Nat}{cap:Option Nat}{x:Value}(h:aj ρ n C (.slice b off len cap es) x):cap=none->b.toNat<n:=by
 cases h with|slice _ _ _ _ _ _ _ _ _ _ hk=>exact hk
theorem aj.qo{xs:List (List AV)}{es:Nat}{x:Value}(h:aj ρ n C (.fl xs es) x):
  ∃(a:Addr) (aG:Nat) (cell:Nat->Nat->Value),x= .slice (some a) xs.length aG/\xs.length<=aG/\(xs≠[]->a.spot=none)/\
   (∀(i:Nat)(cs:List AV),xs[i]? =some cs->cs.length=es)/\
   (∀(i j:Nat)(cs:List AV)(v:AV),xs[i]? =some cs->cs[j]? =some v->C ⟨a.block,a.off+i*es+j,none⟩=some (cell i j))/\
   (∀(i j:Nat)(cs:List AV)(v:AV),xs[i]? =some cs->cs[j]? =some v->aj ρ n C v (cell i j)):=by
 cases h with|fl _ _ aG a cell hl hs dc hc hv=>exact⟨a,aG,cell,rfl,hl,hs,dc,hc,hv⟩
theorem aj.CR{xs:List (List AV)}{i j:Nat}{x:Value}(h:aj ρ n C (.fp xs i j) x):
  ∃(es aq base:Nat) (cell:Nat->Nat->Value),x= .pointer (some ⟨aq,base+i*es+j,none⟩)/\
   (∀(i:Nat)(cs:List AV),xs[i]? =some cs->cs.length=es)/\
   (∀(i j:Nat)(cs:List AV)(v:AV),xs[i]? =some cs->cs[j]? =some v->C ⟨aq,base+i*es+j,none⟩=some (cell i j))/\
   (∀(i j:Nat)(cs:List AV)(v:AV),xs[i]? =some cs->cs[j]? =some v->aj ρ n C v (cell i j)):=by
 cases h with|fp _ _ _ es aq base cell hl hc hv=>exact⟨es,aq,base,cell,rfl,hl,hc,hv⟩
theorem qp(k:IntKind)(i:Int):ax k i=k.wrap i:=by
 unfold ax;split
 . rename_i h1 _;split
   .rename_i h2 _;cases k<;>simp only[NS,NT]at h1 h2<;>simp only[IntKind.wrap,IntKind.bits,IntKind.signed]<;>simp<;>omega
   .rfl
 .rfl
theorem jL(a b:Int):sU a b=(a==b):=by
 unfold sU;split
 .rename_i h _;subst h;simp
 .rename_i h _;simp[h]
theorem dD(a b:Int):uv a b=decide (a<b):=by
 unfold uv;split<;>(rename_i h _;simp[h])
theorem gW(a b:Int):PV a b=decide (a<=b):=by
 unfold PV;split<;>(rename_i h _;simp[h])
theorem jV:∀{a b:List Nat},gX a b=true↔a=b
 |[],[]=>by simp[gX]
 |[],_::_=>by simp[gX]
 |_::_,[]=>by simp[gX]
 |a::x,b::y=>by
  unfold gX;split
  .rename_i h;have:=Za0 h;subst this;simp[jV (a:=x) (b:=y)]
  .rename_i h;have:=Zb4 h;simp[this]
theorem CS:∀{a b:List UInt8},a.map UInt8.toNat=b.map UInt8.toNat->a=b
 |[],[],_=>rfl
 |[],_::_,h=>by simp at h
 |_::_,[],h=>by simp at h
 |a::x,b::y,h=>by
  simp at h;rw[Zp3.1 h.1,CS h.2]
theorem toList_data(b:ByteArray):b.toList=b.data.toList:=ByteArray.toList_eq b
theorem pE:∀(x y:List UInt8),aB (x.map UInt8.toNat) (y.map UInt8.toNat)=Op.bytesLess x y
 |[],[]=>by simp[aB,Op.bytesLess]
 |_::_,[]=>by simp[aB,Op.bytesLess]
 |[],_::_=>by simp[aB,Op.bytesLess]
 |a ::x,b::y=>by
  simp only[Zc6,aB,Op.bytesLess];split
  .rename_i h;have:a<b:=(by rw[Zm0];simpa using h);simp[this]
  . (rename_i h;have h1:¬a<b:=by rw[Zm0];intro h';have h2:Nat.blt a.toNat b.toNat=true:=(by simpa using h');rw[h2]at h;cases h);split
    .   rename_i h2;have:a=b:=Zp3.1 (Za0 h2);subst this;simp only[h1,decide_false,Zk8,beq_self_eq_true,Zf5];exact pE x y
    .   (rename_i h2;have:a≠b:=λe=>Zb4 h2 (by rw[e]));simp[h1,this]
theorem CT{a b:List Nat}{x y:ByteArray}(hx:x.data.toList.map UInt8.toNat=a)(hy:y.data.toList.map UInt8.toNat=b):(x.toList==y.toList)=gX a b:=by
 rw[toList_data,toList_data,Zh4,jV,beq_iff_eq, <-hx, <-hy];exact⟨λh=>by rw[h],λh=>CS h⟩
theorem J2{a b:List Nat}{x y:ByteArray}(hx:x.data.toList.map UInt8.toNat=a)(hy:y.data.toList.map UInt8.toNat=b):Op.bytesLess x.toList y.toList=aB a b:=by
 rw[toList_data,toList_data, <-hx, <-hy,pE]
theorem tq{a:List Nat}{x:ByteArray}(hx:x.data.toList.map UInt8.toNat=a):x.size=a.length:=by rw[<-hx,Zb2,Zf1];rfl
def PK.fits:PK->TypeDesc->Bool
 |.b,.bool=>true
 |.i,.int _=>true
 |.s,.string=>true
 |_,_=>false
theorem QB{t:TypeId}{d:TypeDesc}(hd:P.underlying t=some d){pk:PK}(hk:pk.fits d=true){a b:AV}{x y:Value}{r:Bool}{m:Nat}
   (ha:aj ρ n C a x) (hb:aj ρ n C b y) (h:wq pk a b=some r) (w:World):(Op.equalIn (m+1) t x y).run P w= .ok r w:=by
 unfold wq at h;split at h
 .simp only[H0]at h;subst h;rw[ha.fS,hb.fS];cases d<;>simp[PK.fits]at hk;rw[run_equalIn_bool' w m t _ _ hd]
 . split at h
   .rename_i jB;have:=tP jB;subst this;simp only[H0]at h;subst h;rw[ha.gL,hb.gL];cases d<;>simp[PK.fits]at hk;rw[run_equalIn_int w m t _ _ _ _ hd,jL]
   .cases h
 .simp only[H0]at h;subst h;obtain⟨bx,rfl,h1⟩:=ha.dN;obtain⟨bz,rfl,h2⟩:=hb.dN;cases d<;>simp[PK.fits]at hk;rw[run_equalIn_string w m t _ _ hd,CT h1 h2]
 .cases h
theorem Gp:∀{fs:List (Nat×Nat×Bool)}{l:List (Nat×PK)}{gs:List Field}{xs ys:List AV}{cx cy:Array Value}{r:Bool}{m:Nat}(_hT:bH P tt)
  (_hm:bw.dh fs gs=true) (_hf:ux.fields tt fs=some l) (_hx:av ρ n C xs cx.toList) (_hy:av ρ n C ys cy.toList) (_h:eqFields xs ys l=some r) (w:World),
  (Op.eqFields (m+1) cx cy gs).run P w= .ok r w
 |[],l,gs,xs,ys,cx,cy,r,m,hT,hm,hf,hx,hy,h,w=>by
  cases gs with
  |cons f gs=>simp[bw.dh]at hm
  | nil=>
    simp[ux.fields]at hf;subst hf;simp[eqFields]at h;subst h;simp[Op.eqFields]
 |(off  , t,named)::fs,l,gs,xs,ys,cx,cy,r,m,hT,hm,hf,hx,hy,h,w=>by
  cases gs with
  |nil=>simp[bw.dh]at hm
  | cons f gs=>
    simp[bw.dh]at hm;obtain⟨⟨⟨ho,ht⟩,hn⟩,WG⟩:=hm;unfold ux.fields at hf;(split at hf<;>first|(cases hf;done)|skip);rename_i ti l' cm hl';obtain⟨d,hd,bP⟩:=(hT.at cm).und;have key:∃pk,l=(off,pk)::l'/\pk.fits d=true/\(isAgg t).run P w= .ok false w:=by
        have nh:=J1 bP w hd;split at hf<;>first|(cases hf;done)|skip
        all_goals
          rename_i hk;simp only[H0]at hf;rw[hk]at bP nh;refine⟨_,hf.symm,?_,nh⟩
        .rw[MO bP];rfl
        .rw[CQ bP];rfl
        .rw[kF bP];rfl
    obtain⟨pk,rfl,B6,nh⟩:=key;have cG:f.name≠ "_" :=(by intro e;rw[e]at hn;simp at hn);unfold eqFields at h;(split at h<;>first|(cases h;done)|skip);rename_i a b ha hb;rw[ki]at ha hb;obtain⟨x,TO,TP⟩:=hx.get ha;obtain⟨y,yF,zU⟩:=hy.get hb;have px:(part f.type cx f.offset).run P w= .ok x w:=by
        rw[<-ht, <-ho];simp at TO;simp[part,nh,TO]
    have py:(part f.type cy f.offset).run P w= .ok y w:=by
        rw[<-ht, <-ho];simp at yF;simp[part,nh,yF]
    simp only[Op.eqFields,Sem.run_bind,Sem.run_ite,cG,px,py,Result.andThen_ok,ne_eq,not_false_eq_true,Zg8];split at h
    .   rename_i he;rw[<-ht,QB hd B6 TP zU he w];simpa using Gp (m:=m) hT WG hl' hx hy h w
    .   rename_i he;simp only[H0]at h;subst h;rw[<-ht,QB hd B6 TP zU he w];simp
    .   cases h
def abm(tt:TT)(op:BinOp)(q:e8)(t:TypeId):Prop:=ux tt t=some q\/(q= .num/\op≠ .eql/\op≠ .neq)
def adm(P:Program)(tt:TT)(t:TypeId):e8->Prop
 |.num=>True
 |.bool=>P.underlying t=some .bool
 |.ptr=>∃e,P.underlying t=some (.pointer e)/\∃j,P.info? e=some j
 |.slice=>∃e,P.underlying t=some (.slice e)
 |.map=>∃k e,P.underlying t=some (.map k e)
 |.func=>∃a b c,P.underlying t=some (.func a b c)
 |.iface=>∃a,P.underlying t=some (.interface a)
 |.struct l=>∃fs gs,P.underlying t=some (.struct gs)/\bw.dh fs gs.toList=true/\ux.fields tt fs=some l/\P.stoodInHeld t=false/\P.eqGuardType P.depth t=false
theorem TQ(hT:bH P tt){t:TypeId}{q:e8}(hq:ux tt t=some q):adm P tt t q:=by
 unfold ux at hq;split at hq<;>first|(cases hq;done)|skip
 rename_i ti cm;obtain⟨d,hd,bP⟩:=(hT.at cm).und;split at hq<;>first|(cases hq;done)|skip
 all_goals rename_i hk
 all_goals rw[hk]at bP
 .simp only[H0]at hq;subst hq;rw[MO bP]at hd;exact hd
 .simp only[H0]at hq;subst hq;trivial
 .simp only[H0]at hq;subst hq;trivial
 .simp only[H0]at hq;subst hq;rw[K9 bP]at hd;exact⟨_,hd,(hT.at cm).elem _ hk⟩
 .simp only[H0]at hq;subst hq;rw[kQ bP]at hd;exact⟨_,hd⟩
 .simp only[H0]at hq;subst hq;rw[Gm bP]at hd;exact⟨_,_,hd⟩
 .simp only[H0]at hq;subst hq;obtain⟨_,_,_,rfl⟩:=abJ bP;exact⟨_,_,_,hd⟩
 .simp only[H0]at hq;subst hq;obtain⟨_,rfl⟩:=Zv bP;exact⟨_,hd⟩
 . (split at hq<;>first|(cases hq;done)|skip);rename_i fs _ _ l hp hl;simp only[H0]at hq;subst hq;obtain⟨gs,rfl,hm⟩:=Bp bP;exact⟨fs,gs,hd,hm,hl,(hT.at cm).eqs hp⟩
theorem U4(m:Nat)(hT:bH P tt){t:TypeId}{q:e8}(hq:ux tt t=some q){a b:AV}{x y:Value}{r:Bool}(ha:aj ρ n C a x)(hb:aj ρ n C b y)(h:JV q a b=some r)(w:World):
   (Op.equalIn (m+1+1) t x y).run P w= .ok r w:=by
 have hi:=TQ hT hq;clear hq;unfold JV at h;split at h<;>first|(cases h;done)|skip
 .simp only[H0]at h;subst h;rw[ha.fS,hb.fS,run_equalIn_bool' w _ t _ _ hi]
 all_goals first
   |(simp only[H0]at h;subst h)
   |skip
 .obtain⟨e,hd,_⟩:=hi;rw[ha.om,hb.om];(unfold Op.equalIn;rw[Sem.run_bind,aH hd];rfl)
 .obtain⟨e,hd,_⟩:=hi;obtain⟨_,hb⟩:=hb.ei;rw[ha.om,hb];(unfold Op.equalIn;rw[Sem.run_bind,aH hd];rfl)
 .obtain⟨e,hd,_⟩:=hi;obtain⟨_,ha⟩:=ha.ei;rw[hb.om,ha];(unfold Op.equalIn;rw[Sem.run_bind,aH hd];rfl)
 .obtain⟨e,hd,_⟩:=hi;obtain⟨_,_,_,_,hb,_⟩:=hb.CR;rw[ha.om,hb];(unfold Op.equalIn;rw[Sem.run_bind,aH hd];rfl)
 .obtain⟨e,hd,_⟩:=hi;obtain⟨_,_,_,_,ha,_⟩:=ha.CR;rw[hb.om,ha];(unfold Op.equalIn;rw[Sem.run_bind,aH hd];rfl)
 .obtain⟨e,hd,j,hj⟩:=hi;(split at h<;>first|(cases h;done)|skip);rename_i e1 e2;have e1:=Pos.beq_eq.1 e1;have e2:=Za0 e2;subst e1;subst e2;simp only[H0]at h;subst h;obtain⟨_,ha⟩:=ha.ei;obtain⟨_,hb⟩:=hb.ei;rw[ha,hb];simp[Op.equalIn,aH hd,sizeOf,typeInfo,hj,run_sameAddr_same]
 .obtain⟨e,hd⟩:=hi;rw[ha.eO,hb.eO];(unfold Op.equalIn;rw[Sem.run_bind,aH hd];rfl)
 .obtain⟨e,hd⟩:=hi;obtain⟨_,_,hb,_⟩:=hb.cO;rw[ha.eO,hb];(unfold Op.equalIn;rw[Sem.run_bind,aH hd];rfl)
 .obtain⟨e,hd⟩:=hi;obtain⟨_,_,ha,_⟩:=ha.cO;rw[hb.eO,ha];(unfold Op.equalIn;rw[Sem.run_bind,aH hd];rfl)
 .obtain⟨e,hd⟩:=hi;obtain⟨_,_,_,hb,_⟩:=hb.qo;rw[ha.eO,hb];(unfold Op.equalIn;rw[Sem.run_bind,aH hd];rfl)
 .obtain⟨e,hd⟩:=hi;obtain⟨_,_,_,ha,_⟩:=ha.qo;rw[hb.eO,ha];(unfold Op.equalIn;rw[Sem.run_bind,aH hd];rfl)
 .obtain⟨k,e,hd⟩:=hi;rw[ha.wC,hb.wC];(unfold Op.equalIn;rw[Sem.run_bind,aH hd];rfl)
 .obtain⟨k,e,hd⟩:=hi;obtain⟨_,hb⟩:=hb.tQ;rw[ha.wC,hb];(unfold Op.equalIn;rw[Sem.run_bind,aH hd];rfl)
 .obtain⟨k,e,hd⟩:=hi;obtain⟨_,ha⟩:=ha.tQ;rw[hb.wC,ha];(unfold Op.equalIn;rw[Sem.run_bind,aH hd];rfl)
 .obtain⟨_,_,_,hd⟩:=hi;rw[ha.DW,hb.DW];(unfold Op.equalIn;rw[Sem.run_bind,aH hd];rfl)
 .obtain⟨_,_,_,hd⟩:=hi;obtain⟨_,_,hb,_⟩:=hb.wz;rw[ha.DW,hb];(unfold Op.equalIn;rw[Sem.run_bind,aH hd];rfl)
 .obtain⟨_,_,_,hd⟩:=hi;obtain⟨_,_,ha,_⟩:=ha.wz;rw[hb.DW,ha];(unfold Op.equalIn;rw[Sem.run_bind,aH hd];rfl)
 .obtain⟨_,hd⟩:=hi;obtain⟨_,hb,_⟩:=hb.NX;rw[ha.QA,hb];(unfold Op.equalIn;rw[Sem.run_bind,aH hd];rfl)
 .obtain⟨_,hd⟩:=hi;obtain⟨_,ha,_⟩:=ha.NX;rw[hb.QA,ha];(unfold Op.equalIn;rw[Sem.run_bind,aH hd];rfl)
 .obtain⟨fs,gs,hd,hm,hl,hp,_⟩:=hi;obtain⟨cx,rfl,hx⟩:=ha.zD;obtain⟨cy,rfl,hy⟩:=hb.zD;have hfo:P.fieldsOf t=gs:=(by simp[Program.fieldsOf,hd]);rw[run_equalIn_agg w (m+1) t cx cy (by rw[hfo,hd]) hp,hfo];exact Gp (m:=m) hT hm hl hx hy h w
theorem QC(hT:bH P tt){t:TypeId}{q:e8}(hq:ux tt t=some q){a b:AV}{x y:Value}{r:Bool}(ha:aj ρ n C a x)(hb:aj ρ n C b y)(h:JV q a b=some r)(w:World):
 (Op.equal t x y).run P w= .ok r w:=U4 9998 hT hq ha hb h w
theorem Lc(hT:bH P tt){t:TypeId}{q:e8}(hq:ux tt t=some q){a b:AV}{x y:Value}{r:Bool}(ha:aj ρ n C a x)(hb:aj ρ n C b y)(h:JV q a b=some r)(op:BinOp)(ox oy:Operand)(w:World):
  (eqGuard op t ox oy x y).run P w= .ok () w:=by
 have hi:=TQ hT hq;clear hq;unfold JV at h;split at h<;>first|(cases h;done)|skip
 all_goals first
  |(obtain⟨fs,gs,hd,hm,hl,hp,hg⟩:=hi
    obtain⟨cx,rfl,hx⟩:=ha.zD;obtain⟨cy,rfl,hy⟩:=hb.zD;exact run_eqGuard_agg w op t ox oy cx cy hg)
  |(cases ha<;>cases hb<;>cases op<;>rfl)
end
section
variable{P:Program}{tt:TT}{ρ:Pos->Loc}{C:Cells}{st:St}{w:World}{n:Nat}
theorem Po(op:BinOp)(t:TypeId)(k:IntKind)(i j:Int)(hs:op≠ .shl)(hr:op≠ .shr):(binOp op t (.int k i) (.int k j)).run P w=
  (match op with
   |.add|.sub|.mul=>Op.intArith op k i j
   |.quo|.rem=>Op.intDiv op k i j
   |.and|.or|.xor|.andNot=>Op.intBits op k i j
   |_=>Op.intCmp op i j).run P w:=by
 cases op<;>first|(exact absurd rfl hs)|(exact absurd rfl hr)|simp[binOp]
theorem Zw(hT:bH P tt){op:BinOp}{t:TypeId}{q:e8}(hq:abm tt op q t){a b v:AV}{x y:Value}(ha:aj ρ n C a x)(hb:aj ρ n C b y)(h:lR op q a b=some v)(ox oy:Operand):
  ∃z,(do eqGuard op t ox oy x y;binOp op t x y:Sem Value).run P w= .ok z w/\aj ρ n C v z:=by
 unfold lR at h;split at h
 ·
  rename_i k i k' j;rw[ha.gL,hb.gL];have hg:∀op,(eqGuard op t ox oy (.int k i) (.int k' j)).run P w= .ok () w:=by intro op;cases op<;>rfl
  rw[Sem.run_bind,hg,Result.andThen_ok];split at h
  . split at h
    .   cases h
    .   rename_i aU;rw[dD]at aU;have aU:=Zl0 aU;simp only[H0]at h;subst h;exact⟨_,by simp[binOp,Op.shift,aU,qp],.int _ _⟩
  . split at h
    .   cases h
    .   rename_i aU;rw[dD]at aU;have aU:=Zl0 aU;simp only[H0]at h;subst h;exact⟨_,by simp[binOp,Op.shift,aU],.int _ _⟩
  . rename_i hs hr;split at h
    .   cases h
    .   rename_i hk;have:=tP hk;subst this;rw[Po op t k i j (λe=>hs e) (λe=>hr e)];split at h
        .simp only[H0]at h;subst h;exact⟨_,by simp[Op.intArith,qp],.int _ _⟩
        .simp only[H0]at h;subst h;exact⟨_,by simp[Op.intArith,qp],.int _ _⟩
        .simp only[H0]at h;subst h;exact⟨_,by simp[Op.intArith,qp],.int _ _⟩
        . split at h
          .cases h
          . (rename_i h0;rw[jL]at h0;have h0':¬j=0:=by simpa using h0);simp only[H0]at h;subst h;exact⟨_,by simp[Op.intDiv,h0',qp],.int _ _⟩
        . split at h
          .cases h
          . (rename_i h0;rw[jL]at h0;have h0':¬j=0:=by simpa using h0);simp only[H0]at h;subst h;exact⟨_,by simp[Op.intDiv,h0'],.int _ _⟩
        .simp only[H0]at h;subst h;exact⟨_,by simp[Op.intBits],.int _ _⟩
        .simp only[H0]at h;subst h;exact⟨_,by simp[Op.intBits],.int _ _⟩
        .simp only[H0]at h;subst h;exact⟨_,by simp[Op.intBits],.int _ _⟩
        .simp only[H0]at h;subst h;exact⟨_,by simp[Op.intBits],.int _ _⟩
        .simp only[H0]at h;subst h;exact⟨_,by simp[Op.intCmp,jL],.bool _⟩
        .simp only[H0]at h;subst h;refine⟨_,rfl,?_⟩;rw[jL];exact .bool _
        .simp only[H0]at h;subst h;refine⟨_,rfl,?_⟩;rw[dD];exact .bool _
        .simp only[H0]at h;subst h;refine⟨_,rfl,?_⟩;rw[gW];exact .bool _
        .simp only[H0]at h;subst h;refine⟨_,rfl,?_⟩;rw[dD];exact .bool _
        .simp only[H0]at h;subst h;refine⟨_,rfl,?_⟩;rw[gW];exact .bool _
        .cases h
 ·
  rename_i s u;obtain⟨bx,rfl,h1⟩:=ha.dN;obtain⟨bz,rfl,h2⟩:=hb.dN;have hg:∀op,(eqGuard op t ox oy (.string bx) (.string bz)).run P w= .ok () w:=by intro op;cases op<;>rfl
  rw[Sem.run_bind,hg,Result.andThen_ok];have hs:(binOp op t (.string bx) (.string bz)).run P w=(Op.stringOp op bx bz).run P w:=by cases op<;>rfl
  rw[hs];have e1:=CT h1 h2;have e2:=J2 h1 h2;split at h
  . split at h
    .   rename_i hb;have hb:=Za3 hb;simp only[H0]at h;subst h;have kq:¬(((bx.size+bz.size:Nat):Int)>IntKind.i64.max):=(by rw[tq h1,tq h2];simp[IntKind.max,IntKind.signed,IntKind.bits];omega);refine⟨.string (bx++bz),?_,.str _ _ ?_⟩
        .simp only[Op.stringOp];rw[Za5 kq];rfl
        .rw[ByteArray.data_append,Array.toList_append,Zd7,h1,h2]
    .   cases h
  all_goals first|(cases h;done)|skip
  all_goals
    simp only[H0]at h;subst h;refine⟨_,rfl,?_⟩
    first|rw[e1,e2]|rw[e1]|rw[e2]
    exact .bool _
 ·
  rename_i hni hns;have Br:∀op,(op= .eql\/op= .neq)->(binOp op t x y).run P w=((Op.equal t x y).run P w).andThen λr w'=>.ok (.bool (if op= .eql then r else !r)) w':=by
    rintro op (rfl|rfl)
    all_goals
        cases ha<;>cases hb<;>first
          |(exact(hni _ _ _ _ rfl rfl).elim)
          |(exact(hns _ _ rfl rfl).elim)
          |simp[binOp]
  split at h
  . split at h
    .   rename_i r hr;simp only[H0]at h;subst h;rcases hq with hq|⟨_,hq,_⟩
        .refine⟨.bool r,?_,.bool r⟩;rw[Sem.run_bind,Lc hT hq ha hb hr,Result.andThen_ok,Br _ (.inl rfl),QC hT hq ha hb hr];rfl
        .exact absurd rfl hq
    .   cases h
  . split at h
    .   rename_i r hr;simp only[H0]at h;subst h;rcases hq with hq|⟨_,_,hq⟩
        .refine⟨.bool (!r),?_,.bool _⟩;rw[Sem.run_bind,Lc hT hq ha hb hr,Result.andThen_ok,Br _ (.inr rfl),QC hT hq ha hb hr];rfl
        .exact absurd rfl hq
    .   cases h
  .cases h
end
def cw(P:Program)(tt:TT)(op:Op):Prop:=
 ∀  (ρ:Pos->Loc)(C:Cells)(st:St)(w:World)(k:ay)(xs:List dK)(cls:TM)(fr:Fr)(a:Act)(o:Oper)(vs:List AV)(res:bV),
    o.op=op->fy tt op=some (k,xs,cls)->aV ρ C st w->eJ ρ st.next.toNat C fr a.tmps->dL fr xs=some vs->
    k.run (λb=>st.heap.get b) st.next vs=some res->qU P ρ C st w ((execOp a.eval o).run P w) res
section
variable{P:Program}{tt:TT}
theorem MP{ρ:Pos->Loc}{n:Nat}{C:Cells}{x y:Operand}{os:List dK}{fr:Fr}{a:Act}{vs:List AV}(h:iz [x,y]=some os)(hF:eJ ρ n C fr a.tmps)(hv:dL fr os=some vs):
  ∃u v,vs=[u,v]/\aj ρ n C u (a.eval x)/\aj ρ n C v (a.eval y):=by
 have h1:=dF h hF hv;cases vs with
 |nil=>have:=h1.1;simp at this
 |cons u vs=>
  cases vs with
  |nil=>have:=h1.1;simp at this
  |cons v vs=>
   cases vs with
   |nil=>exact⟨u,v,rfl,h1.2 0 u _ rfl rfl,h1.2 1 v _ rfl rfl⟩
   |cons z vs=>have:=h1.1;simp at this
theorem evs3{ρ:Pos->Loc}{n:Nat}{C:Cells}{x y z:Operand}{os:List dK}{fr:Fr}{a:Act}{vs:List AV}(h:iz [x,y,z]=some os)(hF:eJ ρ n C fr a.tmps)(hv:dL fr os=some vs):
  ∃u v q,vs=[u,v,q]/\aj ρ n C u (a.eval x)/\aj ρ n C v (a.eval y)/\aj ρ n C q (a.eval z):=by
 have h1:=dF h hF hv
 match vs,h1 with
 |[u,v,q],h1=>exact⟨u,v,q,rfl,h1.2 0 u _ rfl rfl,h1.2 1 v _ rfl rfl,h1.2 2 q _ rfl rfl⟩
 |[],h1=>have:=h1.1;simp at this
 |[_],h1=>have:=h1.1;simp at this
 |[_,_],h1=>have:=h1.1;simp at this
 |_::_::_::_::_,h1=>have:=h1.1;simp at this
theorem Zx(x:Operand):cw P tt (.move x):=by
 intro ρ C st w k xs cls fr a o vs res ho hc hW hF hx hr;simp only[fy]at hc;split at hc<;>first|(cases hc;done)|skip
 rename_i b hb;cases hc;obtain⟨v,rfl,hv⟩:=ep hb hF hx;simp only[ay.run,Ip,H0]at hr;subst hr;exact .pure (by simp[execOp,ho]) hv
theorem U5(x:Operand):cw P tt (.assign x):=by
 intro ρ C st w k xs cls fr a o vs res ho hc hW hF hx hr;simp only[fy]at hc;split at hc<;>first|(cases hc;done)|skip
 rename_i b hb;cases hc;obtain⟨v,rfl,hv⟩:=ep hb hF hx;simp only[ay.run,Ip,H0]at hr;subst hr;exact .pure (by simp[execOp,ho]) hv
theorem Zy(c x y:Operand):cw P tt (.pick c x y):=by
 intro ρ C st w k xs cls fr a o vs res ho hc hW hF hx hr;simp only[fy]at hc;split at hc<;>first|(cases hc;done)|skip
 rename_i l hl;cases hc;obtain⟨u,v,q,rfl,h1,h2,h3⟩:=evs3 hl hF hx;simp only[ay.run,ML]at hr;split at hr<;>first|(cases hr;done)|skip
 all_goals
   simp only[H0]at hr;subst hr;have h1:=h1.fS
 .exact .pure (by simp[execOp,ho,h1,asBool]) h2
 .exact .pure (by simp[execOp,ho,h1,asBool]) h3
theorem WH(hT:bH P tt)(op:BinOp)(t:TypeId)(x y:Operand)(yt:TypeId):cw P tt (.binOp op t x y yt):=by
 intro ρ C st w k xs cls fr a o vs res ho hc hW hF hx hr;have key:∃q,abm tt op q t/\k= .bin op q/\iz [x,y]=some xs:=by
  simp only[fy]at hc;split at hc
  .rename_i q l hq hl;cases hc;exact⟨q,.inl hq,rfl,hl⟩
  .rename_i l hq hl;(split at hc<;>first|(cases hc;done)|skip);rename_i h1 h2;cases hc;exact⟨.num,.inr ⟨rfl,λe=>h1 e,λe=>h2 e⟩,rfl,hl⟩
  .cases hc
 obtain⟨q,hq,rfl,hl⟩:=key;obtain⟨u,v,rfl,h1,h2⟩:=MP hl hF hx;simp only[ay.run,gy]at hr;split at hr<;>first|(cases hr;done)|skip
 rename_i r hb;simp only[H0]at hr;subst hr;obtain⟨z,hz,hv⟩:=Zw hT hq h1 h2 hb x y (w:=w);refine .pure ?_ hv;simp only[execOp,ho];rw[Sem.run_bind,hz];rfl
theorem Zz(op:UnOp)(t:TypeId)(x:Operand):cw P tt (.unOp op t x):=by
 intro ρ C st w k xs cls fr a o vs res ho hc hW hF hx hr;simp only[fy]at hc;split at hc<;>first|(cases hc;done)|skip
 rename_i b hb;cases hc;obtain⟨v,rfl,hv⟩:=ep hb hF hx;simp only[ay.run,UZ]at hr;split at hr<;>first|(cases hr;done)|skip
 rename_i r hu;simp only[H0]at hr;subst hr;unfold unA at hu;split at hu
 . (split at hu<;>first|(cases hu;done)|skip);simp only[H0]at hu;subst hu;exact .pure (by simp[execOp,ho,hv.fS,Op.unary]) (.bool _)
 . (split at hu<;>first|(cases hu;done)|skip);simp only[H0]at hu;subst hu;exact .pure (by simp[execOp,ho,hv.gL,Op.unary,Op.intArith];rfl) (by rw[qp];simpa using aj.int _ _)
 .cases hu
theorem QD(x:Operand):cw P tt (.nilCheck x):=by
 intro ρ C st w k xs cls fr a o vs res ho hc hW hF hx hr;simp only[fy]at hc;split at hc<;>first|(cases hc;done)|skip
 rename_i b hb;cases hc;obtain⟨v,rfl,hv⟩:=ep hb hF hx;simp only[ay.run,B4]at hr;split at hr<;>first|(cases hr;done)|skip
 all_goals simp only[H0]at hr;subst hr
 .obtain⟨_,he⟩:=hv.ei;exact .pure (by simp[execOp,ho,he]) hv
 .obtain⟨_,_,_,_,he,_⟩:=hv.CR;exact .pure (by simp[execOp,ho,he]) hv
 .obtain⟨_,_,he,_⟩:=hv.wz;exact .pure (by simp[execOp,ho,he]) hv
theorem S8(x:Operand)(i:Nat):cw P tt (.extract x i):=by
 intro ρ C st w k xs cls fr a o vs res ho hc hW hF hx hr;simp only[fy]at hc;split at hc<;>first|(cases hc;done)|skip
 rename_i b hb;cases hc;obtain⟨v,rfl,hv⟩:=ep hb hF hx;simp only[ay.run,zd]at hr;split at hr<;>first|(cases hr;done)|skip
 split at hr<;>first|(cases hr;done)|skip
 rename_i u hu;simp only[H0]at hr;subst hr;obtain⟨cs,he,hs⟩:=hv.NU;rw[ki]at hu;obtain⟨y,hy,zV⟩:=hs.get hu;exact .pure (by simp at hy;simp[execOp,ho,he,Instr.extract,hy]) zV
theorem S9(hT:bH P tt)(t:TypeId)(x:Operand):cw P tt (.makeInterface t x):=by
 intro ρ C st w k xs cls fr a o vs res ho hc hW hF hx hr;simp only[fy]at hc;split at hc<;>first|(cases hc;done)|skip
 rename_i ti b cm hb;split at hc<;>first|(cases hc;done)|skip
 rename_i h1 h2;cases hc;obtain⟨v,rfl,hv⟩:=ep hb hF hx;simp only[ay.run,DJ,H0]at hr;subst hr;obtain⟨d,hd,hk⟩:=(hT.at cm).und;refine .pure (x:= .iface t (a.eval x)) ?_ (.iface _ _ _ hv);have hni:∀ms,d≠ .interface ms:=by
  rintro ms rfl;cases yG:ti.k<;>rw[yG]at hk<;>first|(simp[bw]at hk;done)|(exact h1 yG)|(exact h2 yG)
 simp only[execOp,ho,Instr.makeInterface,Sem.run_bind,aH hd,Result.andThen_ok];cases d<;>first|rfl|(exact absurd rfl (hni _))
theorem U6(fn:Fn)(first captured:Array Operand):cw P tt (.makeFunc fn first captured):=by
 intro ρ C st w k xs cls fr a o vs res ho hc hW hF hx hr;simp only[fy]at hc;split at hc<;>first|(cases hc;done)|skip
 rename_i f l hl;cases hc;have h:=dF hl hF hx;simp only[ay.run,Bk,H0]at hr;subst hr;have e1:vs.take first.size=vs.take first.size:=rfl
 have h1:=h.take first.size
 have h2:=h.drop first.size
 simp only[Zd7]at h1 h2;rw[Zj8 (by simp)]at h1;rw[List.drop_left' (by simp)]at h2;refine .pure (x:= .func (.func f) (first.map a.eval) (captured.map a.eval)) (by simp[execOp,ho,Instr.makeFunc]) ?_;exact .func _ _ _ _ _ (by simpa using h1.1) (by simpa using h2.1) (λi v v' hv vN=>h1.2 i v v' hv (by simpa using vN)) (λi v v' hv vN=>h2.2 i v v' hv (by simpa using vN))
theorem Pp(hT:bH P tt)(t:TypeId)(x:Operand)(f:Nat):cw P tt (.fieldAddr t x f):=by
 intro ρ C st w k xs cls fr a o vs res ho hc hW hF hx hr;simp only[fy]at hc;split at hc<;>first|(cases hc;done)|skip
 rename_i ti b cm hb;split at hc<;>first|(cases hc;done)|skip
 rename_i fs hk;split at hc<;>first|(cases hc;done)|skip
 rename_i off ft nm hf;split at hc<;>first|(cases hc;done)|skip
 rename_i fi hfi;split at hc<;>first|(cases hc;done)|skip
 rename_i eD;cases hc;obtain⟨v,rfl,hv⟩:=ep hb hF hx;obtain⟨d,hd,bP⟩:=(hT.at cm).und;rw[hk]at bP;obtain⟨gs,rfl,hm⟩:=Bp bP;obtain⟨g,hg,mA,vO,_⟩:=DU hm hf;simp only at mA vO;obtain⟨i,hi,jQ,_⟩:=(hT.at hfi).info;have hs0:¬i.size=0:=by rw[jQ];exact Zb4 eD
 simp only[ay.run,Gj]at hr;split at hr<;>first|(cases hr;done)|skip
 .simp only[H0]at hr;subst hr;obtain⟨aU,he⟩:=hv.ei;refine .pure (x:= .pointer (some ⟨(ρ _).aq,(ρ _).base+(_+off),none⟩)) ?_ (.ptr _ _ aU);simp at hg;simp[execOp,ho,he,Instr.fieldAt,aH hd,hg,Instr.sureAddr,fieldPlace,vO,gH hi,hs0,kj,mA,Zh2]
 .simp only[H0]at hr;subst hr;obtain⟨es,aq,base,cell,he,h1,h2,h3⟩:=hv.CR;rename_i rW i' j';refine .pure (x:= .pointer (some ⟨aq,base+i'*es+(j'+off),none⟩)) ?_ (.fp _ _ _ es aq base cell h1 h2 h3);simp at hg;simp[execOp,ho,he,Instr.fieldAt,aH hd,hg,Instr.sureAddr,fieldPlace,vO,gH hi,hs0,kj,mA,Zh2]
theorem iM{ρ:Pos->Loc}{n:Nat}{C:Cells}{v:AV}{x:Value}{i:Nat}(h:aj ρ n C v x)(hi:rL v=some i):∃k,x= .int k (i:Int):=by
 unfold rL at hi;split at hi<;>first|(cases hi;done)|skip
 split at hi<;>first|(cases hi;done)|skip
 simp only[H0]at hi;subst hi;exact⟨_,h.gL⟩
theorem Pq(hT:bH P tt)(t:TypeId)(x ix:Operand):cw P tt (.indexAddr t x ix):=by
 intro ρ C st w k xs cls fr a o vs res ho hc hW hF hx hr;simp only[fy]at hc;split at hc<;>first|(cases hc;done)|skip
 rename_i ti l cm hl;obtain⟨d,hd,bP⟩:=(hT.at cm).und;obtain⟨u,v,rfl,h1,h2⟩:=MP hl hF (by
   split at hc<;>first|(cases hc;done)|skip
   all_goals
     (split at hc<;>first|(cases hc;done)|skip);cases hc;exact hx)
 split at hc<;>first|(cases hc;done)|skip
 . rename_i e hk;rw[hk]at bP;rw[kQ bP]at hd;(split at hc<;>first|(cases hc;done)|skip);rename_i te eI;cases hc;obtain⟨i0,kG,jQ,_⟩:=(hT.at eI).info;simp only[ay.run,nk]at hr;(split at hr<;>first|(cases hr;done)|skip);rename_i i hi;obtain⟨kk,Bs⟩:=iM h2 hi;split at hr<;>first|(cases hr;done)|skip
   .rename_i b off len cap es' _;(split at hr<;>first|(cases hr;done)|skip);rename_i aU;have aU:i<len:=(by simpa using aU);simp only[H0]at hr;subst hr;obtain⟨aa,aG,he,hle,_,ha⟩:=h1.cO;obtain⟨hb,rfl,_⟩:=ha (by omega);refine .pure (x:= .pointer (some ⟨(ρ b).aq,(ρ b).base+(off+i*te.size),none⟩)) ?_ (.ptr _ _ hb);simp[execOp,ho,he,Bs,Instr.indexAt,aH hd,asIntOf,aU,gH kG,kj,jQ,Zh2]
   .rename_i rW es' _;(split at hr<;>first|(cases hr;done)|skip);rename_i aU dc;have aU:i<rW.length:=(by simpa using aU);have dc:te.size=es':=Za0 dc;simp only[H0]at hr;subst hr;obtain⟨aa,aG,cell,he,hle,yH,g1,g2,g3⟩:=h1.qo;have yH:=yH (by intro e;rw[e]at aU;simp at aU);obtain⟨ab,ao,asp⟩:=aa;simp only at yH;subst yH;refine .pure (x:= .pointer (some ⟨ab,ao+i*es'+0,none⟩)) ?_ (.fp _ _ _ es' ab ao cell g1 g2 g3);simp[execOp,ho,he,Bs,Instr.indexAt,aH hd,asIntOf,aU,gH kG,kj,jQ,dc]
   .rename_i hh;cases hh
 . rename_i m e hk;rw[hk]at bP;rw[Qz bP]at hd;(split at hc<;>first|(cases hc;done)|skip);rename_i te eI;cases hc;obtain⟨i0,kG,jQ,_⟩:=(hT.at eI).info;simp only[ay.run,nk]at hr;(split at hr<;>first|(cases hr;done)|skip);rename_i i hi;obtain⟨kk,Bs⟩:=iM h2 hi;split at hr<;>first|(cases hr;done)|skip
   .rename_i hh;cases hh
   .rename_i hh;cases hh
   .rename_i m' b off hh;cases hh;(split at hr<;>first|(cases hr;done)|skip);rename_i aU;have aU:i<m:=(by simpa using aU);simp only[H0]at hr;subst hr;obtain⟨hb,he⟩:=h1.ei;refine .pure (x:= .pointer (some ⟨(ρ b).aq,(ρ b).base+(off+i*te.size),none⟩)) ?_ (.ptr _ _ hb);simp[execOp,ho,he,Bs,Instr.indexAt,aH hd,asIntOf,aU,gH kG,kj,jQ,Zh2,Instr.sureAddr]
end
section
variable{P:Program}{tt:TT}
theorem WI(hT:bH P tt)(t:TypeId)(x:Operand)(f:Nat):cw P tt (.field t x f):=by
 intro ρ C st w k xs cls fr a o vs res ho hc hW hF hx hr;simp only[fy]at hc;split at hc<;>first|(cases hc;done)|skip
 rename_i ti b cm hb;split at hc<;>first|(cases hc;done)|skip
 rename_i fs hk;split at hc<;>first|(cases hc;done)|skip
 rename_i off ft nm hf;split at hc<;>first|(cases hc;done)|skip
 rename_i fi hfi;cases hc;obtain⟨v,rfl,hv⟩:=ep hb hF hx;obtain⟨d,hd,bP⟩:=(hT.at cm).und;rw[hk]at bP;obtain⟨gs,rfl,hm⟩:=Bp bP;obtain⟨g,hg,mA,vO,_⟩:=DU hm hf;simp only at mA vO;obtain⟨i,hi,jQ,_⟩:=(hT.at hfi).info;obtain⟨fd,hfd,hfk⟩:=(hT.at hfi).und;have nh:=J1 hfk w hfd;simp only[ay.run,JW]at hr;split at hr<;>first|(cases hr;done)|skip
 rename_i cs;obtain⟨cx,he,hs⟩:=hv.zD;simp at hg;split at hr
 . rename_i hn;(split at hr<;>first|(cases hr;done)|skip);rename_i u hu;simp only[H0]at hr;subst hr;rw[ki]at hu;obtain⟨y,hy,zV⟩:=hs.get hu;have U7:fi.k.isAgg=false:=by
     unfold uy at hn;split at hn
     .cases hn
     .assumption
   rw[U7]at nh;refine .pure (x:=y) ?_ zV;simp at hy;simp[execOp,ho,he,Instr.field,aH hd,hg,part,vO,nh,asAgg,mA,hy]
 . rename_i m hn;simp only[H0]at hr;subst hr;have U7:fi.k.isAgg=true/\m=fi.size:=by
     unfold uy at hn;split at hn
     .cases hn;exact⟨by assumption,rfl⟩
     .cases hn
   rw[U7.1]at nh;refine .pure (x:= .agg (cx.extract off (off+m))) ?_ (.zR ?_)
   .simp[execOp,ho,he,Instr.field,aH hd,hg,part,vO,nh,asAgg,mA,gH hi,jQ,U7.2]
   .have:=(hs.drop off).take m;simpa [Zn0,List.extract]using this
theorem WJ(hT:bH P tt)(t:TypeId)(x ix:Operand):cw P tt (.index t x ix):=by
 intro ρ C st w k xs cls fr a o vs res ho hc hW hF hx hr;simp only[fy]at hc;split at hc<;>first|(cases hc;done)|skip
 rename_i ti l cm hl;split at hc<;>first|(cases hc;done)|skip
 rename_i hk;cases hc;obtain⟨u,v,rfl,h1,h2⟩:=MP hl hF hx;obtain⟨d,hd,bP⟩:=(hT.at cm).und;rw[hk]at bP;rw[kF bP]at hd;simp only[ay.run,Iq]at hr;split at hr<;>first|(cases hr;done)|skip
 rename_i s i hi;split at hr<;>first|(cases hr;done)|skip
 rename_i c hcx;simp only[H0]at hr;subst hr;obtain⟨bs,he,hs⟩:=h1.dN;obtain⟨kk,Bs⟩:=iM h2 hi;rw[ki, <-hs,Zb7]at hcx;obtain⟨b,hb,hbc⟩:=Zd4.1 hcx;have jf:bs[i]? =some b:=by
  obtain⟨aU,jC⟩:=Za1.1 hb;have DV:i<bs.size:=by rw[Zf1]at aU;exact aU
  rw[getElem?_pos bs i DV];congr 1
 refine .pure (x:= .int .u8 (.ofNat c)) ?_ (.int _ _);simp[execOp,ho,he,Bs,Instr.index,aH hd,asIntOf,jf, <-hbc]
theorem ZA(hT:bH P tt)(t:TypeId)(x:Operand):cw P tt (.load t x):=by
 intro ρ C st w k xs cls fr a o vs res ho hc hW hF hx hr;simp only[fy]at hc;split at hc<;>first|(cases hc;done)|skip
 rename_i ti b cm hb;cases hc;obtain⟨v,rfl,hv⟩:=ep hb hF hx;obtain⟨d,hd,bP⟩:=(hT.at cm).und;obtain⟨i,hi,jQ,_⟩:=(hT.at cm).info;have nh:=J1 bP w hd;have hn:(uy ti=none/\ti.k.isAgg=false)\/(uy ti=some ti.size/\ti.k.isAgg=true):=by unfold uy;split<;>simp_all
 simp only[ay.run,qP]at hr;split at hr<;>first|(cases hr;done)|skip
 . rename_i bb off;(split at hr<;>first|(cases hr;done)|skip);rename_i cs fz jC;obtain⟨_,he⟩:=hv.ei;rcases hn with⟨hn,hf⟩|⟨hn,hf⟩
   .rw[hn]at hr;rw[hf]at nh;simp only at hr;(split at hr<;>first|(cases hr;done)|skip);rename_i u hu;simp only[H0]at hr;subst hr;rw[ki]at hu;obtain⟨y,hy,zV⟩:=hW.cell jC hu;refine .pure (x:=y) ?_ zV;simp[execOp,ho,he,Instr.loadAt,Instr.sureAddr,loadVar,nh,hy]
   .rw[hn]at hr;rw[hf]at nh;simp only at hr;(split at hr<;>first|(cases hr;done)|skip);rename_i us hu;simp only[H0]at hr;subst hr;obtain⟨ys,hy,zV⟩:=hW.loadCells (P:=P) jC hu;refine .pure (x:= .agg ys.toArray) ?_ (.zR (by simpa using zV));simp[execOp,ho,he,Instr.loadAt,Instr.sureAddr,loadVar,nh,gH hi,jQ,hy]
   rename_i tt0 cs jC;obtain⟨_,he⟩:=hv.ei;rcases hn with⟨hn,hf⟩|⟨hn,hf⟩
   .rw[hn]at hr;rw[hf]at nh;simp only at hr;(split at hr<;>first|(cases hr;done)|skip);rename_i u hu;simp only[H0]at hr;subst hr;rw[ki]at hu;obtain⟨y,hy,zV⟩:=hW.adl jC hu;refine .pure (x:=y) ?_ zV;simp[execOp,ho,he,Instr.loadAt,Instr.sureAddr,loadVar,nh,hy]
   .rw[hn]at hr;rw[hf]at nh;simp only at hr;(split at hr<;>first|(cases hr;done)|skip);rename_i us hu;simp only[H0]at hr;subst hr;obtain⟨ys,hy,zV⟩:=hW.La (P:=P) jC hu;refine .pure (x:= .agg ys.toArray) ?_ (.zR (by simpa using zV));simp[execOp,ho,he,Instr.loadAt,Instr.sureAddr,loadVar,nh,gH hi,jQ,hy]
 . rename_i rW i' j';(split at hr<;>first|(cases hr;done)|skip);rename_i cs fH;rw[ki]at fH;obtain⟨es,aq,base,cell,he,g1,g2,g3⟩:=hv.CR;rcases hn with⟨hn,hf⟩|⟨hn,hf⟩
   .rw[hn]at hr;rw[hf]at nh;simp only at hr;(split at hr<;>first|(cases hr;done)|skip);rename_i u hu;simp only[H0]at hr;subst hr;rw[ki]at hu;have Bq:=(hW.cZ _ _ (g2 _ _ _ _ fH hu)).1;refine .pure (x:=cell i' j') ?_ (g3 _ _ _ _ fH hu);simp[execOp,ho,he,Instr.loadAt,Instr.sureAddr,loadVar,nh,Bq]
   . rw[hn]at hr;rw[hf]at nh;simp only at hr;(split at hr<;>first|(cases hr;done)|skip);rename_i us hu;simp only[H0]at hr;subst hr;obtain⟨WM,hle⟩:=zT hu;have hlen:=qV hu;have bQ:(loadCells ⟨aq,base+i'*es+j',none⟩ ti.size).run P w= .ok ((List.range ti.size).map λq=>cell i' (j'+q)).toArray w:=by
        (refine run_loadCells w _ _ _ λq hq=> ?_);rw[kj];have:cs[j'+q]? =some (cs[j'+q]'(by omega)):=H4 (by omega);rw[Zh2];exact(hW.cZ _ _ (g2 _ _ _ _ fH this)).1
     refine .pure (x:= .agg ((List.range ti.size).map λq=>cell i' (j'+q)).toArray) ?_ (.zR ⟨by simp[hlen],λq u y hu' hy=> ?_⟩)
     .  simp[execOp,ho,he,Instr.loadAt,Instr.sureAddr,loadVar,nh,gH hi,jQ,bQ]
     .  have hq:q<ti.size:=(by rw[<-hlen];exact(Za1.1 hu').1);rw[WM,Zb8,Za8 hq,Zc8]at hu';simp[hq]at hy;subst hy;exact g3 _ _ _ _ fH hu'
theorem ZB{x y:Value}{ρ:Pos->Loc}{n:Nat}{C:Cells}{u v r:AV}{w:World}{st:St}(h1:aj ρ n C u x)(h2:aj ρ n C v y)(hr:zB (λb=>st.heap.get b) st.next [u,v]=some (.val r)):
   ∃z,(Builtin.min2 x y).run P w= .ok z w/\aj ρ n C r z:=by
 simp only[zB]at hr;split at hr<;>first|(cases hr;done)|skip
 . simp only[H0,bV.val.injEq]at hr;subst hr;rw[h1.gL,h2.gL];refine⟨_,rfl,?_⟩;rw[dD];split
   .rename_i h;rw[Za8 (Zg2 h)];exact .int _ _
   .rename_i h;rw[Za5 (Zl0 h)];exact .int _ _
 . simp only[H0,bV.val.injEq]at hr;subst hr;rename_i sa sb;obtain⟨bx,rfl,e1⟩:=h1.dN;obtain⟨bz,rfl,e2⟩:=h2.dN;have hh:(Op.stringOp .leq bx bz).run P w= .ok (.bool (aB sa sb||gX sa sb)) w:=by
     simp only[Op.stringOp,Sem.run_pure];rw[J2 e1 e2,CT e1 e2]
   refine⟨_,by simp only[Builtin.min2,Sem.run_bind,hh,Result.andThen_ok,asBool,Sem.run_pure];rfl,?_⟩;split
   .rename_i h;rw[Za8 h];exact .str _ _ e1
   .rename_i h;rw[Za5 (by rw[h];simp)];exact .str _ _ e2
theorem ZC{x y:Value}{ρ:Pos->Loc}{n:Nat}{C:Cells}{u v r:AV}{w:World}{st:St}(h1:aj ρ n C u x)(h2:aj ρ n C v y)(hr:zC (λb=>st.heap.get b) st.next [u,v]=some (.val r)):
   ∃z,(Builtin.max2 x y).run P w= .ok z w/\aj ρ n C r z:=by
 simp only[zC]at hr;split at hr<;>first|(cases hr;done)|skip
 . simp only[H0,bV.val.injEq]at hr;subst hr;rw[h1.gL,h2.gL];refine⟨_,rfl,?_⟩;rw[dD];split
   .rename_i h;rw[Za8 (Zg2 h)];exact .int _ _
   .rename_i h;rw[Za5 (Zl0 h)];exact .int _ _
 . simp only[H0,bV.val.injEq]at hr;subst hr;rename_i sa sb;obtain⟨bx,rfl,e1⟩:=h1.dN;obtain⟨bz,rfl,e2⟩:=h2.dN;have hh:(Op.stringOp .geq bx bz).run P w= .ok (.bool (!aB sa sb)) w:=by
     simp only[Op.stringOp,Sem.run_pure];rw[J2 e1 e2]
   refine⟨_,by simp only[Builtin.max2,Sem.run_bind,hh,Result.andThen_ok,asBool,Sem.run_pure];rfl,?_⟩;split
   .rename_i h;rw[Za5 (by rw[h];simp)];exact .str _ _ e2
   .rename_i h;rw[Za8 (by rw[h];rfl)];exact .str _ _ e1
theorem fI(xs:Array Operand)(a:Act):xs.toList.map a.eval=(xs.map a.eval).toList:=by simp
end
section
variable{P:Program}{tt:TT}
theorem vs1{ρ:Pos->Loc}{n:Nat}{C:Cells}{bs:List AV}{x:Value}(h:av ρ n C bs [x]):∃b,bs=[b]/\aj ρ n C b x:=by
 match bs,h with
 |[b],h=>exact⟨b,rfl,h.2 0 b x rfl rfl⟩
 |[],h=>have:=h.1;simp at this
 |_::_::_,h=>have:=h.1;simp at this
theorem vs2{ρ:Pos->Loc}{n:Nat}{C:Cells}{bs:List AV}{x y:Value}(h:av ρ n C bs [x,y]):∃b c,bs=[b,c]/\aj ρ n C b x/\aj ρ n C c y:=by
 match bs,h with
 |[b,c],h=>exact⟨b,c,rfl,h.2 0 b x rfl rfl,h.2 1 c y rfl rfl⟩
 |[],h=>have:=h.1;simp at this
 |[_],h=>have:=h.1;simp at this
 |_::_::_::_,h=>have:=h.1;simp at this
theorem vs3{ρ:Pos->Loc}{n:Nat}{C:Cells}{bs:List AV}{x y z:Value}(h:av ρ n C bs [x,y,z]):∃b c d,bs=[b,c,d]/\aj ρ n C b x/\aj ρ n C c y/\aj ρ n C d z:=by
 match bs,h with
 |[b,c,d],h=>exact⟨b,c,d,rfl,h.2 0 b x rfl rfl,h.2 1 c y rfl rfl,h.2 2 d z rfl rfl⟩
 |[],h=>have:=h.1;simp at this
 |[_],h=>have:=h.1;simp at this
 |[_,_],h=>have:=h.1;simp at this
 |_::_::_::_::_,h=>have:=h.1;simp at this
def zW(x:Option Value)(i:Option Nat):Prop:=(x=none/\i=none)\/∃j k,i=some j/\x=some (.int k (j:Int))
theorem Ld{ρ:Pos->Loc}{n:Nat}{C:Cells}{lo hi mx:Option Operand}{bs:List AV}{a:Act}{l h m:Option Nat}
   (hb:av ρ n C bs ((uz lo++uz hi++uz mx).map a.eval)) (hr:bounds lo.isSome hi.isSome mx.isSome bs=some (l,h,m)):
   zW (lo.map a.eval) l/\zW (hi.map a.eval) h/\zW (mx.map a.eval) m/\(m.isSome=true->h.isSome=true):=by
 unfold bounds at hr
 cases lo<;>cases hi<;>cases mx<;>simp only[Option.isSome_some,Option.isSome_none,uz,Zf2,Ze8,Zf3,Zc6,Zf7]at hb hr<;>
   first|(cases hr;done)|skip
 . cases bs with
   |cons b bs=>have:=hb.1;simp at this
   |nil=>simp at hr;obtain⟨rfl,rfl,rfl⟩:=hr;exact⟨.inl ⟨rfl,rfl⟩,.inl ⟨rfl,rfl⟩,.inl ⟨rfl,rfl⟩,λh=>by cases h⟩
 .obtain⟨b,rfl,h1⟩:=vs1 hb;simp only at hr;(split at hr<;>first|(cases hr;done)|skip);rename_i j hj;obtain⟨k,hk⟩:=iM h1 hj;simp at hr;obtain⟨rfl,rfl,rfl⟩:=hr;exact⟨.inl ⟨rfl,rfl⟩,.inr ⟨j,k,rfl,by simp[hk]⟩,.inl ⟨rfl,rfl⟩,λh=>by cases h⟩
 .obtain⟨b,c,rfl,h1,h2⟩:=vs2 hb;simp only at hr;(split at hr<;>first|(cases hr;done)|skip);rename_i j j' hj xD;obtain⟨k,hk⟩:=iM h1 hj;obtain⟨k',jB⟩:=iM h2 xD;simp at hr;obtain⟨rfl,rfl,rfl⟩:=hr;exact⟨.inl ⟨rfl,rfl⟩,.inr ⟨j,k,rfl,by simp[hk]⟩,.inr ⟨j',k',rfl,by simp[jB]⟩,λ_=>rfl⟩
 .obtain⟨b,rfl,h1⟩:=vs1 hb;simp only at hr;(split at hr<;>first|(cases hr;done)|skip);rename_i j hj;obtain⟨k,hk⟩:=iM h1 hj;simp at hr;obtain⟨rfl,rfl,rfl⟩:=hr;exact⟨.inr ⟨j,k,rfl,by simp[hk]⟩,.inl ⟨rfl,rfl⟩,.inl ⟨rfl,rfl⟩,λh=>by cases h⟩
 .obtain⟨b,c,rfl,h1,h2⟩:=vs2 hb;simp only at hr;(split at hr<;>first|(cases hr;done)|skip);rename_i j j' hj xD;obtain⟨k,hk⟩:=iM h1 hj;obtain⟨k',jB⟩:=iM h2 xD;simp at hr;obtain⟨rfl,rfl,rfl⟩:=hr;exact⟨.inr ⟨j,k,rfl,by simp[hk]⟩,.inr ⟨j',k',rfl,by simp[jB]⟩,.inl ⟨rfl,rfl⟩,λh=>by cases h⟩
 .obtain⟨b,c,d,rfl,h1,h2,h3⟩:=vs3 hb;simp only at hr;(split at hr<;>first|(cases hr;done)|skip);rename_i j j' j'' hj xD hj'';obtain⟨k,hk⟩:=iM h1 hj;obtain⟨k',jB⟩:=iM h2 xD;obtain⟨k'',hk''⟩:=iM h3 hj'';simp at hr;obtain⟨rfl,rfl,rfl⟩:=hr;exact⟨.inr ⟨j,k,rfl,by simp[hk]⟩,.inr ⟨j',k',rfl,by simp[jB]⟩,.inr ⟨j'',k'',rfl,by simp[hk'']⟩,λ_=>rfl⟩
theorem vP(isS:Bool){len cap:Nat}{xl xh xm:Option Value}{l h m:Option Nat}(h1:zW xl l)(h2:zW xh h)(h3:zW xm m)(hmh:m.isSome=true->h.isSome=true)
  (CU:l.getD 0<=h.getD len) (hhm:h.getD len<=m.getD cap) (hmc:m.getD cap<=cap) (w:World):
  (Instr.sliceBounds isS len cap xl xh xm).run P w= .ok (l.getD 0,h.getD len,m.getD cap) w:=by
 rcases h1 with⟨rfl,rfl⟩|⟨jl,kl,rfl,rfl⟩<;>rcases h2 with⟨rfl,rfl⟩|⟨jh,kh,rfl,rfl⟩<;>rcases h3 with⟨rfl,rfl⟩|⟨jm,km,rfl,rfl⟩<;>
  simp only[Option.getD_none,Zj3,Option.isSome_some,Option.isSome_none]at CU hhm hmc hmh ⊢ <;>
  first
   |(simp at hmh;done)
   |simp[Instr.sliceBounds,Instr.sliceBound,asIntOf,CU,hhm,hmc,Int.ofNat_le]
theorem Bt{ρ:Pos->Loc}{n:Nat}{C:Cells}{b:Pos}{off es aG l h M:Nat}{aa:Addr}{U8:Option Nat}
   (ha:aG≠0->b.toNat<n/\aa=⟨(ρ b).aq,(ρ b).base+off,none⟩/\(ρ b).base+off+aG*es<=(ρ b).size)
   (h1:l<=h) (h2:h<=M) (h3:M<=aG) (hc:∀c,U8=some c->c=M - l) (hk:U8=none->b.toNat<n):
   aj ρ n C (.slice b (off+l*es) (h - l) U8 es) (.slice (if M=l then some aa else(some aa).map (·.add (l*es))) (h - l) (M - l)):=by
 by_cases hm:M=l
 .rw[Za8 hm];exact .slice _ _ _ _ _ _ _ (by omega) hc (λh0=>absurd (by omega) h0) hk
 .rw[Za5 hm];obtain⟨hb,rfl,hle⟩:=ha (by omega);refine .slice _ _ _ _ _ _ _ (by omega) hc (λ_=>⟨hb,by show Addr.add _ _=_;rw[kj,Zh2],?_⟩) hk;have e1:l*es+(M - l)*es=M*es:=(by rw[<-Zi4];congr 1;omega);have e2:M*es<=aG*es:=Zg3 _ h3;omega
theorem WN(hT:bH P tt)(t:TypeId)(x:Operand)(lo hi mx:Option Operand):cw P tt (.slice t x lo hi mx):=by
 intro ρ C st w k xs cls fr a o vs res ho hc hW hF hx hr;simp only[fy]at hc;split at hc<;>first|(cases hc;done)|skip
 rename_i ti l0 cm hl;obtain⟨d,hd,bP⟩:=(hT.at cm).und;split at hc<;>first|(cases hc;done)|skip
 . rename_i hk;rw[hk]at bP;rw[kF bP]at hd;(split at hc<;>first|(cases hc;done)|skip);cases hc;have hv:=dF hl hF hx;simp only[uz,Ze8,Zf3,Zf2,Zc6]at hv;simp only[ay.run,Gi]at hr;(split at hr<;>first|(cases hr;done)|skip);rename_i u bs;(split at hr<;>first|(cases hr;done)|skip);rename_i s l h m' hb;(split at hr<;>first|(cases hr;done)|skip);rename_i h1 h2;have h1:=Za3 h1;have h2:=Za3 h2;simp only[H0]at hr;subst hr;obtain⟨y,ys,zQ,hu,Fo⟩:=hv.cons_inv;simp only[Zg0]at zQ;obtain⟨rfl,rfl⟩:=zQ;have jC:=Ld (lo:=lo) (hi:=hi) (mx:=none) (a:=a) (by simpa [uz]using Fo) hb;obtain⟨bs',he,hs⟩:=hu.dN;have eD:=tq hs
   have bQ:=vP (P:=P) false (len:=bs'.size) (cap:=bs'.size) jC.1 jC.2.1 (.inl ⟨rfl,rfl⟩:zW none none) (λh=>by cases h)
     (by rw[eD];exact h1) (by rw[eD];simpa using h2) (by simp) w
   refine .pure (x:= .string (bs'.extract (l.getD 0) (h.getD bs'.size))) ?_ (.str _ _ ?_)
   .simp only[execOp,ho,Instr.sliceAt,Sem.run_bind,aH hd,Result.andThen_ok,he,Instr.slice];simp[bQ]
   .rw[eD,ByteArray.data_extract,Zn0, <-hs,List.extract,Zm9,List.map_drop];rw[List.drop_take]
 . rename_i e hk;rw[hk]at bP;rw[kQ bP]at hd;(split at hc<;>first|(cases hc;done)|skip);rename_i te eI;cases hc;obtain⟨i0,kG,jQ,_⟩:=(hT.at eI).info;have hv:=dF hl hF hx;simp only[Zf3,Zf2,Zi5,Zc6]at hv;simp only[ay.run,nU]at hr;(split at hr<;>first|(cases hr;done)|skip);rename_i u bs;obtain⟨y,ys,zQ,hu,Fo⟩:=hv.cons_inv;simp only[Zg0]at zQ;obtain⟨rfl,rfl⟩:=zQ
   have mA:∀(sa:Option Addr)(len cap:Nat)(l h m:Option Nat),a.eval x= .slice sa len cap->bounds lo.isSome hi.isSome mx.isSome bs=some (l,h,m)->
        l.getD 0<=h.getD len->h.getD len<=m.getD cap->m.getD cap<=cap->
        (execOp a.eval o).run P w= .ok (.value (.slice (if m.getD cap=l.getD 0 then sa else sa.map (·.add (l.getD 0*te.size))) (h.getD len - l.getD 0) (m.getD cap - l.getD 0))) w:=by
     intro sa len cap l h m he hb h1 h2 h3;have jC:=Ld (lo:=lo) (hi:=hi) (mx:=mx) (a:=a) (by simpa [Zi5]using Fo) hb;have bQ:=vP (P:=P) true (len:=len) (cap:=cap) jC.1 jC.2.1 jC.2.2.1 jC.2.2.2 h1 h2 h3 w;simp only[execOp,ho,Instr.sliceAt,Sem.run_bind,aH hd,Result.andThen_ok,he,Instr.slice,bQ,gH kG,jQ,Sem.run_pure]
   split at hr<;>first|(cases hr;done)|skip
   ·
     rename_i b off len cap es' l h m hb;(split at hr<;>first|(cases hr;done)|skip);rename_i dc CU;have dc:te.size=es':=Za0 dc;subst dc;have CU:=Za3 CU;obtain⟨aa,aG,he,hle,MQ,ha⟩:=hu.cO;split at hr
     .  rename_i c m';(split at hr<;>first|(cases hr;done)|skip);rename_i e1 e2;have e1:=Za3 e1;have e2:=Za3 e2;have:=MQ c rfl;subst this;simp only[H0]at hr;subst hr;exact .pure (mA _ _ _ _ _ _ he hb CU (by simpa using e1) (by simpa using e2)) (Bt ha CU e1 e2 (λc hc=>by cases hc;rfl) (λh=>by cases h))
     .  rename_i c;(split at hr<;>first|(cases hr;done)|skip);rename_i e1;have e1:=Za3 e1;have:=MQ c rfl;subst this;simp only[H0]at hr;subst hr;exact .pure (mA _ _ _ _ _ _ he hb CU (by simpa using e1) (by simp)) (Bt ha CU e1 (Za4 _) (λc hc=>by cases hc;rfl) (λh=>by cases h))
     .  rename_i m';(split at hr<;>first|(cases hr;done)|skip);rename_i e1 e2;have e1:=Za3 e1;have e2:=Za3 e2;simp only[H0]at hr;subst hr;exact .pure (mA _ _ _ _ _ _ he hb CU (by simpa using e1) (by simp;omega)) (Bt ha CU e1 (by simp;omega) (λc hc=>by cases hc;rfl) (λh=>by cases h))
     .  (split at hr<;>first|(cases hr;done)|skip);rename_i e1;have e1:=Za3 e1;simp only[H0]at hr;subst hr;exact .pure (mA _ _ _ _ _ _ he hb CU (by simp;omega) (by simp)) (Bt ha CU (by simp;omega) (Za4 _) (λc hc=>by cases hc) (λ_=>hu.NY rfl))
   ·
     rename_i rW es' l h m hb;(split at hr<;>first|(cases hr;done)|skip);rename_i dc;have dc:te.size=es':=Za0 dc;subst dc;obtain⟨aa,aG,cell,he,hle,yH,g1,g2,g3⟩:=hu.qo;split at hr
     .  rename_i m';(split at hr<;>first|(cases hr;done)|skip);rename_i e0 e1 e2;have e0:=Za0 e0;have e1:=Za0 e1;have e2:=Za0 e2;subst e2;simp only[H0]at hr;subst hr;refine .pure (mA _ _ _ _ _ _ he hb (by omega) (by rw[e1];simp) (by simp)) ?_;simp only[e0,e1,Zj3,Zn5,Zg8];exact .slice _ _ _ _ _ _ _ (Za4 _) (λc hc=>by cases hc;rfl) (λh0=>absurd rfl h0) (λh=>by cases h)
     .  (split at hr<;>first|(cases hr;done)|skip);rename_i e0 e1;have e0:=Za3 e0;have e1:=Za3 e1;simp only[H0]at hr;subst hr;refine .pure (mA _ _ _ _ _ _ he hb e0 (by simp;omega) (by simp)) ?_;simp only[Option.getD_none];have hlen:(List.drop (l.getD 0) (List.take (h.getD rW.length) rW)).length=h.getD rW.length - l.getD 0:=(by simp;omega);rw[<-hlen];have pI:∀i cs,(List.drop (l.getD 0) (List.take (h.getD rW.length) rW))[i]? =some cs->rW[l.getD 0+i]? =some cs:=by
          intro i cs hi;rw[Zc8,Zb8]at hi;split at hi
          .exact hi
          .cases hi
        by_cases hcl:aG=l.getD 0
        .rw[Za8 hcl];have hemp:List.drop (l.getD 0) (List.take (h.getD rW.length) rW)=[]:=(by apply Zb1;rw[hlen];omega);rw[hemp];exact .fl _ _ _ _ (λ_ _=>undef) (by simp) (λh=>absurd rfl h) (λi cs hi=>by simp at hi) (λi j cs v hi=>by simp at hi) (λi j cs v hi=>by simp at hi)
        . rw[Za5 hcl];by_cases cG:rW=[]
          .subst cG;simp only[List.take_nil,List.drop_nil];exact .fl _ _ _ _ (λ_ _=>undef) (by simp) (λh=>absurd rfl h) (λi cs hi=>by simp at hi) (λi j cs v hi=>by simp at hi) (λi j cs v hi=>by simp at hi)
          .have yH:=yH cG;obtain⟨ab,ao,asp⟩:=aa;simp only at yH;subst yH;simp only[Ze5,kj];refine .fl _ _ _ _ (λi j=>cell (l.getD 0+i) j) (by rw[hlen];omega) (λ_=>rfl) (λi cs hi=>g1 _ _ (pI i cs hi)) (λi j cs v hi hj=> ?_) (λi j cs v hi hj=>g3 _ _ _ _ (pI i cs hi) hj);have:=g2 _ _ _ _ (pI i cs hi) hj;simp only at this ⊢;rw[<-this];congr 2;rw[Zi4];omega
   ·
     rename_i l h m hb;(split at hr<;>first|(cases hr;done)|skip);rename_i e0 e1 e2;have e0:=Za0 e0;have e1:=Za0 e1;have e2:=Za0 e2;simp only[H0]at hr;subst hr;have he:=hu.eO;refine .pure (mA _ _ _ _ _ _ he hb (by omega) (by omega) (by omega)) ?_;simp only[e0,e1,e2,Zn5,Zg8];exact .ah
end
section
variable{P:Program}{tt:TT}
theorem B7{ρ:Pos->Loc}{n:Nat}{C:Cells}:∀{l:List AV}{s:List Nat}{ys:List Value},bytesOf l=some s->av ρ n C l ys->
  ys=(s.map Int.ofNat).map (Value.int .u8)/\∀c,c∈s->c<256
 |[],s,ys,h,hv=>by
  simp[bytesOf]at h;subst h;exact⟨by simpa using hv.l7,λc hc=>by simp at hc⟩
 |v ::l,s,ys,h,hv=>by
  unfold bytesOf at h;split at h<;>first|(cases h;done)|skip
  .rename_i h0;simp at h0
  . rename_i c l' he;simp only[Zg0]at he;obtain⟨rfl,rfl⟩:=he;(split at h<;>first|(cases h;done)|skip);rename_i s' aU kR;simp only[H0]at h;subst h;obtain⟨y,ys',rfl,h1,h2⟩:=hv.cons_inv;obtain⟨e,fT⟩:=B7 kR h2;have aU:c<256:=(by simpa using aU);refine⟨by rw[h1.gL,e];rfl,λc' hc=> ?_⟩;simp at hc;rcases hc with rfl|hc
    .exact aU
    .exact fT _ hc
theorem Bu:∀(s:List Nat)(acc:ByteArray),((s.map Int.ofNat).foldl (λr n=>r.push (UInt8.ofNat n.toNat)) acc).data.toList=acc.data.toList++s.map UInt8.ofNat
 |[],acc=>by simp
 |c::s,acc=>by
  simp only[Zc6,Zp4];rw[Bu s];simp[ByteArray.push]
theorem Ta{P:Program}{e:TypeId}(hc:P.cellsOf e≠0)(count:Nat)(hn:1<=count):liesAt P P.depth e count 0 e 1=true:=by
 have hd:P.depth=(2*(P.types.size+Made.depth)+1)+1:=rfl;rw[hd];simp only[liesAt,Zi1];left;rw[hd];simp[rowAt,hc,hn,sameLayout]
theorem Tb(hT:bH P tt)(src dst:TypeId)(x:Operand)(hnb:∀k xs cls,fy tt (.convert src dst x)=some (k,xs,cls)->k≠ .conv .bytes):cw P tt (.convert src dst x):=by
 intro ρ C st w k xs cls fr a o vs res ho hc hW hF hx hr;have hnb:=hnb _ _ _ hc;simp only[fy]at hc;split at hc<;>first|(cases hc;done)|skip
 rename_i s d b hs hd hb;obtain⟨ds,ru,yI⟩:=(hT.at hs).und;obtain⟨dd,hdd,bP⟩:=(hT.at hd).und;split at hc<;>first|(cases hc;done)|skip
 . rename_i k1 k2 h1 h2;cases hc;obtain⟨v,rfl,hv⟩:=ep hb hF hx;rw[h1]at yI;rw[h2]at bP;rw[CQ yI]at ru;rw[CQ bP]at hdd;simp only[ay.run,tJ]at hr;split at hr<;>first|(cases hr;done)|(rename_i heq;cases heq;done)|(rename_i heq;cases heq)
   simp only[H0]at hr;subst hr;refine .pure ?_ (by rw[qp];exact .int _ _);simp[execOp,ho,hv.gL,convert,aH ru,aH hdd,Conv.intToInt]
 . rename_i h1 h2;cases hc;obtain⟨v,rfl,hv⟩:=ep hb hF hx;rw[h1]at yI;rw[h2]at bP;rw[kF yI]at ru;rw[kF bP]at hdd;simp only[ay.run,tJ]at hr;split at hr<;>first|(cases hr;done)|(rename_i heq;cases heq;done)|(rename_i heq;cases heq)
   simp only[H0]at hr;subst hr;obtain⟨bs,he,hs⟩:=hv.dN;exact .pure (x:= .string bs) (by simp[execOp,ho,he,convert,aH ru,aH hdd]) (.str _ _ hs)
 . (split at hc<;>first|(cases hc;done)|skip);(split at hc<;>first|(cases hc;done)|skip);cases hc;exact absurd rfl hnb
 . rename_i e h1 h2;(split at hc<;>first|(cases hc;done)|skip);rename_i te eI;(split at hc<;>first|(cases hc;done)|skip);rename_i WO;cases hc;obtain⟨v,rfl,hv⟩:=ep hb hF hx;rw[h1]at yI;rw[h2]at bP;rw[kQ yI]at ru;rw[kF bP]at hdd;obtain⟨de,WQ,WS⟩:=(hT.at eI).und;rw[WO]at WS;rw[CQ WS]at WQ;have mA:∀y:Option Addr×Nat×Nat,a.eval x= .slice y.1 y.2.1 y.2.2->(execOp a.eval o).run P w=((Conv.bytesToString (a.eval x)).run P w).andThen λv w=>.ok (.value v) w:=by
     intro y he;simp[execOp,ho,he,convert,aH ru,aH hdd,aH WQ]
   simp only[ay.run,tJ]at hr;split at hr<;>first|(cases hr;done)|(rename_i heq;cases heq;done)|(rename_i heq;cases heq)
   .simp only[H0]at hr;subst hr;have he:=hv.eO;refine .pure (x:= .string .empty) ?_ (.str _ _ rfl);rw[mA (none,0,0) he,he];simp[Conv.bytesToString]
   . rename_i bb off m cap es;obtain⟨aa,aG,he,hle,_,ha⟩:=hv.cO;split at hr
     .  rename_i h0;have:=Za0 h0;subst this;simp only[H0]at hr;subst hr;refine .pure (x:= .string .empty) ?_ (.str _ _ rfl);rw[mA (some aa,0,aG) he,he];simp[Conv.bytesToString,loadCells,loadCellsFrom]
     .  (rename_i h0;have h0:=Zb4 h0;(split at hr<;>first|(cases hr;done)|skip);rename_i cs fz jC;(split at hr<;>first|(cases hr;done)|skip);rename_i l hcut;(split at hr<;>first|(cases hr;done)|skip);rename_i s' QE;simp only[H0]at hr;subst hr;obtain⟨aU,rfl,_⟩:=ha (by omega);obtain⟨ys,zQ,gQ⟩:=hW.loadCells (P:=P) jC hcut;obtain⟨e1,e2⟩:=B7 QE gQ;rw[e1]at zQ;have bQ:=run_bytesToString (P:=P) w ⟨(ρ bb).aq,(ρ bb).base+off,none⟩ m aG (s'.map Int.ofNat) zQ;refine .pure (x:= .string _) (by rw[mA (some _,m,aG) he,he,bQ];rfl) (.str _ _ ?_);rw[Bu,Zd7];have e0:ByteArray.empty.data.toList=[]:=rfl;rw[e0,Zf7,Zf2,Zf8];have e3:s'.map (UInt8.toNat∘UInt8.ofNat)=s'.map id:=Zi8 λc hc=>by have:=e2 c hc;simp only[Function.comp,id,UInt8.toNat_ofNat'];omega);rw[e3,List.map_id]
 ·
   rename_i e h1 h2;(split at hc<;>first|(cases hc;done)|skip);rename_i te eI;(split at hc<;>first|(cases hc;done)|skip);rename_i eD;cases hc;obtain⟨v,rfl,hv⟩:=ep hb hF hx;rw[h1]at yI;rw[h2]at bP;rw[K9 yI]at ru;rw[WE bP]at hdd;obtain⟨i0,kG,jQ,_⟩:=(hT.at eI).info;have eD:=Zb4 eD;simp only[ay.run,K4]at hr;split at hr<;>first|(cases hr;done)|skip
   .simp only[H0]at hr;subst hr;refine .pure (x:= .pointer none) ?_ .gP;simp[execOp,ho,hv.om,convert,aH ru,aH hdd,Conv.unsafePointer]
   .rename_i bb off;(split at hr<;>first|(cases hr;done)|skip);rename_i t0 cs jC;(split at hr<;>first|(cases hr;done)|skip);rename_i aU;have aU:off<cs.length:=(by simpa using aU);simp only[H0]at hr;subst hr;obtain⟨_,he⟩:=hv.ei;obtain⟨_,_,c,fr,g1,g2,g3,g4,g5,g6⟩:=hW.live _ _ jC;have KT:w.shape? (ρ bb).aq=some (t0,c.size):=(by simp[World.shape?,g1]);have:=Lib.run_to_unsafe (P:=P) (w:=w) (j:=i0) ⟨(ρ bb).aq,(ρ bb).base+off,none⟩ ru hdd kG (by rw[jQ];exact eD) KT (by show(ρ bb).base+off<c.size;omega);exact .pure (x:= .pointer (some ⟨(ρ bb).aq,(ρ bb).base+off,none⟩)) (by simp[execOp,ho,he,this]) (he ▸hv)
 ·
   rename_i e h1 h2;(split at hc<;>first|(cases hc;done)|skip);rename_i te eI;(split at hc<;>first|(cases hc;done)|skip);rename_i eD;cases hc;obtain⟨v,rfl,hv⟩:=ep hb hF hx;rw[h1]at yI;rw[h2]at bP;rw[WE yI]at ru;rw[K9 bP]at hdd;obtain⟨i0,kG,jQ,_⟩:=(hT.at eI).info;have eD:=Zb4 eD;simp only[ay.run,DN]at hr;split at hr<;>first|(cases hr;done)|skip
   .simp only[H0]at hr;subst hr;refine .pure (x:= .pointer none) ?_ .gP;simp[execOp,ho,hv.om,convert,aH ru,aH hdd,Conv.unsafePointer]
   .rename_i bb;(split at hr<;>first|(cases hr;done)|skip);rename_i t0 cs jC;(split at hr<;>first|(cases hr;done)|skip);rename_i ht hle;have ht:=Za0 ht;have hle:=Za3 hle;subst ht;simp only[H0]at hr;subst hr;obtain⟨_,he⟩:=hv.ei;obtain⟨_,_,c,fr,g1,g2,g3,g4,g5,g6⟩:=hW.live _ _ jC;have KT:w.shape? (ρ bb).aq=some (t0,c.size):=(by simp[World.shape?,g1]);have Bq:P.cellsOf t0=te.size:=(by simp[Program.cellsOf,kG,jQ]);have ZD:1<=c.size / P.cellsOf t0:=(by rw[Bq,Nat.le_div_iff_mul_le (by omega)];omega);rw[Zf0]at he;have:=Lib.run_from_unsafe (P:=P) (w:=w) (j:=i0) ⟨(ρ bb).aq,(ρ bb).base,none⟩ ru hdd kG KT (by show liesAt P P.depth t0 _ (ρ bb).base t0 1=true;rw[g6];exact Ta (by rw[Bq];exact eD) _ ZD);exact .pure (x:= .pointer (some ⟨(ρ bb).aq,(ρ bb).base,none⟩)) (by simp[execOp,ho,he,this]) (he ▸hv)
theorem CV{t:TypeId}{d:TypeDesc}(hd:P.underlying t=some d){pk:PK}(hk:pk.fits d=true)(e:Bool)(m:Nat)(x:Value)(w:World):
  (Instr.checkKey e (m+1) t x).run P w= .ok () w:=by
 unfold Instr.checkKey;rw[Sem.run_bind,aH hd,Result.andThen_ok];cases pk<;>cases d<;>simp[PK.fits]at hk<;>rfl
theorem Jd{ρ:Pos->Loc}{n:Nat}{C:Cells}{pk:PK}{d:TypeDesc}(hk:pk.fits d=true){u v:AV}{x y:Value}{r:Bool}
   (h1:aj ρ n C u x) (h2:aj ρ n C v y) (h:wq pk u v=some r):Instr.sameNow d x y=some r:=by
 unfold wq at h;split at h<;>first|(cases h;done)|skip
 .simp only[H0]at h;subst h;cases d<;>simp[PK.fits]at hk;rw[h1.fS,h2.fS];rfl
 . (split at h<;>first|(cases h;done)|skip);rename_i yG;have:=tP yG;subst this;simp only[H0]at h;subst h;cases d<;>simp[PK.fits]at hk;rw[h1.gL,h2.gL];simp[Instr.sameNow,jL]
 .simp only[H0]at h;subst h;cases d<;>simp[PK.fits]at hk;obtain⟨bx,rfl,e1⟩:=h1.dN;obtain⟨bz,rfl,e2⟩:=h2.dN;simp only[Instr.sameNow];rw[beq_toListBytes,CT e1 e2]
def Bv(ρ:Pos->Loc)(n:Nat)(C:Cells)(es:List (AV×AV×Nat))(es':List MapEntry):Prop:=
 es.length=es'.length/\∀(i:Nat)(e:AV×AV×Nat)(e':MapEntry),es[i]? =some e->es'[i]? =some e'->aj ρ n C e.1 e'.key/\aj ρ n C e.2.1 e'.val/\e.2.2=e'.born
theorem xE{ρ:Pos->Loc}{n:Nat}{C:Cells}{pk:PK}{d:TypeDesc}(hk:pk.fits d=true){u:AV}{x:Value}(hu:aj ρ n C u x):
  ∀{es:List (AV×AV×Nat)}{es':List MapEntry}{i:Nat}{r:Option (Nat×AV)},Bv ρ n C es es'->iK pk u es i=some r->
  ∃r',Instr.findNow d x es' i=some r'/\((r=none/\r'=none)\/∃j v y,r=some (j,v)/\r'=some (j,y)/\aj ρ n C v y/\i<=j/\j<i+es.length)
 |[],es',i,r,he,h=>by
  simp[iK]at h;subst h;cases es' with
  |nil=>exact⟨none,rfl,.inl ⟨rfl,rfl⟩⟩
  |cons e es'=>have:=he.1;simp at this
 |(k',v,born)::es,es',i,r,he,h=>by
  cases es' with
  |nil=>have:=he.1;simp at this
  |cons e' es'=>
   have h0:=he.2 0 (k',v,born) e' rfl rfl;have jP:Bv ρ n C es es':=⟨by have:=he.1;simpa using this,λj e e' h1 h2=>he.2 (j+1) e e' (by simpa using h1) (by simpa using h2)⟩
   unfold iK at h;split at h<;>first|(cases h;done)|skip
   .    rename_i hq;simp only[H0]at h;subst h;refine⟨some (i,e'.val),by simp[Instr.findNow,Jd hk hu h0.1 hq],.inr ⟨i,v,e'.val,rfl,rfl,h0.2.1,Za4 _,by simp⟩⟩
   .    rename_i hq;obtain⟨r',h1,h2⟩:=xE hk hu jP h;refine⟨r',by simp[Instr.findNow,Jd hk hu h0.1 hq,h1],?_⟩;rcases h2 with h2|⟨j,v',y,e1,e2,e3,e4,e5⟩
        .exact .inl h2
        .exact .inr ⟨j,v',y,e1,e2,e3,by omega,by simp;omega⟩
theorem run_findKey{t:TypeId}{d:TypeDesc}(hd:P.underlying t=some d){x:Value}{es:List MapEntry}{r:Option (Nat×Value)}(h:Instr.findNow d x es 0=some r)(w:World):
  (Instr.findKey t x es).run P w= .ok r w:=by
 simp[Instr.findKey,aH hd,h]
theorem run_getObj_map{r:Nat}{es:Array MapEntry}{c:Nat}{w:World}(h:w.heap[r]? =some (.map es c)):(getObj r).run P w= .ok (.map es c) w:=by
 simp[getObj,Sem.run,h]
theorem abn(k:TK){d:TypeDesc}(h:bw k d=true){pk:PK}(hp:(k= .bool/\pk= .b)\/((∃i,k= .int i)/\pk= .i)\/(k= .string/\pk= .s)):pk.fits d=true:=by
 rcases hp with⟨rfl,rfl⟩|⟨⟨i,rfl⟩,rfl⟩|⟨rfl,rfl⟩
 .rw[MO h];rfl
 .rw[CQ h];rfl
 .rw[kF h];rfl
theorem qq(hT:bH P tt){t:Nat}{ti:TI}(ht:tt.get (key t)=some ti){z:List AV}(hz:ti.zero=some z){ρ:Pos->Loc}{n:Nat}{C:Cells}(w:World):
   ∃v,(zeroValue t).run P w= .ok v w/\aj ρ n C (fy.CN ti z) v/\av ρ n C z v.cells.toList:=by
 obtain⟨i,hi,jQ,_,vQ⟩:=(hT.at ht).info;obtain⟨v,hv,hs,hlen,h1,h2⟩:=vQ z hz;refine⟨v,Zu hi hv w,?_,oZ hs⟩;unfold fy.CN;split
 .rename_i ha;obtain⟨cs,rfl⟩:=h1 ha;exact .zR (oZ hs)
 .rename_i ha;have hc:=h2 ha;rw[hc]at hs;simp only[mq]at hs;(split at hs<;>first|(cases hs;done)|skip);rename_i a as e1 e2;simp only[H0]at hs e2;subst hs;subst e2;simp only;exact zS e1
theorem U9(hT:bH P tt)(t:TypeId)(x ix:Operand)(ok:Bool):cw P tt (.lookup t x ix ok):=by
 intro ρ C st w k xs cls fr a o vs res ho hc hW hF hx hr;simp only[fy]at hc;split at hc<;>first|(cases hc;done)|skip
 rename_i ti l cm hl;split at hc<;>first|(cases hc;done)|skip
 rename_i kt et hk;split at hc<;>first|(cases hc;done)|skip
 rename_i tk te Fp eI;obtain⟨d,hd,bP⟩:=(hT.at cm).und;rw[hk]at bP;rw[Gm bP]at hd;obtain⟨dk,NZ,yG⟩:=(hT.at Fp).und;have key:∃pk z,te.zero=some z/\k= .lookup pk (fy.CN te z) ok/\xs=l/\cls= .read/\pk.fits dk=true:=by
  split at hc<;>first|(cases hc;done)|skip
  all_goals
    rename_i z h1 h2;cases hc;refine⟨_,z,h2,rfl,rfl,rfl,abn tk.k yG ?_⟩
  .exact .inr (.inl ⟨⟨_,h1⟩,rfl⟩)
  .exact .inr (.inr ⟨h1,rfl⟩)
  .exact .inl ⟨h1,rfl⟩
 obtain⟨pk,z,hz,rfl,rfl,rfl,B6⟩:=key;obtain⟨m,kk,rfl,h1,h2⟩:=MP hl hF hx;obtain⟨zv,vR,Le,_⟩:=qq hT eI hz (ρ:=ρ) (n:=st.next.toNat) (C:=C) w;have Fq:∀e,(Instr.checkKey e 10000 kt (a.eval ix)).run P w= .ok () w:=λe=>CV NZ B6 e 9999 _ w
 simp only[ay.run,tK]at hr;split at hr<;>first|(cases hr;done)|skip
 ·
  rename_i j v hm;simp only[H0]at hr;subst hr;split at hm<;>first|(cases hm;done)|skip
  .split at hm<;>first|(cases hm;done)|(simp at hm;done)
  . rename_i b;(split at hm<;>first|(cases hm;done)|skip);rename_i es c hb;obtain⟨_,he⟩:=h1.tQ;obtain⟨_,_,es',dc,hlen,fT⟩:=hW.live _ _ hb;have hE:Bv ρ st.next.toNat C es es'.toList:=⟨by simpa using hlen,λi e e' h1 h2=>fT i e e' h1 (by simpa using h2)⟩
    obtain⟨r',hf,o6⟩:=xE B6 h2 hE hm;rcases o6 with⟨e1,_⟩|⟨j',v',y,e1,e2,e3,_⟩
    .   cases e1
    .   cases e1;subst e2;have bQ:(execOp a.eval o).run P w= .ok (.value (if ok then .tuple #[y,.bool true]else y)) w:=by
          simp only[execOp,ho,Instr.lookup,Sem.run_bind,aH hd,Result.andThen_ok,he,run_getObj_map dc,Fq,run_findKey NZ hf,Sem.run_pure]
        refine .pure bQ ?_;cases ok
        .exact e3
        .exact .qm (av.cons e3 (av.cons (.bool true) av.nil))
 ·
  rename_i hm;simp only[H0]at hr;subst hr;have bQ:(execOp a.eval o).run P w= .ok (.value (if ok then .tuple #[zv,.bool false]else zv)) w:=by
    split at hm<;>first|(cases hm;done)|skip
    .   (split at hm<;>first|(cases hm;done)|skip);have he:=h1.wC;have hf:(Instr.findKey kt (a.eval ix) []).run P w= .ok none w:=run_findKey NZ rfl w;simp only[execOp,ho,Instr.lookup,Sem.run_bind,aH hd,Result.andThen_ok,he,Fq,hf,vR,Sem.run_pure]
    .   rename_i b;(split at hm<;>first|(cases hm;done)|skip);rename_i es c hb;obtain⟨_,he⟩:=h1.tQ;obtain⟨_,_,es',dc,hlen,fT⟩:=hW.live _ _ hb;have hE:Bv ρ st.next.toNat C es es'.toList:=⟨by simpa using hlen,λi e e' h1 h2=>fT i e e' h1 (by simpa using h2)⟩
        obtain⟨r',hf,o6⟩:=xE B6 h2 hE hm;rcases o6 with⟨_,e2⟩|⟨j',v',y,e1,_⟩
        .subst e2;simp only[execOp,ho,Instr.lookup,Sem.run_bind,aH hd,Result.andThen_ok,he,run_getObj_map dc,Fq,run_findKey NZ hf,vR,Sem.run_pure]
        .cases e1
  refine .pure bQ ?_;cases ok
  .exact Le
  .exact .qm (av.cons Le (av.cons (.bool false) av.nil))
end
section
variable{P:Program}{tt:TT}
theorem zX:∀(l:List Value)(off k:Nat)(cs:Array Value),off+k+l.length<=cs.size->
  ((l.zipIdx k).foldl (λcs (c,j)=>cs.setIfInBounds (off+j) c) cs).toList=aM cs.toList (off+k) l
 |[],off,k,cs,_=>by simp[aM,Zk1]
 |v::l,off,k,cs,h=>by
  simp only[Ze2]at h;simp only[List.zipIdx_cons,Zp4];rw[zX l off (k+1) _ (by simp;omega)];simp only[aM,Ze2,Zn6];rw[List.drop_set_of_lt (by omega)];have:off+(k+1)=(off+k)+1:=by omega
  rw[this,List.take_set,Zo6];have aU:off+k<cs.toList.length:=by simp;omega
  rw[H4 aU];simp only[Option.toList_some,List.set_append,Zh5];have hm:min (off+k) cs.toList.length=off+k:=Zj7 (Nat.le_of_lt aU);rw[hm,Za5 (Zm8 _),Zn5];simp;rw[show off+k+1+l.length=off+k+(l.length+1)from by omega]
theorem J3{ρ:Pos->Loc}{n:Nat}{C:Cells}(pl:Nat->Option (Nat×Nat)):∀{pp:List (Nat×Nat)}{vs cells r:List AV}{ps:List (Nat×Value)}{cs:Array Value},
  b6 cells pp vs=some r->av ρ n C cells cs.toList->av ρ n C vs (ps.map (·.2))->ps.map (λx=>pl x.1)=pp.map some->
  ∃kH,Instr.fill pl cs ps=some kH/\av ρ n C r kH.toList
 |[],vs,cells,r,ps,cs,h,hc,hv,hp=>by
  unfold b6 at h;split at h<;>first|(cases h;done)|skip
  .simp only[H0]at h;subst h;have:ps=[]:=(by simpa using hv.l7);subst this;exact⟨cs,rfl,hc⟩
  .rename_i hh;cases hh
 |(off  ,size)::pp,vs,cells,r,ps,cs,h,hc,hv,hp=>by
  unfold b6 at h;split at h<;>first|(cases h;done)|skip
  .rename_i hh;cases hh
  . rename_i off' size' pp' v vs' hh;simp only[Zg0,Zb3]at hh;obtain⟨⟨rfl,rfl⟩,rfl⟩:=hh;(split at h<;>first|(cases h;done)|skip);rename_i h1 h2;have h1:=Za0 h1;have h2:=Za3 h2;cases ps with
    |nil=>have:=hv.1;simp at this
    |   cons p ps=>
        obtain⟨i,x⟩:=p;simp only[Zc6,Zg0]at hp hv;obtain⟨gY,vS⟩:=hp;obtain⟨y,ys,zQ,hx,gQ⟩:=hv.cons_inv;simp only[Zg0]at zQ;obtain⟨rfl,rfl⟩:=zQ;have hxc:=hx.cells;have hlen:x.cells.size=size:=(by rw[<-h1,hxc.1];simp);have eD:off+size<=cs.size:=(by have:=hc.1;simp at this;omega);have adn:(x.cells.zipIdx.foldl (λcs (c,j)=>cs.setIfInBounds (off+j) c) cs).toList=aM cs.toList off x.cells.toList:=(by rw[<-Array.foldl_toList,Array.toList_zipIdx];have:=zX x.cells.toList off 0 cs (by simp;omega);simpa using this);obtain⟨kH,e1,e2⟩:=J3 pl h (cs:=x.cells.zipIdx.foldl (λcs (c,j)=>cs.setIfInBounds (off+j) c) cs) (by rw[adn];exact hc.aM hxc off) gQ vS;refine⟨kH,?_,e2⟩;simp only[Instr.fill,gY];rw[Za5 (by simp[hlen];omega)];exact e1
theorem Fs(hT:bH P tt){gs:Array Field}(w:World):∀{fs:List (Nat×Nat×Bool)}(_hm:bw.dh fs gs.toList=true){is:List Nat}{pp:List (Nat×Nat)}
  (_h:fy.places tt fs is=some pp) {Gq:List (Nat×Nat)} (_hpl:∀(i:Nat)(f:Field)(inf:TypeInfo),gs.toList[i]? =some f->P.info? f.type=some inf->Gq[i]? =some (f.offset,inf.size)),
  is.map (λi=>Gq[i]?)=pp.map some
 |fs,hm,[],pp,h,Gq,ry=>by simp[fy.places]at h;subst h;rfl
 |fs,hm,i::is,pp,h,Gq,ry=>by
  unfold fy.places at h;split at h<;>first|(cases h;done)|skip
  rename_i off t nm l h1 h2;split at h<;>first|(cases h;done)|skip
  rename_i ti WT;simp only[H0]at h;subst h;obtain⟨f,hf,e1,e2,_⟩:=DU hm h1;obtain⟨inf,QF,eD,_⟩:=(hT.at WT).info;simp only at e1 e2;have:=ry i f inf hf (by rw[e2];exact QF);simp only[Zc6,this,e1,eD];rw[Fs hT w hm h2 ry]
theorem Lf(hT:bH P tt):∀{fs:List (Nat×Nat×Bool)}{gs:List Field}(_hm:bw.dh fs gs=true)(_ha:fy.PW tt fs=true),
  ∃Gq:List (Nat×Nat),gs.mapM (λf=>(P.info? f.type).map λi=>(f.offset,i.size))=some Gq/\
   ∀(i:Nat)(f:Field)(inf:TypeInfo),gs[i]? =some f->P.info? f.type=some inf->Gq[i]? =some (f.offset,inf.size)
 |[],gs,hm,ha=>by
  cases gs with
  |cons g gs=>simp[bw.dh]at hm
  |nil=>exact⟨[],rfl,λi f inf h=>by simp at h⟩
 |(off,t,nm)::fs,gs,hm,ha=>by
  cases gs with
  |nil=>simp[bw.dh]at hm
  |cons g gs=>
   simp[bw.dh]at hm;unfold fy.PW at ha;(split at ha<;>first|(cases ha;done)|skip);rename_i ti WT;obtain⟨inf,QF,_⟩:=(hT.at WT).info;obtain⟨Gq,h1,h2⟩:=Lf hT hm.2 ha;rw[hm.1.1.2]at QF;refine⟨(g.offset,inf.size)::Gq,by simp[QF,h1],λi f inf' hi hf=> ?_⟩;cases i with
   |zero=>simp at hi;subst hi;rw[QF]at hf;cases hf;rfl
   |succ i=>simp at hi ⊢; exact h2 i f inf' hi hf
theorem WU(hT:bH P tt)(t:TypeId)(ps:Array (Nat×Operand)):cw P tt (.build t ps):=by
 intro ρ C st w k xs cls fr a o vs res ho hc hW hF hx hr;simp only[fy]at hc;split at hc<;>first|(cases hc;done)|skip
 rename_i ti l cm hl;obtain⟨d,hd,bP⟩:=(hT.at cm).und;obtain⟨it,N4,_,_,vQ⟩:=(hT.at cm).info
 have mA:∀(pp:List (Nat×Nat))(z:List AV)(pl:Nat->Option (Nat×Nat)),ti.zero=some z->k= .build z pp->xs=l->ps.toList.map (λx=>pl x.1)=pp.map some->
    (∀(v:Value)(parts:List (Nat×Value))(cells:Array Value),it.zero=some v->Instr.fill pl v.cells parts=some cells->P.built t parts=some cells)->
    qU P ρ C st w ((execOp a.eval o).run P w) res:=by
   rintro pp z pl hz rfl rfl hpp acI;have hv:=dF hl hF hx;obtain⟨v,CW,hs,_⟩:=vQ z hz;simp only[ay.run,DI]at hr;(split at hr<;>first|(cases hr;done)|skip);rename_i cs ze;simp only[H0]at hr;subst hr;have Le:av ρ st.next.toNat C z v.cells.toList:=oZ hs;have TR:(ps.map λ(i,x)=>(i,a.eval x)).toList=ps.toList.map λx=>(x.1,a.eval x.2):=(by simp);obtain⟨kH,e1,e2⟩:=J3 pl ze Le (ps:=ps.toList.map λx=>(x.1,a.eval x.2)) (by simpa [Zf8,Zj1]using hv) (by simpa [Zf8,Zj1]using hpp);refine .pure (x:= .agg kH) ?_ (.zR e2);have bQ:=run_build w t (ps.map λ(i,x)=>(i,a.eval x)) kH (acI v _ _ CW (by rw[TR];exact e1));simp only[execOp,ho,Sem.run_bind];rw[bQ];rfl
 split at hc<;>first|(cases hc;done)|skip
 .rename_i fs z hk hz;rw[hk]at bP;obtain⟨gs,rfl,hm⟩:=Bp bP;(split at hc<;>first|(cases hc;done)|skip);rename_i pp ry fT;cases hc;obtain⟨Gq,h1,h2⟩:=Lf hT hm fT;have hpp:=Fs hT w hm ry h2;(refine mA pp z (λi=>Gq.toArray[i]?) hz rfl rfl (by simpa [Zf8,Zj1]using hpp) λv parts cells hv hf=> ?_);unfold Program.built;rw[N4,hd];simp only[hv,h1];exact hf
 .rename_i e z hk hz;rw[hk]at bP;rw[Qz bP]at hd;(split at hc<;>first|(cases hc;done)|skip);rename_i te eI;cases hc;obtain⟨ie,hie,eD,_⟩:=(hT.at eI).info;(refine mA _ z (λi=>some (i*te.size,te.size)) hz rfl rfl (by simp[Zf8,Zj1]) λv parts cells hv hf=> ?_);unfold Program.built;rw[N4,hd];simp only[hv,hie,eD];exact hf
end
end
end Go.Ai
