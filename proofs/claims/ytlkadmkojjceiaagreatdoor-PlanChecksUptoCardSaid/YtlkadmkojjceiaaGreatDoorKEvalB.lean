/- Its operations answer as the model does. -/
import Derived.Test.YtlkadmkojjceiaaGreatDoorKEvalA
import Derived.Laws.StructEq
import Derived.Lib.Builder
import Derived.Laws.BytesString
set_option linter.all false
namespace Go.Ai
section
def bn:TK->TypeDesc->Bool
 |.bool,.bool=>true
 |.int k,.int k'=>zP k k'
 |.string,.string=>true
 |.ptr e,.pointer e'=>Nat.beq e e'
 |.slice e,.slice e'=>Nat.beq e e'
 |.array n e,.array n' e'=>Nat.beq n n'&&Nat.beq e e'
 |.map k e,.map k' e'=>Nat.beq k k'&&Nat.beq e e'
 |.struct fs,.struct fs'=>cN fs fs'.toList
 |.func,.func _ _ _=>true
 |.iface,.interface _=>true
 | .V7,.unsafePointer=>true
 |.other,.interface _=>false
 |.other,.int _=>false
 |.other,.array _ _=>false
 |.other,.struct _=>false
 |.other,_=>true
 |_,_=>false
where
 cN:List (Nat×Nat×Bool)->List Field->Bool
  |[],[]=>true
  |(off,t,named)::l,f::l'=>Nat.beq off f.offset&&Nat.beq t f.type&&(named==(f.name != "_"))&&cN l l'
  |_,_=>false
structure UO(P:Program)(t:TypeId)(ti:TI):Prop where
 und:∃d,P.underlying t=some d/\bn ti.k d=true
 info:∃i,P.info? t=some i/\i.size=ti.size/\i.bytes=ti.bytes/\
  ∀z,ti.zero=some z->∃v,i.zero=some v/\kQ v.cells.toList=some z/\z.length=ti.size/\(ti.k.isAgg=true->∃cs,v= .agg cs)/\(ti.k.isAgg=false->v.cells= #[v])
 elem:∀e,ti.k= .ptr e->∃j,P.info? e=some j
 eqs:ti.tr=true->P.stoodInHeld t=false/\P.eqGuardType P.depth t=false
def bE(P:Program)(tt:TT):Prop:=∀p ti,tt.get p=some ti->UO P (p.toNat - 1) ti
theorem bE.at{P:Program}{tt:TT}(h:bE P tt){t:Nat}{ti:TI}(ht:tt.get (key t)=some ti):UO P t ti:=by
 have:=h _ _ ht
 rwa [dM,Zd9]at this
section
variable{P:Program}{tt:TT}{ρ:Pos->Loc}{n:Nat}{C:Cells}
theorem aH{t:TypeId}{d:TypeDesc}(h:P.underlying t=some d)(w:World):(underlying t).run P w= .ok d w:=run_underlying h w
theorem Qu{t:TypeId}{i:TypeInfo}(h:P.info? t=some i)(w:World):(typeInfo t).run P w= .ok i w:=by simp[typeInfo,h]
theorem fN{t:TypeId}{i:TypeInfo}(h:P.info? t=some i)(w:World):(sizeOf t).run P w= .ok i.size w:=by simp[sizeOf,typeInfo,h]
theorem X8{t:TypeId}{i:TypeInfo}{v:Value}(h:P.info? t=some i)(hz:i.zero=some v)(w:World):(zeroValue t).run P w= .ok v w:=by simp[zeroValue,typeInfo,h,hz]
theorem Ks{k:TK}{d:TypeDesc}(h:bn k d=true)(w:World){t:TypeId}(ht:P.underlying t=some d):(isAgg t).run P w= .ok k.isAgg w:=by
 cases k<;>cases d<;>first|(simp[bn]at h;done)|simp[isAgg,aH ht,TK.isAgg]
theorem jT{e:Nat}{d:TypeDesc}(h:bn (.slice e) d=true):d= .slice e:=by
 cases d<;>simp[bn]at h;rw[h]
theorem Lp{e:Nat}{d:TypeDesc}(h:bn (.ptr e) d=true):d= .pointer e:=by
 cases d<;>simp[bn]at h;rw[h]
theorem Qv{m e:Nat}{d:TypeDesc}(h:bn (.array m e) d=true):d= .array m e:=by
 cases d<;>simp[bn]at h;rw[h.1,h.2]
theorem Hi{k e:Nat}{d:TypeDesc}(h:bn (.map k e) d=true):d= .map k e:=by
 cases d<;>simp[bn]at h;rw[h.1,h.2]
theorem MX{d:TypeDesc}(h:bn .bool d=true):d= .bool:=by cases d<;>simp[bn]at h;rfl
theorem ue{a b:IntKind}(h:zP a b=true):a=b:=by
 unfold zP at h;split at h
 .assumption
 .cases h
theorem Dk{k:IntKind}{d:TypeDesc}(h:bn (.int k) d=true):d= .int k:=by
 cases d<;>simp[bn]at h;rw[ue h]
theorem jI{d:TypeDesc}(h:bn .string d=true):d= .string:=by cases d<;>simp[bn]at h;rfl
theorem BG{fs:List (Nat×Nat×Bool)}{d:TypeDesc}(h:bn (.struct fs) d=true):∃gs,d= .struct gs/\bn.cN fs gs.toList=true:=by
 cases d<;>simp[bn]at h;exact⟨_,rfl,h⟩
theorem aap{d:TypeDesc}(h:bn .func d=true):∃a b c,d= .func a b c:=by
 cases d<;>simp[bn]at h;exact⟨_,_,_,rfl⟩
theorem X9{d:TypeDesc}(h:bn .iface d=true):∃a,d= .interface a:=by
 cases d<;>simp[bn]at h;exact⟨_,rfl⟩
theorem Wa{d:TypeDesc}(h:bn .V7 d=true):d= .unsafePointer:=by cases d<;>simp[bn]at h;rfl
theorem jx{α:Type}:∀(l:List α)(i:Nat),nth l i=l[i]?
 |[],_=>by simp[nth]
 |_::_,0=>rfl
 |_::l,i+1=>by simp[nth,jx l i]
theorem EL:∀{fs:List (Nat×Nat×Bool)}{gs:List Field}{i:Nat}{x:Nat×Nat×Bool},bn.cN fs gs=true->nth fs i=some x->
  ∃f,gs[i]? =some f/\f.offset=x.1/\f.type=x.2.1/\(f.name != "_")=x.2.2
 |[],_,i,_,_,h=>by simp[nth]at h
 |(off,t,named)::l,[],i,_,h,_=>by simp[bn.cN]at h
 |(off,t,named)::l,f::l',0,x,h,hx=>by
  simp[bn.cN]at h;simp[nth]at hx;subst hx;exact⟨f,rfl,h.1.1.1.symm,h.1.1.2.symm,h.1.2.symm⟩
 |(off,t,named)::l,f::l',i+1,x,h,hx=>by
  simp[bn.cN]at h;simp[nth]at hx;obtain⟨f',h1,h2⟩:=EL h.2 hx;exact⟨f',by simpa using h1,h2⟩
theorem zV{v:Value}{a:AV}(h:EG v=some a):aj ρ n C a v:=by
 unfold EG at h
 split at h<;>first
   |(cases h;done)
   |(simp only[H0]at h;subst h)
 .exact .bool _
 .exact .int _ _
 .exact .str _ _ rfl
 .exact .fU
 .exact .ax
 .exact .l9
 .exact .func _ _ _ _ _ rfl rfl (λ_ _ _ h=>by simp at h) (λ_ _ _ h=>by simp at h)
 .exact .gV
 .exact .tE
theorem oB:∀{l:List Value}{as:List AV},kQ l=some as->ak ρ n C as l
 |[],as,h=>by simp[kQ]at h;subst h;exact ak.nil
 |v ::l,as,h=>by
  unfold kQ at h;split at h
  .rename_i a as' h1 h2;simp only[H0]at h;subst h;exact ak.cons (zV h1) (oB h2)
  .cases h
theorem SX{v:Value}{a:AV}(h:MV v=some a):aj ρ n C a v:=by
 unfold MV at h;split at h
 . split at h
   .rename_i l hl;simp only[H0]at h;subst h;exact .zT (oB hl)
   .cases h
 .exact zV h
theorem nD{x:Operand}{o:dh}{fr:Fr}{a:Act}{v:AV}(h:jd x=some o)(hF:eg ρ n C fr a.tmps)(hv:xM fr o=some v):aj ρ n C v (a.eval x):=by
 unfold jd at h;split at h
 .rename_i t;simp only[H0]at h;subst h;obtain⟨y,hy,hr⟩:=hF _ _ hv;rw[dM,Zd9]at hy;simp only[Act.eval,Zg9,hy,Zj0];exact hr
 . split at h
   .rename_i c hc;simp only[H0]at h;subst h;simp only[xM,H0]at hv;subst hv;exact SX hc
   .cases h
 .rename_i f;simp only[H0]at h;subst h;simp only[xM,H0]at hv;subst hv;exact .func _ _ _ _ _ rfl rfl (λ_ _ _ h=>by simp at h) (λ_ _ _ h=>by simp at h)
 .cases h
theorem cZ:∀{xs:List Operand}{os:List dh}{fr:Fr}{a:Act}{vs:List AV},gL xs=some os->eg ρ n C fr a.tmps->di fr os=some vs->ak ρ n C vs (xs.map a.eval)
 |[],os,fr,a,vs,h,_,hv=>by simp[gL]at h;subst h;simp[di]at hv;subst hv;exact ak.nil
 |x ::xs,os,fr,a,vs,h,hF,hv=>by
  unfold gL at h;split at h
  . rename_i o os' h1 h2;simp only[H0]at h;subst h;unfold di at hv;split at hv
    .   rename_i v JD;split at hv
        .rename_i vs' Hj;simp only[H0]at hv;subst hv;exact ak.cons (nD h1 hF JD) (cZ h2 hF Hj)
        .cases hv
    .   cases hv
  .cases h
theorem dN{x:Operand}{o:dh}{fr:Fr}{a:Act}{vs:List AV}(h:jd x=some o)(hF:eg ρ n C fr a.tmps)(hv:di fr [o]=some vs):
   ∃v,vs=[v]/\aj ρ n C v (a.eval x):=by
 unfold di at hv;split at hv
 .rename_i v JD;simp only[di,H0]at hv;subst hv;exact⟨v,rfl,nD h hF JD⟩
 .cases hv
end
def Yields(N:Next)(x:Value):Prop:=N= .value x\/(N= .skip/\x=undef)
def qW(P:Program)(ρ:Pos->Loc)(C:Cells)(st:St)(w:World)(r:Result Next):bW->Prop
 |.val v=>∃N x,r= .ok N w/\Yields N x/\aj ρ st.next.toNat C v x
 |.aC v del set new=>∃N x w' ρ',r= .ok N w'/\Yields N x/\(∀b:Pos,b.toNat<st.next.toNat->ρ' b=ρ b)/\aM ρ' C (st.aC del set new) w'/\
  aj ρ' (st.aC del set new).next.toNat C v x/\iy ρ st w ρ' (st.aC del set new) w'
 |.call f args=>∃br:List Value,r=(callFunc f br.toArray).run P w/\ak ρ st.next.toNat C args br
end
section
open Go Go.RowKit
theorem jy(b o i:Nat):(⟨b,o,none⟩:Addr).add i=⟨b,o+i,none⟩:=by
 unfold Addr.add;split
 .rename_i h;subst h;rfl
 .rfl
section
variable{P:Program}{ρ ρ':Pos->Loc}{C:Cells}{st:St}{w w':World}
theorem aM.UP(hW:aM ρ C st w){UQ:T AB}{next' b0:Pos}{x0:AB}
  (hn:st.next.toNat<=next'.toNat) (Tt:b0.toNat<next'.toNat) (abU:UQ.get b0=some x0)
  (oU:∀b x,b≠b0->UQ.get b=some x->st.heap.get b=some x/\(ρ b).aq≠(ρ' b0).aq)
  (aL:∀b:Pos,b.toNat<st.next.toNat->ρ' b=ρ b)
  (hB:jQ ρ' next'.toNat C (ρ' b0) w' x0)
  (TB:∀a v,C a=some v->a.block≠(ρ' b0).aq)
  (aW:(ρ' b0).aq<w'.heap.size) (abV:w.heap.size<=w'.heap.size)
  (rU:∀k,k<w.heap.size->k≠(ρ' b0).aq->w'.heap[k]? =w.heap[k]?):
  aM ρ' C ⟨UQ,next'⟩ w' where
 live b x hb:=by
  by_cases h:b=b0
  .  subst h;rw[abU]at hb;cases hb;exact⟨Tt,aW,hB⟩
  .  obtain⟨h1,h2⟩:=oU b x h hb;obtain⟨h3,h4,h5⟩:=hW.live b x h1;rw[aL b h3];exact⟨Zb5 h3 hn,Zb5 h4 abV,(h5.mono aL hn).of_heap (rU _ h4 h2)⟩
 inj b  b' x x' hb gZ he:=by
  by_cases h:b=b0
  .  subst h;by_cases h':b'=b
     .  exact h'.symm
     .  obtain⟨h1,h2⟩:=oU b' x' h' gZ;rw[aL b' (hW.live b' x' h1).1]at he;exact absurd he.symm h2
  .  obtain⟨h1,h2⟩:=oU b x h hb;rw[aL b (hW.live b x h1).1]at he;by_cases h':b'=b0
     .  subst h';exact absurd he h2
     .  obtain⟨TC,h2'⟩:=oU b' x' h' gZ;rw[aL b' (hW.live b' x' TC).1]at he;exact hW.inj b b' x x' h1 TC he
 cL a v ha:=by
  obtain⟨h1,h2⟩:=hW.cL a v ha;have EM:a.block<w.heap.size:=World.block_lt_of_cell? _ _ h1;refine⟨?_,λb x hb=> ?_⟩
  .  rw[World.cell?_of_block (w:=w) (rU _ EM (TB a v ha))];exact h1
  .  by_cases h:b=b0
     .  subst h;exact λe=>TB a v ha e.symm
     .  obtain⟨h3,_⟩:=oU b x h hb;rw[aL b (hW.live b x h3).1];exact h2 b x h3
 whole a v ha o ho:=by have jr:a.block<w.heap.size:=World.block_lt_of_cell? _ _ (hW.cL a v ha).1;rw[World.cell?_of_block (w:=w) (a:=⟨a.block,o,none⟩) (rU _ jr (TB a v ha))];exact hW.whole a v ha o ho
theorem aM.cell(hW:aM ρ C st w){b:Pos}{cs:List AV}{fz:Nat}(hb:st.heap.get b=some (.cells cs fz)){i:Nat}{v:AV}(hv:cs[i]? =some v):
  ∃x,w.cell? ⟨(ρ b).aq,(ρ b).base+i,none⟩=some x/\aj ρ st.next.toNat C v x:=by
 obtain⟨_,_,c,e,fr,h1,h2,h3,h4,_⟩:=hW.live b _ hb;obtain⟨x,hx,hr⟩:=h4.get hv;have hi:i<cs.length:=(H3.1 hv).1;rw[Zb0,Za7 hi,Zc6]at hx;exact⟨x,by simp[World.cell?,h1, <-hx],hr⟩
theorem aM.abW(hW:aM ρ C st w){b:Pos}{cs:List AV}{t:TypeId}(hb:st.heap.get b=some (.typed t cs)){i:Nat}{v:AV}(hv:cs[i]? =some v):
  ∃x,w.cell? ⟨(ρ b).aq,(ρ b).base+i,none⟩=some x/\aj ρ st.next.toNat C v x:=by
 obtain⟨_,_,c,fr,h1,h2,h3,h4,_⟩:=hW.live b _ hb;obtain⟨x,hx,hr⟩:=h4.get hv;have hi:i<cs.length:=(H3.1 hv).1;rw[Zb0,Za7 hi,Zc6]at hx;exact⟨x,by simp[World.cell?,h1, <-hx],hr⟩
theorem zW{α:Type}{l l':List α}{i n:Nat}(h:cut l i n=some l'):l'=(l.drop i).take n/\i+n<=l.length:=by
 unfold cut at h;split at h
 .rename_i hb;cases h;exact⟨rfl,H4 hb⟩
 .cases h
theorem qX{α:Type}{l l':List α}{i n:Nat}(h:cut l i n=some l'):l'.length=n:=by obtain⟨rfl,h2⟩:=zW h;simp;omega
theorem aM.loadCells(hW:aM ρ C st w){b:Pos}{cs vs:List AV}{fz off n:Nat}(hb:st.heap.get b=some (.cells cs fz))(hc:cut cs off n=some vs):
  ∃ys:List Value,(Go.loadCells ⟨(ρ b).aq,(ρ b).base+off,none⟩ n).run P w= .ok ys.toArray w/\ak ρ st.next.toNat C vs ys:=by
 obtain⟨_,_,c,e,fr,h1,h2,h3,h4,_⟩:=hW.live b _ hb;obtain⟨fV,hle⟩:=zW hc;have hr:=(h4.drop off).take n;rw[<-fV]at hr;refine⟨_,?_,hr⟩;have hlen:(List.take n (List.drop off (List.take cs.length (List.drop (ρ b).base c.toList)))).length=n:=by rw[<-hr.1];exact qX hc
 conv=>lhs;rw[<-hlen]
 refine run_loadCells_list w _ _ λj v hj=> ?_
 have yS:j<n:=by rw[<-hlen];exact(H3.1 hj).1
 rw[Zb0,Za7 yS,Zc6,Zb0,Za7 (by omega),Zc6]at hj;rw[jy];simp[World.cell?,h1, <-hj,Zh0]
theorem aM.Lq(hW:aM ρ C st w){b:Pos}{cs vs:List AV}{t:TypeId}{off n:Nat}(hb:st.heap.get b=some (.typed t cs))(hc:cut cs off n=some vs):
  ∃ys:List Value,(Go.loadCells ⟨(ρ b).aq,(ρ b).base+off,none⟩ n).run P w= .ok ys.toArray w/\ak ρ st.next.toNat C vs ys:=by
 obtain⟨_,_,c,fr,h1,h2,h3,h4,_⟩:=hW.live b _ hb;obtain⟨fV,hle⟩:=zW hc;have hr:=(h4.drop off).take n;rw[<-fV]at hr;refine⟨_,?_,hr⟩;have hlen:(List.take n (List.drop off (List.take cs.length (List.drop (ρ b).base c.toList)))).length=n:=by rw[<-hr.1];exact qX hc
 conv=>lhs;rw[<-hlen]
 refine run_loadCells_list w _ _ λj v hj=> ?_
 have yS:j<n:=by rw[<-hlen];exact(H3.1 hj).1
 rw[Zb0,Za7 yS,Zc6,Zb0,Za7 (by omega),Zc6]at hj;rw[jy];simp[World.cell?,h1, <-hj,Zh0]
theorem iI(g e:Nat)(fr:Nat×Nat):∀(vs:List Value)(i o:Nat)(cur:Array Value)(w:World),w.heap[g]? =some (.cells cur e fr)->o+i+vs.length<=cur.size->
  (∀v∈vs,v.oneCell'=true)->(∀k,o+i<=k->k<cur.size->¬(fr.1<=k/\k<fr.2))->
  ∃ w',(storeCells ⟨g,o,none⟩ vs i).run P w= .ok () w'/\w'.heap[g]? =some (.cells (aI cur.toList (o+i) vs).toArray e fr)/\
    w'.heap.size=w.heap.size/\(∀k,k≠g->w'.heap[k]? =w.heap[k]?)/\w'.os=w.os/\w'.tape=w.tape/\w'.output=w.output
 |[],i,o,cur,w,hg,_,_,_=>⟨w,by simp[storeCells],by rw[hg];simp[aI,Zj7],rfl,λ_ _=>rfl,rfl,rfl,rfl⟩
 |v ::vs,i,o,cur,w,hg,hle,h1,hf=>by
  simp only[Ze6]at hle;have hv:v.oneCell'=true:=h1 v (by simp);have BH:w.cell? ⟨g,o+i,none⟩=some (cur[o+i]'(by omega)):=by simp[World.cell?,hg]
  have VQ:w.frozen? ⟨g,o+i,none⟩=false:=by have:=hf (o+i) (H5 _) (by omega);simp only[World.frozen?,hg];simpa using this
  have Lr:(w.setCell ⟨g,o+i,none⟩ v).heap[g]? =some (.cells (cur.setIfInBounds (o+i) v) e fr):=by
    simp[World.setCell,Zl5,hg]
  obtain⟨w',h2,h3,h4,h5,h6,h7,h8⟩:=iI g e fr vs (i+1) o _ _ Lr (by simp;omega) (λv hv=>h1 v (by simp[hv])) (by intro k hk je;simp at je;exact hf k (by omega) je);refine⟨w',?_,?_,by simp[h4],λk hk=> ?_,h6,h7,h8⟩
  .simp only[storeCells,Sem.run_bind,jy,run_store P w _ _ _ hv,BH,VQ];simpa using h2
  .rw[h3];congr 2;simp only[aI,Ze6,Zm9];rw[List.drop_set_of_lt (by omega)];have:o+(i+1)=(o+i)+1:=(by omega);rw[this,List.take_set,Zn3];have aW:o+i<cur.toList.length:=(by simp;omega);rw[H1 aW];simp only[Option.toList_some,List.set_append,Zj1];have hm:min (o+i) cur.toList.length=o+i:=Zj3 (Nat.le_of_lt aW);rw[hm,Za4 (Zm1 _),Zm8];simp;rw[show o+i+1+vs.length=o+i+(vs.length+1)from by omega]
  .rw[h5 k hk,Below.heap_setCell _ _ _ _ (by simpa using hk)]
end
section
variable{P:Program}{tt:TT}{ρ:Pos->Loc}{C:Cells}{st:St}{w:World}{n:Nat}
theorem Yields.value(x:Value):Yields (.value x) x:= .inl rfl
theorem qW.pure{v:AV}{x:Value}{r:Result Next}(h:r= .ok (.value x) w)(hv:aj ρ st.next.toNat C v x):qW P ρ C st w r (.val v):=
 ⟨_,x,h,Yields.value x,hv⟩
theorem aj.fS{k:IntKind}{i:Int}{x:Value}(h:aj ρ n C (.int k i) x):x= .int k i:=by cases h;rfl
theorem aj.fo{b:Bool}{x:Value}(h:aj ρ n C (.bool b) x):x= .bool b:=by cases h;rfl
theorem aj.dm{s:List Nat}{x:Value}(h:aj ρ n C (.str s) x):∃bs:ByteArray,x= .string bs/\bs.data.toList.map UInt8.toNat=s:=by
 cases h with|str _ bs h=>exact⟨bs,rfl,h⟩
theorem aj.nE{x:Value}(h:aj ρ n C .fU x):x= .pointer none:=by cases h;rfl
theorem aj.eu{x:Value}(h:aj ρ n C .ax x):x= .slice none 0 0:=by cases h;rfl
theorem aj.w9{x:Value}(h:aj ρ n C .l9 x):x= .map none:=by cases h;rfl
theorem aj.EN{x:Value}(h:aj ρ n C .gV x):x= .nilFunc:=by cases h;rfl
theorem aj.Qw{x:Value}(h:aj ρ n C .tE x):x= .nilIface:=by cases h;rfl
theorem aj.dU{b:Pos}{off:Nat}{x:Value}(h:aj ρ n C (.ptr b off) x):b.toNat<n/\x= .pointer (some ⟨(ρ b).aq,(ρ b).base+off,none⟩):=by
 cases h with|ptr _ _ h=>exact⟨h,rfl⟩
theorem aj.uf{b:Pos}{x:Value}(h:aj ρ n C (.map b) x):b.toNat<n/\x= .map (some (ρ b).aq):=by
 cases h with|map _ h=>exact⟨h,rfl⟩
theorem aj.Ob{t:TypeId}{v:AV}{x:Value}(h:aj ρ n C (.iface t v) x):∃y,x= .iface t y/\aj ρ n C v y:=by
 cases h with|iface _ _ y h=>exact⟨y,rfl,h⟩
theorem aj.cG{b:Pos}{off len es:Nat}{cap:Option Nat}{x:Value}(h:aj ρ n C (.slice b off len cap es) x):
  ∃(a:Addr) (aF:Nat),x= .slice (some a) len aF/\len<=aF/\(∀c,cap=some c->c=aF)/\
   (aF≠0->b.toNat<n/\a=⟨(ρ b).aq,(ρ b).base+off,none⟩/\(ρ b).base+off+aF*es<=(ρ b).size):=by
 cases h with|slice _ _ _ _ _ aF a hl hc ha _=>exact⟨a,aF,rfl,hl,hc,ha⟩
theorem aj.Oc{b:Pos}{off len es:Nat}{cap:Option Nat}{x:Value}(h:aj ρ n C (.slice b off len cap es) x):cap=none->b.toNat<n:=by
 cases h with|slice _ _ _ _ _ _ _ _ _ _ hk=>exact hk
theorem aj.qb{xs:List (List AV)}{es:Nat}{x:Value}(h:aj ρ n C (.fl xs es) x):
  ∃(a:Addr) (aF:Nat) (cell:Nat->Nat->Value),x= .slice (some a) xs.length aF/\xs.length<=aF/\(xs≠[]->a.spot=none)/\
   (∀(i:Nat)(cs:List AV),xs[i]? =some cs->cs.length=es)/\
   (∀(i j:Nat)(cs:List AV)(v:AV),xs[i]? =some cs->cs[j]? =some v->C ⟨a.block,a.off+i*es+j,none⟩=some (cell i j))/\
   (∀(i j:Nat)(cs:List AV)(v:AV),xs[i]? =some cs->cs[j]? =some v->aj ρ n C v (cell i j)):=by
 cases h with|fl _ _ aF a cell hl hs cU hc hv=>exact⟨a,aF,cell,rfl,hl,hs,cU,hc,hv⟩
theorem aj.Dl{xs:List (List AV)}{i j:Nat}{x:Value}(h:aj ρ n C (.fp xs i j) x):
  ∃(es aq base:Nat) (cell:Nat->Nat->Value),x= .pointer (some ⟨aq,base+i*es+j,none⟩)/\
   (∀(i:Nat)(cs:List AV),xs[i]? =some cs->cs.length=es)/\
   (∀(i j:Nat)(cs:List AV)(v:AV),xs[i]? =some cs->cs[j]? =some v->C ⟨aq,base+i*es+j,none⟩=some (cell i j))/\
   (∀(i j:Nat)(cs:List AV)(v:AV),xs[i]? =some cs->cs[j]? =some v->aj ρ n C v (cell i j)):=by
 cases h with|fp _ _ _ es aq base cell hl hc hv=>exact⟨es,aq,base,cell,rfl,hl,hc,hv⟩
theorem qc(k:IntKind)(i:Int):aB k i=k.wrap i:=by
 unfold aB;split
 . rename_i h1 _;split
   .rename_i h2 _;cases k<;>simp only[Qn,Qo]at h1 h2<;>simp only[IntKind.wrap,IntKind.bits,IntKind.signed]<;>simp<;>omega
   .rfl
 .rfl
theorem jU(a b:Int):xD a b=(a==b):=by
 unfold xD;split
 .rename_i h _;subst h;simp
 .rename_i h _;simp[h]
theorem dH(a b:Int):BA a b=decide (a<b):=by
 unfold BA;split<;>(rename_i h _;simp[h])
theorem fO(a b:Int):PZ a b=decide (a<=b):=by
 unfold PZ;split<;>(rename_i h _;simp[h])
theorem kS:∀{a b:List Nat},gw a b=true↔a=b
 |[],[]=>by simp[gw]
 |[],_::_=>by simp[gw]
 |_::_,[]=>by simp[gw]
 |a::x,b::y=>by
  unfold gw;split
  .rename_i h;have:=H2 h;subst this;simp[kS (a:=x) (b:=y)]
  .rename_i h;have:=Za9 h;simp[this]
theorem Dm:∀{a b:List UInt8},a.map UInt8.toNat=b.map UInt8.toNat->a=b
 |[],[],_=>rfl
 |[],_::_,h=>by simp at h
 |_::_,[],h=>by simp at h
 |a::x,b::y,h=>by
  simp at h;rw[Zn9.1 h.1,Dm h.2]
theorem toList_data(b:ByteArray):b.toList=b.data.toList:=ByteArray.toList_eq b
theorem oR:∀(x y:List UInt8),av (x.map UInt8.toNat) (y.map UInt8.toNat)=Op.bytesLess x y
 |[],[]=>by simp[av,Op.bytesLess]
 |_::_,[]=>by simp[av,Op.bytesLess]
 |[],_::_=>by simp[av,Op.bytesLess]
 |a ::x,b::y=>by
  simp only[Zb4,av,Op.bytesLess];split
  .rename_i h;have:a<b:=(by rw[Zl6];simpa using h);simp[this]
  . (rename_i h;have h1:¬a<b:=by rw[Zl6];intro h';have h2:Nat.blt a.toNat b.toNat=true:=(by simpa using h');rw[h2]at h;cases h);split
    .   rename_i h2;have:a=b:=Zn9.1 (H2 h2);subst this;simp only[h1,Zn7,Bool.false_or,beq_self_eq_true,Zd8];exact oR x y
    .   (rename_i h2;have:a≠b:=λe=>Za9 h2 (by rw[e]));simp[h1,this]
theorem Dn{a b:List Nat}{x y:ByteArray}(hx:x.data.toList.map UInt8.toNat=a)(hy:y.data.toList.map UInt8.toNat=b):(x.toList==y.toList)=gw a b:=by
 rw[toList_data,toList_data,Zi3,kS,Zn8, <-hx, <-hy];exact⟨λh=>by rw[h],λh=>Dm h⟩
theorem Kt{a b:List Nat}{x y:ByteArray}(hx:x.data.toList.map UInt8.toNat=a)(hy:y.data.toList.map UInt8.toNat=b):Op.bytesLess x.toList y.toList=av a b:=by
 rw[toList_data,toList_data, <-hx, <-hy,oR]
theorem tH{a:List Nat}{x:ByteArray}(hx:x.data.toList.map UInt8.toNat=a):x.size=a.length:=by rw[<-hx,Zd1,Ze4];rfl
def PK.fits:PK->TypeDesc->Bool
 |.b,.bool=>true
 |.i,.int _=>true
 |.s,.string=>true
 |_,_=>false
theorem Qx{t:TypeId}{d:TypeDesc}(hd:P.underlying t=some d){pk:PK}(hk:pk.fits d=true){a b:AV}{x y:Value}{r:Bool}{m:Nat}
   (ha:aj ρ n C a x) (hb:aj ρ n C b y) (h:tF pk a b=some r) (w:World):(Op.equalIn (m+1) t x y).run P w= .ok r w:=by
 unfold tF at h;split at h
 .simp only[H0]at h;subst h;rw[ha.fo,hb.fo];cases d<;>simp[PK.fits]at hk;rw[run_equalIn_bool' w m t _ _ hd]
 . split at h
   .rename_i je;have:=ue je;subst this;simp only[H0]at h;subst h;rw[ha.fS,hb.fS];cases d<;>simp[PK.fits]at hk;rw[run_equalIn_int w m t _ _ _ _ hd,jU]
   .cases h
 .simp only[H0]at h;subst h;obtain⟨bx,rfl,h1⟩:=ha.dm;obtain⟨bz,rfl,h2⟩:=hb.dm;cases d<;>simp[PK.fits]at hk;rw[run_equalIn_string w m t _ _ hd,Dn h1 h2]
 .cases h
theorem Hl:∀{fs:List (Nat×Nat×Bool)}{l:List (Nat×PK)}{gs:List Field}{xs ys:List AV}{cx cy:Array Value}{r:Bool}{m:Nat}(_hT:bE P tt)
  (_hm:bn.cN fs gs=true) (_hf:u6.fields tt fs=some l) (_hx:ak ρ n C xs cx.toList) (_hy:ak ρ n C ys cy.toList) (_h:eqFields xs ys l=some r) (w:World),
  (Op.eqFields (m+1) cx cy gs).run P w= .ok r w
 |[],l,gs,xs,ys,cx,cy,r,m,hT,hm,hf,hx,hy,h,w=>by
  cases gs with
  |cons f gs=>simp[bn.cN]at hm
  | nil=>
    simp[u6.fields]at hf;subst hf;simp[eqFields]at h;subst h;simp[Op.eqFields]
 |(off  , t,named)::fs,l,gs,xs,ys,cx,cy,r,m,hT,hm,hf,hx,hy,h,w=>by
  cases gs with
  |nil=>simp[bn.cN]at hm
  | cons f gs=>
    simp[bn.cN]at hm;obtain⟨⟨⟨ho,ht⟩,hn⟩,Wb⟩:=hm;unfold u6.fields at hf;(split at hf<;>first|(cases hf;done)|skip);rename_i ti l' ct ZO;obtain⟨d,hd,bJ⟩:=(hT.at ct).und;have key:∃pk,l=(off,pk)::l'/\pk.fits d=true/\(isAgg t).run P w= .ok false w:=by
        have lV:=Ks bJ w hd;split at hf<;>first|(cases hf;done)|skip
        all_goals
          rename_i hk;simp only[H0]at hf;rw[hk]at bJ lV;refine⟨_,hf.symm,?_,lV⟩
        .rw[MX bJ];rfl
        .rw[Dk bJ];rfl
        .rw[jI bJ];rfl
    obtain⟨pk,rfl,Cr,lV⟩:=key;have cW:f.name≠ "_" :=(by intro e;rw[e]at hn;simp at hn);unfold eqFields at h;(split at h<;>first|(cases h;done)|skip);rename_i a b ha hb;rw[jx]at ha hb;obtain⟨x,ZP,TD⟩:=hx.get ha;obtain⟨y,yT,zX⟩:=hy.get hb;have px:(part f.type cx f.offset).run P w= .ok x w:=by
        rw[<-ht, <-ho];simp at ZP;simp[part,lV,ZP]
    have py:(part f.type cy f.offset).run P w= .ok y w:=by
        rw[<-ht, <-ho];simp at yT;simp[part,lV,yT]
    simp only[Op.eqFields,Sem.run_bind,Sem.run_ite,cW,px,py,Result.andThen_ok,ne_eq,Zk8,Ze5];split at h
    .   rename_i he;rw[<-ht,Qx hd Cr TD zX he w];simpa using Hl (m:=m) hT Wb ZO hx hy h w
    .   rename_i he;simp only[H0]at h;subst h;rw[<-ht,Qx hd Cr TD zX he w];simp
    .   cases h
def ZQ(tt:TT)(op:BinOp)(q:eA)(t:TypeId):Prop:=u6 tt t=some q\/(q= .num/\op≠ .eql/\op≠ .neq)
def abX(P:Program)(tt:TT)(t:TypeId):eA->Prop
 |.num=>True
 |.bool=>P.underlying t=some .bool
 |.ptr=>∃e,P.underlying t=some (.pointer e)/\∃j,P.info? e=some j
 |.slice=>∃e,P.underlying t=some (.slice e)
 |.map=>∃k e,P.underlying t=some (.map k e)
 |.func=>∃a b c,P.underlying t=some (.func a b c)
 |.iface=>∃a,P.underlying t=some (.interface a)
 |.struct l=>∃fs gs,P.underlying t=some (.struct gs)/\bn.cN fs gs.toList=true/\u6.fields tt fs=some l/\P.stoodInHeld t=false/\P.eqGuardType P.depth t=false
theorem TE(hT:bE P tt){t:TypeId}{q:eA}(hq:u6 tt t=some q):abX P tt t q:=by
 unfold u6 at hq;split at hq<;>first|(cases hq;done)|skip
 rename_i ti ct;obtain⟨d,hd,bJ⟩:=(hT.at ct).und;split at hq<;>first|(cases hq;done)|skip
 all_goals rename_i hk
 all_goals rw[hk]at bJ
 .simp only[H0]at hq;subst hq;rw[MX bJ]at hd;exact hd
 .simp only[H0]at hq;subst hq;trivial
 .simp only[H0]at hq;subst hq;trivial
 .simp only[H0]at hq;subst hq;rw[Lp bJ]at hd;exact⟨_,hd,(hT.at ct).elem _ hk⟩
 .simp only[H0]at hq;subst hq;rw[jT bJ]at hd;exact⟨_,hd⟩
 .simp only[H0]at hq;subst hq;rw[Hi bJ]at hd;exact⟨_,_,hd⟩
 .simp only[H0]at hq;subst hq;obtain⟨_,_,_,rfl⟩:=aap bJ;exact⟨_,_,_,hd⟩
 .simp only[H0]at hq;subst hq;obtain⟨_,rfl⟩:=X9 bJ;exact⟨_,hd⟩
 . (split at hq<;>first|(cases hq;done)|skip);rename_i fs _ _ l hp hl;simp only[H0]at hq;subst hq;obtain⟨gs,rfl,hm⟩:=BG bJ;exact⟨fs,gs,hd,hm,hl,(hT.at ct).eqs hp⟩
theorem UR(m:Nat)(hT:bE P tt){t:TypeId}{q:eA}(hq:u6 tt t=some q){a b:AV}{x y:Value}{r:Bool}(ha:aj ρ n C a x)(hb:aj ρ n C b y)(h:Ex q a b=some r)(w:World):
   (Op.equalIn (m+1+1) t x y).run P w= .ok r w:=by
 have hi:=TE hT hq;clear hq;unfold Ex at h;split at h<;>first|(cases h;done)|skip
 .simp only[H0]at h;subst h;rw[ha.fo,hb.fo,run_equalIn_bool' w _ t _ _ hi]
 all_goals first
   |(simp only[H0]at h;subst h)
   |skip
 .obtain⟨e,hd,_⟩:=hi;rw[ha.nE,hb.nE];(unfold Op.equalIn;rw[Sem.run_bind,aH hd];rfl)
 .obtain⟨e,hd,_⟩:=hi;obtain⟨_,hb⟩:=hb.dU;rw[ha.nE,hb];(unfold Op.equalIn;rw[Sem.run_bind,aH hd];rfl)
 .obtain⟨e,hd,_⟩:=hi;obtain⟨_,ha⟩:=ha.dU;rw[hb.nE,ha];(unfold Op.equalIn;rw[Sem.run_bind,aH hd];rfl)
 .obtain⟨e,hd,_⟩:=hi;obtain⟨_,_,_,_,hb,_⟩:=hb.Dl;rw[ha.nE,hb];(unfold Op.equalIn;rw[Sem.run_bind,aH hd];rfl)
 .obtain⟨e,hd,_⟩:=hi;obtain⟨_,_,_,_,ha,_⟩:=ha.Dl;rw[hb.nE,ha];(unfold Op.equalIn;rw[Sem.run_bind,aH hd];rfl)
 .obtain⟨e,hd,j,hj⟩:=hi;(split at h<;>first|(cases h;done)|skip);rename_i e1 e2;have e1:=Pos.beq_eq.1 e1;have e2:=H2 e2;subst e1;subst e2;simp only[H0]at h;subst h;obtain⟨_,ha⟩:=ha.dU;obtain⟨_,hb⟩:=hb.dU;rw[ha,hb];simp[Op.equalIn,aH hd,sizeOf,typeInfo,hj,run_sameAddr_same]
 .obtain⟨e,hd⟩:=hi;rw[ha.eu,hb.eu];(unfold Op.equalIn;rw[Sem.run_bind,aH hd];rfl)
 .obtain⟨e,hd⟩:=hi;obtain⟨_,_,hb,_⟩:=hb.cG;rw[ha.eu,hb];(unfold Op.equalIn;rw[Sem.run_bind,aH hd];rfl)
 .obtain⟨e,hd⟩:=hi;obtain⟨_,_,ha,_⟩:=ha.cG;rw[hb.eu,ha];(unfold Op.equalIn;rw[Sem.run_bind,aH hd];rfl)
 .obtain⟨e,hd⟩:=hi;obtain⟨_,_,_,hb,_⟩:=hb.qb;rw[ha.eu,hb];(unfold Op.equalIn;rw[Sem.run_bind,aH hd];rfl)
 .obtain⟨e,hd⟩:=hi;obtain⟨_,_,_,ha,_⟩:=ha.qb;rw[hb.eu,ha];(unfold Op.equalIn;rw[Sem.run_bind,aH hd];rfl)
 .obtain⟨k,e,hd⟩:=hi;rw[ha.w9,hb.w9];(unfold Op.equalIn;rw[Sem.run_bind,aH hd];rfl)
 .obtain⟨k,e,hd⟩:=hi;obtain⟨_,hb⟩:=hb.uf;rw[ha.w9,hb];(unfold Op.equalIn;rw[Sem.run_bind,aH hd];rfl)
 .obtain⟨k,e,hd⟩:=hi;obtain⟨_,ha⟩:=ha.uf;rw[hb.w9,ha];(unfold Op.equalIn;rw[Sem.run_bind,aH hd];rfl)
 .obtain⟨_,_,_,hd⟩:=hi;rw[ha.EN,hb.EN];(unfold Op.equalIn;rw[Sem.run_bind,aH hd];rfl)
 .obtain⟨_,_,_,hd⟩:=hi;obtain⟨_,_,hb,_⟩:=hb.zU;rw[ha.EN,hb];(unfold Op.equalIn;rw[Sem.run_bind,aH hd];rfl)
 .obtain⟨_,_,_,hd⟩:=hi;obtain⟨_,_,ha,_⟩:=ha.zU;rw[hb.EN,ha];(unfold Op.equalIn;rw[Sem.run_bind,aH hd];rfl)
 .obtain⟨_,hd⟩:=hi;obtain⟨_,hb,_⟩:=hb.Ob;rw[ha.Qw,hb];(unfold Op.equalIn;rw[Sem.run_bind,aH hd];rfl)
 .obtain⟨_,hd⟩:=hi;obtain⟨_,ha,_⟩:=ha.Ob;rw[hb.Qw,ha];(unfold Op.equalIn;rw[Sem.run_bind,aH hd];rfl)
 .obtain⟨fs,gs,hd,hm,hl,hp,_⟩:=hi;obtain⟨cx,rfl,hx⟩:=ha.zJ;obtain⟨cy,rfl,hy⟩:=hb.zJ;have hfo:P.fieldsOf t=gs:=(by simp[Program.fieldsOf,hd]);rw[run_equalIn_agg w (m+1) t cx cy (by rw[hfo,hd]) hp,hfo];exact Hl (m:=m) hT hm hl hx hy h w
theorem Qy(hT:bE P tt){t:TypeId}{q:eA}(hq:u6 tt t=some q){a b:AV}{x y:Value}{r:Bool}(ha:aj ρ n C a x)(hb:aj ρ n C b y)(h:Ex q a b=some r)(w:World):
 (Op.equal t x y).run P w= .ok r w:=UR 9998 hT hq ha hb h w
theorem Lt(hT:bE P tt){t:TypeId}{q:eA}(hq:u6 tt t=some q){a b:AV}{x y:Value}{r:Bool}(ha:aj ρ n C a x)(hb:aj ρ n C b y)(h:Ex q a b=some r)(op:BinOp)(ox oy:Operand)(w:World):
  (eqGuard op t ox oy x y).run P w= .ok () w:=by
 have hi:=TE hT hq;clear hq;unfold Ex at h;split at h<;>first|(cases h;done)|skip
 all_goals first
  |(obtain⟨fs,gs,hd,hm,hl,hp,hg⟩:=hi
    obtain⟨cx,rfl,hx⟩:=ha.zJ;obtain⟨cy,rfl,hy⟩:=hb.zJ;exact run_eqGuard_agg w op t ox oy cx cy hg)
  |(cases ha<;>cases hb<;>cases op<;>rfl)
end
section
variable{P:Program}{tt:TT}{ρ:Pos->Loc}{C:Cells}{st:St}{w:World}{n:Nat}
theorem Pe(op:BinOp)(t:TypeId)(k:IntKind)(i j:Int)(hs:op≠ .shl)(hr:op≠ .shr):(binOp op t (.int k i) (.int k j)).run P w=
  (match op with
   |.add|.sub|.mul=>Op.intArith op k i j
   |.quo|.rem=>Op.intDiv op k i j
   |.and|.or|.xor|.andNot=>Op.intBits op k i j
   |_=>Op.intCmp op i j).run P w:=by
 cases op<;>first|(exact absurd rfl hs)|(exact absurd rfl hr)|simp[binOp]
theorem Ya(hT:bE P tt){op:BinOp}{t:TypeId}{q:eA}(hq:ZQ tt op q t){a b v:AV}{x y:Value}(ha:aj ρ n C a x)(hb:aj ρ n C b y)(h:mb op q a b=some v)(ox oy:Operand):
  ∃z,(do eqGuard op t ox oy x y;binOp op t x y:Sem Value).run P w= .ok z w/\aj ρ n C v z:=by
 unfold mb at h;split at h
 ·
  rename_i k i k' j;rw[ha.fS,hb.fS];have hg:∀op,(eqGuard op t ox oy (.int k i) (.int k' j)).run P w= .ok () w:=by intro op;cases op<;>rfl
  rw[Sem.run_bind,hg,Result.andThen_ok];split at h
  . split at h
    .   cases h
    .   rename_i aW;rw[dH]at aW;have aW:=Zk4 aW;simp only[H0]at h;subst h;exact⟨_,by simp[binOp,Op.shift,aW,qc],.int _ _⟩
  . split at h
    .   cases h
    .   rename_i aW;rw[dH]at aW;have aW:=Zk4 aW;simp only[H0]at h;subst h;exact⟨_,by simp[binOp,Op.shift,aW],.int _ _⟩
  . rename_i hs hr;split at h
    .   cases h
    .   rename_i hk;have:=ue hk;subst this;rw[Pe op t k i j (λe=>hs e) (λe=>hr e)];split at h
        .simp only[H0]at h;subst h;exact⟨_,by simp[Op.intArith,qc],.int _ _⟩
        .simp only[H0]at h;subst h;exact⟨_,by simp[Op.intArith,qc],.int _ _⟩
        .simp only[H0]at h;subst h;exact⟨_,by simp[Op.intArith,qc],.int _ _⟩
        . split at h
          .cases h
          . (rename_i h0;rw[jU]at h0;have h0':¬j=0:=by simpa using h0);simp only[H0]at h;subst h;exact⟨_,by simp[Op.intDiv,h0',qc],.int _ _⟩
        . split at h
          .cases h
          . (rename_i h0;rw[jU]at h0;have h0':¬j=0:=by simpa using h0);simp only[H0]at h;subst h;exact⟨_,by simp[Op.intDiv,h0'],.int _ _⟩
        .simp only[H0]at h;subst h;exact⟨_,by simp[Op.intBits],.int _ _⟩
        .simp only[H0]at h;subst h;exact⟨_,by simp[Op.intBits],.int _ _⟩
        .simp only[H0]at h;subst h;exact⟨_,by simp[Op.intBits],.int _ _⟩
        .simp only[H0]at h;subst h;exact⟨_,by simp[Op.intBits],.int _ _⟩
        .simp only[H0]at h;subst h;exact⟨_,by simp[Op.intCmp,jU],.bool _⟩
        .simp only[H0]at h;subst h;refine⟨_,rfl,?_⟩;rw[jU];exact .bool _
        .simp only[H0]at h;subst h;refine⟨_,rfl,?_⟩;rw[dH];exact .bool _
        .simp only[H0]at h;subst h;refine⟨_,rfl,?_⟩;rw[fO];exact .bool _
        .simp only[H0]at h;subst h;refine⟨_,rfl,?_⟩;rw[dH];exact .bool _
        .simp only[H0]at h;subst h;refine⟨_,rfl,?_⟩;rw[fO];exact .bool _
        .cases h
 ·
  rename_i s u;obtain⟨bx,rfl,h1⟩:=ha.dm;obtain⟨bz,rfl,h2⟩:=hb.dm;have hg:∀op,(eqGuard op t ox oy (.string bx) (.string bz)).run P w= .ok () w:=by intro op;cases op<;>rfl
  rw[Sem.run_bind,hg,Result.andThen_ok];have hs:(binOp op t (.string bx) (.string bz)).run P w=(Op.stringOp op bx bz).run P w:=by cases op<;>rfl
  rw[hs];have e1:=Dn h1 h2;have e2:=Kt h1 h2;split at h
  . split at h
    .   rename_i hb;have hb:=H4 hb;simp only[H0]at h;subst h;have lW:¬(((bx.size+bz.size:Nat):Int)>IntKind.i64.max):=(by rw[tH h1,tH h2];simp[IntKind.max,IntKind.signed,IntKind.bits];omega);refine⟨.string (bx++bz),?_,.str _ _ ?_⟩
        .simp only[Op.stringOp];rw[Za4 lW];rfl
        .rw[ByteArray.data_append,Array.toList_append,Zh1,h1,h2]
    .   cases h
  all_goals first|(cases h;done)|skip
  all_goals
    simp only[H0]at h;subst h;refine⟨_,rfl,?_⟩
    first|rw[e1,e2]|rw[e1]|rw[e2]
    exact .bool _
 ·
  rename_i hni hns;have BI:∀op,(op= .eql\/op= .neq)->(binOp op t x y).run P w=((Op.equal t x y).run P w).andThen λr w'=>.ok (.bool (if op= .eql then r else !r)) w':=by
    rintro op (rfl|rfl)
    all_goals
        cases ha<;>cases hb<;>first
          |(exact(hni _ _ _ _ rfl rfl).elim)
          |(exact(hns _ _ rfl rfl).elim)
          |simp[binOp]
  split at h
  . split at h
    .   rename_i r hr;simp only[H0]at h;subst h;rcases hq with hq|⟨_,hq,_⟩
        .refine⟨.bool r,?_,.bool r⟩;rw[Sem.run_bind,Lt hT hq ha hb hr,Result.andThen_ok,BI _ (.inl rfl),Qy hT hq ha hb hr];rfl
        .exact absurd rfl hq
    .   cases h
  . split at h
    .   rename_i r hr;simp only[H0]at h;subst h;rcases hq with hq|⟨_,_,hq⟩
        .refine⟨.bool (!r),?_,.bool _⟩;rw[Sem.run_bind,Lt hT hq ha hb hr,Result.andThen_ok,BI _ (.inr rfl),Qy hT hq ha hb hr];rfl
        .exact absurd rfl hq
    .   cases h
  .cases h
end
def cm(P:Program)(tt:TT)(op:Op):Prop:=
 ∀  (ρ:Pos->Loc)(C:Cells)(st:St)(w:World)(k:au)(xs:List dh)(cls:TA)(fr:Fr)(a:Act)(o:Oper)(vs:List AV)(res:bW),
    o.op=op->eJ tt op=some (k,xs,cls)->aM ρ C st w->eg ρ st.next.toNat C fr a.tmps->di fr xs=some vs->
    k.run (λb=>st.heap.get b) st.next vs=some res->qW P ρ C st w ((execOp a.eval o).run P w) res
section
variable{P:Program}{tt:TT}
theorem MY{ρ:Pos->Loc}{n:Nat}{C:Cells}{x y:Operand}{os:List dh}{fr:Fr}{a:Act}{vs:List AV}(h:gL [x,y]=some os)(hF:eg ρ n C fr a.tmps)(hv:di fr os=some vs):
  ∃u v,vs=[u,v]/\aj ρ n C u (a.eval x)/\aj ρ n C v (a.eval y):=by
 have h1:=cZ h hF hv;cases vs with
 |nil=>have:=h1.1;simp at this
 |cons u vs=>
  cases vs with
  |nil=>have:=h1.1;simp at this
  |cons v vs=>
   cases vs with
   |nil=>exact⟨u,v,rfl,h1.2 0 u _ rfl rfl,h1.2 1 v _ rfl rfl⟩
   |cons z vs=>have:=h1.1;simp at this
theorem evs3{ρ:Pos->Loc}{n:Nat}{C:Cells}{x y z:Operand}{os:List dh}{fr:Fr}{a:Act}{vs:List AV}(h:gL [x,y,z]=some os)(hF:eg ρ n C fr a.tmps)(hv:di fr os=some vs):
  ∃u v q,vs=[u,v,q]/\aj ρ n C u (a.eval x)/\aj ρ n C v (a.eval y)/\aj ρ n C q (a.eval z):=by
 have h1:=cZ h hF hv
 match vs,h1 with
 |[u,v,q],h1=>exact⟨u,v,q,rfl,h1.2 0 u _ rfl rfl,h1.2 1 v _ rfl rfl,h1.2 2 q _ rfl rfl⟩
 |[],h1=>have:=h1.1;simp at this
 |[_],h1=>have:=h1.1;simp at this
 |[_,_],h1=>have:=h1.1;simp at this
 |_::_::_::_::_,h1=>have:=h1.1;simp at this
theorem Yb(x:Operand):cm P tt (.move x):=by
 intro ρ C st w k xs cls fr a o vs res ho hc hW hF hx hr;simp only[eJ]at hc;split at hc<;>first|(cases hc;done)|skip
 rename_i b hb;cases hc;obtain⟨v,rfl,hv⟩:=dN hb hF hx;simp only[au.run,I7,H0]at hr;subst hr;exact .pure (by simp[execOp,ho]) hv
theorem US(x:Operand):cm P tt (.assign x):=by
 intro ρ C st w k xs cls fr a o vs res ho hc hW hF hx hr;simp only[eJ]at hc;split at hc<;>first|(cases hc;done)|skip
 rename_i b hb;cases hc;obtain⟨v,rfl,hv⟩:=dN hb hF hx;simp only[au.run,I7,H0]at hr;subst hr;exact .pure (by simp[execOp,ho]) hv
theorem Yc(c x y:Operand):cm P tt (.pick c x y):=by
 intro ρ C st w k xs cls fr a o vs res ho hc hW hF hx hr;simp only[eJ]at hc;split at hc<;>first|(cases hc;done)|skip
 rename_i l hl;cases hc;obtain⟨u,v,q,rfl,h1,h2,h3⟩:=evs3 hl hF hx;simp only[au.run,MU]at hr;split at hr<;>first|(cases hr;done)|skip
 all_goals
   simp only[H0]at hr;subst hr;have h1:=h1.fo
 .exact .pure (by simp[execOp,ho,h1,asBool]) h2
 .exact .pure (by simp[execOp,ho,h1,asBool]) h3
theorem Wc(hT:bE P tt)(op:BinOp)(t:TypeId)(x y:Operand)(yt:TypeId):cm P tt (.binOp op t x y yt):=by
 intro ρ C st w k xs cls fr a o vs res ho hc hW hF hx hr;have key:∃q,ZQ tt op q t/\k= .bin op q/\gL [x,y]=some xs:=by
  simp only[eJ]at hc;split at hc
  .rename_i q l hq hl;cases hc;exact⟨q,.inl hq,rfl,hl⟩
  .rename_i l hq hl;(split at hc<;>first|(cases hc;done)|skip);rename_i h1 h2;cases hc;exact⟨.num,.inr ⟨rfl,λe=>h1 e,λe=>h2 e⟩,rfl,hl⟩
  .cases hc
 obtain⟨q,hq,rfl,hl⟩:=key;obtain⟨u,v,rfl,h1,h2⟩:=MY hl hF hx;simp only[au.run,gx]at hr;split at hr<;>first|(cases hr;done)|skip
 rename_i r hb;simp only[H0]at hr;subst hr;obtain⟨z,hz,hv⟩:=Ya hT hq h1 h2 hb x y (w:=w);refine .pure ?_ hv;simp only[execOp,ho];rw[Sem.run_bind,hz];rfl
theorem Yd(op:UnOp)(t:TypeId)(x:Operand):cm P tt (.unOp op t x):=by
 intro ρ C st w k xs cls fr a o vs res ho hc hW hF hx hr;simp only[eJ]at hc;split at hc<;>first|(cases hc;done)|skip
 rename_i b hb;cases hc;obtain⟨v,rfl,hv⟩:=dN hb hF hx;simp only[au.run,UM]at hr;split at hr<;>first|(cases hr;done)|skip
 rename_i r hu;simp only[H0]at hr;subst hr;unfold unA at hu;split at hu
 . (split at hu<;>first|(cases hu;done)|skip);simp only[H0]at hu;subst hu;exact .pure (by simp[execOp,ho,hv.fo,Op.unary]) (.bool _)
 . (split at hu<;>first|(cases hu;done)|skip);simp only[H0]at hu;subst hu;exact .pure (by simp[execOp,ho,hv.fS,Op.unary,Op.intArith];rfl) (by rw[qc];simpa using aj.int _ _)
 .cases hu
theorem Qz(x:Operand):cm P tt (.nilCheck x):=by
 intro ρ C st w k xs cls fr a o vs res ho hc hW hF hx hr;simp only[eJ]at hc;split at hc<;>first|(cases hc;done)|skip
 rename_i b hb;cases hc;obtain⟨v,rfl,hv⟩:=dN hb hF hx;simp only[au.run,Cp]at hr;split at hr<;>first|(cases hr;done)|skip
 all_goals simp only[H0]at hr;subst hr
 .obtain⟨_,he⟩:=hv.dU;exact .pure (by simp[execOp,ho,he]) hv
 .obtain⟨_,_,_,_,he,_⟩:=hv.Dl;exact .pure (by simp[execOp,ho,he]) hv
 .obtain⟨_,_,he,_⟩:=hv.zU;exact .pure (by simp[execOp,ho,he]) hv
theorem SY(x:Operand)(i:Nat):cm P tt (.extract x i):=by
 intro ρ C st w k xs cls fr a o vs res ho hc hW hF hx hr;simp only[eJ]at hc;split at hc<;>first|(cases hc;done)|skip
 rename_i b hb;cases hc;obtain⟨v,rfl,hv⟩:=dN hb hF hx;simp only[au.run,zm]at hr;split at hr<;>first|(cases hr;done)|skip
 split at hr<;>first|(cases hr;done)|skip
 rename_i u hu;simp only[H0]at hr;subst hr;obtain⟨cs,he,hs⟩:=hv.N8;rw[jx]at hu;obtain⟨y,hy,zY⟩:=hs.get hu;exact .pure (by simp at hy;simp[execOp,ho,he,Instr.extract,hy]) zY
theorem SZ(hT:bE P tt)(t:TypeId)(x:Operand):cm P tt (.makeInterface t x):=by
 intro ρ C st w k xs cls fr a o vs res ho hc hW hF hx hr;simp only[eJ]at hc;split at hc<;>first|(cases hc;done)|skip
 rename_i ti b ct hb;split at hc<;>first|(cases hc;done)|skip
 rename_i h1 h2;cases hc;obtain⟨v,rfl,hv⟩:=dN hb hF hx;simp only[au.run,EB,H0]at hr;subst hr;obtain⟨d,hd,hk⟩:=(hT.at ct).und;refine .pure (x:= .iface t (a.eval x)) ?_ (.iface _ _ _ hv);have hni:∀ms,d≠ .interface ms:=by
  rintro ms rfl;cases yU:ti.k<;>rw[yU]at hk<;>first|(simp[bn]at hk;done)|(exact h1 yU)|(exact h2 yU)
 simp only[execOp,ho,Instr.makeInterface,Sem.run_bind,aH hd,Result.andThen_ok];cases d<;>first|rfl|(exact absurd rfl (hni _))
theorem UT(fn:Fn)(first captured:Array Operand):cm P tt (.makeFunc fn first captured):=by
 intro ρ C st w k xs cls fr a o vs res ho hc hW hF hx hr;simp only[eJ]at hc;split at hc<;>first|(cases hc;done)|skip
 rename_i f l hl;cases hc;have h:=cZ hl hF hx;simp only[au.run,BB,H0]at hr;subst hr;have e1:vs.take first.size=vs.take first.size:=rfl
 have h1:=h.take first.size
 have h2:=h.drop first.size
 simp only[Zh1]at h1 h2;rw[Zj4 (by simp)]at h1;rw[List.drop_left' (by simp)]at h2;refine .pure (x:= .func (.func f) (first.map a.eval) (captured.map a.eval)) (by simp[execOp,ho,Instr.makeFunc]) ?_;exact .func _ _ _ _ _ (by simpa using h1.1) (by simpa using h2.1) (λi v v' hv zZ=>h1.2 i v v' hv (by simpa using zZ)) (λi v v' hv zZ=>h2.2 i v v' hv (by simpa using zZ))
theorem Pg(hT:bE P tt)(t:TypeId)(x:Operand)(f:Nat):cm P tt (.fieldAddr t x f):=by
 intro ρ C st w k xs cls fr a o vs res ho hc hW hF hx hr;simp only[eJ]at hc;split at hc<;>first|(cases hc;done)|skip
 rename_i ti b ct hb;split at hc<;>first|(cases hc;done)|skip
 rename_i fs hk;split at hc<;>first|(cases hc;done)|skip
 rename_i off ft nm hf;split at hc<;>first|(cases hc;done)|skip
 rename_i fi ZR;split at hc<;>first|(cases hc;done)|skip
 rename_i dV;cases hc;obtain⟨v,rfl,hv⟩:=dN hb hF hx;obtain⟨d,hd,bJ⟩:=(hT.at ct).und;rw[hk]at bJ;obtain⟨gs,rfl,hm⟩:=BG bJ;obtain⟨g,hg,kT,wO,_⟩:=EL hm hf;simp only at kT wO;obtain⟨i,hi,iV,_⟩:=(hT.at ZR).info;have hs0:¬i.size=0:=by rw[iV];exact Za9 dV
 simp only[au.run,Hf]at hr;split at hr<;>first|(cases hr;done)|skip
 .simp only[H0]at hr;subst hr;obtain⟨aW,he⟩:=hv.dU;refine .pure (x:= .pointer (some ⟨(ρ _).aq,(ρ _).base+(_+off),none⟩)) ?_ (.ptr _ _ aW);simp at hg;simp[execOp,ho,he,Instr.fieldAt,aH hd,hg,Instr.sureAddr,fieldPlace,wO,fN hi,hs0,jy,kT,Zh0]
 .simp only[H0]at hr;subst hr;obtain⟨es,aq,base,cell,he,h1,h2,h3⟩:=hv.Dl;rename_i sr i' j';refine .pure (x:= .pointer (some ⟨aq,base+i'*es+(j'+off),none⟩)) ?_ (.fp _ _ _ es aq base cell h1 h2 h3);simp at hg;simp[execOp,ho,he,Instr.fieldAt,aH hd,hg,Instr.sureAddr,fieldPlace,wO,fN hi,hs0,jy,kT,Zh0]
theorem g7{ρ:Pos->Loc}{n:Nat}{C:Cells}{v:AV}{x:Value}{i:Nat}(h:aj ρ n C v x)(hi:rS v=some i):∃k,x= .int k (i:Int):=by
 unfold rS at hi;split at hi<;>first|(cases hi;done)|skip
 split at hi<;>first|(cases hi;done)|skip
 simp only[H0]at hi;subst hi;exact⟨_,h.fS⟩
theorem Ph(hT:bE P tt)(t:TypeId)(x ix:Operand):cm P tt (.indexAddr t x ix):=by
 intro ρ C st w k xs cls fr a o vs res ho hc hW hF hx hr;simp only[eJ]at hc;split at hc<;>first|(cases hc;done)|skip
 rename_i ti l ct hl;obtain⟨d,hd,bJ⟩:=(hT.at ct).und;obtain⟨u,v,rfl,h1,h2⟩:=MY hl hF (by
   split at hc<;>first|(cases hc;done)|skip
   all_goals
     (split at hc<;>first|(cases hc;done)|skip);cases hc;exact hx)
 split at hc<;>first|(cases hc;done)|skip
 . rename_i e hk;rw[hk]at bJ;rw[jT bJ]at hd;(split at hc<;>first|(cases hc;done)|skip);rename_i te dY;cases hc;obtain⟨i0,jJ,iV,_⟩:=(hT.at dY).info;simp only[au.run,mg]at hr;(split at hr<;>first|(cases hr;done)|skip);rename_i i hi;obtain⟨kk,JE⟩:=g7 h2 hi;split at hr<;>first|(cases hr;done)|skip
   .rename_i b off len cap es' _;(split at hr<;>first|(cases hr;done)|skip);rename_i aW;have aW:i<len:=(by simpa using aW);simp only[H0]at hr;subst hr;obtain⟨aa,aF,he,hle,_,ha⟩:=h1.cG;obtain⟨hb,rfl,_⟩:=ha (by omega);refine .pure (x:= .pointer (some ⟨(ρ b).aq,(ρ b).base+(off+i*te.size),none⟩)) ?_ (.ptr _ _ hb);simp[execOp,ho,he,JE,Instr.indexAt,aH hd,asIntOf,aW,fN jJ,jy,iV,Zh0]
   .rename_i sr es' _;(split at hr<;>first|(cases hr;done)|skip);rename_i aW cU;have aW:i<sr.length:=(by simpa using aW);have cU:te.size=es':=H2 cU;simp only[H0]at hr;subst hr;obtain⟨aa,aF,cell,he,hle,vg,g1,g2,g3⟩:=h1.qb;have vg:=vg (by intro e;rw[e]at aW;simp at aW);obtain⟨ab,ao,asp⟩:=aa;simp only at vg;subst vg;refine .pure (x:= .pointer (some ⟨ab,ao+i*es'+0,none⟩)) ?_ (.fp _ _ _ es' ab ao cell g1 g2 g3);simp[execOp,ho,he,JE,Instr.indexAt,aH hd,asIntOf,aW,fN jJ,jy,iV,cU]
   .rename_i hh;cases hh
 . rename_i m e hk;rw[hk]at bJ;rw[Qv bJ]at hd;(split at hc<;>first|(cases hc;done)|skip);rename_i te dY;cases hc;obtain⟨i0,jJ,iV,_⟩:=(hT.at dY).info;simp only[au.run,mg]at hr;(split at hr<;>first|(cases hr;done)|skip);rename_i i hi;obtain⟨kk,JE⟩:=g7 h2 hi;split at hr<;>first|(cases hr;done)|skip
   .rename_i hh;cases hh
   .rename_i hh;cases hh
   .rename_i m' b off hh;cases hh;(split at hr<;>first|(cases hr;done)|skip);rename_i aW;have aW:i<m:=(by simpa using aW);simp only[H0]at hr;subst hr;obtain⟨hb,he⟩:=h1.dU;refine .pure (x:= .pointer (some ⟨(ρ b).aq,(ρ b).base+(off+i*te.size),none⟩)) ?_ (.ptr _ _ hb);simp[execOp,ho,he,JE,Instr.indexAt,aH hd,asIntOf,aW,fN jJ,jy,iV,Zh0,Instr.sureAddr]
end
section
variable{P:Program}{tt:TT}
theorem Wd(hT:bE P tt)(t:TypeId)(x:Operand)(f:Nat):cm P tt (.field t x f):=by
 intro ρ C st w k xs cls fr a o vs res ho hc hW hF hx hr;simp only[eJ]at hc;split at hc<;>first|(cases hc;done)|skip
 rename_i ti b ct hb;split at hc<;>first|(cases hc;done)|skip
 rename_i fs hk;split at hc<;>first|(cases hc;done)|skip
 rename_i off ft nm hf;split at hc<;>first|(cases hc;done)|skip
 rename_i fi ZR;cases hc;obtain⟨v,rfl,hv⟩:=dN hb hF hx;obtain⟨d,hd,bJ⟩:=(hT.at ct).und;rw[hk]at bJ;obtain⟨gs,rfl,hm⟩:=BG bJ;obtain⟨g,hg,kT,wO,_⟩:=EL hm hf;simp only at kT wO;obtain⟨i,hi,iV,_⟩:=(hT.at ZR).info;obtain⟨fd,hfd,hfk⟩:=(hT.at ZR).und;have lV:=Ks hfk w hfd;simp only[au.run,Kn]at hr;split at hr<;>first|(cases hr;done)|skip
 rename_i cs;obtain⟨cx,he,hs⟩:=hv.zJ;simp at hg;split at hr
 . rename_i hn;(split at hr<;>first|(cases hr;done)|skip);rename_i u hu;simp only[H0]at hr;subst hr;rw[jx]at hu;obtain⟨y,hy,zY⟩:=hs.get hu;have UU:fi.k.isAgg=false:=by
     unfold u7 at hn;split at hn
     .cases hn
     .assumption
   rw[UU]at lV;refine .pure (x:=y) ?_ zY;simp at hy;simp[execOp,ho,he,Instr.field,aH hd,hg,part,wO,lV,asAgg,kT,hy]
 . rename_i m hn;simp only[H0]at hr;subst hr;have UU:fi.k.isAgg=true/\m=fi.size:=by
     unfold u7 at hn;split at hn
     .cases hn;exact⟨by assumption,rfl⟩
     .cases hn
   rw[UU.1]at lV;refine .pure (x:= .agg (cx.extract off (off+m))) ?_ (.zT ?_)
   .simp[execOp,ho,he,Instr.field,aH hd,hg,part,wO,lV,asAgg,kT,fN hi,iV,UU.2]
   .have:=(hs.drop off).take m;simpa [Zm4,List.extract]using this
theorem We(hT:bE P tt)(t:TypeId)(x ix:Operand):cm P tt (.index t x ix):=by
 intro ρ C st w k xs cls fr a o vs res ho hc hW hF hx hr;simp only[eJ]at hc;split at hc<;>first|(cases hc;done)|skip
 rename_i ti l ct hl;split at hc<;>first|(cases hc;done)|skip
 rename_i hk;cases hc;obtain⟨u,v,rfl,h1,h2⟩:=MY hl hF hx;obtain⟨d,hd,bJ⟩:=(hT.at ct).und;rw[hk]at bJ;rw[jI bJ]at hd;simp only[au.run,I8]at hr;split at hr<;>first|(cases hr;done)|skip
 rename_i s i hi;split at hr<;>first|(cases hr;done)|skip
 rename_i c hcx;simp only[H0]at hr;subst hr;obtain⟨bs,he,hs⟩:=h1.dm;obtain⟨kk,JE⟩:=g7 h2 hi;rw[jx, <-hs,Zb7]at hcx;obtain⟨b,hb,hbc⟩:=Ze8.1 hcx;have gZ:bs[i]? =some b:=by
  obtain⟨aW,iJ⟩:=H3.1 hb;have EM:i<bs.size:=by rw[Ze4]at aW;exact aW
  rw[getElem?_pos bs i EM];congr 1
 refine .pure (x:= .int .u8 (.ofNat c)) ?_ (.int _ _);simp[execOp,ho,he,JE,Instr.index,aH hd,asIntOf,gZ, <-hbc]
theorem Ye(hT:bE P tt)(t:TypeId)(x:Operand):cm P tt (.load t x):=by
 intro ρ C st w k xs cls fr a o vs res ho hc hW hF hx hr;simp only[eJ]at hc;split at hc<;>first|(cases hc;done)|skip
 rename_i ti b ct hb;cases hc;obtain⟨v,rfl,hv⟩:=dN hb hF hx;obtain⟨d,hd,bJ⟩:=(hT.at ct).und;obtain⟨i,hi,iV,_⟩:=(hT.at ct).info;have lV:=Ks bJ w hd;have hn:(u7 ti=none/\ti.k.isAgg=false)\/(u7 ti=some ti.size/\ti.k.isAgg=true):=by unfold u7;split<;>simp_all
 simp only[au.run,qU]at hr;split at hr<;>first|(cases hr;done)|skip
 . rename_i bb off;(split at hr<;>first|(cases hr;done)|skip);rename_i cs fz iJ;obtain⟨_,he⟩:=hv.dU;rcases hn with⟨hn,hf⟩|⟨hn,hf⟩
   .rw[hn]at hr;rw[hf]at lV;simp only at hr;(split at hr<;>first|(cases hr;done)|skip);rename_i u hu;simp only[H0]at hr;subst hr;rw[jx]at hu;obtain⟨y,hy,zY⟩:=hW.cell iJ hu;refine .pure (x:=y) ?_ zY;simp[execOp,ho,he,Instr.loadAt,Instr.sureAddr,loadVar,lV,hy]
   .rw[hn]at hr;rw[hf]at lV;simp only at hr;(split at hr<;>first|(cases hr;done)|skip);rename_i us hu;simp only[H0]at hr;subst hr;obtain⟨ys,hy,zY⟩:=hW.loadCells (P:=P) iJ hu;refine .pure (x:= .agg ys.toArray) ?_ (.zT (by simpa using zY));simp[execOp,ho,he,Instr.loadAt,Instr.sureAddr,loadVar,lV,fN hi,iV,hy]
   rename_i tt0 cs iJ;obtain⟨_,he⟩:=hv.dU;rcases hn with⟨hn,hf⟩|⟨hn,hf⟩
   .rw[hn]at hr;rw[hf]at lV;simp only at hr;(split at hr<;>first|(cases hr;done)|skip);rename_i u hu;simp only[H0]at hr;subst hr;rw[jx]at hu;obtain⟨y,hy,zY⟩:=hW.abW iJ hu;refine .pure (x:=y) ?_ zY;simp[execOp,ho,he,Instr.loadAt,Instr.sureAddr,loadVar,lV,hy]
   .rw[hn]at hr;rw[hf]at lV;simp only at hr;(split at hr<;>first|(cases hr;done)|skip);rename_i us hu;simp only[H0]at hr;subst hr;obtain⟨ys,hy,zY⟩:=hW.Lq (P:=P) iJ hu;refine .pure (x:= .agg ys.toArray) ?_ (.zT (by simpa using zY));simp[execOp,ho,he,Instr.loadAt,Instr.sureAddr,loadVar,lV,fN hi,iV,hy]
 . rename_i sr i' j';(split at hr<;>first|(cases hr;done)|skip);rename_i cs eR;rw[jx]at eR;obtain⟨es,aq,base,cell,he,g1,g2,g3⟩:=hv.Dl;rcases hn with⟨hn,hf⟩|⟨hn,hf⟩
   .rw[hn]at hr;rw[hf]at lV;simp only at hr;(split at hr<;>first|(cases hr;done)|skip);rename_i u hu;simp only[H0]at hr;subst hr;rw[jx]at hu;have BH:=(hW.cL _ _ (g2 _ _ _ _ eR hu)).1;refine .pure (x:=cell i' j') ?_ (g3 _ _ _ _ eR hu);simp[execOp,ho,he,Instr.loadAt,Instr.sureAddr,loadVar,lV,BH]
   . rw[hn]at hr;rw[hf]at lV;simp only at hr;(split at hr<;>first|(cases hr;done)|skip);rename_i us hu;simp only[H0]at hr;subst hr;obtain⟨Wg,hle⟩:=zW hu;have hlen:=qX hu;have bL:(loadCells ⟨aq,base+i'*es+j',none⟩ ti.size).run P w= .ok ((List.range ti.size).map λq=>cell i' (j'+q)).toArray w:=by
        (refine run_loadCells w _ _ _ λq hq=> ?_);rw[jy];have:cs[j'+q]? =some (cs[j'+q]'(by omega)):=H1 (by omega);rw[Zh0];exact(hW.cL _ _ (g2 _ _ _ _ eR this)).1
     refine .pure (x:= .agg ((List.range ti.size).map λq=>cell i' (j'+q)).toArray) ?_ (.zT ⟨by simp[hlen],λq u y hu' hy=> ?_⟩)
     .  simp[execOp,ho,he,Instr.loadAt,Instr.sureAddr,loadVar,lV,fN hi,iV,bL]
     .  have hq:q<ti.size:=(by rw[<-hlen];exact(H3.1 hu').1);rw[Wg,Zb0,Za7 hq,Zc6]at hu';simp[hq]at hy;subst hy;exact g3 _ _ _ _ eR hu'
theorem Yf{x y:Value}{ρ:Pos->Loc}{n:Nat}{C:Cells}{u v r:AV}{w:World}{st:St}(h1:aj ρ n C u x)(h2:aj ρ n C v y)(hr:zH (λb=>st.heap.get b) st.next [u,v]=some (.val r)):
   ∃z,(Builtin.min2 x y).run P w= .ok z w/\aj ρ n C r z:=by
 simp only[zH]at hr;split at hr<;>first|(cases hr;done)|skip
 . simp only[H0,bW.val.injEq]at hr;subst hr;rw[h1.fS,h2.fS];refine⟨_,rfl,?_⟩;rw[dH];split
   .rename_i h;rw[Za7 (Zg2 h)];exact .int _ _
   .rename_i h;rw[Za4 (Zk4 h)];exact .int _ _
 . simp only[H0,bW.val.injEq]at hr;subst hr;rename_i sa sb;obtain⟨bx,rfl,e1⟩:=h1.dm;obtain⟨bz,rfl,e2⟩:=h2.dm;have hh:(Op.stringOp .leq bx bz).run P w= .ok (.bool (av sa sb||gw sa sb)) w:=by
     simp only[Op.stringOp,Sem.run_pure];rw[Kt e1 e2,Dn e1 e2]
   refine⟨_,by simp only[Builtin.min2,Sem.run_bind,hh,Result.andThen_ok,asBool,Sem.run_pure];rfl,?_⟩;split
   .rename_i h;rw[Za7 h];exact .str _ _ e1
   .rename_i h;rw[Za4 (by rw[h];simp)];exact .str _ _ e2
theorem Yg{x y:Value}{ρ:Pos->Loc}{n:Nat}{C:Cells}{u v r:AV}{w:World}{st:St}(h1:aj ρ n C u x)(h2:aj ρ n C v y)(hr:zI (λb=>st.heap.get b) st.next [u,v]=some (.val r)):
   ∃z,(Builtin.max2 x y).run P w= .ok z w/\aj ρ n C r z:=by
 simp only[zI]at hr;split at hr<;>first|(cases hr;done)|skip
 . simp only[H0,bW.val.injEq]at hr;subst hr;rw[h1.fS,h2.fS];refine⟨_,rfl,?_⟩;rw[dH];split
   .rename_i h;rw[Za7 (Zg2 h)];exact .int _ _
   .rename_i h;rw[Za4 (Zk4 h)];exact .int _ _
 . simp only[H0,bW.val.injEq]at hr;subst hr;rename_i sa sb;obtain⟨bx,rfl,e1⟩:=h1.dm;obtain⟨bz,rfl,e2⟩:=h2.dm;have hh:(Op.stringOp .geq bx bz).run P w= .ok (.bool (!av sa sb)) w:=by
     simp only[Op.stringOp,Sem.run_pure];rw[Kt e1 e2]
   refine⟨_,by simp only[Builtin.max2,Sem.run_bind,hh,Result.andThen_ok,asBool,Sem.run_pure];rfl,?_⟩;split
   .rename_i h;rw[Za4 (by rw[h];simp)];exact .str _ _ e2
   .rename_i h;rw[Za7 (by rw[h];rfl)];exact .str _ _ e1
theorem eS(xs:Array Operand)(a:Act):xs.toList.map a.eval=(xs.map a.eval).toList:=by simp
end
section
variable{P:Program}{tt:TT}
theorem ZK{ρ:Pos->Loc}{n:Nat}{C:Cells}{bs:List AV}{x:Value}(h:ak ρ n C bs [x]):∃b,bs=[b]/\aj ρ n C b x:=by
 match bs,h with
 |[b],h=>exact⟨b,rfl,h.2 0 b x rfl rfl⟩
 |[],h=>have:=h.1;simp at this
 |_::_::_,h=>have:=h.1;simp at this
theorem vs2{ρ:Pos->Loc}{n:Nat}{C:Cells}{bs:List AV}{x y:Value}(h:ak ρ n C bs [x,y]):∃b c,bs=[b,c]/\aj ρ n C b x/\aj ρ n C c y:=by
 match bs,h with
 |[b,c],h=>exact⟨b,c,rfl,h.2 0 b x rfl rfl,h.2 1 c y rfl rfl⟩
 |[],h=>have:=h.1;simp at this
 |[_],h=>have:=h.1;simp at this
 |_::_::_::_,h=>have:=h.1;simp at this
theorem vs3{ρ:Pos->Loc}{n:Nat}{C:Cells}{bs:List AV}{x y z:Value}(h:ak ρ n C bs [x,y,z]):∃b c d,bs=[b,c,d]/\aj ρ n C b x/\aj ρ n C c y/\aj ρ n C d z:=by
 match bs,h with
 |[b,c,d],h=>exact⟨b,c,d,rfl,h.2 0 b x rfl rfl,h.2 1 c y rfl rfl,h.2 2 d z rfl rfl⟩
 |[],h=>have:=h.1;simp at this
 |[_],h=>have:=h.1;simp at this
 |[_,_],h=>have:=h.1;simp at this
 |_::_::_::_::_,h=>have:=h.1;simp at this
def z0(x:Option Value)(i:Option Nat):Prop:=(x=none/\i=none)\/∃j k,i=some j/\x=some (.int k (j:Int))
theorem Lu{ρ:Pos->Loc}{n:Nat}{C:Cells}{lo hi mx:Option Operand}{bs:List AV}{a:Act}{l h m:Option Nat}
   (hb:ak ρ n C bs ((u9 lo++u9 hi++u9 mx).map a.eval)) (hr:bounds lo.isSome hi.isSome mx.isSome bs=some (l,h,m)):
   z0 (lo.map a.eval) l/\z0 (hi.map a.eval) h/\z0 (mx.map a.eval) m/\(m.isSome=true->h.isSome=true):=by
 unfold bounds at hr
 cases lo<;>cases hi<;>cases mx<;>simp only[Option.isSome_some,Option.isSome_none,u9,Zg5,Zf4,Ze7,Zb4,Zf0]at hb hr<;>
   first|(cases hr;done)|skip
 . cases bs with
   |cons b bs=>have:=hb.1;simp at this
   |nil=>simp at hr;obtain⟨rfl,rfl,rfl⟩:=hr;exact⟨.inl ⟨rfl,rfl⟩,.inl ⟨rfl,rfl⟩,.inl ⟨rfl,rfl⟩,λh=>by cases h⟩
 .obtain⟨b,rfl,h1⟩:=ZK hb;simp only at hr;(split at hr<;>first|(cases hr;done)|skip);rename_i j hj;obtain⟨k,hk⟩:=g7 h1 hj;simp at hr;obtain⟨rfl,rfl,rfl⟩:=hr;exact⟨.inl ⟨rfl,rfl⟩,.inr ⟨j,k,rfl,by simp[hk]⟩,.inl ⟨rfl,rfl⟩,λh=>by cases h⟩
 .obtain⟨b,c,rfl,h1,h2⟩:=vs2 hb;simp only at hr;(split at hr<;>first|(cases hr;done)|skip);rename_i j j' hj yS;obtain⟨k,hk⟩:=g7 h1 hj;obtain⟨k',je⟩:=g7 h2 yS;simp at hr;obtain⟨rfl,rfl,rfl⟩:=hr;exact⟨.inl ⟨rfl,rfl⟩,.inr ⟨j,k,rfl,by simp[hk]⟩,.inr ⟨j',k',rfl,by simp[je]⟩,λ_=>rfl⟩
 .obtain⟨b,rfl,h1⟩:=ZK hb;simp only at hr;(split at hr<;>first|(cases hr;done)|skip);rename_i j hj;obtain⟨k,hk⟩:=g7 h1 hj;simp at hr;obtain⟨rfl,rfl,rfl⟩:=hr;exact⟨.inr ⟨j,k,rfl,by simp[hk]⟩,.inl ⟨rfl,rfl⟩,.inl ⟨rfl,rfl⟩,λh=>by cases h⟩
 .obtain⟨b,c,rfl,h1,h2⟩:=vs2 hb;simp only at hr;(split at hr<;>first|(cases hr;done)|skip);rename_i j j' hj yS;obtain⟨k,hk⟩:=g7 h1 hj;obtain⟨k',je⟩:=g7 h2 yS;simp at hr;obtain⟨rfl,rfl,rfl⟩:=hr;exact⟨.inr ⟨j,k,rfl,by simp[hk]⟩,.inr ⟨j',k',rfl,by simp[je]⟩,.inl ⟨rfl,rfl⟩,λh=>by cases h⟩
 .obtain⟨b,c,d,rfl,h1,h2,h3⟩:=vs3 hb;simp only at hr;(split at hr<;>first|(cases hr;done)|skip);rename_i j j' j'' hj yS hj'';obtain⟨k,hk⟩:=g7 h1 hj;obtain⟨k',je⟩:=g7 h2 yS;obtain⟨k'',hk''⟩:=g7 h3 hj'';simp at hr;obtain⟨rfl,rfl,rfl⟩:=hr;exact⟨.inr ⟨j,k,rfl,by simp[hk]⟩,.inr ⟨j',k',rfl,by simp[je]⟩,.inr ⟨j'',k'',rfl,by simp[hk'']⟩,λ_=>rfl⟩
theorem wP(isS:Bool){len cap:Nat}{xl xh xm:Option Value}{l h m:Option Nat}(h1:z0 xl l)(h2:z0 xh h)(h3:z0 xm m)(hmh:m.isSome=true->h.isSome=true)
  (Dp:l.getD 0<=h.getD len) (hhm:h.getD len<=m.getD cap) (hmc:m.getD cap<=cap) (w:World):
  (Instr.sliceBounds isS len cap xl xh xm).run P w= .ok (l.getD 0,h.getD len,m.getD cap) w:=by
 rcases h1 with⟨rfl,rfl⟩|⟨jl,kl,rfl,rfl⟩<;>rcases h2 with⟨rfl,rfl⟩|⟨jh,kh,rfl,rfl⟩<;>rcases h3 with⟨rfl,rfl⟩|⟨jm,km,rfl,rfl⟩<;>
  simp only[Option.getD_none,Zj0,Option.isSome_some,Option.isSome_none]at Dp hhm hmc hmh ⊢ <;>
  first
   |(simp at hmh;done)
   |simp[Instr.sliceBounds,Instr.sliceBound,asIntOf,Dp,hhm,hmc,Int.ofNat_le]
theorem BJ{ρ:Pos->Loc}{n:Nat}{C:Cells}{b:Pos}{off es aF l h M:Nat}{aa:Addr}{Yh:Option Nat}
   (ha:aF≠0->b.toNat<n/\aa=⟨(ρ b).aq,(ρ b).base+off,none⟩/\(ρ b).base+off+aF*es<=(ρ b).size)
   (h1:l<=h) (h2:h<=M) (h3:M<=aF) (hc:∀c,Yh=some c->c=M - l) (hk:Yh=none->b.toNat<n):
   aj ρ n C (.slice b (off+l*es) (h - l) Yh es) (.slice (if M=l then some aa else(some aa).map (·.add (l*es))) (h - l) (M - l)):=by
 by_cases hm:M=l
 .rw[Za7 hm];exact .slice _ _ _ _ _ _ _ (by omega) hc (λh0=>absurd (by omega) h0) hk
 .rw[Za4 hm];obtain⟨hb,rfl,hle⟩:=ha (by omega);refine .slice _ _ _ _ _ _ _ (by omega) hc (λ_=>⟨hb,by show Addr.add _ _=_;rw[jy,Zh0],?_⟩) hk;have e1:l*es+(M - l)*es=M*es:=(by rw[<-Zh7];congr 1;omega);have e2:M*es<=aF*es:=Zg7 _ h3;omega
theorem Wh(hT:bE P tt)(t:TypeId)(x:Operand)(lo hi mx:Option Operand):cm P tt (.slice t x lo hi mx):=by
 intro ρ C st w k xs cls fr a o vs res ho hc hW hF hx hr;simp only[eJ]at hc;split at hc<;>first|(cases hc;done)|skip
 rename_i ti l0 ct hl;obtain⟨d,hd,bJ⟩:=(hT.at ct).und;split at hc<;>first|(cases hc;done)|skip
 . rename_i hk;rw[hk]at bJ;rw[jI bJ]at hd;(split at hc<;>first|(cases hc;done)|skip);cases hc;have hv:=cZ hl hF hx;simp only[u9,Zf4,Ze7,Zg5,Zb4]at hv;simp only[au.run,He]at hr;(split at hr<;>first|(cases hr;done)|skip);rename_i u bs;(split at hr<;>first|(cases hr;done)|skip);rename_i s l h m' hb;(split at hr<;>first|(cases hr;done)|skip);rename_i h1 h2;have h1:=H4 h1;have h2:=H4 h2;simp only[H0]at hr;subst hr;obtain⟨y,ys,zS,hu,Gl⟩:=hv.cons_inv;simp only[Zh2]at zS;obtain⟨rfl,rfl⟩:=zS;have iJ:=Lu (lo:=lo) (hi:=hi) (mx:=none) (a:=a) (by simpa [u9]using Gl) hb;obtain⟨ZS,he,hs⟩:=hu.dm;have dV:=tH hs
   have bL:=wP (P:=P) false (len:=ZS.size) (cap:=ZS.size) iJ.1 iJ.2.1 (.inl ⟨rfl,rfl⟩:z0 none none) (λh=>by cases h)
     (by rw[dV];exact h1) (by rw[dV];simpa using h2) (by simp) w
   refine .pure (x:= .string (ZS.extract (l.getD 0) (h.getD ZS.size))) ?_ (.str _ _ ?_)
   .simp only[execOp,ho,Instr.sliceAt,Sem.run_bind,aH hd,Result.andThen_ok,he,Instr.slice];simp[bL]
   .rw[dV,ByteArray.data_extract,Zm4, <-hs,List.extract,List.map_take,List.map_drop];rw[List.drop_take]
 . rename_i e hk;rw[hk]at bJ;rw[jT bJ]at hd;(split at hc<;>first|(cases hc;done)|skip);rename_i te dY;cases hc;obtain⟨i0,jJ,iV,_⟩:=(hT.at dY).info;have hv:=cZ hl hF hx;simp only[Ze7,Zg5,Zh9,Zb4]at hv;simp only[au.run,ni]at hr;(split at hr<;>first|(cases hr;done)|skip);rename_i u bs;obtain⟨y,ys,zS,hu,Gl⟩:=hv.cons_inv;simp only[Zh2]at zS;obtain⟨rfl,rfl⟩:=zS
   have kT:∀(sa:Option Addr)(len cap:Nat)(l h m:Option Nat),a.eval x= .slice sa len cap->bounds lo.isSome hi.isSome mx.isSome bs=some (l,h,m)->
        l.getD 0<=h.getD len->h.getD len<=m.getD cap->m.getD cap<=cap->
        (execOp a.eval o).run P w= .ok (.value (.slice (if m.getD cap=l.getD 0 then sa else sa.map (·.add (l.getD 0*te.size))) (h.getD len - l.getD 0) (m.getD cap - l.getD 0))) w:=by
     intro sa len cap l h m he hb h1 h2 h3;have iJ:=Lu (lo:=lo) (hi:=hi) (mx:=mx) (a:=a) (by simpa [Zh9]using Gl) hb;have bL:=wP (P:=P) true (len:=len) (cap:=cap) iJ.1 iJ.2.1 iJ.2.2.1 iJ.2.2.2 h1 h2 h3 w;simp only[execOp,ho,Instr.sliceAt,Sem.run_bind,aH hd,Result.andThen_ok,he,Instr.slice,bL,fN jJ,iV,Sem.run_pure]
   split at hr<;>first|(cases hr;done)|skip
   ·
     rename_i b off len cap es' l h m hb;(split at hr<;>first|(cases hr;done)|skip);rename_i cU Dp;have cU:te.size=es':=H2 cU;subst cU;have Dp:=H4 Dp;obtain⟨aa,aF,he,hle,MZ,ha⟩:=hu.cG;split at hr
     .  rename_i c m';(split at hr<;>first|(cases hr;done)|skip);rename_i e1 e2;have e1:=H4 e1;have e2:=H4 e2;have:=MZ c rfl;subst this;simp only[H0]at hr;subst hr;exact .pure (kT _ _ _ _ _ _ he hb Dp (by simpa using e1) (by simpa using e2)) (BJ ha Dp e1 e2 (λc hc=>by cases hc;rfl) (λh=>by cases h))
     .  rename_i c;(split at hr<;>first|(cases hr;done)|skip);rename_i e1;have e1:=H4 e1;have:=MZ c rfl;subst this;simp only[H0]at hr;subst hr;exact .pure (kT _ _ _ _ _ _ he hb Dp (by simpa using e1) (by simp)) (BJ ha Dp e1 (H5 _) (λc hc=>by cases hc;rfl) (λh=>by cases h))
     .  rename_i m';(split at hr<;>first|(cases hr;done)|skip);rename_i e1 e2;have e1:=H4 e1;have e2:=H4 e2;simp only[H0]at hr;subst hr;exact .pure (kT _ _ _ _ _ _ he hb Dp (by simpa using e1) (by simp;omega)) (BJ ha Dp e1 (by simp;omega) (λc hc=>by cases hc;rfl) (λh=>by cases h))
     .  (split at hr<;>first|(cases hr;done)|skip);rename_i e1;have e1:=H4 e1;simp only[H0]at hr;subst hr;exact .pure (kT _ _ _ _ _ _ he hb Dp (by simp;omega) (by simp)) (BJ ha Dp (by simp;omega) (H5 _) (λc hc=>by cases hc) (λ_=>hu.Oc rfl))
   ·
     rename_i sr es' l h m hb;(split at hr<;>first|(cases hr;done)|skip);rename_i cU;have cU:te.size=es':=H2 cU;subst cU;obtain⟨aa,aF,cell,he,hle,vg,g1,g2,g3⟩:=hu.qb;split at hr
     .  rename_i m';(split at hr<;>first|(cases hr;done)|skip);rename_i e0 e1 e2;have e0:=H2 e0;have e1:=H2 e1;have e2:=H2 e2;subst e2;simp only[H0]at hr;subst hr;refine .pure (kT _ _ _ _ _ _ he hb (by omega) (by rw[e1];simp) (by simp)) ?_;simp only[e0,e1,Zj0,Zm8,Ze5];exact .slice _ _ _ _ _ _ _ (H5 _) (λc hc=>by cases hc;rfl) (λh0=>absurd rfl h0) (λh=>by cases h)
     .  (split at hr<;>first|(cases hr;done)|skip);rename_i e0 e1;have e0:=H4 e0;have e1:=H4 e1;simp only[H0]at hr;subst hr;refine .pure (kT _ _ _ _ _ _ he hb e0 (by simp;omega) (by simp)) ?_;simp only[Option.getD_none];have hlen:(List.drop (l.getD 0) (List.take (h.getD sr.length) sr)).length=h.getD sr.length - l.getD 0:=(by simp;omega);rw[<-hlen];have oU:∀i cs,(List.drop (l.getD 0) (List.take (h.getD sr.length) sr))[i]? =some cs->sr[l.getD 0+i]? =some cs:=by
          intro i cs hi;rw[Zc6,Zb0]at hi;split at hi
          .exact hi
          .cases hi
        by_cases ZT:aF=l.getD 0
        .rw[Za7 ZT];have hemp:List.drop (l.getD 0) (List.take (h.getD sr.length) sr)=[]:=(by apply Za6;rw[hlen];omega);rw[hemp];exact .fl _ _ _ _ (λ_ _=>undef) (by simp) (λh=>absurd rfl h) (λi cs hi=>by simp at hi) (λi j cs v hi=>by simp at hi) (λi j cs v hi=>by simp at hi)
        . rw[Za4 ZT];by_cases cW:sr=[]
          .subst cW;simp only[List.take_nil,List.drop_nil];exact .fl _ _ _ _ (λ_ _=>undef) (by simp) (λh=>absurd rfl h) (λi cs hi=>by simp at hi) (λi j cs v hi=>by simp at hi) (λi j cs v hi=>by simp at hi)
          .have vg:=vg cW;obtain⟨ab,ao,asp⟩:=aa;simp only at vg;subst vg;simp only[Zd6,jy];refine .fl _ _ _ _ (λi j=>cell (l.getD 0+i) j) (by rw[hlen];omega) (λ_=>rfl) (λi cs hi=>g1 _ _ (oU i cs hi)) (λi j cs v hi hj=> ?_) (λi j cs v hi hj=>g3 _ _ _ _ (oU i cs hi) hj);have:=g2 _ _ _ _ (oU i cs hi) hj;simp only at this ⊢;rw[<-this];congr 2;rw[Zh7];omega
   ·
     rename_i l h m hb;(split at hr<;>first|(cases hr;done)|skip);rename_i e0 e1 e2;have e0:=H2 e0;have e1:=H2 e1;have e2:=H2 e2;simp only[H0]at hr;subst hr;have he:=hu.eu;refine .pure (kT _ _ _ _ _ _ he hb (by omega) (by omega) (by omega)) ?_;simp only[e0,e1,e2,Zm8,Ze5];exact .ax
end
section
variable{P:Program}{tt:TT}
theorem Cs{ρ:Pos->Loc}{n:Nat}{C:Cells}:∀{l:List AV}{s:List Nat}{ys:List Value},bytesOf l=some s->ak ρ n C l ys->
  ys=(s.map Int.ofNat).map (Value.int .u8)/\∀c,c∈s->c<256
 |[],s,ys,h,hv=>by
  simp[bytesOf]at h;subst h;exact⟨by simpa using hv.kK,λc hc=>by simp at hc⟩
 |v ::l,s,ys,h,hv=>by
  unfold bytesOf at h;split at h<;>first|(cases h;done)|skip
  .rename_i h0;simp at h0
  . rename_i c l' he;simp only[Zh2]at he;obtain⟨rfl,rfl⟩:=he;(split at h<;>first|(cases h;done)|skip);rename_i s' aW jV;simp only[H0]at h;subst h;obtain⟨y,ys',rfl,h1,h2⟩:=hv.cons_inv;obtain⟨e,fq⟩:=Cs jV h2;have aW:c<256:=(by simpa using aW);refine⟨by rw[h1.fS,e];rfl,λc' hc=> ?_⟩;simp at hc;rcases hc with rfl|hc
    .exact aW
    .exact fq _ hc
theorem BK:∀(s:List Nat)(acc:ByteArray),((s.map Int.ofNat).foldl (λr n=>r.push (UInt8.ofNat n.toNat)) acc).data.toList=acc.data.toList++s.map UInt8.ofNat
 |[],acc=>by simp
 |c::s,acc=>by
  simp only[Zb4,Zo0];rw[BK s];simp[ByteArray.push]
theorem S0{P:Program}{e:TypeId}(hc:P.cellsOf e≠0)(count:Nat)(hn:1<=count):liesAt P P.depth e count 0 e 1=true:=by
 have hd:P.depth=(2*(P.types.size+Made.depth)+1)+1:=rfl;rw[hd];simp only[liesAt,Zg0];left;rw[hd];simp[rowAt,hc,hn,sameLayout]
theorem S6(hT:bE P tt)(src dst:TypeId)(x:Operand)(hnb:∀k xs cls,eJ tt (.convert src dst x)=some (k,xs,cls)->k≠ .conv .bytes):cm P tt (.convert src dst x):=by
 intro ρ C st w k xs cls fr a o vs res ho hc hW hF hx hr;have hnb:=hnb _ _ _ hc;simp only[eJ]at hc;split at hc<;>first|(cases hc;done)|skip
 rename_i s d b hs hd hb;obtain⟨ds,rq,yV⟩:=(hT.at hs).und;obtain⟨dd,hdd,bJ⟩:=(hT.at hd).und;split at hc<;>first|(cases hc;done)|skip
 . rename_i k1 k2 h1 h2;cases hc;obtain⟨v,rfl,hv⟩:=dN hb hF hx;rw[h1]at yV;rw[h2]at bJ;rw[Dk yV]at rq;rw[Dk bJ]at hdd;simp only[au.run,wZ]at hr;split at hr<;>first|(cases hr;done)|(rename_i heq;cases heq;done)|(rename_i heq;cases heq)
   simp only[H0]at hr;subst hr;refine .pure ?_ (by rw[qc];exact .int _ _);simp[execOp,ho,hv.fS,convert,aH rq,aH hdd,Conv.intToInt]
 . rename_i h1 h2;cases hc;obtain⟨v,rfl,hv⟩:=dN hb hF hx;rw[h1]at yV;rw[h2]at bJ;rw[jI yV]at rq;rw[jI bJ]at hdd;simp only[au.run,wZ]at hr;split at hr<;>first|(cases hr;done)|(rename_i heq;cases heq;done)|(rename_i heq;cases heq)
   simp only[H0]at hr;subst hr;obtain⟨bs,he,hs⟩:=hv.dm;exact .pure (x:= .string bs) (by simp[execOp,ho,he,convert,aH rq,aH hdd]) (.str _ _ hs)
 . (split at hc<;>first|(cases hc;done)|skip);(split at hc<;>first|(cases hc;done)|skip);cases hc;exact absurd rfl hnb
 . rename_i e h1 h2;(split at hc<;>first|(cases hc;done)|skip);rename_i te dY;(split at hc<;>first|(cases hc;done)|skip);rename_i Wi;cases hc;obtain⟨v,rfl,hv⟩:=dN hb hF hx;rw[h1]at yV;rw[h2]at bJ;rw[jT yV]at rq;rw[jI bJ]at hdd;obtain⟨de,Wj,Wk⟩:=(hT.at dY).und;rw[Wi]at Wk;rw[Dk Wk]at Wj;have kT:∀y:Option Addr×Nat×Nat,a.eval x= .slice y.1 y.2.1 y.2.2->(execOp a.eval o).run P w=((Conv.bytesToString (a.eval x)).run P w).andThen λv w=>.ok (.value v) w:=by
     intro y he;simp[execOp,ho,he,convert,aH rq,aH hdd,aH Wj]
   simp only[au.run,wZ]at hr;split at hr<;>first|(cases hr;done)|(rename_i heq;cases heq;done)|(rename_i heq;cases heq)
   .simp only[H0]at hr;subst hr;have he:=hv.eu;refine .pure (x:= .string .empty) ?_ (.str _ _ rfl);rw[kT (none,0,0) he,he];simp[Conv.bytesToString]
   . rename_i bb off m cap es;obtain⟨aa,aF,he,hle,_,ha⟩:=hv.cG;split at hr
     .  rename_i h0;have:=H2 h0;subst this;simp only[H0]at hr;subst hr;refine .pure (x:= .string .empty) ?_ (.str _ _ rfl);rw[kT (some aa,0,aF) he,he];simp[Conv.bytesToString,loadCells,loadCellsFrom]
     .  (rename_i h0;have h0:=Za9 h0;(split at hr<;>first|(cases hr;done)|skip);rename_i cs fz iJ;(split at hr<;>first|(cases hr;done)|skip);rename_i l hcut;(split at hr<;>first|(cases hr;done)|skip);rename_i s' QA;simp only[H0]at hr;subst hr;obtain⟨aW,rfl,_⟩:=ha (by omega);obtain⟨ys,zS,fV⟩:=hW.loadCells (P:=P) iJ hcut;obtain⟨e1,e2⟩:=Cs QA fV;rw[e1]at zS;have bL:=run_bytesToString (P:=P) w ⟨(ρ bb).aq,(ρ bb).base+off,none⟩ m aF (s'.map Int.ofNat) zS;refine .pure (x:= .string _) (by rw[kT (some _,m,aF) he,he,bL];rfl) (.str _ _ ?_);rw[BK,Zh1];have e0:ByteArray.empty.data.toList=[]:=rfl;rw[e0,Zf0,Zg5,Zf5];have e3:s'.map (UInt8.toNat∘UInt8.ofNat)=s'.map id:=Zi0 λc hc=>by have:=e2 c hc;simp only[Function.comp,id,UInt8.toNat_ofNat'];omega);rw[e3,List.map_id]
 ·
   rename_i e h1 h2;(split at hc<;>first|(cases hc;done)|skip);rename_i te dY;(split at hc<;>first|(cases hc;done)|skip);rename_i dV;cases hc;obtain⟨v,rfl,hv⟩:=dN hb hF hx;rw[h1]at yV;rw[h2]at bJ;rw[Lp yV]at rq;rw[Wa bJ]at hdd;obtain⟨i0,jJ,iV,_⟩:=(hT.at dY).info;have dV:=Za9 dV;simp only[au.run,Ll]at hr;split at hr<;>first|(cases hr;done)|skip
   .simp only[H0]at hr;subst hr;refine .pure (x:= .pointer none) ?_ .fU;simp[execOp,ho,hv.nE,convert,aH rq,aH hdd,Conv.unsafePointer]
   .rename_i bb off;(split at hr<;>first|(cases hr;done)|skip);rename_i t0 cs iJ;(split at hr<;>first|(cases hr;done)|skip);rename_i aW;have aW:off<cs.length:=(by simpa using aW);simp only[H0]at hr;subst hr;obtain⟨_,he⟩:=hv.dU;obtain⟨_,_,c,fr,g1,g2,g3,g4,g5,g6⟩:=hW.live _ _ iJ;have Ld:w.shape? (ρ bb).aq=some (t0,c.size):=(by simp[World.shape?,g1]);have:=Lib.run_to_unsafe (P:=P) (w:=w) (j:=i0) ⟨(ρ bb).aq,(ρ bb).base+off,none⟩ rq hdd jJ (by rw[iV];exact dV) Ld (by show(ρ bb).base+off<c.size;omega);exact .pure (x:= .pointer (some ⟨(ρ bb).aq,(ρ bb).base+off,none⟩)) (by simp[execOp,ho,he,this]) (he ▸hv)
 ·
   rename_i e h1 h2;(split at hc<;>first|(cases hc;done)|skip);rename_i te dY;(split at hc<;>first|(cases hc;done)|skip);rename_i dV;cases hc;obtain⟨v,rfl,hv⟩:=dN hb hF hx;rw[h1]at yV;rw[h2]at bJ;rw[Wa yV]at rq;rw[Lp bJ]at hdd;obtain⟨i0,jJ,iV,_⟩:=(hT.at dY).info;have dV:=Za9 dV;simp only[au.run,EE]at hr;split at hr<;>first|(cases hr;done)|skip
   .simp only[H0]at hr;subst hr;refine .pure (x:= .pointer none) ?_ .fU;simp[execOp,ho,hv.nE,convert,aH rq,aH hdd,Conv.unsafePointer]
   .rename_i bb;(split at hr<;>first|(cases hr;done)|skip);rename_i t0 cs iJ;(split at hr<;>first|(cases hr;done)|skip);rename_i ht hle;have ht:=H2 ht;have hle:=H4 hle;subst ht;simp only[H0]at hr;subst hr;obtain⟨_,he⟩:=hv.dU;obtain⟨_,_,c,fr,g1,g2,g3,g4,g5,g6⟩:=hW.live _ _ iJ;have Ld:w.shape? (ρ bb).aq=some (t0,c.size):=(by simp[World.shape?,g1]);have BH:P.cellsOf t0=te.size:=(by simp[Program.cellsOf,jJ,iV]);have hone:1<=c.size / P.cellsOf t0:=(by rw[BH,Nat.le_div_iff_mul_le (by omega)];omega);rw[Zh6]at he;have:=Lib.run_from_unsafe (P:=P) (w:=w) (j:=i0) ⟨(ρ bb).aq,(ρ bb).base,none⟩ rq hdd jJ Ld (by show liesAt P P.depth t0 _ (ρ bb).base t0 1=true;rw[g6];exact S0 (by rw[BH];exact dV) _ hone);exact .pure (x:= .pointer (some ⟨(ρ bb).aq,(ρ bb).base,none⟩)) (by simp[execOp,ho,he,this]) (he ▸hv)
theorem Dq{t:TypeId}{d:TypeDesc}(hd:P.underlying t=some d){pk:PK}(hk:pk.fits d=true)(e:Bool)(m:Nat)(x:Value)(w:World):
  (Instr.checkKey e (m+1) t x).run P w= .ok () w:=by
 unfold Instr.checkKey;rw[Sem.run_bind,aH hd,Result.andThen_ok];cases pk<;>cases d<;>simp[PK.fits]at hk<;>rfl
theorem JF{ρ:Pos->Loc}{n:Nat}{C:Cells}{pk:PK}{d:TypeDesc}(hk:pk.fits d=true){u v:AV}{x y:Value}{r:Bool}
   (h1:aj ρ n C u x) (h2:aj ρ n C v y) (h:tF pk u v=some r):Instr.sameNow d x y=some r:=by
 unfold tF at h;split at h<;>first|(cases h;done)|skip
 .simp only[H0]at h;subst h;cases d<;>simp[PK.fits]at hk;rw[h1.fo,h2.fo];rfl
 . (split at h<;>first|(cases h;done)|skip);rename_i yU;have:=ue yU;subst this;simp only[H0]at h;subst h;cases d<;>simp[PK.fits]at hk;rw[h1.fS,h2.fS];simp[Instr.sameNow,jU]
 .simp only[H0]at h;subst h;cases d<;>simp[PK.fits]at hk;obtain⟨bx,rfl,e1⟩:=h1.dm;obtain⟨bz,rfl,e2⟩:=h2.dm;simp only[Instr.sameNow];rw[beq_toListBytes,Dn e1 e2]
def BL(ρ:Pos->Loc)(n:Nat)(C:Cells)(es:List (AV×AV×Nat))(es':List MapEntry):Prop:=
 es.length=es'.length/\∀(i:Nat)(e:AV×AV×Nat)(e':MapEntry),es[i]? =some e->es'[i]? =some e'->aj ρ n C e.1 e'.key/\aj ρ n C e.2.1 e'.val/\e.2.2=e'.born
theorem xN{ρ:Pos->Loc}{n:Nat}{C:Cells}{pk:PK}{d:TypeDesc}(hk:pk.fits d=true){u:AV}{x:Value}(hu:aj ρ n C u x):
  ∀{es:List (AV×AV×Nat)}{es':List MapEntry}{i:Nat}{r:Option (Nat×AV)},BL ρ n C es es'->gX pk u es i=some r->
  ∃r',Instr.findNow d x es' i=some r'/\((r=none/\r'=none)\/∃j v y,r=some (j,v)/\r'=some (j,y)/\aj ρ n C v y/\i<=j/\j<i+es.length)
 |[],es',i,r,he,h=>by
  simp[gX]at h;subst h;cases es' with
  |nil=>exact⟨none,rfl,.inl ⟨rfl,rfl⟩⟩
  |cons e es'=>have:=he.1;simp at this
 |(k',v,born)::es,es',i,r,he,h=>by
  cases es' with
  |nil=>have:=he.1;simp at this
  |cons e' es'=>
   have h0:=he.2 0 (k',v,born) e' rfl rfl;have iT:BL ρ n C es es':=⟨by have:=he.1;simpa using this,λj e e' h1 h2=>he.2 (j+1) e e' (by simpa using h1) (by simpa using h2)⟩
   unfold gX at h;split at h<;>first|(cases h;done)|skip
   .    rename_i hq;simp only[H0]at h;subst h;refine⟨some (i,e'.val),by simp[Instr.findNow,JF hk hu h0.1 hq],.inr ⟨i,v,e'.val,rfl,rfl,h0.2.1,H5 _,by simp⟩⟩
   .    rename_i hq;obtain⟨r',h1,h2⟩:=xN hk hu iT h;refine⟨r',by simp[Instr.findNow,JF hk hu h0.1 hq,h1],?_⟩;rcases h2 with h2|⟨j,v',y,e1,e2,e3,e4,e5⟩
        .exact .inl h2
        .exact .inr ⟨j,v',y,e1,e2,e3,by omega,by simp;omega⟩
theorem run_findKey{t:TypeId}{d:TypeDesc}(hd:P.underlying t=some d){x:Value}{es:List MapEntry}{r:Option (Nat×Value)}(h:Instr.findNow d x es 0=some r)(w:World):
  (Instr.findKey t x es).run P w= .ok r w:=by
 simp[Instr.findKey,aH hd,h]
theorem run_getObj_map{r:Nat}{es:Array MapEntry}{c:Nat}{w:World}(h:w.heap[r]? =some (.map es c)):(getObj r).run P w= .ok (.map es c) w:=by
 simp[getObj,Sem.run,h]
theorem ZU(k:TK){d:TypeDesc}(h:bn k d=true){pk:PK}(hp:(k= .bool/\pk= .b)\/((∃i,k= .int i)/\pk= .i)\/(k= .string/\pk= .s)):pk.fits d=true:=by
 rcases hp with⟨rfl,rfl⟩|⟨⟨i,rfl⟩,rfl⟩|⟨rfl,rfl⟩
 .rw[MX h];rfl
 .rw[Dk h];rfl
 .rw[jI h];rfl
theorem qd(hT:bE P tt){t:Nat}{ti:TI}(ht:tt.get (key t)=some ti){z:List AV}(hz:ti.zero=some z){ρ:Pos->Loc}{n:Nat}{C:Cells}(w:World):
   ∃v,(zeroValue t).run P w= .ok v w/\aj ρ n C (eJ.Dh ti z) v/\ak ρ n C z v.cells.toList:=by
 obtain⟨i,hi,iV,_,wQ⟩:=(hT.at ht).info;obtain⟨v,hv,hs,hlen,h1,h2⟩:=wQ z hz;refine⟨v,X8 hi hv w,?_,oB hs⟩;unfold eJ.Dh;split
 .rename_i ha;obtain⟨cs,rfl⟩:=h1 ha;exact .zT (oB hs)
 .rename_i ha;have hc:=h2 ha;rw[hc]at hs;simp only[kQ]at hs;(split at hs<;>first|(cases hs;done)|skip);rename_i a as e1 e2;simp only[H0]at hs e2;subst hs;subst e2;simp only;exact zV e1
theorem UW(hT:bE P tt)(t:TypeId)(x ix:Operand)(ok:Bool):cm P tt (.lookup t x ix ok):=by
 intro ρ C st w k xs cls fr a o vs res ho hc hW hF hx hr;simp only[eJ]at hc;split at hc<;>first|(cases hc;done)|skip
 rename_i ti l ct hl;split at hc<;>first|(cases hc;done)|skip
 rename_i kt et hk;split at hc<;>first|(cases hc;done)|skip
 rename_i tk te Dr dY;obtain⟨d,hd,bJ⟩:=(hT.at ct).und;rw[hk]at bJ;rw[Hi bJ]at hd;obtain⟨dk,Od,yU⟩:=(hT.at Dr).und;have key:∃pk z,te.zero=some z/\k= .lookup pk (eJ.Dh te z) ok/\xs=l/\cls= .read/\pk.fits dk=true:=by
  split at hc<;>first|(cases hc;done)|skip
  all_goals
    rename_i z h1 h2;cases hc;refine⟨_,z,h2,rfl,rfl,rfl,ZU tk.k yU ?_⟩
  .exact .inr (.inl ⟨⟨_,h1⟩,rfl⟩)
  .exact .inr (.inr ⟨h1,rfl⟩)
  .exact .inl ⟨h1,rfl⟩
 obtain⟨pk,z,hz,rfl,rfl,rfl,Cr⟩:=key;obtain⟨m,kk,rfl,h1,h2⟩:=MY hl hF hx;obtain⟨zv,wR,Lv,_⟩:=qd hT dY hz (ρ:=ρ) (n:=st.next.toNat) (C:=C) w;have Gm:∀e,(Instr.checkKey e 10000 kt (a.eval ix)).run P w= .ok () w:=λe=>Dq Od Cr e 9999 _ w
 simp only[au.run,tY]at hr;split at hr<;>first|(cases hr;done)|skip
 ·
  rename_i j v hm;simp only[H0]at hr;subst hr;split at hm<;>first|(cases hm;done)|skip
  .split at hm<;>first|(cases hm;done)|(simp at hm;done)
  . rename_i b;(split at hm<;>first|(cases hm;done)|skip);rename_i es c hb;obtain⟨_,he⟩:=h1.uf;obtain⟨_,_,es',cU,hlen,fq⟩:=hW.live _ _ hb;have hE:BL ρ st.next.toNat C es es'.toList:=⟨by simpa using hlen,λi e e' h1 h2=>fq i e e' h1 (by simpa using h2)⟩
    obtain⟨r',hf,oC⟩:=xN Cr h2 hE hm;rcases oC with⟨e1,_⟩|⟨j',v',y,e1,e2,e3,_⟩
    .   cases e1
    .   cases e1;subst e2;have bL:(execOp a.eval o).run P w= .ok (.value (if ok then .tuple #[y,.bool true]else y)) w:=by
          simp only[execOp,ho,Instr.lookup,Sem.run_bind,aH hd,Result.andThen_ok,he,run_getObj_map cU,Gm,run_findKey Od hf,Sem.run_pure]
        refine .pure bL ?_;cases ok
        .exact e3
        .exact .qa (ak.cons e3 (ak.cons (.bool true) ak.nil))
 ·
  rename_i hm;simp only[H0]at hr;subst hr;have bL:(execOp a.eval o).run P w= .ok (.value (if ok then .tuple #[zv,.bool false]else zv)) w:=by
    split at hm<;>first|(cases hm;done)|skip
    .   (split at hm<;>first|(cases hm;done)|skip);have he:=h1.w9;have hf:(Instr.findKey kt (a.eval ix) []).run P w= .ok none w:=run_findKey Od rfl w;simp only[execOp,ho,Instr.lookup,Sem.run_bind,aH hd,Result.andThen_ok,he,Gm,hf,wR,Sem.run_pure]
    .   rename_i b;(split at hm<;>first|(cases hm;done)|skip);rename_i es c hb;obtain⟨_,he⟩:=h1.uf;obtain⟨_,_,es',cU,hlen,fq⟩:=hW.live _ _ hb;have hE:BL ρ st.next.toNat C es es'.toList:=⟨by simpa using hlen,λi e e' h1 h2=>fq i e e' h1 (by simpa using h2)⟩
        obtain⟨r',hf,oC⟩:=xN Cr h2 hE hm;rcases oC with⟨_,e2⟩|⟨j',v',y,e1,_⟩
        .subst e2;simp only[execOp,ho,Instr.lookup,Sem.run_bind,aH hd,Result.andThen_ok,he,run_getObj_map cU,Gm,run_findKey Od hf,wR,Sem.run_pure]
        .cases e1
  refine .pure bL ?_;cases ok
  .exact Lv
  .exact .qa (ak.cons Lv (ak.cons (.bool false) ak.nil))
end
section
variable{P:Program}{tt:TT}
theorem z7:∀(l:List Value)(off k:Nat)(cs:Array Value),off+k+l.length<=cs.size->
  ((l.zipIdx k).foldl (λcs (c,j)=>cs.setIfInBounds (off+j) c) cs).toList=aI cs.toList (off+k) l
 |[],off,k,cs,_=>by simp[aI,Zj7]
 |v::l,off,k,cs,h=>by
  simp only[Ze6]at h;simp only[List.zipIdx_cons,Zo0];rw[z7 l off (k+1) _ (by simp;omega)];simp only[aI,Ze6,Zm9];rw[List.drop_set_of_lt (by omega)];have:off+(k+1)=(off+k)+1:=by omega
  rw[this,List.take_set,Zn3];have aW:off+k<cs.toList.length:=by simp;omega
  rw[H1 aW];simp only[Option.toList_some,List.set_append,Zj1];have hm:min (off+k) cs.toList.length=off+k:=Zj3 (Nat.le_of_lt aW);rw[hm,Za4 (Zm1 _),Zm8];simp;rw[show off+k+1+l.length=off+k+(l.length+1)from by omega]
theorem Ku{ρ:Pos->Loc}{n:Nat}{C:Cells}(pl:Nat->Option (Nat×Nat)):∀{pp:List (Nat×Nat)}{vs cells r:List AV}{ps:List (Nat×Value)}{cs:Array Value},
  bP cells pp vs=some r->ak ρ n C cells cs.toList->ak ρ n C vs (ps.map (·.2))->ps.map (λx=>pl x.1)=pp.map some->
  ∃jK,Instr.fill pl cs ps=some jK/\ak ρ n C r jK.toList
 |[],vs,cells,r,ps,cs,h,hc,hv,hp=>by
  unfold bP at h;split at h<;>first|(cases h;done)|skip
  .simp only[H0]at h;subst h;have:ps=[]:=(by simpa using hv.kK);subst this;exact⟨cs,rfl,hc⟩
  .rename_i hh;cases hh
 |(off  ,size)::pp,vs,cells,r,ps,cs,h,hc,hv,hp=>by
  unfold bP at h;split at h<;>first|(cases h;done)|skip
  .rename_i hh;cases hh
  . rename_i off' size' pp' v vs' hh;simp only[Zh2,Za8]at hh;obtain⟨⟨rfl,rfl⟩,rfl⟩:=hh;(split at h<;>first|(cases h;done)|skip);rename_i h1 h2;have h1:=H2 h1;have h2:=H4 h2;cases ps with
    |nil=>have:=hv.1;simp at this
    |   cons p ps=>
        obtain⟨i,x⟩:=p;simp only[Zb4,Zh2]at hp hv;obtain⟨c9,xO⟩:=hp;obtain⟨y,ys,zS,hx,fV⟩:=hv.cons_inv;simp only[Zh2]at zS;obtain⟨rfl,rfl⟩:=zS;have hxc:=hx.cells;have hlen:x.cells.size=size:=(by rw[<-h1,hxc.1];simp);have dV:off+size<=cs.size:=(by have:=hc.1;simp at this;omega);have abY:(x.cells.zipIdx.foldl (λcs (c,j)=>cs.setIfInBounds (off+j) c) cs).toList=aI cs.toList off x.cells.toList:=(by rw[<-Array.foldl_toList,Array.toList_zipIdx];have:=z7 x.cells.toList off 0 cs (by simp;omega);simpa using this);obtain⟨jK,e1,e2⟩:=Ku pl h (cs:=x.cells.zipIdx.foldl (λcs (c,j)=>cs.setIfInBounds (off+j) c) cs) (by rw[abY];exact hc.aI hxc off) fV xO;refine⟨jK,?_,e2⟩;simp only[Instr.fill,c9];rw[Za4 (by simp[hlen];omega)];exact e1
theorem Gn(hT:bE P tt){gs:Array Field}(w:World):∀{fs:List (Nat×Nat×Bool)}(_hm:bn.cN fs gs.toList=true){is:List Nat}{pp:List (Nat×Nat)}
  (_h:eJ.places tt fs is=some pp) {Ho:List (Nat×Nat)} (_hpl:∀(i:Nat)(f:Field)(inf:TypeInfo),gs.toList[i]? =some f->P.info? f.type=some inf->Ho[i]? =some (f.offset,inf.size)),
  is.map (λi=>Ho[i]?)=pp.map some
 |fs,hm,[],pp,h,Ho,mo=>by simp[eJ.places]at h;subst h;rfl
 |fs,hm,i::is,pp,h,Ho,mo=>by
  unfold eJ.places at h;split at h<;>first|(cases h;done)|skip
  rename_i off t nm l h1 h2;split at h<;>first|(cases h;done)|skip
  rename_i ti Oe;simp only[H0]at h;subst h;obtain⟨f,hf,e1,e2,_⟩:=EL hm h1;obtain⟨inf,QB,dV,_⟩:=(hT.at Oe).info;simp only at e1 e2;have:=mo i f inf hf (by rw[e2];exact QB);simp only[Zb4,this,e1,dV];rw[Gn hT w hm h2 mo]
theorem Lw(hT:bE P tt):∀{fs:List (Nat×Nat×Bool)}{gs:List Field}(_hm:bn.cN fs gs=true)(_ha:eJ.P0 tt fs=true),
  ∃Ho:List (Nat×Nat),gs.mapM (λf=>(P.info? f.type).map λi=>(f.offset,i.size))=some Ho/\
   ∀(i:Nat)(f:Field)(inf:TypeInfo),gs[i]? =some f->P.info? f.type=some inf->Ho[i]? =some (f.offset,inf.size)
 |[],gs,hm,ha=>by
  cases gs with
  |cons g gs=>simp[bn.cN]at hm
  |nil=>exact⟨[],rfl,λi f inf h=>by simp at h⟩
 |(off,t,nm)::fs,gs,hm,ha=>by
  cases gs with
  |nil=>simp[bn.cN]at hm
  |cons g gs=>
   simp[bn.cN]at hm;unfold eJ.P0 at ha;(split at ha<;>first|(cases ha;done)|skip);rename_i ti Oe;obtain⟨inf,QB,_⟩:=(hT.at Oe).info;obtain⟨Ho,h1,h2⟩:=Lw hT hm.2 ha;rw[hm.1.1.2]at QB;refine⟨(g.offset,inf.size)::Ho,by simp[QB,h1],λi f inf' hi hf=> ?_⟩;cases i with
   |zero=>simp at hi;subst hi;rw[QB]at hf;cases hf;rfl
   |succ i=>simp at hi ⊢; exact h2 i f inf' hi hf
theorem Wl(hT:bE P tt)(t:TypeId)(ps:Array (Nat×Operand)):cm P tt (.build t ps):=by
 intro ρ C st w k xs cls fr a o vs res ho hc hW hF hx hr;simp only[eJ]at hc;split at hc<;>first|(cases hc;done)|skip
 rename_i ti l ct hl;obtain⟨d,hd,bJ⟩:=(hT.at ct).und;obtain⟨it,Gp,_,_,wQ⟩:=(hT.at ct).info
 have kT:∀(pp:List (Nat×Nat))(z:List AV)(pl:Nat->Option (Nat×Nat)),ti.zero=some z->k= .build z pp->xs=l->ps.toList.map (λx=>pl x.1)=pp.map some->
    (∀(v:Value)(parts:List (Nat×Value))(cells:Array Value),it.zero=some v->Instr.fill pl v.cells parts=some cells->P.built t parts=some cells)->
    qW P ρ C st w ((execOp a.eval o).run P w) res:=by
   rintro pp z pl hz rfl rfl hpp abi;have hv:=cZ hl hF hx;obtain⟨v,Ds,hs,_⟩:=wQ z hz;simp only[au.run,EA]at hr;(split at hr<;>first|(cases hr;done)|skip);rename_i cs vh;simp only[H0]at hr;subst hr;have Lv:ak ρ st.next.toNat C z v.cells.toList:=oB hs;have TF:(ps.map λ(i,x)=>(i,a.eval x)).toList=ps.toList.map λx=>(x.1,a.eval x.2):=(by simp);obtain⟨jK,e1,e2⟩:=Ku pl vh Lv (ps:=ps.toList.map λx=>(x.1,a.eval x.2)) (by simpa [Zf5,Zi4]using hv) (by simpa [Zf5,Zi4]using hpp);refine .pure (x:= .agg jK) ?_ (.zT e2);have bL:=run_build w t (ps.map λ(i,x)=>(i,a.eval x)) jK (abi v _ _ Ds (by rw[TF];exact e1));simp only[execOp,ho,Sem.run_bind];rw[bL];rfl
 split at hc<;>first|(cases hc;done)|skip
 .rename_i fs z hk hz;rw[hk]at bJ;obtain⟨gs,rfl,hm⟩:=BG bJ;(split at hc<;>first|(cases hc;done)|skip);rename_i pp mo fq;cases hc;obtain⟨Ho,h1,h2⟩:=Lw hT hm fq;have hpp:=Gn hT w hm mo h2;(refine kT pp z (λi=>Ho.toArray[i]?) hz rfl rfl (by simpa [Zf5,Zi4]using hpp) λv parts cells hv hf=> ?_);unfold Program.built;rw[Gp,hd];simp only[hv,h1];exact hf
 .rename_i e z hk hz;rw[hk]at bJ;rw[Qv bJ]at hd;(split at hc<;>first|(cases hc;done)|skip);rename_i te dY;cases hc;obtain⟨ie,hie,dV,_⟩:=(hT.at dY).info;(refine kT _ z (λi=>some (i*te.size,te.size)) hz rfl rfl (by simp[Zf5,Zi4]) λv parts cells hv hf=> ?_);unfold Program.built;rw[Gp,hd];simp only[hv,hie,dV];exact hf
end
end
end Go.Ai
