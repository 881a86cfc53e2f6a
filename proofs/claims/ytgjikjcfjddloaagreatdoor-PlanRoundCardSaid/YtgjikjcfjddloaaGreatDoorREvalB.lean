/- Its operations answer as the model does. -/
import Derived.Test.YtgjikjcfjddloaaGreatDoorREvalA
import Derived.Laws.StructEq
import Derived.Lib.Builder
import Derived.Laws.BytesString
set_option linter.all false
namespace Go.Ai
section
def bL:TK->TypeDesc->Bool
 |.bool,.bool=>true
 |.int k,.int k'=>Dx k k'
 |.string,.string=>true
 |.ptr e,.pointer e'=>Nat.beq e e'
 |.slice e,.slice e'=>Nat.beq e e'
 |.array n e,.array n' e'=>Nat.beq n n'&&Nat.beq e e'
 |.map k e,.map k' e'=>Nat.beq k k'&&Nat.beq e e'
 |.struct fs,.struct fs'=>eo fs fs'.toList
 |.func,.func _ _ _=>true
 |.iface,.interface _=>true
 |.upt,.unsafePointer=>true
 |.other,.interface _=>false
 |.other,.int _=>false
 |.other,.array _ _=>false
 |.other,.struct _=>false
 |.other,_=>true
 |_,_=>false
where
 eo:List (Nat×Nat×Bool)->List Field->Bool
  |[],[]=>true
  |(off,t,named)::l,f::l'=>Nat.beq off f.offset&&Nat.beq t f.type&&(named==(f.name != "_"))&&eo l l'
  |_,_=>false
structure aaT(P:Program)(t:TypeId)(ti:TI):Prop where
 und:∃d,P.underlying t=some d/\bL ti.k d=true
 info:∃i,P.info? t=some i/\i.size=ti.size/\i.bytes=ti.bytes/\
  ∀z,ti.zero=some z->∃v,i.zero=some v/\od v.cells.toList=some z/\z.length=ti.size/\(ti.k.isAgg=true->∃cs,v= .agg cs)/\(ti.k.isAgg=false->v.cells= #[v])
 elem:∀e,ti.k= .ptr e->∃j,P.info? e=some j
 eqs:ti.wO=true->P.stoodInHeld t=false/\P.eqGuardType P.depth t=false
def bZ(P:Program)(tt:TT):Prop:=∀p ti,tt.get p=some ti->aaT P (p.toNat - 1) ti
theorem bZ.at{P:Program}{tt:TT}(h:bZ P tt){t:Nat}{ti:TI}(ht:tt.get (key t)=some ti):aaT P t ti:=by
 have:=h _ _ ht
 rwa [fL,Zf4]at this
section
variable{P:Program}{tt:TT}{ρ:Pos->Loc}{n:Nat}{C:Cells}
theorem aN{t:TypeId}{d:TypeDesc}(h:P.underlying t=some d)(w:World):(underlying t).run P w= .ok d w:=run_underlying h w
theorem Wl{t:TypeId}{i:TypeInfo}(h:P.info? t=some i)(w:World):(typeInfo t).run P w= .ok i w:=by simp[typeInfo,h]
theorem iY{t:TypeId}{i:TypeInfo}(h:P.info? t=some i)(w:World):(sizeOf t).run P w= .ok i.size w:=by simp[sizeOf,typeInfo,h]
theorem aeD{t:TypeId}{i:TypeInfo}{v:Value}(h:P.info? t=some i)(hz:i.zero=some v)(w:World):(zeroValue t).run P w= .ok v w:=by simp[zeroValue,typeInfo,h,hz]
theorem Pa{k:TK}{d:TypeDesc}(h:bL k d=true)(w:World){t:TypeId}(ht:P.underlying t=some d):(isAgg t).run P w= .ok k.isAgg w:=by
 cases k<;>cases d<;>first|(simp[bL]at h;done)|simp[isAgg,aN ht,TK.isAgg]
theorem m9{e:Nat}{d:TypeDesc}(h:bL (.slice e) d=true):d= .slice e:=by
 cases d<;>simp[bL]at h;rw[h]
theorem Qw{e:Nat}{d:TypeDesc}(h:bL (.ptr e) d=true):d= .pointer e:=by
 cases d<;>simp[bL]at h;rw[h]
theorem Wm{m e:Nat}{d:TypeDesc}(h:bL (.array m e) d=true):d= .array m e:=by
 cases d<;>simp[bL]at h;rw[h.1,h.2]
theorem Lc{k e:Nat}{d:TypeDesc}(h:bL (.map k e) d=true):d= .map k e:=by
 cases d<;>simp[bL]at h;rw[h.1,h.2]
theorem So{d:TypeDesc}(h:bL .bool d=true):d= .bool:=by cases d<;>simp[bL]at h;rfl
theorem xF{a b:IntKind}(h:Dx a b=true):a=b:=by
 unfold Dx at h;split at h
 .assumption
 .cases h
theorem Hh{k:IntKind}{d:TypeDesc}(h:bL (.int k) d=true):d= .int k:=by
 cases d<;>simp[bL]at h;rw[xF h]
theorem mN{d:TypeDesc}(h:bL .string d=true):d= .string:=by cases d<;>simp[bL]at h;rfl
theorem Fh{fs:List (Nat×Nat×Bool)}{d:TypeDesc}(h:bL (.struct fs) d=true):∃gs,d= .struct gs/\bL.eo fs gs.toList=true:=by
 cases d<;>simp[bL]at h;exact⟨_,rfl,h⟩
theorem ag1{d:TypeDesc}(h:bL .func d=true):∃a b c,d= .func a b c:=by
 cases d<;>simp[bL]at h;exact⟨_,_,_,rfl⟩
theorem aeE{d:TypeDesc}(h:bL .iface d=true):∃a,d= .interface a:=by
 cases d<;>simp[bL]at h;exact⟨_,rfl⟩
theorem acF{d:TypeDesc}(h:bL .upt d=true):d= .unsafePointer:=by cases d<;>simp[bL]at h;rfl
theorem mC{α:Type}:∀(l:List α)(i:Nat),nth l i=l[i]?
 |[],_=>by simp[nth]
 |_::_,0=>rfl
 |_::l,i+1=>by simp[nth,mC l i]
theorem II:∀{fs:List (Nat×Nat×Bool)}{gs:List Field}{i:Nat}{x:Nat×Nat×Bool},bL.eo fs gs=true->nth fs i=some x->
  ∃f,gs[i]? =some f/\f.offset=x.1/\f.type=x.2.1/\(f.name != "_")=x.2.2
 |[],_,i,_,_,h=>by simp[nth]at h
 |(off,t,named)::l,[],i,_,h,_=>by simp[bL.eo]at h
 |(off,t,named)::l,f::l',0,x,h,hx=>by
  simp[bL.eo]at h;simp[nth]at hx;subst hx;exact⟨f,rfl,h.1.1.1.symm,h.1.1.2.symm,h.1.2.symm⟩
 |(off,t,named)::l,f::l',i+1,x,h,hx=>by
  simp[bL.eo]at h;simp[nth]at hx;obtain⟨f',h1,h2⟩:=II h.2 hx;exact⟨f',by simpa using h1,h2⟩
theorem DD{v:Value}{a:AV}(h:IC v=some a):aq ρ n C a v:=by
 unfold IC at h
 split at h<;>first
   |(cases h;done)
   |(simp only[H0]at h;subst h)
 .exact .bool _
 .exact .int _ _
 .exact .str _ _ rfl
 .exact .fP
 .exact .ah
 .exact .pP
 .exact .func _ _ _ _ _ rfl rfl (λ_ _ _ h=>by simp at h) (λ_ _ _ h=>by simp at h)
 .exact .jV
 .exact .tU
theorem rO:∀{l:List Value}{as:List AV},od l=some as->ay ρ n C as l
 |[],as,h=>by simp[od]at h;subst h;exact ay.nil
 |v ::l,as,h=>by
  unfold od at h;split at h
  .rename_i a as' h1 h2;simp only[H0]at h;subst h;exact ay.cons (DD h1) (rO h2)
  .cases h
theorem Zi{v:Value}{a:AV}(h:Sm v=some a):aq ρ n C a v:=by
 unfold Sm at h;split at h
 . split at h
   .rename_i l hl;simp only[H0]at h;subst h;exact .DB (rO hl)
   .cases h
 .exact DD h
theorem qH{x:Operand}{o:eZ}{fr:Fr}{a:Act}{v:AV}(h:lV x=some o)(hF:fV ρ n C fr a.tmps)(hv:Bm fr o=some v):aq ρ n C v (a.eval x):=by
 unfold lV at h;split at h
 .rename_i t;simp only[H0]at h;subst h;obtain⟨y,hy,hr⟩:=hF _ _ hv;rw[fL,Zf4]at hy;simp only[Act.eval,Zj0,hy,Zf5];exact hr
 . split at h
   .rename_i c hc;simp only[H0]at h;subst h;simp only[Bm,H0]at hv;subst hv;exact Zi hc
   .cases h
 .rename_i f;simp only[H0]at h;subst h;simp only[Bm,H0]at hv;subst hv;exact .func _ _ _ _ _ rfl rfl (λ_ _ _ h=>by simp at h) (λ_ _ _ h=>by simp at h)
 .cases h
theorem eP:∀{xs:List Operand}{os:List eZ}{fr:Fr}{a:Act}{vs:List AV},jL xs=some os->fV ρ n C fr a.tmps->e8 fr os=some vs->ay ρ n C vs (xs.map a.eval)
 |[],os,fr,a,vs,h,_,hv=>by simp[jL]at h;subst h;simp[e8]at hv;subst hv;exact ay.nil
 |x ::xs,os,fr,a,vs,h,hF,hv=>by
  unfold jL at h;split at h
  . rename_i o os' h1 h2;simp only[H0]at h;subst h;unfold e8 at hv;split at hv
    .   rename_i v Oa;split at hv
        .rename_i vs' Hi;simp only[H0]at hv;subst hv;exact ay.cons (qH h1 hF Oa) (eP h2 hF Hi)
        .cases hv
    .   cases hv
  .cases h
theorem fM{x:Operand}{o:eZ}{fr:Fr}{a:Act}{vs:List AV}(h:lV x=some o)(hF:fV ρ n C fr a.tmps)(hv:e8 fr [o]=some vs):
   ∃v,vs=[v]/\aq ρ n C v (a.eval x):=by
 unfold e8 at hv;split at hv
 .rename_i v Oa;simp only[e8,H0]at hv;subst hv;exact⟨v,rfl,qH h hF Oa⟩
 .cases hv
end
def Yields(N:Next)(x:Value):Prop:=N= .value x\/(N= .skip/\x=undef)
def uQ(P:Program)(ρ:Pos->Loc)(C:Cells)(st:St)(w:World)(r:Result Next):cO->Prop
 |.val v=>∃N x,r= .ok N w/\Yields N x/\aq ρ st.next.toNat C v x
 |.aG v del set new=>∃N x w' ρ',r= .ok N w'/\Yields N x/\(∀b:Pos,b.toNat<st.next.toNat->ρ' b=ρ b)/\aZ ρ' C (st.aG del set new) w'/\
  aq ρ' (st.aG del set new).next.toNat C v x/\j0 ρ st w ρ' (st.aG del set new) w'
 |.call f args=>∃bJ:List Value,r=(callFunc f bJ.toArray).run P w/\ay ρ st.next.toNat C args bJ
end
section
open Go Go.RowKit
theorem mD(b o i:Nat):(⟨b,o,none⟩:Addr).add i=⟨b,o+i,none⟩:=by
 unfold Addr.add;split
 .rename_i h;subst h;rfl
 .rfl
section
variable{P:Program}{ρ ρ':Pos->Loc}{C:Cells}{st:St}{w w':World}
theorem aZ.aaU(hW:aZ ρ C st w){aaV:T AB}{next' b0:Pos}{x0:AB}
  (hn:st.next.toNat<=next'.toNat) (hb0:b0.toNat<next'.toNat) (aiL:aaV.get b0=some x0)
  (nO:∀b x,b≠b0->aaV.get b=some x->st.heap.get b=some x/\(ρ b).az≠(ρ' b0).az)
  (aU:∀b:Pos,b.toNat<st.next.toNat->ρ' b=ρ b)
  (hB:m5 ρ' next'.toNat C (ρ' b0) w' x0)
  (Ob:∀a v,C a=some v->a.block≠(ρ' b0).az)
  (aO:(ρ' b0).az<w'.heap.size) (aiM:w.heap.size<=w'.heap.size)
  (vD:∀k,k<w.heap.size->k≠(ρ' b0).az->w'.heap[k]? =w.heap[k]?):
  aZ ρ' C ⟨aaV,next'⟩ w' where
 live b x hb:=by
  by_cases h:b=b0
  .  subst h;rw[aiL]at hb;cases hb;exact⟨hb0,aO,hB⟩
  .  obtain⟨h1,h2⟩:=nO b x h hb;obtain⟨h3,h4,h5⟩:=hW.live b x h1;rw[aU b h3];exact⟨Zd3 h3 hn,Zd3 h4 aiM,(h5.mono aU hn).of_heap (vD _ h4 h2)⟩
 inj b  b' x x' hb jO he:=by
  by_cases h:b=b0
  .  subst h;by_cases h':b'=b
     .  exact h'.symm
     .  obtain⟨h1,h2⟩:=nO b' x' h' jO;rw[aU b' (hW.live b' x' h1).1]at he;exact absurd he.symm h2
  .  obtain⟨h1,h2⟩:=nO b x h hb;rw[aU b (hW.live b x h1).1]at he;by_cases h':b'=b0
     .  subst h';exact absurd he h2
     .  obtain⟨ZP,h2'⟩:=nO b' x' h' jO;rw[aU b' (hW.live b' x' ZP).1]at he;exact hW.inj b b' x x' h1 ZP he
 ej a v ha:=by
  obtain⟨h1,h2⟩:=hW.ej a v ha;have IJ:a.block<w.heap.size:=World.block_lt_of_cell? _ _ h1;refine⟨?_,λb x hb=> ?_⟩
  .  rw[World.cell?_of_block (w:=w) (vD _ IJ (Ob a v ha))];exact h1
  .  by_cases h:b=b0
     .  subst h;exact λe=>Ob a v ha e.symm
     .  obtain⟨h3,_⟩:=nO b x h hb;rw[aU b (hW.live b x h3).1];exact h2 b x h3
 whole a v ha o ho:=by have nK:a.block<w.heap.size:=World.block_lt_of_cell? _ _ (hW.ej a v ha).1;rw[World.cell?_of_block (w:=w) (a:=⟨a.block,o,none⟩) (vD _ nK (Ob a v ha))];exact hW.whole a v ha o ho
theorem aZ.cell(hW:aZ ρ C st w){b:Pos}{cs:List AV}{fz:Nat}(hb:st.heap.get b=some (.cells cs fz)){i:Nat}{v:AV}(hv:cs[i]? =some v):
  ∃x,w.cell? ⟨(ρ b).az,(ρ b).base+i,none⟩=some x/\aq ρ st.next.toNat C v x:=by
 obtain⟨_,_,c,e,fr,h1,h2,h3,h4,_⟩:=hW.live b _ hb;obtain⟨x,hx,hr⟩:=h4.get hv;have hi:i<cs.length:=(Za1.1 hv).1;rw[Zc4,Za9 hi,Zd2]at hx;exact⟨x,by simp[World.cell?,h1, <-hx],hr⟩
theorem aZ.aiN(hW:aZ ρ C st w){b:Pos}{cs:List AV}{t:TypeId}(hb:st.heap.get b=some (.typed t cs)){i:Nat}{v:AV}(hv:cs[i]? =some v):
  ∃x,w.cell? ⟨(ρ b).az,(ρ b).base+i,none⟩=some x/\aq ρ st.next.toNat C v x:=by
 obtain⟨_,_,c,fr,h1,h2,h3,h4,_⟩:=hW.live b _ hb;obtain⟨x,hx,hr⟩:=h4.get hv;have hi:i<cs.length:=(Za1.1 hv).1;rw[Zc4,Za9 hi,Zd2]at hx;exact⟨x,by simp[World.cell?,h1, <-hx],hr⟩
theorem DE{α:Type}{l l':List α}{i n:Nat}(h:cut l i n=some l'):l'=(l.drop i).take n/\i+n<=l.length:=by
 unfold cut at h;split at h
 .rename_i hb;cases h;exact⟨rfl,Za6 hb⟩
 .cases h
theorem uR{α:Type}{l l':List α}{i n:Nat}(h:cut l i n=some l'):l'.length=n:=by obtain⟨rfl,h2⟩:=DE h;simp;omega
theorem aZ.loadCells(hW:aZ ρ C st w){b:Pos}{cs vs:List AV}{fz off n:Nat}(hb:st.heap.get b=some (.cells cs fz))(hc:cut cs off n=some vs):
  ∃ys:List Value,(Go.loadCells ⟨(ρ b).az,(ρ b).base+off,none⟩ n).run P w= .ok ys.toArray w/\ay ρ st.next.toNat C vs ys:=by
 obtain⟨_,_,c,e,fr,h1,h2,h3,h4,_⟩:=hW.live b _ hb;obtain⟨jq,hle⟩:=DE hc;have hr:=(h4.drop off).take n;rw[<-jq]at hr;refine⟨_,?_,hr⟩;have hlen:(List.take n (List.drop off (List.take cs.length (List.drop (ρ b).base c.toList)))).length=n:=by rw[<-hr.1];exact uR hc
 conv=>lhs;rw[<-hlen]
 refine run_loadCells_list w _ _ λj v hj=> ?_
 have Bn:j<n:=by rw[<-hlen];exact(Za1.1 hj).1
 rw[Zc4,Za9 Bn,Zd2,Zc4,Za9 (by omega),Zd2]at hj;rw[mD];simp[World.cell?,h1, <-hj,Zh3]
theorem aZ.Qx(hW:aZ ρ C st w){b:Pos}{cs vs:List AV}{t:TypeId}{off n:Nat}(hb:st.heap.get b=some (.typed t cs))(hc:cut cs off n=some vs):
  ∃ys:List Value,(Go.loadCells ⟨(ρ b).az,(ρ b).base+off,none⟩ n).run P w= .ok ys.toArray w/\ay ρ st.next.toNat C vs ys:=by
 obtain⟨_,_,c,fr,h1,h2,h3,h4,_⟩:=hW.live b _ hb;obtain⟨jq,hle⟩:=DE hc;have hr:=(h4.drop off).take n;rw[<-jq]at hr;refine⟨_,?_,hr⟩;have hlen:(List.take n (List.drop off (List.take cs.length (List.drop (ρ b).base c.toList)))).length=n:=by rw[<-hr.1];exact uR hc
 conv=>lhs;rw[<-hlen]
 refine run_loadCells_list w _ _ λj v hj=> ?_
 have Bn:j<n:=by rw[<-hlen];exact(Za1.1 hj).1
 rw[Zc4,Za9 Bn,Zd2,Zc4,Za9 (by omega),Zd2]at hj;rw[mD];simp[World.cell?,h1, <-hj,Zh3]
theorem kQ(g e:Nat)(fr:Nat×Nat):∀(vs:List Value)(i o:Nat)(cur:Array Value)(w:World),w.heap[g]? =some (.cells cur e fr)->o+i+vs.length<=cur.size->
  (∀v∈vs,v.oneCell'=true)->(∀k,o+i<=k->k<cur.size->¬(fr.1<=k/\k<fr.2))->
  ∃ w',(storeCells ⟨g,o,none⟩ vs i).run P w= .ok () w'/\w'.heap[g]? =some (.cells (aJ cur.toList (o+i) vs).toArray e fr)/\
    w'.heap.size=w.heap.size/\(∀k,k≠g->w'.heap[k]? =w.heap[k]?)/\w'.os=w.os/\w'.tape=w.tape/\w'.output=w.output
 |[],i,o,cur,w,hg,_,_,_=>⟨w,by simp[storeCells],by rw[hg];simp[aJ,Zj6],rfl,λ_ _=>rfl,rfl,rfl,rfl⟩
 |v ::vs,i,o,cur,w,hg,hle,h1,hf=>by
  simp only[Zc5]at hle;have hv:v.oneCell'=true:=h1 v (by simp);have Fi:w.cell? ⟨g,o+i,none⟩=some (cur[o+i]'(by omega)):=by simp[World.cell?,hg]
  have hfz:w.frozen? ⟨g,o+i,none⟩=false:=by have:=hf (o+i) (Za5 _) (by omega);simp only[World.frozen?,hg];simpa using this
  have Qy:(w.setCell ⟨g,o+i,none⟩ v).heap[g]? =some (.cells (cur.setIfInBounds (o+i) v) e fr):=by
    simp[World.setCell,Zo3,hg]
  obtain⟨w',h2,h3,h4,h5,h6,h7,h8⟩:=kQ g e fr vs (i+1) o _ _ Qy (by simp;omega) (λv hv=>h1 v (by simp[hv])) (by intro k hk lW;simp at lW;exact hf k (by omega) lW);refine⟨w',?_,?_,by simp[h4],λk hk=> ?_,h6,h7,h8⟩
  .simp only[storeCells,Sem.run_bind,mD,run_store P w _ _ _ hv,Fi,hfz];simpa using h2
  .rw[h3];congr 2;simp only[aJ,Zc5,Zp5];rw[List.drop_set_of_lt (by omega)];have:o+(i+1)=(o+i)+1:=(by omega);rw[this,List.take_set,Zq1];have aO:o+i<cur.toList.length:=(by simp;omega);rw[H4 aO];simp only[Option.toList_some,List.set_append,Zj7];have hm:min (o+i) cur.toList.length=o+i:=Zk8 (Nat.le_of_lt aO);rw[hm,Za3 (Zo9 _),Zp4];simp;rw[show o+i+1+vs.length=o+i+(vs.length+1)from by omega]
  .rw[h5 k hk,Below.heap_setCell _ _ _ _ (by simpa using hk)]
end
section
variable{P:Program}{tt:TT}{ρ:Pos->Loc}{C:Cells}{st:St}{w:World}{n:Nat}
theorem Yields.value(x:Value):Yields (.value x) x:= .inl rfl
theorem uQ.pure{v:AV}{x:Value}{r:Result Next}(h:r= .ok (.value x) w)(hv:aq ρ st.next.toNat C v x):uQ P ρ C st w r (.val v):=
 ⟨_,x,h,Yields.value x,hv⟩
theorem aq.iI{k:IntKind}{i:Int}{x:Value}(h:aq ρ n C (.int k i) x):x= .int k i:=by cases h;rfl
theorem aq.iD{b:Bool}{x:Value}(h:aq ρ n C (.bool b) x):x= .bool b:=by cases h;rfl
theorem aq.eR{s:List Nat}{x:Value}(h:aq ρ n C (.str s) x):∃bs:ByteArray,x= .string bs/\bs.data.toList.map UInt8.toNat=s:=by
 cases h with|str _ bs h=>exact⟨bs,rfl,h⟩
theorem aq.qI{x:Value}(h:aq ρ n C .fP x):x= .pointer none:=by cases h;rfl
theorem aq.fZ{x:Value}(h:aq ρ n C .ah x):x= .slice none 0 0:=by cases h;rfl
theorem aq.AE{x:Value}(h:aq ρ n C .pP x):x= .map none:=by cases h;rfl
theorem aq.IK{x:Value}(h:aq ρ n C .jV x):x= .nilFunc:=by cases h;rfl
theorem aq.Wn{x:Value}(h:aq ρ n C .tU x):x= .nilIface:=by cases h;rfl
theorem aq.fR{b:Pos}{off:Nat}{x:Value}(h:aq ρ n C (.ptr b off) x):b.toNat<n/\x= .pointer (some ⟨(ρ b).az,(ρ b).base+off,none⟩):=by
 cases h with|ptr _ _ h=>exact⟨h,rfl⟩
theorem aq.xG{b:Pos}{x:Value}(h:aq ρ n C (.map b) x):b.toNat<n/\x= .map (some (ρ b).az):=by
 cases h with|map _ h=>exact⟨h,rfl⟩
theorem aq.TV{t:TypeId}{v:AV}{x:Value}(h:aq ρ n C (.iface t v) x):∃y,x= .iface t y/\aq ρ n C v y:=by
 cases h with|iface _ _ y h=>exact⟨y,rfl,h⟩
theorem aq.dX{b:Pos}{off len es:Nat}{cap:Option Nat}{x:Value}(h:aq ρ n C (.slice b off len cap es) x):
  ∃(a:Addr) (aM:Nat),x= .slice (some a) len aM/\len<=aM/\(∀c,cap=some c->c=aM)/\
   (aM≠0->b.toNat<n/\a=⟨(ρ b).az,(ρ b).base+off,none⟩/\(ρ b).base+off+aM*es<=(ρ b).size):=by
 cases h with|slice _ _ _ _ _ aM a hl hc ha _=>exact⟨a,aM,rfl,hl,hc,ha⟩
theorem aq.TW{b:Pos}{off len es:Nat}{cap:Option Nat}{x:Value}(h:aq ρ n C (.slice b off len cap es) x):cap=none->b.toNat<n:=by
 cases h with|slice _ _ _ _ _ _ _ _ _ _ hk=>exact hk
theorem aq.tY{xs:List (List AV)}{es:Nat}{x:Value}(h:aq ρ n C (.fl xs es) x):
  ∃(a:Addr) (aM:Nat) (cell:Nat->Nat->Value),x= .slice (some a) xs.length aM/\xs.length<=aM/\(xs≠[]->a.spot=none)/\
   (∀(i:Nat)(cs:List AV),xs[i]? =some cs->cs.length=es)/\
   (∀(i j:Nat)(cs:List AV)(v:AV),xs[i]? =some cs->cs[j]? =some v->C ⟨a.block,a.off+i*es+j,none⟩=some (cell i j))/\
   (∀(i j:Nat)(cs:List AV)(v:AV),xs[i]? =some cs->cs[j]? =some v->aq ρ n C v (cell i j)):=by
 cases h with|fl _ _ aM a cell hl hs ee hc hv=>exact⟨a,aM,cell,rfl,hl,hs,ee,hc,hv⟩
theorem aq.Hj{xs:List (List AV)}{i j:Nat}{x:Value}(h:aq ρ n C (.fp xs i j) x):
  ∃(es az base:Nat) (cell:Nat->Nat->Value),x= .pointer (some ⟨az,base+i*es+j,none⟩)/\
   (∀(i:Nat)(cs:List AV),xs[i]? =some cs->cs.length=es)/\
   (∀(i j:Nat)(cs:List AV)(v:AV),xs[i]? =some cs->cs[j]? =some v->C ⟨az,base+i*es+j,none⟩=some (cell i j))/\
   (∀(i j:Nat)(cs:List AV)(v:AV),xs[i]? =some cs->cs[j]? =some v->aq ρ n C v (cell i j)):=by
 cases h with|fp _ _ _ es az base cell hl hc hv=>exact⟨es,az,base,cell,rfl,hl,hc,hv⟩
theorem qJ(k:IntKind)(i:Int):au k i=k.wrap i:=by
 unfold au;split
 . rename_i h1 _;split
   .rename_i h2 _;cases k<;>simp only[TN,TO]at h1 h2<;>simp only[IntKind.wrap,IntKind.bits,IntKind.signed]<;>simp<;>omega
   .rfl
 .rfl
theorem lC(a b:Int):wM a b=(a==b):=by
 unfold wM;split
 .rename_i h _;subst h;simp
 .rename_i h _;simp[h]
theorem ek(a b:Int):yo a b=decide (a<b):=by
 unfold yo;split<;>(rename_i h _;simp[h])
theorem iZ(a b:Int):VI a b=decide (a<=b):=by
 unfold VI;split<;>(rename_i h _;simp[h])
theorem j3:∀{a b:List Nat},jw a b=true↔a=b
 |[],[]=>by simp[jw]
 |[],_::_=>by simp[jw]
 |_::_,[]=>by simp[jw]
 |a::x,b::y=>by
  unfold jw;split
  .rename_i h;have:=Za2 h;subst this;simp[j3 (a:=x) (b:=y)]
  .rename_i h;have:=Zc2 h;simp[this]
theorem Hl:∀{a b:List UInt8},a.map UInt8.toNat=b.map UInt8.toNat->a=b
 |[],[],_=>rfl
 |[],_::_,h=>by simp at h
 |_::_,[],h=>by simp at h
 |a::x,b::y,h=>by
  simp at h;rw[Zr0.1 h.1,Hl h.2]
theorem toList_data(b:ByteArray):b.toList=b.data.toList:=ByteArray.toList_eq b
theorem sg:∀(x y:List UInt8),aC (x.map UInt8.toNat) (y.map UInt8.toNat)=Op.bytesLess x y
 |[],[]=>by simp[aC,Op.bytesLess]
 |_::_,[]=>by simp[aC,Op.bytesLess]
 |[],_::_=>by simp[aC,Op.bytesLess]
 |a ::x,b::y=>by
  simp only[Zb8,aC,Op.bytesLess];split
  .rename_i h;have:a<b:=(by rw[Zo4];simpa using h);simp[this]
  . (rename_i h;have h1:¬a<b:=by rw[Zo4];intro h';have h2:Nat.blt a.toNat b.toNat=true:=(by simpa using h');rw[h2]at h;cases h);split
    .   rename_i h2;have:a=b:=Zr0.1 (Za2 h2);subst this;simp only[h1,decide_false,Bool.false_or,Zq5,Zg0];exact sg x y
    .   (rename_i h2;have:a≠b:=λe=>Zc2 h2 (by rw[e]));simp[h1,this]
theorem Ho{a b:List Nat}{x y:ByteArray}(hx:x.data.toList.map UInt8.toNat=a)(hy:y.data.toList.map UInt8.toNat=b):(x.toList==y.toList)=jw a b:=by
 rw[toList_data,toList_data,Zl8,j3,beq_iff_eq, <-hx, <-hy];exact⟨λh=>by rw[h],λh=>Hl h⟩
theorem Pb{a b:List Nat}{x y:ByteArray}(hx:x.data.toList.map UInt8.toNat=a)(hy:y.data.toList.map UInt8.toNat=b):Op.bytesLess x.toList y.toList=aC a b:=by
 rw[toList_data,toList_data, <-hx, <-hy,sg]
theorem wW{a:List Nat}{x:ByteArray}(hx:x.data.toList.map UInt8.toNat=a):x.size=a.length:=by rw[<-hx,Zb3,Zg3];rfl
def PK.fits:PK->TypeDesc->Bool
 |.b,.bool=>true
 |.i,.int _=>true
 |.s,.string=>true
 |_,_=>false
theorem Wo{t:TypeId}{d:TypeDesc}(hd:P.underlying t=some d){pk:PK}(hk:pk.fits d=true){a b:AV}{x y:Value}{r:Bool}{m:Nat}
   (ha:aq ρ n C a x) (hb:aq ρ n C b y) (h:Ay pk a b=some r) (w:World):(Op.equalIn (m+1) t x y).run P w= .ok r w:=by
 unfold Ay at h;split at h
 .simp only[H0]at h;subst h;rw[ha.iD,hb.iD];cases d<;>simp[PK.fits]at hk;rw[run_equalIn_bool' w m t _ _ hd]
 . split at h
   .rename_i lW;have:=xF lW;subst this;simp only[H0]at h;subst h;rw[ha.iI,hb.iI];cases d<;>simp[PK.fits]at hk;rw[run_equalIn_int w m t _ _ _ _ hd,lC]
   .cases h
 .simp only[H0]at h;subst h;obtain⟨bx,rfl,h1⟩:=ha.eR;obtain⟨bz,rfl,h2⟩:=hb.eR;cases d<;>simp[PK.fits]at hk;rw[run_equalIn_string w m t _ _ hd,Ho h1 h2]
 .cases h
theorem Ld:∀{fs:List (Nat×Nat×Bool)}{l:List (Nat×PK)}{gs:List Field}{xs ys:List AV}{cx cy:Array Value}{r:Bool}{m:Nat}(_hT:bZ P tt)
  (_hm:bL.eo fs gs=true) (_hf:yq.fields tt fs=some l) (_hx:ay ρ n C xs cx.toList) (_hy:ay ρ n C ys cy.toList) (_h:eqFields xs ys l=some r) (w:World),
  (Op.eqFields (m+1) cx cy gs).run P w= .ok r w
 |[],l,gs,xs,ys,cx,cy,r,m,hT,hm,hf,hx,hy,h,w=>by
  cases gs with
  |cons f gs=>simp[bL.eo]at hm
  | nil=>
    simp[yq.fields]at hf;subst hf;simp[eqFields]at h;subst h;simp[Op.eqFields]
 |(off  , t,named)::fs,l,gs,xs,ys,cx,cy,r,m,hT,hm,hf,hx,hy,h,w=>by
  cases gs with
  |nil=>simp[bL.eo]at hm
  | cons f gs=>
    simp[bL.eo]at hm;obtain⟨⟨⟨ho,ht⟩,hn⟩,hm'⟩:=hm;unfold yq.fields at hf;(split at hf<;>first|(cases hf;done)|skip);rename_i ti l' cV hl';obtain⟨d,hd,cF⟩:=(hT.at cV).und;have key:∃pk,l=(off,pk)::l'/\pk.fits d=true/\(isAgg t).run P w= .ok false w:=by
        have pF:=Pa cF w hd;split at hf<;>first|(cases hf;done)|skip
        all_goals
          rename_i hk;simp only[H0]at hf;rw[hk]at cF pF;refine⟨_,hf.symm,?_,pF⟩
        .rw[So cF];rfl
        .rw[Hh cF];rfl
        .rw[mN cF];rfl
    obtain⟨pk,rfl,Gj,pF⟩:=key;have cL:f.name≠ "_" :=(by intro e;rw[e]at hn;simp at hn);unfold eqFields at h;(split at h<;>first|(cases h;done)|skip);rename_i a b ha hb;rw[mC]at ha hb;obtain⟨x,ZQ,Qz⟩:=hx.get ha;obtain⟨y,Cx,DF⟩:=hy.get hb;have px:(part f.type cx f.offset).run P w= .ok x w:=by
        rw[<-ht, <-ho];simp at ZQ;simp[part,pF,ZQ]
    have py:(part f.type cy f.offset).run P w= .ok y w:=by
        rw[<-ht, <-ho];simp at Cx;simp[part,pF,Cx]
    simp only[Op.eqFields,Sem.run_bind,Sem.run_ite,cL,px,py,Result.andThen_ok,ne_eq,Zq2,Zh0];split at h
    .   rename_i he;rw[<-ht,Wo hd Gj Qz DF he w];simpa using Ld (m:=m) hT hm' hl' hx hy h w
    .   rename_i he;simp only[H0]at h;subst h;rw[<-ht,Wo hd Gj Qz DF he w];simp
    .   cases h
def agG(tt:TT)(op:BinOp)(q:fC)(t:TypeId):Prop:=yq tt t=some q\/(q= .num/\op≠ .eql/\op≠ .neq)
def aiO(P:Program)(tt:TT)(t:TypeId):fC->Prop
 |.num=>True
 |.bool=>P.underlying t=some .bool
 |.ptr=>∃e,P.underlying t=some (.pointer e)/\∃j,P.info? e=some j
 |.slice=>∃e,P.underlying t=some (.slice e)
 |.map=>∃k e,P.underlying t=some (.map k e)
 |.func=>∃a b c,P.underlying t=some (.func a b c)
 |.iface=>∃a,P.underlying t=some (.interface a)
 |.struct l=>∃fs gs,P.underlying t=some (.struct gs)/\bL.eo fs gs.toList=true/\yq.fields tt fs=some l/\P.stoodInHeld t=false/\P.eqGuardType P.depth t=false
theorem ZR(hT:bZ P tt){t:TypeId}{q:fC}(hq:yq tt t=some q):aiO P tt t q:=by
 unfold yq at hq;split at hq<;>first|(cases hq;done)|skip
 rename_i ti cV;obtain⟨d,hd,cF⟩:=(hT.at cV).und;split at hq<;>first|(cases hq;done)|skip
 all_goals rename_i hk
 all_goals rw[hk]at cF
 .simp only[H0]at hq;subst hq;rw[So cF]at hd;exact hd
 .simp only[H0]at hq;subst hq;trivial
 .simp only[H0]at hq;subst hq;trivial
 .simp only[H0]at hq;subst hq;rw[Qw cF]at hd;exact⟨_,hd,(hT.at cV).elem _ hk⟩
 .simp only[H0]at hq;subst hq;rw[m9 cF]at hd;exact⟨_,hd⟩
 .simp only[H0]at hq;subst hq;rw[Lc cF]at hd;exact⟨_,_,hd⟩
 .simp only[H0]at hq;subst hq;obtain⟨_,_,_,rfl⟩:=ag1 cF;exact⟨_,_,_,hd⟩
 .simp only[H0]at hq;subst hq;obtain⟨_,rfl⟩:=aeE cF;exact⟨_,hd⟩
 . (split at hq<;>first|(cases hq;done)|skip);rename_i fs _ _ l hp hl;simp only[H0]at hq;subst hq;obtain⟨gs,rfl,hm⟩:=Fh cF;exact⟨fs,gs,hd,hm,hl,(hT.at cV).eqs hp⟩
theorem aaW(m:Nat)(hT:bZ P tt){t:TypeId}{q:fC}(hq:yq tt t=some q){a b:AV}{x y:Value}{r:Bool}(ha:aq ρ n C a x)(hb:aq ρ n C b y)(h:K7 q a b=some r)(w:World):
   (Op.equalIn (m+1+1) t x y).run P w= .ok r w:=by
 have hi:=ZR hT hq;clear hq;unfold K7 at h;split at h<;>first|(cases h;done)|skip
 .simp only[H0]at h;subst h;rw[ha.iD,hb.iD,run_equalIn_bool' w _ t _ _ hi]
 all_goals first
   |(simp only[H0]at h;subst h)
   |skip
 .obtain⟨e,hd,_⟩:=hi;rw[ha.qI,hb.qI];(unfold Op.equalIn;rw[Sem.run_bind,aN hd];rfl)
 .obtain⟨e,hd,_⟩:=hi;obtain⟨_,hb⟩:=hb.fR;rw[ha.qI,hb];(unfold Op.equalIn;rw[Sem.run_bind,aN hd];rfl)
 .obtain⟨e,hd,_⟩:=hi;obtain⟨_,ha⟩:=ha.fR;rw[hb.qI,ha];(unfold Op.equalIn;rw[Sem.run_bind,aN hd];rfl)
 .obtain⟨e,hd,_⟩:=hi;obtain⟨_,_,_,_,hb,_⟩:=hb.Hj;rw[ha.qI,hb];(unfold Op.equalIn;rw[Sem.run_bind,aN hd];rfl)
 .obtain⟨e,hd,_⟩:=hi;obtain⟨_,_,_,_,ha,_⟩:=ha.Hj;rw[hb.qI,ha];(unfold Op.equalIn;rw[Sem.run_bind,aN hd];rfl)
 .obtain⟨e,hd,j,hj⟩:=hi;(split at h<;>first|(cases h;done)|skip);rename_i e1 e2;have e1:=Pos.beq_eq.1 e1;have e2:=Za2 e2;subst e1;subst e2;simp only[H0]at h;subst h;obtain⟨_,ha⟩:=ha.fR;obtain⟨_,hb⟩:=hb.fR;rw[ha,hb];simp[Op.equalIn,aN hd,sizeOf,typeInfo,hj,run_sameAddr_same]
 .obtain⟨e,hd⟩:=hi;rw[ha.fZ,hb.fZ];(unfold Op.equalIn;rw[Sem.run_bind,aN hd];rfl)
 .obtain⟨e,hd⟩:=hi;obtain⟨_,_,hb,_⟩:=hb.dX;rw[ha.fZ,hb];(unfold Op.equalIn;rw[Sem.run_bind,aN hd];rfl)
 .obtain⟨e,hd⟩:=hi;obtain⟨_,_,ha,_⟩:=ha.dX;rw[hb.fZ,ha];(unfold Op.equalIn;rw[Sem.run_bind,aN hd];rfl)
 .obtain⟨e,hd⟩:=hi;obtain⟨_,_,_,hb,_⟩:=hb.tY;rw[ha.fZ,hb];(unfold Op.equalIn;rw[Sem.run_bind,aN hd];rfl)
 .obtain⟨e,hd⟩:=hi;obtain⟨_,_,_,ha,_⟩:=ha.tY;rw[hb.fZ,ha];(unfold Op.equalIn;rw[Sem.run_bind,aN hd];rfl)
 .obtain⟨k,e,hd⟩:=hi;rw[ha.AE,hb.AE];(unfold Op.equalIn;rw[Sem.run_bind,aN hd];rfl)
 .obtain⟨k,e,hd⟩:=hi;obtain⟨_,hb⟩:=hb.xG;rw[ha.AE,hb];(unfold Op.equalIn;rw[Sem.run_bind,aN hd];rfl)
 .obtain⟨k,e,hd⟩:=hi;obtain⟨_,ha⟩:=ha.xG;rw[hb.AE,ha];(unfold Op.equalIn;rw[Sem.run_bind,aN hd];rfl)
 .obtain⟨_,_,_,hd⟩:=hi;rw[ha.IK,hb.IK];(unfold Op.equalIn;rw[Sem.run_bind,aN hd];rfl)
 .obtain⟨_,_,_,hd⟩:=hi;obtain⟨_,_,hb,_⟩:=hb.DC;rw[ha.IK,hb];(unfold Op.equalIn;rw[Sem.run_bind,aN hd];rfl)
 .obtain⟨_,_,_,hd⟩:=hi;obtain⟨_,_,ha,_⟩:=ha.DC;rw[hb.IK,ha];(unfold Op.equalIn;rw[Sem.run_bind,aN hd];rfl)
 .obtain⟨_,hd⟩:=hi;obtain⟨_,hb,_⟩:=hb.TV;rw[ha.Wn,hb];(unfold Op.equalIn;rw[Sem.run_bind,aN hd];rfl)
 .obtain⟨_,hd⟩:=hi;obtain⟨_,ha,_⟩:=ha.TV;rw[hb.Wn,ha];(unfold Op.equalIn;rw[Sem.run_bind,aN hd];rfl)
 .obtain⟨fs,gs,hd,hm,hl,hp,_⟩:=hi;obtain⟨cx,rfl,hx⟩:=ha.Dp;obtain⟨cy,rfl,hy⟩:=hb.Dp;have hfo:P.fieldsOf t=gs:=(by simp[Program.fieldsOf,hd]);rw[run_equalIn_agg w (m+1) t cx cy (by rw[hfo,hd]) hp,hfo];exact Ld (m:=m) hT hm hl hx hy h w
theorem Wp(hT:bZ P tt){t:TypeId}{q:fC}(hq:yq tt t=some q){a b:AV}{x y:Value}{r:Bool}(ha:aq ρ n C a x)(hb:aq ρ n C b y)(h:K7 q a b=some r)(w:World):
 (Op.equal t x y).run P w= .ok r w:=aaW 9998 hT hq ha hb h w
theorem QA(hT:bZ P tt){t:TypeId}{q:fC}(hq:yq tt t=some q){a b:AV}{x y:Value}{r:Bool}(ha:aq ρ n C a x)(hb:aq ρ n C b y)(h:K7 q a b=some r)(op:BinOp)(ox oy:Operand)(w:World):
  (eqGuard op t ox oy x y).run P w= .ok () w:=by
 have hi:=ZR hT hq;clear hq;unfold K7 at h;split at h<;>first|(cases h;done)|skip
 all_goals first
  |(obtain⟨fs,gs,hd,hm,hl,hp,hg⟩:=hi
    obtain⟨cx,rfl,hx⟩:=ha.Dp;obtain⟨cy,rfl,hy⟩:=hb.Dp;exact run_eqGuard_agg w op t ox oy cx cy hg)
  |(cases ha<;>cases hb<;>cases op<;>rfl)
end
section
variable{P:Program}{tt:TT}{ρ:Pos->Loc}{C:Cells}{st:St}{w:World}{n:Nat}
theorem Vg(op:BinOp)(t:TypeId)(k:IntKind)(i j:Int)(hs:op≠ .shl)(hr:op≠ .shr):(binOp op t (.int k i) (.int k j)).run P w=
  (match op with
   |.add|.sub|.mul=>Op.intArith op k i j
   |.quo|.rem=>Op.intDiv op k i j
   |.and|.or|.xor|.andNot=>Op.intBits op k i j
   |_=>Op.intCmp op i j).run P w:=by
 cases op<;>first|(exact absurd rfl hs)|(exact absurd rfl hr)|simp[binOp]
theorem aeF(hT:bZ P tt){op:BinOp}{t:TypeId}{q:fC}(hq:agG tt op q t){a b v:AV}{x y:Value}(ha:aq ρ n C a x)(hb:aq ρ n C b y)(h:jX op q a b=some v)(ox oy:Operand):
  ∃z,(do eqGuard op t ox oy x y;binOp op t x y:Sem Value).run P w= .ok z w/\aq ρ n C v z:=by
 unfold jX at h;split at h
 ·
  rename_i k i k' j;rw[ha.iI,hb.iI];have hg:∀op,(eqGuard op t ox oy (.int k i) (.int k' j)).run P w= .ok () w:=by intro op;cases op<;>rfl
  rw[Sem.run_bind,hg,Result.andThen_ok];split at h
  . split at h
    .   cases h
    .   rename_i aO;rw[ek]at aO;have aO:=Zn2 aO;simp only[H0]at h;subst h;exact⟨_,by simp[binOp,Op.shift,aO,qJ],.int _ _⟩
  . split at h
    .   cases h
    .   rename_i aO;rw[ek]at aO;have aO:=Zn2 aO;simp only[H0]at h;subst h;exact⟨_,by simp[binOp,Op.shift,aO],.int _ _⟩
  . rename_i hs hr;split at h
    .   cases h
    .   rename_i hk;have:=xF hk;subst this;rw[Vg op t k i j (λe=>hs e) (λe=>hr e)];split at h
        .simp only[H0]at h;subst h;exact⟨_,by simp[Op.intArith,qJ],.int _ _⟩
        .simp only[H0]at h;subst h;exact⟨_,by simp[Op.intArith,qJ],.int _ _⟩
        .simp only[H0]at h;subst h;exact⟨_,by simp[Op.intArith,qJ],.int _ _⟩
        . split at h
          .cases h
          . (rename_i h0;rw[lC]at h0;have h0':¬j=0:=by simpa using h0);simp only[H0]at h;subst h;exact⟨_,by simp[Op.intDiv,h0',qJ],.int _ _⟩
        . split at h
          .cases h
          . (rename_i h0;rw[lC]at h0;have h0':¬j=0:=by simpa using h0);simp only[H0]at h;subst h;exact⟨_,by simp[Op.intDiv,h0'],.int _ _⟩
        .simp only[H0]at h;subst h;exact⟨_,by simp[Op.intBits],.int _ _⟩
        .simp only[H0]at h;subst h;exact⟨_,by simp[Op.intBits],.int _ _⟩
        .simp only[H0]at h;subst h;exact⟨_,by simp[Op.intBits],.int _ _⟩
        .simp only[H0]at h;subst h;exact⟨_,by simp[Op.intBits],.int _ _⟩
        .simp only[H0]at h;subst h;exact⟨_,by simp[Op.intCmp,lC],.bool _⟩
        .simp only[H0]at h;subst h;refine⟨_,rfl,?_⟩;rw[lC];exact .bool _
        .simp only[H0]at h;subst h;refine⟨_,rfl,?_⟩;rw[ek];exact .bool _
        .simp only[H0]at h;subst h;refine⟨_,rfl,?_⟩;rw[iZ];exact .bool _
        .simp only[H0]at h;subst h;refine⟨_,rfl,?_⟩;rw[ek];exact .bool _
        .simp only[H0]at h;subst h;refine⟨_,rfl,?_⟩;rw[iZ];exact .bool _
        .cases h
 ·
  rename_i s u;obtain⟨bx,rfl,h1⟩:=ha.eR;obtain⟨bz,rfl,h2⟩:=hb.eR;have hg:∀op,(eqGuard op t ox oy (.string bx) (.string bz)).run P w= .ok () w:=by intro op;cases op<;>rfl
  rw[Sem.run_bind,hg,Result.andThen_ok];have hs:(binOp op t (.string bx) (.string bz)).run P w=(Op.stringOp op bx bz).run P w:=by cases op<;>rfl
  rw[hs];have e1:=Ho h1 h2;have e2:=Pb h1 h2;split at h
  . split at h
    .   rename_i hb;have hb:=Za6 hb;simp only[H0]at h;subst h;have mE:¬(((bx.size+bz.size:Nat):Int)>IntKind.i64.max):=(by rw[wW h1,wW h2];simp[IntKind.max,IntKind.signed,IntKind.bits];omega);refine⟨.string (bx++bz),?_,.str _ _ ?_⟩
        .simp only[Op.stringOp];rw[Za3 mE];rfl
        .rw[ByteArray.data_append,Array.toList_append,Ze4,h1,h2]
    .   cases h
  all_goals first|(cases h;done)|skip
  all_goals
    simp only[H0]at h;subst h;refine⟨_,rfl,?_⟩
    first|rw[e1,e2]|rw[e1]|rw[e2]
    exact .bool _
 ·
  rename_i hni hns;have Fj:∀op,(op= .eql\/op= .neq)->(binOp op t x y).run P w=((Op.equal t x y).run P w).andThen λr w'=>.ok (.bool (if op= .eql then r else !r)) w':=by
    rintro op (rfl|rfl)
    all_goals
        cases ha<;>cases hb<;>first
          |(exact(hni _ _ _ _ rfl rfl).elim)
          |(exact(hns _ _ rfl rfl).elim)
          |simp[binOp]
  split at h
  . split at h
    .   rename_i r hr;simp only[H0]at h;subst h;rcases hq with hq|⟨_,hq,_⟩
        .refine⟨.bool r,?_,.bool r⟩;rw[Sem.run_bind,QA hT hq ha hb hr,Result.andThen_ok,Fj _ (.inl rfl),Wp hT hq ha hb hr];rfl
        .exact absurd rfl hq
    .   cases h
  . split at h
    .   rename_i r hr;simp only[H0]at h;subst h;rcases hq with hq|⟨_,_,hq⟩
        .refine⟨.bool (!r),?_,.bool _⟩;rw[Sem.run_bind,QA hT hq ha hb hr,Result.andThen_ok,Fj _ (.inr rfl),Wp hT hq ha hb hr];rfl
        .exact absurd rfl hq
    .   cases h
  .cases h
end
def dI(P:Program)(tt:TT)(op:Op):Prop:=
 ∀  (ρ:Pos->Loc)(C:Cells)(st:St)(w:World)(k:av)(xs:List eZ)(cls:ZO)(fr:Fr)(a:Act)(o:Oper)(vs:List AV)(res:cO),
    o.op=op->gP tt op=some (k,xs,cls)->aZ ρ C st w->fV ρ st.next.toNat C fr a.tmps->e8 fr xs=some vs->
    k.run (λb=>st.heap.get b) st.next vs=some res->uQ P ρ C st w ((execOp a.eval o).run P w) res
section
variable{P:Program}{tt:TT}
theorem Sp{ρ:Pos->Loc}{n:Nat}{C:Cells}{x y:Operand}{os:List eZ}{fr:Fr}{a:Act}{vs:List AV}(h:jL [x,y]=some os)(hF:fV ρ n C fr a.tmps)(hv:e8 fr os=some vs):
  ∃u v,vs=[u,v]/\aq ρ n C u (a.eval x)/\aq ρ n C v (a.eval y):=by
 have h1:=eP h hF hv;cases vs with
 |nil=>have:=h1.1;simp at this
 |cons u vs=>
  cases vs with
  |nil=>have:=h1.1;simp at this
  |cons v vs=>
   cases vs with
   |nil=>exact⟨u,v,rfl,h1.2 0 u _ rfl rfl,h1.2 1 v _ rfl rfl⟩
   |cons z vs=>have:=h1.1;simp at this
theorem evs3{ρ:Pos->Loc}{n:Nat}{C:Cells}{x y z:Operand}{os:List eZ}{fr:Fr}{a:Act}{vs:List AV}(h:jL [x,y,z]=some os)(hF:fV ρ n C fr a.tmps)(hv:e8 fr os=some vs):
  ∃u v q,vs=[u,v,q]/\aq ρ n C u (a.eval x)/\aq ρ n C v (a.eval y)/\aq ρ n C q (a.eval z):=by
 have h1:=eP h hF hv
 match vs,h1 with
 |[u,v,q],h1=>exact⟨u,v,q,rfl,h1.2 0 u _ rfl rfl,h1.2 1 v _ rfl rfl,h1.2 2 q _ rfl rfl⟩
 |[],h1=>have:=h1.1;simp at this
 |[_],h1=>have:=h1.1;simp at this
 |[_,_],h1=>have:=h1.1;simp at this
 |_::_::_::_::_,h1=>have:=h1.1;simp at this
theorem aeG(x:Operand):dI P tt (.move x):=by
 intro ρ C st w k xs cls fr a o vs res ho hc hW hF hx hr;simp only[gP]at hc;split at hc<;>first|(cases hc;done)|skip
 rename_i b hb;cases hc;obtain⟨v,rfl,hv⟩:=fM hb hF hx;simp only[av.run,Nh,H0]at hr;subst hr;exact .pure (by simp[execOp,ho]) hv
theorem aaX(x:Operand):dI P tt (.assign x):=by
 intro ρ C st w k xs cls fr a o vs res ho hc hW hF hx hr;simp only[gP]at hc;split at hc<;>first|(cases hc;done)|skip
 rename_i b hb;cases hc;obtain⟨v,rfl,hv⟩:=fM hb hF hx;simp only[av.run,Nh,H0]at hr;subst hr;exact .pure (by simp[execOp,ho]) hv
theorem aeH(c x y:Operand):dI P tt (.pick c x y):=by
 intro ρ C st w k xs cls fr a o vs res ho hc hW hF hx hr;simp only[gP]at hc;split at hc<;>first|(cases hc;done)|skip
 rename_i l hl;cases hc;obtain⟨u,v,q,rfl,h1,h2,h3⟩:=evs3 hl hF hx;simp only[av.run,Sl]at hr;split at hr<;>first|(cases hr;done)|skip
 all_goals
   simp only[H0]at hr;subst hr;have h1:=h1.iD
 .exact .pure (by simp[execOp,ho,h1,asBool]) h2
 .exact .pure (by simp[execOp,ho,h1,asBool]) h3
theorem acG(hT:bZ P tt)(op:BinOp)(t:TypeId)(x y:Operand)(yt:TypeId):dI P tt (.binOp op t x y yt):=by
 intro ρ C st w k xs cls fr a o vs res ho hc hW hF hx hr;have key:∃q,agG tt op q t/\k= .bin op q/\jL [x,y]=some xs:=by
  simp only[gP]at hc;split at hc
  .rename_i q l hq hl;cases hc;exact⟨q,.inl hq,rfl,hl⟩
  .rename_i l hq hl;(split at hc<;>first|(cases hc;done)|skip);rename_i h1 h2;cases hc;exact⟨.num,.inr ⟨rfl,λe=>h1 e,λe=>h2 e⟩,rfl,hl⟩
  .cases hc
 obtain⟨q,hq,rfl,hl⟩:=key;obtain⟨u,v,rfl,h1,h2⟩:=Sp hl hF hx;simp only[av.run,fQ]at hr;split at hr<;>first|(cases hr;done)|skip
 rename_i r hb;simp only[H0]at hr;subst hr;obtain⟨z,hz,hv⟩:=aeF hT hq h1 h2 hb x y (w:=w);refine .pure ?_ hv;simp only[execOp,ho];rw[Sem.run_bind,hz];rfl
theorem aeI(op:UnOp)(t:TypeId)(x:Operand):dI P tt (.unOp op t x):=by
 intro ρ C st w k xs cls fr a o vs res ho hc hW hF hx hr;simp only[gP]at hc;split at hc<;>first|(cases hc;done)|skip
 rename_i b hb;cases hc;obtain⟨v,rfl,hv⟩:=fM hb hF hx;simp only[av.run,aaR]at hr;split at hr<;>first|(cases hr;done)|skip
 rename_i r hu;simp only[H0]at hr;subst hr;unfold unA at hu;split at hu
 . (split at hu<;>first|(cases hu;done)|skip);simp only[H0]at hu;subst hu;exact .pure (by simp[execOp,ho,hv.iD,Op.unary]) (.bool _)
 . (split at hu<;>first|(cases hu;done)|skip);simp only[H0]at hu;subst hu;exact .pure (by simp[execOp,ho,hv.iI,Op.unary,Op.intArith];rfl) (by rw[qJ];simpa using aq.int _ _)
 .cases hu
theorem Wq(x:Operand):dI P tt (.nilCheck x):=by
 intro ρ C st w k xs cls fr a o vs res ho hc hW hF hx hr;simp only[gP]at hc;split at hc<;>first|(cases hc;done)|skip
 rename_i b hb;cases hc;obtain⟨v,rfl,hv⟩:=fM hb hF hx;simp only[av.run,Gh]at hr;split at hr<;>first|(cases hr;done)|skip
 all_goals simp only[H0]at hr;subst hr
 .obtain⟨_,he⟩:=hv.fR;exact .pure (by simp[execOp,ho,he]) hv
 .obtain⟨_,_,_,_,he,_⟩:=hv.Hj;exact .pure (by simp[execOp,ho,he]) hv
 .obtain⟨_,_,he,_⟩:=hv.DC;exact .pure (by simp[execOp,ho,he]) hv
theorem Zj(x:Operand)(i:Nat):dI P tt (.extract x i):=by
 intro ρ C st w k xs cls fr a o vs res ho hc hW hF hx hr;simp only[gP]at hc;split at hc<;>first|(cases hc;done)|skip
 rename_i b hb;cases hc;obtain⟨v,rfl,hv⟩:=fM hb hF hx;simp only[av.run,C8]at hr;split at hr<;>first|(cases hr;done)|skip
 split at hr<;>first|(cases hr;done)|skip
 rename_i u hu;simp only[H0]at hr;subst hr;obtain⟨cs,he,hs⟩:=hv.TQ;rw[mC]at hu;obtain⟨y,hy,DG⟩:=hs.get hu;exact .pure (by simp at hy;simp[execOp,ho,he,Instr.extract,hy]) DG
theorem Zk(hT:bZ P tt)(t:TypeId)(x:Operand):dI P tt (.makeInterface t x):=by
 intro ρ C st w k xs cls fr a o vs res ho hc hW hF hx hr;simp only[gP]at hc;split at hc<;>first|(cases hc;done)|skip
 rename_i ti b cV hb;split at hc<;>first|(cases hc;done)|skip
 rename_i h1 h2;cases hc;obtain⟨v,rfl,hv⟩:=fM hb hF hx;simp only[av.run,Iy,H0]at hr;subst hr;obtain⟨d,hd,hk⟩:=(hT.at cV).und;refine .pure (x:= .iface t (a.eval x)) ?_ (.iface _ _ _ hv);have hni:∀ms,d≠ .interface ms:=by
  rintro ms rfl;cases Cy:ti.k<;>rw[Cy]at hk<;>first|(simp[bL]at hk;done)|(exact h1 Cy)|(exact h2 Cy)
 simp only[execOp,ho,Instr.makeInterface,Sem.run_bind,aN hd,Result.andThen_ok];cases d<;>first|rfl|(exact absurd rfl (hni _))
theorem aaY(fn:Fn)(first captured:Array Operand):dI P tt (.makeFunc fn first captured):=by
 intro ρ C st w k xs cls fr a o vs res ho hc hW hF hx hr;simp only[gP]at hc;split at hc<;>first|(cases hc;done)|skip
 rename_i f l hl;cases hc;have h:=eP hl hF hx;simp only[av.run,Fa,H0]at hr;subst hr;have e1:vs.take first.size=vs.take first.size:=rfl
 have h1:=h.take first.size
 have h2:=h.drop first.size
 simp only[Ze4]at h1 h2;rw[Zk9 (by simp)]at h1;rw[List.drop_left' (by simp)]at h2;refine .pure (x:= .func (.func f) (first.map a.eval) (captured.map a.eval)) (by simp[execOp,ho,Instr.makeFunc]) ?_;exact .func _ _ _ _ _ (by simpa using h1.1) (by simpa using h2.1) (λi v v' hv DH=>h1.2 i v v' hv (by simpa using DH)) (λi v v' hv DH=>h2.2 i v v' hv (by simpa using DH))
theorem Vh(hT:bZ P tt)(t:TypeId)(x:Operand)(f:Nat):dI P tt (.fieldAddr t x f):=by
 intro ρ C st w k xs cls fr a o vs res ho hc hW hF hx hr;simp only[gP]at hc;split at hc<;>first|(cases hc;done)|skip
 rename_i ti b cV hb;split at hc<;>first|(cases hc;done)|skip
 rename_i fs hk;split at hc<;>first|(cases hc;done)|skip
 rename_i off ft nm hf;split at hc<;>first|(cases hc;done)|skip
 rename_i fi ZS;split at hc<;>first|(cases hc;done)|skip
 rename_i e9;cases hc;obtain⟨v,rfl,hv⟩:=fM hb hF hx;obtain⟨d,hd,cF⟩:=(hT.at cV).und;rw[hk]at cF;obtain⟨gs,rfl,hm⟩:=Fh cF;obtain⟨g,hg,oh,Aa,_⟩:=II hm hf;simp only at oh Aa;obtain⟨i,hi,lM,_⟩:=(hT.at ZS).info;have hs0:¬i.size=0:=by rw[lM];exact Zc2 e9
 simp only[av.run,K8]at hr;split at hr<;>first|(cases hr;done)|skip
 .simp only[H0]at hr;subst hr;obtain⟨aO,he⟩:=hv.fR;refine .pure (x:= .pointer (some ⟨(ρ _).az,(ρ _).base+(_+off),none⟩)) ?_ (.ptr _ _ aO);simp at hg;simp[execOp,ho,he,Instr.fieldAt,aN hd,hg,Instr.sureAddr,fieldPlace,Aa,iY hi,hs0,mD,oh,Zh3]
 .simp only[H0]at hr;subst hr;obtain⟨es,az,base,cell,he,h1,h2,h3⟩:=hv.Hj;rename_i vR i' j';refine .pure (x:= .pointer (some ⟨az,base+i'*es+(j'+off),none⟩)) ?_ (.fp _ _ _ es az base cell h1 h2 h3);simp at hg;simp[execOp,ho,he,Instr.fieldAt,aN hd,hg,Instr.sureAddr,fieldPlace,Aa,iY hi,hs0,mD,oh,Zh3]
theorem j4{ρ:Pos->Loc}{n:Nat}{C:Cells}{v:AV}{x:Value}{i:Nat}(h:aq ρ n C v x)(hi:tV v=some i):∃k,x= .int k (i:Int):=by
 unfold tV at hi;split at hi<;>first|(cases hi;done)|skip
 split at hi<;>first|(cases hi;done)|skip
 simp only[H0]at hi;subst hi;exact⟨_,h.iI⟩
theorem Vi(hT:bZ P tt)(t:TypeId)(x ix:Operand):dI P tt (.indexAddr t x ix):=by
 intro ρ C st w k xs cls fr a o vs res ho hc hW hF hx hr;simp only[gP]at hc;split at hc<;>first|(cases hc;done)|skip
 rename_i ti l cV hl;obtain⟨d,hd,cF⟩:=(hT.at cV).und;obtain⟨u,v,rfl,h1,h2⟩:=Sp hl hF (by
   split at hc<;>first|(cases hc;done)|skip
   all_goals
     (split at hc<;>first|(cases hc;done)|skip);cases hc;exact hx)
 split at hc<;>first|(cases hc;done)|skip
 . rename_i e hk;rw[hk]at cF;rw[m9 cF]at hd;(split at hc<;>first|(cases hc;done)|skip);rename_i te fU;cases hc;obtain⟨i0,mO,lM,_⟩:=(hT.at fU).info;simp only[av.run,mS]at hr;(split at hr<;>first|(cases hr;done)|skip);rename_i i hi;obtain⟨kk,Fk⟩:=j4 h2 hi;split at hr<;>first|(cases hr;done)|skip
   .rename_i b off len cap es' _;(split at hr<;>first|(cases hr;done)|skip);rename_i aO;have aO:i<len:=(by simpa using aO);simp only[H0]at hr;subst hr;obtain⟨aa,aM,he,hle,_,ha⟩:=h1.dX;obtain⟨hb,rfl,_⟩:=ha (by omega);refine .pure (x:= .pointer (some ⟨(ρ b).az,(ρ b).base+(off+i*te.size),none⟩)) ?_ (.ptr _ _ hb);simp[execOp,ho,he,Fk,Instr.indexAt,aN hd,asIntOf,aO,iY mO,mD,lM,Zh3]
   .rename_i vR es' _;(split at hr<;>first|(cases hr;done)|skip);rename_i aO ee;have aO:i<vR.length:=(by simpa using aO);have ee:te.size=es':=Za2 ee;simp only[H0]at hr;subst hr;obtain⟨aa,aM,cell,he,hle,yy,g1,g2,g3⟩:=h1.tY;have yy:=yy (by intro e;rw[e]at aO;simp at aO);obtain⟨ab,ao,asp⟩:=aa;simp only at yy;subst yy;refine .pure (x:= .pointer (some ⟨ab,ao+i*es'+0,none⟩)) ?_ (.fp _ _ _ es' ab ao cell g1 g2 g3);simp[execOp,ho,he,Fk,Instr.indexAt,aN hd,asIntOf,aO,iY mO,mD,lM,ee]
   .rename_i hh;cases hh
 . rename_i m e hk;rw[hk]at cF;rw[Wm cF]at hd;(split at hc<;>first|(cases hc;done)|skip);rename_i te fU;cases hc;obtain⟨i0,mO,lM,_⟩:=(hT.at fU).info;simp only[av.run,mS]at hr;(split at hr<;>first|(cases hr;done)|skip);rename_i i hi;obtain⟨kk,Fk⟩:=j4 h2 hi;split at hr<;>first|(cases hr;done)|skip
   .rename_i hh;cases hh
   .rename_i hh;cases hh
   .rename_i m' b off hh;cases hh;(split at hr<;>first|(cases hr;done)|skip);rename_i aO;have aO:i<m:=(by simpa using aO);simp only[H0]at hr;subst hr;obtain⟨hb,he⟩:=h1.fR;refine .pure (x:= .pointer (some ⟨(ρ b).az,(ρ b).base+(off+i*te.size),none⟩)) ?_ (.ptr _ _ hb);simp[execOp,ho,he,Fk,Instr.indexAt,aN hd,asIntOf,aO,iY mO,mD,lM,Zh3,Instr.sureAddr]
end
section
variable{P:Program}{tt:TT}
theorem acH(hT:bZ P tt)(t:TypeId)(x:Operand)(f:Nat):dI P tt (.field t x f):=by
 intro ρ C st w k xs cls fr a o vs res ho hc hW hF hx hr;simp only[gP]at hc;split at hc<;>first|(cases hc;done)|skip
 rename_i ti b cV hb;split at hc<;>first|(cases hc;done)|skip
 rename_i fs hk;split at hc<;>first|(cases hc;done)|skip
 rename_i off ft nm hf;split at hc<;>first|(cases hc;done)|skip
 rename_i fi ZS;cases hc;obtain⟨v,rfl,hv⟩:=fM hb hF hx;obtain⟨d,hd,cF⟩:=(hT.at cV).und;rw[hk]at cF;obtain⟨gs,rfl,hm⟩:=Fh cF;obtain⟨g,hg,oh,Aa,_⟩:=II hm hf;simp only at oh Aa;obtain⟨i,hi,lM,_⟩:=(hT.at ZS).info;obtain⟨fd,hfd,hfk⟩:=(hT.at ZS).und;have pF:=Pa hfk w hfd;simp only[av.run,O5]at hr;split at hr<;>first|(cases hr;done)|skip
 rename_i cs;obtain⟨cx,he,hs⟩:=hv.Dp;simp at hg;split at hr
 . rename_i hn;(split at hr<;>first|(cases hr;done)|skip);rename_i u hu;simp only[H0]at hr;subst hr;rw[mC]at hu;obtain⟨y,hy,DG⟩:=hs.get hu;have aaZ:fi.k.isAgg=false:=by
     unfold yu at hn;split at hn
     .cases hn
     .assumption
   rw[aaZ]at pF;refine .pure (x:=y) ?_ DG;simp at hy;simp[execOp,ho,he,Instr.field,aN hd,hg,part,Aa,pF,asAgg,oh,hy]
 . rename_i m hn;simp only[H0]at hr;subst hr;have aaZ:fi.k.isAgg=true/\m=fi.size:=by
     unfold yu at hn;split at hn
     .cases hn;exact⟨by assumption,rfl⟩
     .cases hn
   rw[aaZ.1]at pF;refine .pure (x:= .agg (cx.extract off (off+m))) ?_ (.DB ?_)
   .simp[execOp,ho,he,Instr.field,aN hd,hg,part,Aa,pF,asAgg,oh,iY hi,lM,aaZ.2]
   .have:=(hs.drop off).take m;simpa [Zp0,List.extract]using this
theorem acI(hT:bZ P tt)(t:TypeId)(x ix:Operand):dI P tt (.index t x ix):=by
 intro ρ C st w k xs cls fr a o vs res ho hc hW hF hx hr;simp only[gP]at hc;split at hc<;>first|(cases hc;done)|skip
 rename_i ti l cV hl;split at hc<;>first|(cases hc;done)|skip
 rename_i hk;cases hc;obtain⟨u,v,rfl,h1,h2⟩:=Sp hl hF hx;obtain⟨d,hd,cF⟩:=(hT.at cV).und;rw[hk]at cF;rw[mN cF]at hd;simp only[av.run,Ni]at hr;split at hr<;>first|(cases hr;done)|skip
 rename_i s i hi;split at hr<;>first|(cases hr;done)|skip
 rename_i c hcx;simp only[H0]at hr;subst hr;obtain⟨bs,he,hs⟩:=h1.eR;obtain⟨kk,Fk⟩:=j4 h2 hi;rw[mC, <-hs,Zb6]at hcx;obtain⟨b,hb,hbc⟩:=Zd0.1 hcx;have jO:bs[i]? =some b:=by
  obtain⟨aO,kR⟩:=Za1.1 hb;have IJ:i<bs.size:=by rw[Zg3]at aO;exact aO
  rw[getElem?_pos bs i IJ];congr 1
 refine .pure (x:= .int .u8 (.ofNat c)) ?_ (.int _ _);simp[execOp,ho,he,Fk,Instr.index,aN hd,asIntOf,jO, <-hbc]
theorem aeJ(hT:bZ P tt)(t:TypeId)(x:Operand):dI P tt (.load t x):=by
 intro ρ C st w k xs cls fr a o vs res ho hc hW hF hx hr;simp only[gP]at hc;split at hc<;>first|(cases hc;done)|skip
 rename_i ti b cV hb;cases hc;obtain⟨v,rfl,hv⟩:=fM hb hF hx;obtain⟨d,hd,cF⟩:=(hT.at cV).und;obtain⟨i,hi,lM,_⟩:=(hT.at cV).info;have pF:=Pa cF w hd;have hn:(yu ti=none/\ti.k.isAgg=false)\/(yu ti=some ti.size/\ti.k.isAgg=true):=by unfold yu;split<;>simp_all
 simp only[av.run,uP]at hr;split at hr<;>first|(cases hr;done)|skip
 . rename_i bb off;(split at hr<;>first|(cases hr;done)|skip);rename_i cs fz kR;obtain⟨_,he⟩:=hv.fR;rcases hn with⟨hn,hf⟩|⟨hn,hf⟩
   .rw[hn]at hr;rw[hf]at pF;simp only at hr;(split at hr<;>first|(cases hr;done)|skip);rename_i u hu;simp only[H0]at hr;subst hr;rw[mC]at hu;obtain⟨y,hy,DG⟩:=hW.cell kR hu;refine .pure (x:=y) ?_ DG;simp[execOp,ho,he,Instr.loadAt,Instr.sureAddr,loadVar,pF,hy]
   .rw[hn]at hr;rw[hf]at pF;simp only at hr;(split at hr<;>first|(cases hr;done)|skip);rename_i us hu;simp only[H0]at hr;subst hr;obtain⟨ys,hy,DG⟩:=hW.loadCells (P:=P) kR hu;refine .pure (x:= .agg ys.toArray) ?_ (.DB (by simpa using DG));simp[execOp,ho,he,Instr.loadAt,Instr.sureAddr,loadVar,pF,iY hi,lM,hy]
   rename_i tt0 cs kR;obtain⟨_,he⟩:=hv.fR;rcases hn with⟨hn,hf⟩|⟨hn,hf⟩
   .rw[hn]at hr;rw[hf]at pF;simp only at hr;(split at hr<;>first|(cases hr;done)|skip);rename_i u hu;simp only[H0]at hr;subst hr;rw[mC]at hu;obtain⟨y,hy,DG⟩:=hW.aiN kR hu;refine .pure (x:=y) ?_ DG;simp[execOp,ho,he,Instr.loadAt,Instr.sureAddr,loadVar,pF,hy]
   .rw[hn]at hr;rw[hf]at pF;simp only at hr;(split at hr<;>first|(cases hr;done)|skip);rename_i us hu;simp only[H0]at hr;subst hr;obtain⟨ys,hy,DG⟩:=hW.Qx (P:=P) kR hu;refine .pure (x:= .agg ys.toArray) ?_ (.DB (by simpa using DG));simp[execOp,ho,he,Instr.loadAt,Instr.sureAddr,loadVar,pF,iY hi,lM,hy]
 . rename_i vR i' j';(split at hr<;>first|(cases hr;done)|skip);rename_i cs gy;rw[mC]at gy;obtain⟨es,az,base,cell,he,g1,g2,g3⟩:=hv.Hj;rcases hn with⟨hn,hf⟩|⟨hn,hf⟩
   .rw[hn]at hr;rw[hf]at pF;simp only at hr;(split at hr<;>first|(cases hr;done)|skip);rename_i u hu;simp only[H0]at hr;subst hr;rw[mC]at hu;have Fi:=(hW.ej _ _ (g2 _ _ _ _ gy hu)).1;refine .pure (x:=cell i' j') ?_ (g3 _ _ _ _ gy hu);simp[execOp,ho,he,Instr.loadAt,Instr.sureAddr,loadVar,pF,Fi]
   . rw[hn]at hr;rw[hf]at pF;simp only at hr;(split at hr<;>first|(cases hr;done)|skip);rename_i us hu;simp only[H0]at hr;subst hr;obtain⟨hus,hle⟩:=DE hu;have hlen:=uR hu;have cq:(loadCells ⟨az,base+i'*es+j',none⟩ ti.size).run P w= .ok ((List.range ti.size).map λq=>cell i' (j'+q)).toArray w:=by
        (refine run_loadCells w _ _ _ λq hq=> ?_);rw[mD];have:cs[j'+q]? =some (cs[j'+q]'(by omega)):=H4 (by omega);rw[Zh3];exact(hW.ej _ _ (g2 _ _ _ _ gy this)).1
     refine .pure (x:= .agg ((List.range ti.size).map λq=>cell i' (j'+q)).toArray) ?_ (.DB ⟨by simp[hlen],λq u y hu' hy=> ?_⟩)
     .  simp[execOp,ho,he,Instr.loadAt,Instr.sureAddr,loadVar,pF,iY hi,lM,cq]
     .  have hq:q<ti.size:=(by rw[<-hlen];exact(Za1.1 hu').1);rw[hus,Zc4,Za9 hq,Zd2]at hu';simp[hq]at hy;subst hy;exact g3 _ _ _ _ gy hu'
theorem aeK{x y:Value}{ρ:Pos->Loc}{n:Nat}{C:Cells}{u v r:AV}{w:World}{st:St}(h1:aq ρ n C u x)(h2:aq ρ n C v y)(hr:Dm (λb=>st.heap.get b) st.next [u,v]=some (.val r)):
   ∃z,(Builtin.min2 x y).run P w= .ok z w/\aq ρ n C r z:=by
 simp only[Dm]at hr;split at hr<;>first|(cases hr;done)|skip
 . simp only[H0,cO.val.injEq]at hr;subst hr;rw[h1.iI,h2.iI];refine⟨_,rfl,?_⟩;rw[ek];split
   .rename_i h;rw[Za9 (Zh9 h)];exact .int _ _
   .rename_i h;rw[Za3 (Zn2 h)];exact .int _ _
 . simp only[H0,cO.val.injEq]at hr;subst hr;rename_i sa sb;obtain⟨bx,rfl,e1⟩:=h1.eR;obtain⟨bz,rfl,e2⟩:=h2.eR;have hh:(Op.stringOp .leq bx bz).run P w= .ok (.bool (aC sa sb||jw sa sb)) w:=by
     simp only[Op.stringOp,Sem.run_pure];rw[Pb e1 e2,Ho e1 e2]
   refine⟨_,by simp only[Builtin.min2,Sem.run_bind,hh,Result.andThen_ok,asBool,Sem.run_pure];rfl,?_⟩;split
   .rename_i h;rw[Za9 h];exact .str _ _ e1
   .rename_i h;rw[Za3 (by rw[h];simp)];exact .str _ _ e2
theorem aeL{x y:Value}{ρ:Pos->Loc}{n:Nat}{C:Cells}{u v r:AV}{w:World}{st:St}(h1:aq ρ n C u x)(h2:aq ρ n C v y)(hr:Dn (λb=>st.heap.get b) st.next [u,v]=some (.val r)):
   ∃z,(Builtin.max2 x y).run P w= .ok z w/\aq ρ n C r z:=by
 simp only[Dn]at hr;split at hr<;>first|(cases hr;done)|skip
 . simp only[H0,cO.val.injEq]at hr;subst hr;rw[h1.iI,h2.iI];refine⟨_,rfl,?_⟩;rw[ek];split
   .rename_i h;rw[Za9 (Zh9 h)];exact .int _ _
   .rename_i h;rw[Za3 (Zn2 h)];exact .int _ _
 . simp only[H0,cO.val.injEq]at hr;subst hr;rename_i sa sb;obtain⟨bx,rfl,e1⟩:=h1.eR;obtain⟨bz,rfl,e2⟩:=h2.eR;have hh:(Op.stringOp .geq bx bz).run P w= .ok (.bool (!aC sa sb)) w:=by
     simp only[Op.stringOp,Sem.run_pure];rw[Pb e1 e2]
   refine⟨_,by simp only[Builtin.max2,Sem.run_bind,hh,Result.andThen_ok,asBool,Sem.run_pure];rfl,?_⟩;split
   .rename_i h;rw[Za3 (by rw[h];simp)];exact .str _ _ e2
   .rename_i h;rw[Za9 (by rw[h];rfl)];exact .str _ _ e1
theorem gW(xs:Array Operand)(a:Act):xs.toList.map a.eval=(xs.map a.eval).toList:=by simp
end
section
variable{P:Program}{tt:TT}
theorem vs1{ρ:Pos->Loc}{n:Nat}{C:Cells}{bs:List AV}{x:Value}(h:ay ρ n C bs [x]):∃b,bs=[b]/\aq ρ n C b x:=by
 match bs,h with
 |[b],h=>exact⟨b,rfl,h.2 0 b x rfl rfl⟩
 |[],h=>have:=h.1;simp at this
 |_::_::_,h=>have:=h.1;simp at this
theorem vs2{ρ:Pos->Loc}{n:Nat}{C:Cells}{bs:List AV}{x y:Value}(h:ay ρ n C bs [x,y]):∃b c,bs=[b,c]/\aq ρ n C b x/\aq ρ n C c y:=by
 match bs,h with
 |[b,c],h=>exact⟨b,c,rfl,h.2 0 b x rfl rfl,h.2 1 c y rfl rfl⟩
 |[],h=>have:=h.1;simp at this
 |[_],h=>have:=h.1;simp at this
 |_::_::_::_,h=>have:=h.1;simp at this
theorem vs3{ρ:Pos->Loc}{n:Nat}{C:Cells}{bs:List AV}{x y z:Value}(h:ay ρ n C bs [x,y,z]):∃b c d,bs=[b,c,d]/\aq ρ n C b x/\aq ρ n C c y/\aq ρ n C d z:=by
 match bs,h with
 |[b,c,d],h=>exact⟨b,c,d,rfl,h.2 0 b x rfl rfl,h.2 1 c y rfl rfl,h.2 2 d z rfl rfl⟩
 |[],h=>have:=h.1;simp at this
 |[_],h=>have:=h.1;simp at this
 |[_,_],h=>have:=h.1;simp at this
 |_::_::_::_::_,h=>have:=h.1;simp at this
def DI(x:Option Value)(i:Option Nat):Prop:=(x=none/\i=none)\/∃j k,i=some j/\x=some (.int k (j:Int))
theorem QB{ρ:Pos->Loc}{n:Nat}{C:Cells}{lo hi mx:Option Operand}{bs:List AV}{a:Act}{l h m:Option Nat}
   (hb:ay ρ n C bs ((yw lo++yw hi++yw mx).map a.eval)) (hr:bounds lo.isSome hi.isSome mx.isSome bs=some (l,h,m)):
   DI (lo.map a.eval) l/\DI (hi.map a.eval) h/\DI (mx.map a.eval) m/\(m.isSome=true->h.isSome=true):=by
 unfold bounds at hr
 cases lo<;>cases hi<;>cases mx<;>simp only[Zp6,Option.isSome_none,yw,Zf0,Zf7,Zf2,Zb8,Zf8]at hb hr<;>
   first|(cases hr;done)|skip
 . cases bs with
   |cons b bs=>have:=hb.1;simp at this
   |nil=>simp at hr;obtain⟨rfl,rfl,rfl⟩:=hr;exact⟨.inl ⟨rfl,rfl⟩,.inl ⟨rfl,rfl⟩,.inl ⟨rfl,rfl⟩,λh=>by cases h⟩
 .obtain⟨b,rfl,h1⟩:=vs1 hb;simp only at hr;(split at hr<;>first|(cases hr;done)|skip);rename_i j hj;obtain⟨k,hk⟩:=j4 h1 hj;simp at hr;obtain⟨rfl,rfl,rfl⟩:=hr;exact⟨.inl ⟨rfl,rfl⟩,.inr ⟨j,k,rfl,by simp[hk]⟩,.inl ⟨rfl,rfl⟩,λh=>by cases h⟩
 .obtain⟨b,c,rfl,h1,h2⟩:=vs2 hb;simp only at hr;(split at hr<;>first|(cases hr;done)|skip);rename_i j j' hj Bn;obtain⟨k,hk⟩:=j4 h1 hj;obtain⟨k',lW⟩:=j4 h2 Bn;simp at hr;obtain⟨rfl,rfl,rfl⟩:=hr;exact⟨.inl ⟨rfl,rfl⟩,.inr ⟨j,k,rfl,by simp[hk]⟩,.inr ⟨j',k',rfl,by simp[lW]⟩,λ_=>rfl⟩
 .obtain⟨b,rfl,h1⟩:=vs1 hb;simp only at hr;(split at hr<;>first|(cases hr;done)|skip);rename_i j hj;obtain⟨k,hk⟩:=j4 h1 hj;simp at hr;obtain⟨rfl,rfl,rfl⟩:=hr;exact⟨.inr ⟨j,k,rfl,by simp[hk]⟩,.inl ⟨rfl,rfl⟩,.inl ⟨rfl,rfl⟩,λh=>by cases h⟩
 .obtain⟨b,c,rfl,h1,h2⟩:=vs2 hb;simp only at hr;(split at hr<;>first|(cases hr;done)|skip);rename_i j j' hj Bn;obtain⟨k,hk⟩:=j4 h1 hj;obtain⟨k',lW⟩:=j4 h2 Bn;simp at hr;obtain⟨rfl,rfl,rfl⟩:=hr;exact⟨.inr ⟨j,k,rfl,by simp[hk]⟩,.inr ⟨j',k',rfl,by simp[lW]⟩,.inl ⟨rfl,rfl⟩,λh=>by cases h⟩
 .obtain⟨b,c,d,rfl,h1,h2,h3⟩:=vs3 hb;simp only at hr;(split at hr<;>first|(cases hr;done)|skip);rename_i j j' j'' hj Bn hj'';obtain⟨k,hk⟩:=j4 h1 hj;obtain⟨k',lW⟩:=j4 h2 Bn;obtain⟨k'',hk''⟩:=j4 h3 hj'';simp at hr;obtain⟨rfl,rfl,rfl⟩:=hr;exact⟨.inr ⟨j,k,rfl,by simp[hk]⟩,.inr ⟨j',k',rfl,by simp[lW]⟩,.inr ⟨j'',k'',rfl,by simp[hk'']⟩,λ_=>rfl⟩
theorem Ab(isS:Bool){len cap:Nat}{xl xh xm:Option Value}{l h m:Option Nat}(h1:DI xl l)(h2:DI xh h)(h3:DI xm m)(hmh:m.isSome=true->h.isSome=true)
  (Hp:l.getD 0<=h.getD len) (hhm:h.getD len<=m.getD cap) (hmc:m.getD cap<=cap) (w:World):
  (Instr.sliceBounds isS len cap xl xh xm).run P w= .ok (l.getD 0,h.getD len,m.getD cap) w:=by
 rcases h1 with⟨rfl,rfl⟩|⟨jl,kl,rfl,rfl⟩<;>rcases h2 with⟨rfl,rfl⟩|⟨jh,kh,rfl,rfl⟩<;>rcases h3 with⟨rfl,rfl⟩|⟨jm,km,rfl,rfl⟩<;>
  simp only[Zi8,Zf5,Zp6,Option.isSome_none]at Hp hhm hmc hmh ⊢ <;>
  first
   |(simp at hmh;done)
   |simp[Instr.sliceBounds,Instr.sliceBound,asIntOf,Hp,hhm,hmc,Int.ofNat_le]
theorem Fl{ρ:Pos->Loc}{n:Nat}{C:Cells}{b:Pos}{off es aM l h M:Nat}{aa:Addr}{aa0:Option Nat}
   (ha:aM≠0->b.toNat<n/\aa=⟨(ρ b).az,(ρ b).base+off,none⟩/\(ρ b).base+off+aM*es<=(ρ b).size)
   (h1:l<=h) (h2:h<=M) (h3:M<=aM) (hc:∀c,aa0=some c->c=M - l) (hk:aa0=none->b.toNat<n):
   aq ρ n C (.slice b (off+l*es) (h - l) aa0 es) (.slice (if M=l then some aa else(some aa).map (·.add (l*es))) (h - l) (M - l)):=by
 by_cases hm:M=l
 .rw[Za9 hm];exact .slice _ _ _ _ _ _ _ (by omega) hc (λh0=>absurd (by omega) h0) hk
 .rw[Za3 hm];obtain⟨hb,rfl,hle⟩:=ha (by omega);refine .slice _ _ _ _ _ _ _ (by omega) hc (λ_=>⟨hb,by show Addr.add _ _=_;rw[mD,Zh3],?_⟩) hk;have e1:l*es+(M - l)*es=M*es:=(by rw[<-Zj9];congr 1;omega);have e2:M*es<=aM*es:=Zh4 _ h3;omega
theorem acJ(hT:bZ P tt)(t:TypeId)(x:Operand)(lo hi mx:Option Operand):dI P tt (.slice t x lo hi mx):=by
 intro ρ C st w k xs cls fr a o vs res ho hc hW hF hx hr;simp only[gP]at hc;split at hc<;>first|(cases hc;done)|skip
 rename_i ti l0 cV hl;obtain⟨d,hd,cF⟩:=(hT.at cV).und;split at hc<;>first|(cases hc;done)|skip
 . rename_i hk;rw[hk]at cF;rw[mN cF]at hd;(split at hc<;>first|(cases hc;done)|skip);cases hc;have hv:=eP hl hF hx;simp only[yw,Zf7,Zf2,Zf0,Zb8]at hv;simp only[av.run,ql]at hr;(split at hr<;>first|(cases hr;done)|skip);rename_i u bs;(split at hr<;>first|(cases hr;done)|skip);rename_i s l h m' hb;(split at hr<;>first|(cases hr;done)|skip);rename_i h1 h2;have h1:=Za6 h1;have h2:=Za6 h2;simp only[H0]at hr;subst hr;obtain⟨y,ys,DA,hu,Ac⟩:=hv.cons_inv;simp only[Zh2]at DA;obtain⟨rfl,rfl⟩:=DA;have kR:=QB (lo:=lo) (hi:=hi) (mx:=none) (a:=a) (by simpa [yw]using Ac) hb;obtain⟨bs',he,hs⟩:=hu.eR;have e9:=wW hs
   have cq:=Ab (P:=P) false (len:=bs'.size) (cap:=bs'.size) kR.1 kR.2.1 (.inl ⟨rfl,rfl⟩:DI none none) (λh=>by cases h)
     (by rw[e9];exact h1) (by rw[e9];simpa using h2) (by simp) w
   refine .pure (x:= .string (bs'.extract (l.getD 0) (h.getD bs'.size))) ?_ (.str _ _ ?_)
   .simp only[execOp,ho,Instr.sliceAt,Sem.run_bind,aN hd,Result.andThen_ok,he,Instr.slice];simp[cq]
   .rw[e9,ByteArray.data_extract,Zp0, <-hs,List.extract,Zk3,List.map_drop];rw[List.drop_take]
 . rename_i e hk;rw[hk]at cF;rw[m9 cF]at hd;(split at hc<;>first|(cases hc;done)|skip);rename_i te fU;cases hc;obtain⟨i0,mO,lM,_⟩:=(hT.at fU).info;have hv:=eP hl hF hx;simp only[Zf2,Zf0,Zg6,Zb8]at hv;simp only[av.run,lS]at hr;(split at hr<;>first|(cases hr;done)|skip);rename_i u bs;obtain⟨y,ys,DA,hu,Ac⟩:=hv.cons_inv;simp only[Zh2]at DA;obtain⟨rfl,rfl⟩:=DA
   have oh:∀(sa:Option Addr)(len cap:Nat)(l h m:Option Nat),a.eval x= .slice sa len cap->bounds lo.isSome hi.isSome mx.isSome bs=some (l,h,m)->
        l.getD 0<=h.getD len->h.getD len<=m.getD cap->m.getD cap<=cap->
        (execOp a.eval o).run P w= .ok (.value (.slice (if m.getD cap=l.getD 0 then sa else sa.map (·.add (l.getD 0*te.size))) (h.getD len - l.getD 0) (m.getD cap - l.getD 0))) w:=by
     intro sa len cap l h m he hb h1 h2 h3;have kR:=QB (lo:=lo) (hi:=hi) (mx:=mx) (a:=a) (by simpa [Zg6]using Ac) hb;have cq:=Ab (P:=P) true (len:=len) (cap:=cap) kR.1 kR.2.1 kR.2.2.1 kR.2.2.2 h1 h2 h3 w;simp only[execOp,ho,Instr.sliceAt,Sem.run_bind,aN hd,Result.andThen_ok,he,Instr.slice,cq,iY mO,lM,Sem.run_pure]
   split at hr<;>first|(cases hr;done)|skip
   ·
     rename_i b off len cap es' l h m hb;(split at hr<;>first|(cases hr;done)|skip);rename_i ee Hp;have ee:te.size=es':=Za2 ee;subst ee;have Hp:=Za6 Hp;obtain⟨aa,aM,he,hle,Sq,ha⟩:=hu.dX;split at hr
     .  rename_i c m';(split at hr<;>first|(cases hr;done)|skip);rename_i e1 e2;have e1:=Za6 e1;have e2:=Za6 e2;have:=Sq c rfl;subst this;simp only[H0]at hr;subst hr;exact .pure (oh _ _ _ _ _ _ he hb Hp (by simpa using e1) (by simpa using e2)) (Fl ha Hp e1 e2 (λc hc=>by cases hc;rfl) (λh=>by cases h))
     .  rename_i c;(split at hr<;>first|(cases hr;done)|skip);rename_i e1;have e1:=Za6 e1;have:=Sq c rfl;subst this;simp only[H0]at hr;subst hr;exact .pure (oh _ _ _ _ _ _ he hb Hp (by simpa using e1) (by simp)) (Fl ha Hp e1 (Za5 _) (λc hc=>by cases hc;rfl) (λh=>by cases h))
     .  rename_i m';(split at hr<;>first|(cases hr;done)|skip);rename_i e1 e2;have e1:=Za6 e1;have e2:=Za6 e2;simp only[H0]at hr;subst hr;exact .pure (oh _ _ _ _ _ _ he hb Hp (by simpa using e1) (by simp;omega)) (Fl ha Hp e1 (by simp;omega) (λc hc=>by cases hc;rfl) (λh=>by cases h))
     .  (split at hr<;>first|(cases hr;done)|skip);rename_i e1;have e1:=Za6 e1;simp only[H0]at hr;subst hr;exact .pure (oh _ _ _ _ _ _ he hb Hp (by simp;omega) (by simp)) (Fl ha Hp (by simp;omega) (Za5 _) (λc hc=>by cases hc) (λ_=>hu.TW rfl))
   ·
     rename_i vR es' l h m hb;(split at hr<;>first|(cases hr;done)|skip);rename_i ee;have ee:te.size=es':=Za2 ee;subst ee;obtain⟨aa,aM,cell,he,hle,yy,g1,g2,g3⟩:=hu.tY;split at hr
     .  rename_i m';(split at hr<;>first|(cases hr;done)|skip);rename_i e0 e1 e2;have e0:=Za2 e0;have e1:=Za2 e1;have e2:=Za2 e2;subst e2;simp only[H0]at hr;subst hr;refine .pure (oh _ _ _ _ _ _ he hb (by omega) (by rw[e1];simp) (by simp)) ?_;simp only[e0,e1,Zf5,Zp4,Zh0];exact .slice _ _ _ _ _ _ _ (Za5 _) (λc hc=>by cases hc;rfl) (λh0=>absurd rfl h0) (λh=>by cases h)
     .  (split at hr<;>first|(cases hr;done)|skip);rename_i e0 e1;have e0:=Za6 e0;have e1:=Za6 e1;simp only[H0]at hr;subst hr;refine .pure (oh _ _ _ _ _ _ he hb e0 (by simp;omega) (by simp)) ?_;simp only[Zi8];have hlen:(List.drop (l.getD 0) (List.take (h.getD vR.length) vR)).length=h.getD vR.length - l.getD 0:=(by simp;omega);rw[<-hlen];have nO:∀i cs,(List.drop (l.getD 0) (List.take (h.getD vR.length) vR))[i]? =some cs->vR[l.getD 0+i]? =some cs:=by
          intro i cs hi;rw[Zd2,Zc4]at hi;split at hi
          .exact hi
          .cases hi
        by_cases TX:aM=l.getD 0
        .rw[Za9 TX];have hemp:List.drop (l.getD 0) (List.take (h.getD vR.length) vR)=[]:=(by apply Zb1;rw[hlen];omega);rw[hemp];exact .fl _ _ _ _ (λ_ _=>undef) (by simp) (λh=>absurd rfl h) (λi cs hi=>by simp at hi) (λi j cs v hi=>by simp at hi) (λi j cs v hi=>by simp at hi)
        . rw[Za3 TX];by_cases cL:vR=[]
          .subst cL;simp only[List.take_nil,List.drop_nil];exact .fl _ _ _ _ (λ_ _=>undef) (by simp) (λh=>absurd rfl h) (λi cs hi=>by simp at hi) (λi j cs v hi=>by simp at hi) (λi j cs v hi=>by simp at hi)
          .have yy:=yy cL;obtain⟨ab,ao,asp⟩:=aa;simp only at yy;subst yy;simp only[Zf1,mD];refine .fl _ _ _ _ (λi j=>cell (l.getD 0+i) j) (by rw[hlen];omega) (λ_=>rfl) (λi cs hi=>g1 _ _ (nO i cs hi)) (λi j cs v hi hj=> ?_) (λi j cs v hi hj=>g3 _ _ _ _ (nO i cs hi) hj);have:=g2 _ _ _ _ (nO i cs hi) hj;simp only at this ⊢;rw[<-this];congr 2;rw[Zj9];omega
   ·
     rename_i l h m hb;(split at hr<;>first|(cases hr;done)|skip);rename_i e0 e1 e2;have e0:=Za2 e0;have e1:=Za2 e1;have e2:=Za2 e2;simp only[H0]at hr;subst hr;have he:=hu.fZ;refine .pure (oh _ _ _ _ _ _ he hb (by omega) (by omega) (by omega)) ?_;simp only[e0,e1,e2,Zp4,Zh0];exact .ah
end
section
variable{P:Program}{tt:TT}
theorem Gk{ρ:Pos->Loc}{n:Nat}{C:Cells}:∀{l:List AV}{s:List Nat}{ys:List Value},bytesOf l=some s->ay ρ n C l ys->
  ys=(s.map Int.ofNat).map (Value.int .u8)/\∀c,c∈s->c<256
 |[],s,ys,h,hv=>by
  simp[bytesOf]at h;subst h;exact⟨by simpa using hv.mU,λc hc=>by simp at hc⟩
 |v ::l,s,ys,h,hv=>by
  unfold bytesOf at h;split at h<;>first|(cases h;done)|skip
  .rename_i h0;simp at h0
  . rename_i c l' he;simp only[Zh2]at he;obtain⟨rfl,rfl⟩:=he;(split at h<;>first|(cases h;done)|skip);rename_i s' aO nc;simp only[H0]at h;subst h;obtain⟨y,ys',rfl,h1,h2⟩:=hv.cons_inv;obtain⟨e,iE⟩:=Gk nc h2;have aO:c<256:=(by simpa using aO);refine⟨by rw[h1.iI,e];rfl,λc' hc=> ?_⟩;simp at hc;rcases hc with rfl|hc
    .exact aO
    .exact iE _ hc
theorem Fm:∀(s:List Nat)(acc:ByteArray),((s.map Int.ofNat).foldl (λr n=>r.push (UInt8.ofNat n.toNat)) acc).data.toList=acc.data.toList++s.map UInt8.ofNat
 |[],acc=>by simp
 |c::s,acc=>by
  simp only[Zb8,Zp3];rw[Fm s];simp[ByteArray.push]
theorem Zl{P:Program}{e:TypeId}(hc:P.cellsOf e≠0)(count:Nat)(hn:1<=count):liesAt P P.depth e count 0 e 1=true:=by
 have hd:P.depth=(2*(P.types.size+Made.depth)+1)+1:=rfl;rw[hd];simp only[liesAt,Zi2];left;rw[hd];simp[rowAt,hc,hn,sameLayout]
theorem Zm(hT:bZ P tt)(src dst:TypeId)(x:Operand)(hnb:∀k xs cls,gP tt (.convert src dst x)=some (k,xs,cls)->k≠ .conv .bytes):dI P tt (.convert src dst x):=by
 intro ρ C st w k xs cls fr a o vs res ho hc hW hF hx hr;have hnb:=hnb _ _ _ hc;simp only[gP]at hc;split at hc<;>first|(cases hc;done)|skip
 rename_i s d b hs hd hb;obtain⟨ds,u7,Cz⟩:=(hT.at hs).und;obtain⟨dd,hdd,cF⟩:=(hT.at hd).und;split at hc<;>first|(cases hc;done)|skip
 . rename_i k1 k2 h1 h2;cases hc;obtain⟨v,rfl,hv⟩:=fM hb hF hx;rw[h1]at Cz;rw[h2]at cF;rw[Hh Cz]at u7;rw[Hh cF]at hdd;simp only[av.run,xA]at hr;split at hr<;>first|(cases hr;done)|(rename_i heq;cases heq;done)|(rename_i heq;cases heq)
   simp only[H0]at hr;subst hr;refine .pure ?_ (by rw[qJ];exact .int _ _);simp[execOp,ho,hv.iI,convert,aN u7,aN hdd,Conv.intToInt]
 . rename_i h1 h2;cases hc;obtain⟨v,rfl,hv⟩:=fM hb hF hx;rw[h1]at Cz;rw[h2]at cF;rw[mN Cz]at u7;rw[mN cF]at hdd;simp only[av.run,xA]at hr;split at hr<;>first|(cases hr;done)|(rename_i heq;cases heq;done)|(rename_i heq;cases heq)
   simp only[H0]at hr;subst hr;obtain⟨bs,he,hs⟩:=hv.eR;exact .pure (x:= .string bs) (by simp[execOp,ho,he,convert,aN u7,aN hdd]) (.str _ _ hs)
 . (split at hc<;>first|(cases hc;done)|skip);(split at hc<;>first|(cases hc;done)|skip);cases hc;exact absurd rfl hnb
 . rename_i e h1 h2;(split at hc<;>first|(cases hc;done)|skip);rename_i te fU;(split at hc<;>first|(cases hc;done)|skip);rename_i hk8;cases hc;obtain⟨v,rfl,hv⟩:=fM hb hF hx;rw[h1]at Cz;rw[h2]at cF;rw[m9 Cz]at u7;rw[mN cF]at hdd;obtain⟨de,hde,hke⟩:=(hT.at fU).und;rw[hk8]at hke;rw[Hh hke]at hde;have oh:∀y:Option Addr×Nat×Nat,a.eval x= .slice y.1 y.2.1 y.2.2->(execOp a.eval o).run P w=((Conv.bytesToString (a.eval x)).run P w).andThen λv w=>.ok (.value v) w:=by
     intro y he;simp[execOp,ho,he,convert,aN u7,aN hdd,aN hde]
   simp only[av.run,xA]at hr;split at hr<;>first|(cases hr;done)|(rename_i heq;cases heq;done)|(rename_i heq;cases heq)
   .simp only[H0]at hr;subst hr;have he:=hv.fZ;refine .pure (x:= .string .empty) ?_ (.str _ _ rfl);rw[oh (none,0,0) he,he];simp[Conv.bytesToString]
   . rename_i bb off m cap es;obtain⟨aa,aM,he,hle,_,ha⟩:=hv.dX;split at hr
     .  rename_i h0;have:=Za2 h0;subst this;simp only[H0]at hr;subst hr;refine .pure (x:= .string .empty) ?_ (.str _ _ rfl);rw[oh (some aa,0,aM) he,he];simp[Conv.bytesToString,loadCells,loadCellsFrom]
     .  (rename_i h0;have h0:=Zc2 h0;(split at hr<;>first|(cases hr;done)|skip);rename_i cs fz kR;(split at hr<;>first|(cases hr;done)|skip);rename_i l hcut;(split at hr<;>first|(cases hr;done)|skip);rename_i s' Wr;simp only[H0]at hr;subst hr;obtain⟨aO,rfl,_⟩:=ha (by omega);obtain⟨ys,DA,jq⟩:=hW.loadCells (P:=P) kR hcut;obtain⟨e1,e2⟩:=Gk Wr jq;rw[e1]at DA;have cq:=run_bytesToString (P:=P) w ⟨(ρ bb).az,(ρ bb).base+off,none⟩ m aM (s'.map Int.ofNat) DA;refine .pure (x:= .string _) (by rw[oh (some _,m,aM) he,he,cq];rfl) (.str _ _ ?_);rw[Fm,Ze4];have e0:ByteArray.empty.data.toList=[]:=rfl;rw[e0,Zf8,Zf0,Zh1];have e3:s'.map (UInt8.toNat∘UInt8.ofNat)=s'.map id:=Zk2 λc hc=>by have:=e2 c hc;simp only[Function.comp,id,UInt8.toNat_ofNat'];omega);rw[e3,Zr5]
 ·
   rename_i e h1 h2;(split at hc<;>first|(cases hc;done)|skip);rename_i te fU;(split at hc<;>first|(cases hc;done)|skip);rename_i e9;cases hc;obtain⟨v,rfl,hv⟩:=fM hb hF hx;rw[h1]at Cz;rw[h2]at cF;rw[Qw Cz]at u7;rw[acF cF]at hdd;obtain⟨i0,mO,lM,_⟩:=(hT.at fU).info;have e9:=Zc2 e9;simp only[av.run,K9]at hr;split at hr<;>first|(cases hr;done)|skip
   .simp only[H0]at hr;subst hr;refine .pure (x:= .pointer none) ?_ .fP;simp[execOp,ho,hv.qI,convert,aN u7,aN hdd,Conv.unsafePointer]
   .rename_i bb off;(split at hr<;>first|(cases hr;done)|skip);rename_i t0 cs kR;(split at hr<;>first|(cases hr;done)|skip);rename_i aO;have aO:off<cs.length:=(by simpa using aO);simp only[H0]at hr;subst hr;obtain⟨_,he⟩:=hv.fR;obtain⟨_,_,c,fr,g1,g2,g3,g4,g5,g6⟩:=hW.live _ _ kR;have Qn:w.shape? (ρ bb).az=some (t0,c.size):=(by simp[World.shape?,g1]);have:=Lib.run_to_unsafe (P:=P) (w:=w) (j:=i0) ⟨(ρ bb).az,(ρ bb).base+off,none⟩ u7 hdd mO (by rw[lM];exact e9) Qn (by show(ρ bb).base+off<c.size;omega);exact .pure (x:= .pointer (some ⟨(ρ bb).az,(ρ bb).base+off,none⟩)) (by simp[execOp,ho,he,this]) (he ▸hv)
 ·
   rename_i e h1 h2;(split at hc<;>first|(cases hc;done)|skip);rename_i te fU;(split at hc<;>first|(cases hc;done)|skip);rename_i e9;cases hc;obtain⟨v,rfl,hv⟩:=fM hb hF hx;rw[h1]at Cz;rw[h2]at cF;rw[acF Cz]at u7;rw[Qw cF]at hdd;obtain⟨i0,mO,lM,_⟩:=(hT.at fU).info;have e9:=Zc2 e9;simp only[av.run,Dy]at hr;split at hr<;>first|(cases hr;done)|skip
   .simp only[H0]at hr;subst hr;refine .pure (x:= .pointer none) ?_ .fP;simp[execOp,ho,hv.qI,convert,aN u7,aN hdd,Conv.unsafePointer]
   .rename_i bb;(split at hr<;>first|(cases hr;done)|skip);rename_i t0 cs kR;(split at hr<;>first|(cases hr;done)|skip);rename_i ht hle;have ht:=Za2 ht;have hle:=Za6 hle;subst ht;simp only[H0]at hr;subst hr;obtain⟨_,he⟩:=hv.fR;obtain⟨_,_,c,fr,g1,g2,g3,g4,g5,g6⟩:=hW.live _ _ kR;have Qn:w.shape? (ρ bb).az=some (t0,c.size):=(by simp[World.shape?,g1]);have Fi:P.cellsOf t0=te.size:=(by simp[Program.cellsOf,mO,lM]);have hone:1<=c.size / P.cellsOf t0:=(by rw[Fi,Nat.le_div_iff_mul_le (by omega)];omega);rw[Zg7]at he;have:=Lib.run_from_unsafe (P:=P) (w:=w) (j:=i0) ⟨(ρ bb).az,(ρ bb).base,none⟩ u7 hdd mO Qn (by show liesAt P P.depth t0 _ (ρ bb).base t0 1=true;rw[g6];exact Zl (by rw[Fi];exact e9) _ hone);exact .pure (x:= .pointer (some ⟨(ρ bb).az,(ρ bb).base,none⟩)) (by simp[execOp,ho,he,this]) (he ▸hv)
theorem Hq{t:TypeId}{d:TypeDesc}(hd:P.underlying t=some d){pk:PK}(hk:pk.fits d=true)(e:Bool)(m:Nat)(x:Value)(w:World):
  (Instr.checkKey e (m+1) t x).run P w= .ok () w:=by
 unfold Instr.checkKey;rw[Sem.run_bind,aN hd,Result.andThen_ok];cases pk<;>cases d<;>simp[PK.fits]at hk<;>rfl
theorem Oc{ρ:Pos->Loc}{n:Nat}{C:Cells}{pk:PK}{d:TypeDesc}(hk:pk.fits d=true){u v:AV}{x y:Value}{r:Bool}
   (h1:aq ρ n C u x) (h2:aq ρ n C v y) (h:Ay pk u v=some r):Instr.sameNow d x y=some r:=by
 unfold Ay at h;split at h<;>first|(cases h;done)|skip
 .simp only[H0]at h;subst h;cases d<;>simp[PK.fits]at hk;rw[h1.iD,h2.iD];rfl
 . (split at h<;>first|(cases h;done)|skip);rename_i Cy;have:=xF Cy;subst this;simp only[H0]at h;subst h;cases d<;>simp[PK.fits]at hk;rw[h1.iI,h2.iI];simp[Instr.sameNow,lC]
 .simp only[H0]at h;subst h;cases d<;>simp[PK.fits]at hk;obtain⟨bx,rfl,e1⟩:=h1.eR;obtain⟨bz,rfl,e2⟩:=h2.eR;simp only[Instr.sameNow];rw[beq_toListBytes,Ho e1 e2]
def Fo(ρ:Pos->Loc)(n:Nat)(C:Cells)(es:List (AV×AV×Nat))(es':List MapEntry):Prop:=
 es.length=es'.length/\∀(i:Nat)(e:AV×AV×Nat)(e':MapEntry),es[i]? =some e->es'[i]? =some e'->aq ρ n C e.1 e'.key/\aq ρ n C e.2.1 e'.val/\e.2.2=e'.born
theorem Bo{ρ:Pos->Loc}{n:Nat}{C:Cells}{pk:PK}{d:TypeDesc}(hk:pk.fits d=true){u:AV}{x:Value}(hu:aq ρ n C u x):
  ∀{es:List (AV×AV×Nat)}{es':List MapEntry}{i:Nat}{r:Option (Nat×AV)},Fo ρ n C es es'->jY pk u es i=some r->
  ∃r',Instr.findNow d x es' i=some r'/\((r=none/\r'=none)\/∃j v y,r=some (j,v)/\r'=some (j,y)/\aq ρ n C v y/\i<=j/\j<i+es.length)
 |[],es',i,r,he,h=>by
  simp[jY]at h;subst h;cases es' with
  |nil=>exact⟨none,rfl,.inl ⟨rfl,rfl⟩⟩
  |cons e es'=>have:=he.1;simp at this
 |(k',v,born)::es,es',i,r,he,h=>by
  cases es' with
  |nil=>have:=he.1;simp at this
  |cons e' es'=>
   have h0:=he.2 0 (k',v,born) e' rfl rfl;have lK:Fo ρ n C es es':=⟨by have:=he.1;simpa using this,λj e e' h1 h2=>he.2 (j+1) e e' (by simpa using h1) (by simpa using h2)⟩
   unfold jY at h;split at h<;>first|(cases h;done)|skip
   .    rename_i hq;simp only[H0]at h;subst h;refine⟨some (i,e'.val),by simp[Instr.findNow,Oc hk hu h0.1 hq],.inr ⟨i,v,e'.val,rfl,rfl,h0.2.1,Za5 _,by simp⟩⟩
   .    rename_i hq;obtain⟨r',h1,h2⟩:=Bo hk hu lK h;refine⟨r',by simp[Instr.findNow,Oc hk hu h0.1 hq,h1],?_⟩;rcases h2 with h2|⟨j,v',y,e1,e2,e3,e4,e5⟩
        .exact .inl h2
        .exact .inr ⟨j,v',y,e1,e2,e3,by omega,by simp;omega⟩
theorem run_findKey{t:TypeId}{d:TypeDesc}(hd:P.underlying t=some d){x:Value}{es:List MapEntry}{r:Option (Nat×Value)}(h:Instr.findNow d x es 0=some r)(w:World):
  (Instr.findKey t x es).run P w= .ok r w:=by
 simp[Instr.findKey,aN hd,h]
theorem run_getObj_map{r:Nat}{es:Array MapEntry}{c:Nat}{w:World}(h:w.heap[r]? =some (.map es c)):(getObj r).run P w= .ok (.map es c) w:=by
 simp[getObj,Sem.run,h]
theorem agH(k:TK){d:TypeDesc}(h:bL k d=true){pk:PK}(hp:(k= .bool/\pk= .b)\/((∃i,k= .int i)/\pk= .i)\/(k= .string/\pk= .s)):pk.fits d=true:=by
 rcases hp with⟨rfl,rfl⟩|⟨⟨i,rfl⟩,rfl⟩|⟨rfl,rfl⟩
 .rw[So h];rfl
 .rw[Hh h];rfl
 .rw[mN h];rfl
theorem tZ(hT:bZ P tt){t:Nat}{ti:TI}(ht:tt.get (key t)=some ti){z:List AV}(hz:ti.zero=some z){ρ:Pos->Loc}{n:Nat}{C:Cells}(w:World):
   ∃v,(zeroValue t).run P w= .ok v w/\aq ρ n C (gP.He ti z) v/\ay ρ n C z v.cells.toList:=by
 obtain⟨i,hi,lM,_,Ad⟩:=(hT.at ht).info;obtain⟨v,hv,hs,hlen,h1,h2⟩:=Ad z hz;refine⟨v,aeD hi hv w,?_,rO hs⟩;unfold gP.He;split
 .rename_i ha;obtain⟨cs,rfl⟩:=h1 ha;exact .DB (rO hs)
 .rename_i ha;have hc:=h2 ha;rw[hc]at hs;simp only[od]at hs;(split at hs<;>first|(cases hs;done)|skip);rename_i a as e1 e2;simp only[H0]at hs e2;subst hs;subst e2;simp only;exact DD e1
theorem aa1(hT:bZ P tt)(t:TypeId)(x ix:Operand)(ok:Bool):dI P tt (.lookup t x ix ok):=by
 intro ρ C st w k xs cls fr a o vs res ho hc hW hF hx hr;simp only[gP]at hc;split at hc<;>first|(cases hc;done)|skip
 rename_i ti l cV hl;split at hc<;>first|(cases hc;done)|skip
 rename_i kt et hk;split at hc<;>first|(cases hc;done)|skip
 rename_i tk te Bp fU;obtain⟨d,hd,cF⟩:=(hT.at cV).und;rw[hk]at cF;rw[Lc cF]at hd;obtain⟨dk,TY,Cy⟩:=(hT.at Bp).und;have key:∃pk z,te.zero=some z/\k= .lookup pk (gP.He te z) ok/\xs=l/\cls= .read/\pk.fits dk=true:=by
  split at hc<;>first|(cases hc;done)|skip
  all_goals
    rename_i z h1 h2;cases hc;refine⟨_,z,h2,rfl,rfl,rfl,agH tk.k Cy ?_⟩
  .exact .inr (.inl ⟨⟨_,h1⟩,rfl⟩)
  .exact .inr (.inr ⟨h1,rfl⟩)
  .exact .inl ⟨h1,rfl⟩
 obtain⟨pk,z,hz,rfl,rfl,rfl,Gj⟩:=key;obtain⟨m,kk,rfl,h1,h2⟩:=Sp hl hF hx;obtain⟨zv,Ae,QC,_⟩:=tZ hT fU hz (ρ:=ρ) (n:=st.next.toNat) (C:=C) w;have yA:∀e,(Instr.checkKey e 10000 kt (a.eval ix)).run P w= .ok () w:=λe=>Hq TY Gj e 9999 _ w
 simp only[av.run,xB]at hr;split at hr<;>first|(cases hr;done)|skip
 ·
  rename_i j v hm;simp only[H0]at hr;subst hr;split at hm<;>first|(cases hm;done)|skip
  .split at hm<;>first|(cases hm;done)|(simp at hm;done)
  . rename_i b;(split at hm<;>first|(cases hm;done)|skip);rename_i es c hb;obtain⟨_,he⟩:=h1.xG;obtain⟨_,_,es',ee,hlen,iE⟩:=hW.live _ _ hb;have hE:Fo ρ st.next.toNat C es es'.toList:=⟨by simpa using hlen,λi e e' h1 h2=>iE i e e' h1 (by simpa using h2)⟩
    obtain⟨r',hf,rP⟩:=Bo Gj h2 hE hm;rcases rP with⟨e1,_⟩|⟨j',v',y,e1,e2,e3,_⟩
    .   cases e1
    .   cases e1;subst e2;have cq:(execOp a.eval o).run P w= .ok (.value (if ok then .tuple #[y,.bool true]else y)) w:=by
          simp only[execOp,ho,Instr.lookup,Sem.run_bind,aN hd,Result.andThen_ok,he,run_getObj_map ee,yA,run_findKey TY hf,Sem.run_pure]
        refine .pure cq ?_;cases ok
        .exact e3
        .exact .tX (ay.cons e3 (ay.cons (.bool true) ay.nil))
 ·
  rename_i hm;simp only[H0]at hr;subst hr;have cq:(execOp a.eval o).run P w= .ok (.value (if ok then .tuple #[zv,.bool false]else zv)) w:=by
    split at hm<;>first|(cases hm;done)|skip
    .   (split at hm<;>first|(cases hm;done)|skip);have he:=h1.AE;have hf:(Instr.findKey kt (a.eval ix) []).run P w= .ok none w:=run_findKey TY rfl w;simp only[execOp,ho,Instr.lookup,Sem.run_bind,aN hd,Result.andThen_ok,he,yA,hf,Ae,Sem.run_pure]
    .   rename_i b;(split at hm<;>first|(cases hm;done)|skip);rename_i es c hb;obtain⟨_,he⟩:=h1.xG;obtain⟨_,_,es',ee,hlen,iE⟩:=hW.live _ _ hb;have hE:Fo ρ st.next.toNat C es es'.toList:=⟨by simpa using hlen,λi e e' h1 h2=>iE i e e' h1 (by simpa using h2)⟩
        obtain⟨r',hf,rP⟩:=Bo Gj h2 hE hm;rcases rP with⟨_,e2⟩|⟨j',v',y,e1,_⟩
        .subst e2;simp only[execOp,ho,Instr.lookup,Sem.run_bind,aN hd,Result.andThen_ok,he,run_getObj_map ee,yA,run_findKey TY hf,Ae,Sem.run_pure]
        .cases e1
  refine .pure cq ?_;cases ok
  .exact QC
  .exact .tX (ay.cons QC (ay.cons (.bool false) ay.nil))
end
section
variable{P:Program}{tt:TT}
theorem DJ:∀(l:List Value)(off k:Nat)(cs:Array Value),off+k+l.length<=cs.size->
  ((l.zipIdx k).foldl (λcs (c,j)=>cs.setIfInBounds (off+j) c) cs).toList=aJ cs.toList (off+k) l
 |[],off,k,cs,_=>by simp[aJ,Zj6]
 |v::l,off,k,cs,h=>by
  simp only[Zc5]at h;simp only[List.zipIdx_cons,Zp3];rw[DJ l off (k+1) _ (by simp;omega)];simp only[aJ,Zc5,Zp5];rw[List.drop_set_of_lt (by omega)];have:off+(k+1)=(off+k)+1:=by omega
  rw[this,List.take_set,Zq1];have aO:off+k<cs.toList.length:=by simp;omega
  rw[H4 aO];simp only[Option.toList_some,List.set_append,Zj7];have hm:min (off+k) cs.toList.length=off+k:=Zk8 (Nat.le_of_lt aO);rw[hm,Za3 (Zo9 _),Zp4];simp;rw[show off+k+1+l.length=off+k+(l.length+1)from by omega]
theorem Pc{ρ:Pos->Loc}{n:Nat}{C:Cells}(pl:Nat->Option (Nat×Nat)):∀{pp:List (Nat×Nat)}{vs cells r:List AV}{ps:List (Nat×Value)}{cs:Array Value},
  cW cells pp vs=some r->ay ρ n C cells cs.toList->ay ρ n C vs (ps.map (·.2))->ps.map (λx=>pl x.1)=pp.map some->
  ∃mP,Instr.fill pl cs ps=some mP/\ay ρ n C r mP.toList
 |[],vs,cells,r,ps,cs,h,hc,hv,hp=>by
  unfold cW at h;split at h<;>first|(cases h;done)|skip
  .simp only[H0]at h;subst h;have:ps=[]:=(by simpa using hv.mU);subst this;exact⟨cs,rfl,hc⟩
  .rename_i hh;cases hh
 |(off  ,size)::pp,vs,cells,r,ps,cs,h,hc,hv,hp=>by
  unfold cW at h;split at h<;>first|(cases h;done)|skip
  .rename_i hh;cases hh
  . rename_i off' size' pp' v vs' hh;simp only[Zh2,Zb9]at hh;obtain⟨⟨rfl,rfl⟩,rfl⟩:=hh;(split at h<;>first|(cases h;done)|skip);rename_i h1 h2;have h1:=Za2 h1;have h2:=Za6 h2;cases ps with
    |nil=>have:=hv.1;simp at this
    |   cons p ps=>
        obtain⟨i,x⟩:=p;simp only[Zb8,Zh2]at hp hv;obtain⟨fc,Af⟩:=hp;obtain⟨y,ys,DA,hx,jq⟩:=hv.cons_inv;simp only[Zh2]at DA;obtain⟨rfl,rfl⟩:=DA;have hxc:=hx.cells;have hlen:x.cells.size=size:=(by rw[<-h1,hxc.1];simp);have e9:off+size<=cs.size:=(by have:=hc.1;simp at this;omega);have aiP:(x.cells.zipIdx.foldl (λcs (c,j)=>cs.setIfInBounds (off+j) c) cs).toList=aJ cs.toList off x.cells.toList:=(by rw[<-Array.foldl_toList,Array.toList_zipIdx];have:=DJ x.cells.toList off 0 cs (by simp;omega);simpa using this);obtain⟨mP,e1,e2⟩:=Pc pl h (cs:=x.cells.zipIdx.foldl (λcs (c,j)=>cs.setIfInBounds (off+j) c) cs) (by rw[aiP];exact hc.aJ hxc off) jq Af;refine⟨mP,?_,e2⟩;simp only[Instr.fill,fc];rw[Za3 (by simp[hlen];omega)];exact e1
theorem J7(hT:bZ P tt){gs:Array Field}(w:World):∀{fs:List (Nat×Nat×Bool)}(_hm:bL.eo fs gs.toList=true){is:List Nat}{pp:List (Nat×Nat)}
  (_h:gP.places tt fs is=some pp) {Le:List (Nat×Nat)} (_hpl:∀(i:Nat)(f:Field)(inf:TypeInfo),gs.toList[i]? =some f->P.info? f.type=some inf->Le[i]? =some (f.offset,inf.size)),
  is.map (λi=>Le[i]?)=pp.map some
 |fs,hm,[],pp,h,Le,pR=>by simp[gP.places]at h;subst h;rfl
 |fs,hm,i::is,pp,h,Le,pR=>by
  unfold gP.places at h;split at h<;>first|(cases h;done)|skip
  rename_i off t nm l h1 h2;split at h<;>first|(cases h;done)|skip
  rename_i ti hti;simp only[H0]at h;subst h;obtain⟨f,hf,e1,e2,_⟩:=II hm h1;obtain⟨inf,Ws,e9,_⟩:=(hT.at hti).info;simp only at e1 e2;have:=pR i f inf hf (by rw[e2];exact Ws);simp only[Zb8,this,e1,e9];rw[J7 hT w hm h2 pR]
theorem QD(hT:bZ P tt):∀{fs:List (Nat×Nat×Bool)}{gs:List Field}(_hm:bL.eo fs gs=true)(_ha:gP.VJ tt fs=true),
  ∃Le:List (Nat×Nat),gs.mapM (λf=>(P.info? f.type).map λi=>(f.offset,i.size))=some Le/\
   ∀(i:Nat)(f:Field)(inf:TypeInfo),gs[i]? =some f->P.info? f.type=some inf->Le[i]? =some (f.offset,inf.size)
 |[],gs,hm,ha=>by
  cases gs with
  |cons g gs=>simp[bL.eo]at hm
  |nil=>exact⟨[],rfl,λi f inf h=>by simp at h⟩
 |(off,t,nm)::fs,gs,hm,ha=>by
  cases gs with
  |nil=>simp[bL.eo]at hm
  |cons g gs=>
   simp[bL.eo]at hm;unfold gP.VJ at ha;(split at ha<;>first|(cases ha;done)|skip);rename_i ti hti;obtain⟨inf,Ws,_⟩:=(hT.at hti).info;obtain⟨Le,h1,h2⟩:=QD hT hm.2 ha;rw[hm.1.1.2]at Ws;refine⟨(g.offset,inf.size)::Le,by simp[Ws,h1],λi f inf' hi hf=> ?_⟩;cases i with
   |zero=>simp at hi;subst hi;rw[Ws]at hf;cases hf;rfl
   |succ i=>simp at hi ⊢; exact h2 i f inf' hi hf
theorem acK(hT:bZ P tt)(t:TypeId)(ps:Array (Nat×Operand)):dI P tt (.build t ps):=by
 intro ρ C st w k xs cls fr a o vs res ho hc hW hF hx hr;simp only[gP]at hc;split at hc<;>first|(cases hc;done)|skip
 rename_i ti l cV hl;obtain⟨d,hd,cF⟩:=(hT.at cV).und;obtain⟨it,TZ,_,_,Ad⟩:=(hT.at cV).info
 have oh:∀(pp:List (Nat×Nat))(z:List AV)(pl:Nat->Option (Nat×Nat)),ti.zero=some z->k= .build z pp->xs=l->ps.toList.map (λx=>pl x.1)=pp.map some->
    (∀(v:Value)(parts:List (Nat×Value))(cells:Array Value),it.zero=some v->Instr.fill pl v.cells parts=some cells->P.built t parts=some cells)->
    uQ P ρ C st w ((execOp a.eval o).run P w) res:=by
   rintro pp z pl hz rfl rfl hpp ah2;have hv:=eP hl hF hx;obtain⟨v,Hr,hs,_⟩:=Ad z hz;simp only[av.run,Ix]at hr;(split at hr<;>first|(cases hr;done)|skip);rename_i cs C9;simp only[H0]at hr;subst hr;have QC:ay ρ st.next.toNat C z v.cells.toList:=rO hs;have ZT:(ps.map λ(i,x)=>(i,a.eval x)).toList=ps.toList.map λx=>(x.1,a.eval x.2):=(by simp);obtain⟨mP,e1,e2⟩:=Pc pl C9 QC (ps:=ps.toList.map λx=>(x.1,a.eval x.2)) (by simpa [Zh1,Zl0]using hv) (by simpa [Zh1,Zl0]using hpp);refine .pure (x:= .agg mP) ?_ (.DB e2);have cq:=run_build w t (ps.map λ(i,x)=>(i,a.eval x)) mP (ah2 v _ _ Hr (by rw[ZT];exact e1));simp only[execOp,ho,Sem.run_bind];rw[cq];rfl
 split at hc<;>first|(cases hc;done)|skip
 .rename_i fs z hk hz;rw[hk]at cF;obtain⟨gs,rfl,hm⟩:=Fh cF;(split at hc<;>first|(cases hc;done)|skip);rename_i pp pR iE;cases hc;obtain⟨Le,h1,h2⟩:=QD hT hm iE;have hpp:=J7 hT w hm pR h2;(refine oh pp z (λi=>Le.toArray[i]?) hz rfl rfl (by simpa [Zh1,Zl0]using hpp) λv parts cells hv hf=> ?_);unfold Program.built;rw[TZ,hd];simp only[hv,h1];exact hf
 .rename_i e z hk hz;rw[hk]at cF;rw[Wm cF]at hd;(split at hc<;>first|(cases hc;done)|skip);rename_i te fU;cases hc;obtain⟨ie,hie,e9,_⟩:=(hT.at fU).info;(refine oh _ z (λi=>some (i*te.size,te.size)) hz rfl rfl (by simp[Zh1,Zl0]) λv parts cells hv hf=> ?_);unfold Program.built;rw[TZ,hd];simp only[hv,hie,e9];exact hf
end
end
end Go.Ai
