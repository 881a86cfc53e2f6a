/- Its operations answer as the model does. -/
import Derived.Test.YtgjikjcfjddloaaGreatDoorXEvalA
import Derived.Laws.StructEq
import Derived.Lib.Builder
import Derived.Laws.BytesString
set_option linter.all false
namespace Go.Ai
section
def bU:TK->TypeDesc->Bool
 |.bool,.bool=>true
 |.int k,.int k'=>Fq k k'
 |.string,.string=>true
 |.ptr e,.pointer e'=>Nat.beq e e'
 |.slice e,.slice e'=>Nat.beq e e'
 |.array n e,.array n' e'=>Nat.beq n n'&&Nat.beq e e'
 |.map k e,.map k' e'=>Nat.beq k k'&&Nat.beq e e'
 |.struct fs,.struct fs'=>eu fs fs'.toList
 |.func,.func _ _ _=>true
 |.iface,.interface _=>true
 |.upt,.unsafePointer=>true
 |.other,.interface _=>false
 |.other,.int _=>false
 |.other,.array _ _=>false
 |.other,.struct _=>false
 |.other,_=>true
 |_,_=>false
where
 eu:List (Nat×Nat×Bool)->List Field->Bool
  |[],[]=>true
  |(off,t,named)::l,f::l'=>Nat.beq off f.offset&&Nat.beq t f.type&&(named==(f.name != "_"))&&eu l l'
  |_,_=>false
structure acz(P:Program)(t:TypeId)(ti:TI):Prop where
 und:∃d,P.underlying t=some d/\bU ti.k d=true
 info:∃i,P.info? t=some i/\i.size=ti.size/\i.bytes=ti.bytes/\
  ∀z,ti.zero=some z->∃v,i.zero=some v/\oH v.cells.toList=some z/\z.length=ti.size/\(ti.k.isAgg=true->∃cs,v= .agg cs)/\(ti.k.isAgg=false->v.cells= #[v])
 elem:∀e,ti.k= .ptr e->∃j,P.info? e=some j
 eqs:ti.yL=true->P.stoodInHeld t=false/\P.eqGuardType P.depth t=false
def cB(P:Program)(tt:TT):Prop:=∀p ti,tt.get p=some ti->acz P (p.toNat - 1) ti
theorem cB.at{P:Program}{tt:TT}(h:cB P tt){t:Nat}{ti:TI}(ht:tt.get (key t)=some ti):acz P t ti:=by
 have:=h _ _ ht
 rwa [fD,Zf0]at this
section
variable{P:Program}{tt:TT}{ρ:Pos->Loc}{n:Nat}{C:Cells}
theorem aV{t:TypeId}{d:TypeDesc}(h:P.underlying t=some d)(w:World):(underlying t).run P w= .ok d w:=run_underlying h w
theorem YU{t:TypeId}{i:TypeInfo}(h:P.info? t=some i)(w:World):(typeInfo t).run P w= .ok i w:=by simp[typeInfo,h]
theorem iO{t:TypeId}{i:TypeInfo}(h:P.info? t=some i)(w:World):(sizeOf t).run P w= .ok i.size w:=by simp[sizeOf,typeInfo,h]
theorem afT{t:TypeId}{i:TypeInfo}{v:Value}(h:P.info? t=some i)(hz:i.zero=some v)(w:World):(zeroValue t).run P w= .ok v w:=by simp[zeroValue,typeInfo,h,hz]
theorem Si{k:TK}{d:TypeDesc}(h:bU k d=true)(w:World){t:TypeId}(ht:P.underlying t=some d):(isAgg t).run P w= .ok k.isAgg w:=by
 cases k<;>cases d<;>first|(simp[bU]at h;done)|simp[isAgg,aV ht,TK.isAgg]
theorem mT{e:Nat}{d:TypeDesc}(h:bU (.slice e) d=true):d= .slice e:=by
 cases d<;>simp[bU]at h;rw[h]
theorem To{e:Nat}{d:TypeDesc}(h:bU (.ptr e) d=true):d= .pointer e:=by
 cases d<;>simp[bU]at h;rw[h]
theorem YV{m e:Nat}{d:TypeDesc}(h:bU (.array m e) d=true):d= .array m e:=by
 cases d<;>simp[bU]at h;rw[h.1,h.2]
theorem Od{k e:Nat}{d:TypeDesc}(h:bU (.map k e) d=true):d= .map k e:=by
 cases d<;>simp[bU]at h;rw[h.1,h.2]
theorem Vb{d:TypeDesc}(h:bU .bool d=true):d= .bool:=by cases d<;>simp[bU]at h;rfl
theorem zA{a b:IntKind}(h:Fq a b=true):a=b:=by
 unfold Fq at h;split at h
 .assumption
 .cases h
theorem JG{k:IntKind}{d:TypeDesc}(h:bU (.int k) d=true):d= .int k:=by
 cases d<;>simp[bU]at h;rw[zA h]
theorem mE{d:TypeDesc}(h:bU .string d=true):d= .string:=by cases d<;>simp[bU]at h;rfl
theorem HD{fs:List (Nat×Nat×Bool)}{d:TypeDesc}(h:bU (.struct fs) d=true):∃gs,d= .struct gs/\bU.eu fs gs.toList=true:=by
 cases d<;>simp[bU]at h;exact⟨_,rfl,h⟩
theorem aip{d:TypeDesc}(h:bU .func d=true):∃a b c,d= .func a b c:=by
 cases d<;>simp[bU]at h;exact⟨_,_,_,rfl⟩
theorem afU{d:TypeDesc}(h:bU .iface d=true):∃a,d= .interface a:=by
 cases d<;>simp[bU]at h;exact⟨_,rfl⟩
theorem ad4{d:TypeDesc}(h:bU .upt d=true):d= .unsafePointer:=by cases d<;>simp[bU]at h;rfl
theorem lY{α:Type}:∀(l:List α)(i:Nat),nth l i=l[i]?
 |[],_=>by simp[nth]
 |_::_,0=>rfl
 |_::l,i+1=>by simp[nth,lY l i]
theorem K7:∀{fs:List (Nat×Nat×Bool)}{gs:List Field}{i:Nat}{x:Nat×Nat×Bool},bU.eu fs gs=true->nth fs i=some x->
  ∃f,gs[i]? =some f/\f.offset=x.1/\f.type=x.2.1/\(f.name != "_")=x.2.2
 |[],_,i,_,_,h=>by simp[nth]at h
 |(off,t,named)::l,[],i,_,h,_=>by simp[bU.eu]at h
 |(off,t,named)::l,f::l',0,x,h,hx=>by
  simp[bU.eu]at h;simp[nth]at hx;subst hx;exact⟨f,rfl,h.1.1.1.symm,h.1.1.2.symm,h.1.2.symm⟩
 |(off,t,named)::l,f::l',i+1,x,h,hx=>by
  simp[bU.eu]at h;simp[nth]at hx;obtain⟨f',h1,h2⟩:=K7 h.2 hx;exact⟨f',by simpa using h1,h2⟩
theorem Fx{v:Value}{a:AV}(h:KY v=some a):aq ρ n C a v:=by
 unfold KY at h
 split at h<;>first
   |(cases h;done)
   |(simp only[H0]at h;subst h)
 .exact .bool _
 .exact .int _ _
 .exact .str _ _ rfl
 .exact .fH
 .exact .av
 .exact .qe
 .exact .func _ _ _ _ _ rfl rfl (λ_ _ _ h=>by simp at h) (λ_ _ _ h=>by simp at h)
 .exact .jR
 .exact .uT
theorem td:∀{l:List Value}{as:List AV},oH l=some as->az ρ n C as l
 |[],as,h=>by simp[oH]at h;subst h;exact az.nil
 |v ::l,as,h=>by
  unfold oH at h;split at h
  .rename_i a as' h1 h2;simp only[H0]at h;subst h;exact az.cons (Fx h1) (td h2)
  .cases h
theorem aa8{v:Value}{a:AV}(h:U9 v=some a):aq ρ n C a v:=by
 unfold U9 at h;split at h
 . split at h
   .rename_i l hl;simp only[H0]at h;subst h;exact .Fv (td hl)
   .cases h
 .exact Fx h
theorem rF{x:Operand}{o:eZ}{fr:Fr}{a:Act}{v:AV}(h:lA x=some o)(hF:fS ρ n C fr a.tmps)(hv:C6 fr o=some v):aq ρ n C v (a.eval x):=by
 unfold lA at h;split at h
 .rename_i t;simp only[H0]at h;subst h;obtain⟨y,hy,hr⟩:=hF _ _ hv;rw[fD,Zf0]at hy;simp only[Act.eval,Zi9,hy,Zf1];exact hr
 . split at h
   .rename_i c hc;simp only[H0]at h;subst h;simp only[C6,H0]at hv;subst hv;exact aa8 hc
   .cases h
 .rename_i f;simp only[H0]at h;subst h;simp only[C6,H0]at hv;subst hv;exact .func _ _ _ _ _ rfl rfl (λ_ _ _ h=>by simp at h) (λ_ _ _ h=>by simp at h)
 .cases h
theorem eT:∀{xs:List Operand}{os:List eZ}{fr:Fr}{a:Act}{vs:List AV},jJ xs=some os->fS ρ n C fr a.tmps->e8 fr os=some vs->az ρ n C vs (xs.map a.eval)
 |[],os,fr,a,vs,h,_,hv=>by simp[jJ]at h;subst h;simp[e8]at hv;subst hv;exact az.nil
 |x ::xs,os,fr,a,vs,h,hF,hv=>by
  unfold jJ at h;split at h
  . rename_i o os' h1 h2;simp only[H0]at h;subst h;unfold e8 at hv;split at hv
    .   rename_i v Rc;split at hv
        .rename_i vs' Fy;simp only[H0]at hv;subst hv;exact az.cons (rF h1 hF Rc) (eT h2 hF Fy)
        .cases hv
    .   cases hv
  .cases h
theorem fE{x:Operand}{o:eZ}{fr:Fr}{a:Act}{vs:List AV}(h:lA x=some o)(hF:fS ρ n C fr a.tmps)(hv:e8 fr [o]=some vs):
   ∃v,vs=[v]/\aq ρ n C v (a.eval x):=by
 unfold e8 at hv;split at hv
 .rename_i v Rc;simp only[e8,H0]at hv;subst hv;exact⟨v,rfl,rF h hF Rc⟩
 .cases hv
end
def Yields(N:Next)(x:Value):Prop:=N= .value x\/(N= .skip/\x=undef)
def wE(P:Program)(ρ:Pos->Loc)(C:Cells)(st:St)(w:World)(r:Result Next):cL->Prop
 |.val v=>∃N x,r= .ok N w/\Yields N x/\aq ρ st.next.toNat C v x
 |.aI v del set new=>∃N x w' ρ',r= .ok N w'/\Yields N x/\(∀b:Pos,b.toNat<st.next.toNat->ρ' b=ρ b)/\bn ρ' C (st.aI del set new) w'/\
  aq ρ' (st.aI del set new).next.toNat C v x/\jW ρ st w ρ' (st.aI del set new) w'
 |.call f args=>∃bQ:List Value,r=(callFunc f bQ.toArray).run P w/\az ρ st.next.toNat C args bQ
end
section
open Go Go.RowKit
theorem lZ(b o i:Nat):(⟨b,o,none⟩:Addr).add i=⟨b,o+i,none⟩:=by
 unfold Addr.add;split
 .rename_i h;subst h;rfl
 .rfl
section
variable{P:Program}{ρ ρ':Pos->Loc}{C:Cells}{st:St}{w w':World}
theorem bn.acA(hW:bn ρ C st w){acB:T AB}{next' b0:Pos}{x0:AB}
  (hn:st.next.toNat<=next'.toNat) (hb0:b0.toNat<next'.toNat) (akc:acB.get b0=some x0)
  (nG:∀b x,b≠b0->acB.get b=some x->st.heap.get b=some x/\(ρ b).aA≠(ρ' b0).aA)
  (aY:∀b:Pos,b.toNat<st.next.toNat->ρ' b=ρ b)
  (hB:mQ ρ' next'.toNat C (ρ' b0) w' x0)
  (hfr:∀a v,C a=some v->a.block≠(ρ' b0).aA)
  (bw:(ρ' b0).aA<w'.heap.size) (akd:w.heap.size<=w'.heap.size)
  (xC:∀k,k<w.heap.size->k≠(ρ' b0).aA->w'.heap[k]? =w.heap[k]?):
  bn ρ' C ⟨acB,next'⟩ w' where
 live b x hb:=by
  by_cases h:b=b0
  .  subst h;rw[akc]at hb;cases hb;exact⟨hb0,bw,hB⟩
  .  obtain⟨h1,h2⟩:=nG b x h hb;obtain⟨h3,h4,h5⟩:=hW.live b x h1;rw[aY b h3];exact⟨Zc8 h3 hn,Zc8 h4 akd,(h5.mono aY hn).of_heap (xC _ h4 h2)⟩
 inj b  b' x x' hb jw he:=by
  by_cases h:b=b0
  .  subst h;by_cases h':b'=b
     .  exact h'.symm
     .  obtain⟨h1,h2⟩:=nG b' x' h' jw;rw[aY b' (hW.live b' x' h1).1]at he;exact absurd he.symm h2
  .  obtain⟨h1,h2⟩:=nG b x h hb;rw[aY b (hW.live b x h1).1]at he;by_cases h':b'=b0
     .  subst h';exact absurd he h2
     .  obtain⟨h1',h2'⟩:=nG b' x' h' jw;rw[aY b' (hW.live b' x' h1').1]at he;exact hW.inj b b' x x' h1 h1' he
 ek a v ha:=by
  obtain⟨h1,h2⟩:=hW.ek a v ha;have K8:a.block<w.heap.size:=World.block_lt_of_cell? _ _ h1;refine⟨?_,λb x hb=> ?_⟩
  .  rw[World.cell?_of_block (w:=w) (xC _ K8 (hfr a v ha))];exact h1
  .  by_cases h:b=b0
     .  subst h;exact λe=>hfr a v ha e.symm
     .  obtain⟨h3,_⟩:=nG b x h hb;rw[aY b (hW.live b x h3).1];exact h2 b x h3
 whole a v ha o ho:=by have kF:a.block<w.heap.size:=World.block_lt_of_cell? _ _ (hW.ek a v ha).1;rw[World.cell?_of_block (w:=w) (a:=⟨a.block,o,none⟩) (xC _ kF (hfr a v ha))];exact hW.whole a v ha o ho
theorem bn.cell(hW:bn ρ C st w){b:Pos}{cs:List AV}{fz:Nat}(hb:st.heap.get b=some (.cells cs fz)){i:Nat}{v:AV}(hv:cs[i]? =some v):
  ∃x,w.cell? ⟨(ρ b).aA,(ρ b).base+i,none⟩=some x/\aq ρ st.next.toNat C v x:=by
 obtain⟨_,_,c,e,fr,h1,h2,h3,h4,_⟩:=hW.live b _ hb;obtain⟨x,hx,hr⟩:=h4.get hv;have hi:i<cs.length:=(H5.1 hv).1;rw[Zb8,Za4 hi,Zd7]at hx;exact⟨x,by simp[World.cell?,h1, <-hx],hr⟩
theorem bn.ake(hW:bn ρ C st w){b:Pos}{cs:List AV}{t:TypeId}(hb:st.heap.get b=some (.typed t cs)){i:Nat}{v:AV}(hv:cs[i]? =some v):
  ∃x,w.cell? ⟨(ρ b).aA,(ρ b).base+i,none⟩=some x/\aq ρ st.next.toNat C v x:=by
 obtain⟨_,_,c,fr,h1,h2,h3,h4,_⟩:=hW.live b _ hb;obtain⟨x,hx,hr⟩:=h4.get hv;have hi:i<cs.length:=(H5.1 hv).1;rw[Zb8,Za4 hi,Zd7]at hx;exact⟨x,by simp[World.cell?,h1, <-hx],hr⟩
theorem Fz{α:Type}{l l':List α}{i n:Nat}(h:cut l i n=some l'):l'=(l.drop i).take n/\i+n<=l.length:=by
 unfold cut at h;split at h
 .rename_i hb;cases h;exact⟨rfl,Za1 hb⟩
 .cases h
theorem wF{α:Type}{l l':List α}{i n:Nat}(h:cut l i n=some l'):l'.length=n:=by obtain⟨rfl,h2⟩:=Fz h;simp;omega
theorem bn.loadCells(hW:bn ρ C st w){b:Pos}{cs vs:List AV}{fz off n:Nat}(hb:st.heap.get b=some (.cells cs fz))(hc:cut cs off n=some vs):
  ∃ys:List Value,(Go.loadCells ⟨(ρ b).aA,(ρ b).base+off,none⟩ n).run P w= .ok ys.toArray w/\az ρ st.next.toNat C vs ys:=by
 obtain⟨_,_,c,e,fr,h1,h2,h3,h4,_⟩:=hW.live b _ hb;obtain⟨jf,hle⟩:=Fz hc;have hr:=(h4.drop off).take n;rw[<-jf]at hr;refine⟨_,?_,hr⟩;have hlen:(List.take n (List.drop off (List.take cs.length (List.drop (ρ b).base c.toList)))).length=n:=by rw[<-hr.1];exact wF hc
 conv=>lhs;rw[<-hlen]
 refine run_loadCells_list w _ _ λj v hj=> ?_
 have Ei:j<n:=by rw[<-hlen];exact(H5.1 hj).1
 rw[Zb8,Za4 Ei,Zd7,Zb8,Za4 (by omega),Zd7]at hj;rw[lZ];simp[World.cell?,h1, <-hj,Zh4]
theorem bn.Tp(hW:bn ρ C st w){b:Pos}{cs vs:List AV}{t:TypeId}{off n:Nat}(hb:st.heap.get b=some (.typed t cs))(hc:cut cs off n=some vs):
  ∃ys:List Value,(Go.loadCells ⟨(ρ b).aA,(ρ b).base+off,none⟩ n).run P w= .ok ys.toArray w/\az ρ st.next.toNat C vs ys:=by
 obtain⟨_,_,c,fr,h1,h2,h3,h4,_⟩:=hW.live b _ hb;obtain⟨jf,hle⟩:=Fz hc;have hr:=(h4.drop off).take n;rw[<-jf]at hr;refine⟨_,?_,hr⟩;have hlen:(List.take n (List.drop off (List.take cs.length (List.drop (ρ b).base c.toList)))).length=n:=by rw[<-hr.1];exact wF hc
 conv=>lhs;rw[<-hlen]
 refine run_loadCells_list w _ _ λj v hj=> ?_
 have Ei:j<n:=by rw[<-hlen];exact(H5.1 hj).1
 rw[Zb8,Za4 Ei,Zd7,Zb8,Za4 (by omega),Zd7]at hj;rw[lZ];simp[World.cell?,h1, <-hj,Zh4]
theorem kG(g e:Nat)(fr:Nat×Nat):∀(vs:List Value)(i o:Nat)(cur:Array Value)(w:World),w.heap[g]? =some (.cells cur e fr)->o+i+vs.length<=cur.size->
  (∀v∈vs,v.oneCell'=true)->(∀k,o+i<=k->k<cur.size->¬(fr.1<=k/\k<fr.2))->
  ∃ w',(storeCells ⟨g,o,none⟩ vs i).run P w= .ok () w'/\w'.heap[g]? =some (.cells (aL cur.toList (o+i) vs).toArray e fr)/\
    w'.heap.size=w.heap.size/\(∀k,k≠g->w'.heap[k]? =w.heap[k]?)/\w'.os=w.os/\w'.tape=w.tape/\w'.output=w.output
 |[],i,o,cur,w,hg,_,_,_=>⟨w,by simp[storeCells],by rw[hg];simp[aL,Zk2],rfl,λ_ _=>rfl,rfl,rfl,rfl⟩
 |v ::vs,i,o,cur,w,hg,hle,h1,hf=>by
  simp only[Zb2]at hle;have hv:v.oneCell'=true:=h1 v (by simp);have HE:w.cell? ⟨g,o+i,none⟩=some (cur[o+i]'(by omega)):=by simp[World.cell?,hg]
  have hfz:w.frozen? ⟨g,o+i,none⟩=false:=by have:=hf (o+i) (Za3 _) (by omega);simp only[World.frozen?,hg];simpa using this
  have Tq:(w.setCell ⟨g,o+i,none⟩ v).heap[g]? =some (.cells (cur.setIfInBounds (o+i) v) e fr):=by
    simp[World.setCell,Zn9,hg]
  obtain⟨w',h2,h3,h4,h5,h6,h7,h8⟩:=kG g e fr vs (i+1) o _ _ Tq (by simp;omega) (λv hv=>h1 v (by simp[hv])) (by intro k hk lB;simp at lB;exact hf k (by omega) lB);refine⟨w',?_,?_,by simp[h4],λk hk=> ?_,h6,h7,h8⟩
  .simp only[storeCells,Sem.run_bind,lZ,run_store P w _ _ _ hv,HE,hfz];simpa using h2
  .rw[h3];congr 2;simp only[aL,Zb2,Zp2];rw[List.drop_set_of_lt (by omega)];have:o+(i+1)=(o+i)+1:=(by omega);rw[this,List.take_set,Zn2];have bw:o+i<cur.toList.length:=(by simp;omega);rw[H1 bw];simp only[Option.toList_some,List.set_append,Zl2];have hm:min (o+i) cur.toList.length=o+i:=Zk4 (Nat.le_of_lt bw);rw[hm,Za2 (Zo4 _),Zp0];simp;rw[show o+i+1+vs.length=o+i+(vs.length+1)from by omega]
  .rw[h5 k hk,Below.heap_setCell _ _ _ _ (by simpa using hk)]
end
section
variable{P:Program}{tt:TT}{ρ:Pos->Loc}{C:Cells}{st:St}{w:World}{n:Nat}
theorem Yields.value(x:Value):Yields (.value x) x:= .inl rfl
theorem wE.pure{v:AV}{x:Value}{r:Result Next}(h:r= .ok (.value x) w)(hv:aq ρ st.next.toNat C v x):wE P ρ C st w r (.val v):=
 ⟨_,x,h,Yields.value x,hv⟩
theorem aq.iF{k:IntKind}{i:Int}{x:Value}(h:aq ρ n C (.int k i) x):x= .int k i:=by cases h;rfl
theorem aq.ir{b:Bool}{x:Value}(h:aq ρ n C (.bool b) x):x= .bool b:=by cases h;rfl
theorem aq.eU{s:List Nat}{x:Value}(h:aq ρ n C (.str s) x):∃bs:ByteArray,x= .string bs/\bs.data.toList.map UInt8.toNat=s:=by
 cases h with|str _ bs h=>exact⟨bs,rfl,h⟩
theorem aq.rG{x:Value}(h:aq ρ n C .fH x):x= .pointer none:=by cases h;rfl
theorem aq.fZ{x:Value}(h:aq ρ n C .av x):x= .slice none 0 0:=by cases h;rfl
theorem aq.Cw{x:Value}(h:aq ρ n C .qe x):x= .map none:=by cases h;rfl
theorem aq.K9{x:Value}(h:aq ρ n C .jR x):x= .nilFunc:=by cases h;rfl
theorem aq.YW{x:Value}(h:aq ρ n C .uT x):x= .nilIface:=by cases h;rfl
theorem aq.fJ{b:Pos}{off:Nat}{x:Value}(h:aq ρ n C (.ptr b off) x):b.toNat<n/\x= .pointer (some ⟨(ρ b).aA,(ρ b).base+off,none⟩):=by
 cases h with|ptr _ _ h=>exact⟨h,rfl⟩
theorem aq.zB{b:Pos}{x:Value}(h:aq ρ n C (.map b) x):b.toNat<n/\x= .map (some (ρ b).aA):=by
 cases h with|map _ h=>exact⟨h,rfl⟩
theorem aq.Wx{t:TypeId}{v:AV}{x:Value}(h:aq ρ n C (.iface t v) x):∃y,x= .iface t y/\aq ρ n C v y:=by
 cases h with|iface _ _ y h=>exact⟨y,rfl,h⟩
theorem aq.ee{b:Pos}{off len es:Nat}{cap:Option Nat}{x:Value}(h:aq ρ n C (.slice b off len cap es) x):
  ∃(a:Addr) (aS:Nat),x= .slice (some a) len aS/\len<=aS/\(∀c,cap=some c->c=aS)/\
   (aS≠0->b.toNat<n/\a=⟨(ρ b).aA,(ρ b).base+off,none⟩/\(ρ b).base+off+aS*es<=(ρ b).size):=by
 cases h with|slice _ _ _ _ _ aS a hl hc ha _=>exact⟨a,aS,rfl,hl,hc,ha⟩
theorem aq.Wy{b:Pos}{off len es:Nat}{cap:Option Nat}{x:Value}(h:aq ρ n C (.slice b off len cap es) x):cap=none->b.toNat<n:=by
 cases h with|slice _ _ _ _ _ _ _ _ _ _ hk=>exact hk
theorem aq.uW{xs:List (List AV)}{es:Nat}{x:Value}(h:aq ρ n C (.fl xs es) x):
  ∃(a:Addr) (aS:Nat) (cell:Nat->Nat->Value),x= .slice (some a) xs.length aS/\xs.length<=aS/\(xs≠[]->a.spot=none)/\
   (∀(i:Nat)(cs:List AV),xs[i]? =some cs->cs.length=es)/\
   (∀(i j:Nat)(cs:List AV)(v:AV),xs[i]? =some cs->cs[j]? =some v->C ⟨a.block,a.off+i*es+j,none⟩=some (cell i j))/\
   (∀(i j:Nat)(cs:List AV)(v:AV),xs[i]? =some cs->cs[j]? =some v->aq ρ n C v (cell i j)):=by
 cases h with|fl _ _ aS a cell hl hs eF hc hv=>exact⟨a,aS,cell,rfl,hl,hs,eF,hc,hv⟩
theorem aq.JH{xs:List (List AV)}{i j:Nat}{x:Value}(h:aq ρ n C (.fp xs i j) x):
  ∃(es aA base:Nat) (cell:Nat->Nat->Value),x= .pointer (some ⟨aA,base+i*es+j,none⟩)/\
   (∀(i:Nat)(cs:List AV),xs[i]? =some cs->cs.length=es)/\
   (∀(i j:Nat)(cs:List AV)(v:AV),xs[i]? =some cs->cs[j]? =some v->C ⟨aA,base+i*es+j,none⟩=some (cell i j))/\
   (∀(i j:Nat)(cs:List AV)(v:AV),xs[i]? =some cs->cs[j]? =some v->aq ρ n C v (cell i j)):=by
 cases h with|fp _ _ _ es aA base cell hl hc hv=>exact⟨es,aA,base,cell,rfl,hl,hc,hv⟩
theorem rH(k:IntKind)(i:Int):au k i=k.wrap i:=by
 unfold au;split
 . rename_i h1 _;split
   .rename_i h2 _;cases k<;>simp only[Wr,Ws]at h1 h2<;>simp only[IntKind.wrap,IntKind.bits,IntKind.signed]<;>simp<;>omega
   .rfl
 .rfl
theorem mU(a b:Int):yK a b=(a==b):=by
 unfold yK;split
 .rename_i h _;subst h;simp
 .rename_i h _;simp[h]
theorem eJ(a b:Int):CT a b=decide (a<b):=by
 unfold CT;split<;>(rename_i h _;simp[h])
theorem iP(a b:Int):Yo a b=decide (a<=b):=by
 unfold Yo;split<;>(rename_i h _;simp[h])
theorem jX:∀{a b:List Nat},ja a b=true↔a=b
 |[],[]=>by simp[ja]
 |[],_::_=>by simp[ja]
 |_::_,[]=>by simp[ja]
 |a::x,b::y=>by
  unfold ja;split
  .rename_i h;have:=H4 h;subst this;simp[jX (a:=x) (b:=y)]
  .rename_i h;have:=Zc0 h;simp[this]
theorem JI:∀{a b:List UInt8},a.map UInt8.toNat=b.map UInt8.toNat->a=b
 |[],[],_=>rfl
 |[],_::_,h=>by simp at h
 |_::_,[],h=>by simp at h
 |a::x,b::y,h=>by
  simp at h;rw[Zq3.1 h.1,JI h.2]
theorem toList_data(b:ByteArray):b.toList=b.data.toList:=ByteArray.toList_eq b
theorem tQ:∀(x y:List UInt8),aD (x.map UInt8.toNat) (y.map UInt8.toNat)=Op.bytesLess x y
 |[],[]=>by simp[aD,Op.bytesLess]
 |_::_,[]=>by simp[aD,Op.bytesLess]
 |[],_::_=>by simp[aD,Op.bytesLess]
 |a ::x,b::y=>by
  simp only[Zb4,aD,Op.bytesLess];split
  .rename_i h;have:a<b:=(by rw[Zo0];simpa using h);simp[this]
  . (rename_i h;have h1:¬a<b:=by rw[Zo0];intro h';have h2:Nat.blt a.toNat b.toNat=true:=(by simpa using h');rw[h2]at h;cases h);split
    .   rename_i h2;have:a=b:=Zq3.1 (H4 h2);subst this;simp only[h1,Zq0,Bool.false_or,Zp8,Ze4];exact tQ x y
    .   (rename_i h2;have:a≠b:=λe=>Zc0 h2 (by rw[e]));simp[h1,this]
theorem JJ{a b:List Nat}{x y:ByteArray}(hx:x.data.toList.map UInt8.toNat=a)(hy:y.data.toList.map UInt8.toNat=b):(x.toList==y.toList)=ja a b:=by
 rw[toList_data,toList_data,Zk5,jX,Zq1, <-hx, <-hy];exact⟨λh=>by rw[h],λh=>JI h⟩
theorem Sj{a b:List Nat}{x y:ByteArray}(hx:x.data.toList.map UInt8.toNat=a)(hy:y.data.toList.map UInt8.toNat=b):Op.bytesLess x.toList y.toList=aD a b:=by
 rw[toList_data,toList_data, <-hx, <-hy,tQ]
theorem yY{a:List Nat}{x:ByteArray}(hx:x.data.toList.map UInt8.toNat=a):x.size=a.length:=by rw[<-hx,Zb3,Zg4];rfl
def PK.fits:PK->TypeDesc->Bool
 |.b,.bool=>true
 |.i,.int _=>true
 |.s,.string=>true
 |_,_=>false
theorem YX{t:TypeId}{d:TypeDesc}(hd:P.underlying t=some d){pk:PK}(hk:pk.fits d=true){a b:AV}{x y:Value}{r:Bool}{m:Nat}
   (ha:aq ρ n C a x) (hb:aq ρ n C b y) (h:yW pk a b=some r) (w:World):(Op.equalIn (m+1) t x y).run P w= .ok r w:=by
 unfold yW at h;split at h
 .simp only[H0]at h;subst h;rw[ha.ir,hb.ir];cases d<;>simp[PK.fits]at hk;rw[run_equalIn_bool' w m t _ _ hd]
 . split at h
   .rename_i lB;have:=zA lB;subst this;simp only[H0]at h;subst h;rw[ha.iF,hb.iF];cases d<;>simp[PK.fits]at hk;rw[run_equalIn_int w m t _ _ _ _ hd,mU]
   .cases h
 .simp only[H0]at h;subst h;obtain⟨bx,rfl,h1⟩:=ha.eU;obtain⟨bz,rfl,h2⟩:=hb.eU;cases d<;>simp[PK.fits]at hk;rw[run_equalIn_string w m t _ _ hd,JJ h1 h2]
 .cases h
theorem Oe:∀{fs:List (Nat×Nat×Bool)}{l:List (Nat×PK)}{gs:List Field}{xs ys:List AV}{cx cy:Array Value}{r:Bool}{m:Nat}(_hT:cB P tt)
  (_hm:bU.eu fs gs=true) (_hf:Av.fields tt fs=some l) (_hx:az ρ n C xs cx.toList) (_hy:az ρ n C ys cy.toList) (_h:eqFields xs ys l=some r) (w:World),
  (Op.eqFields (m+1) cx cy gs).run P w= .ok r w
 |[],l,gs,xs,ys,cx,cy,r,m,hT,hm,hf,hx,hy,h,w=>by
  cases gs with
  |cons f gs=>simp[bU.eu]at hm
  | nil=>
    simp[Av.fields]at hf;subst hf;simp[eqFields]at h;subst h;simp[Op.eqFields]
 |(off  , t,named)::fs,l,gs,xs,ys,cx,cy,r,m,hT,hm,hf,hx,hy,h,w=>by
  cases gs with
  |nil=>simp[bU.eu]at hm
  | cons f gs=>
    simp[bU.eu]at hm;obtain⟨⟨⟨ho,ht⟩,hn⟩,hm'⟩:=hm;unfold Av.fields at hf;(split at hf<;>first|(cases hf;done)|skip);rename_i ti l' dc hl';obtain⟨d,hd,cH⟩:=(hT.at dc).und;have key:∃pk,l=(off,pk)::l'/\pk.fits d=true/\(isAgg t).run P w= .ok false w:=by
        have pW:=Si cH w hd;split at hf<;>first|(cases hf;done)|skip
        all_goals
          rename_i hk;simp only[H0]at hf;rw[hk]at cH pW;refine⟨_,hf.symm,?_,pW⟩
        .rw[Vb cH];rfl
        .rw[JG cH];rfl
        .rw[mE cH];rfl
    obtain⟨pk,rfl,II,pW⟩:=key;have cU:f.name≠ "_" :=(by intro e;rw[e]at hn;simp at hn);unfold eqFields at h;(split at h<;>first|(cases h;done)|skip);rename_i a b ha hb;rw[lY]at ha hb;obtain⟨x,hx1,Wz⟩:=hx.get ha;obtain⟨y,Ej,FA⟩:=hy.get hb;have px:(part f.type cx f.offset).run P w= .ok x w:=by
        rw[<-ht, <-ho];simp at hx1;simp[part,pW,hx1]
    have py:(part f.type cy f.offset).run P w= .ok y w:=by
        rw[<-ht, <-ho];simp at Ej;simp[part,pW,Ej]
    simp only[Op.eqFields,Sem.run_bind,Sem.run_ite,cU,px,py,Result.andThen_ok,ne_eq,Zn3,Zf9];split at h
    .   rename_i he;rw[<-ht,YX hd II Wz FA he w];simpa using Oe (m:=m) hT hm' hl' hx hy h w
    .   rename_i he;simp only[H0]at h;subst h;rw[<-ht,YX hd II Wz FA he w];simp
    .   cases h
def ah2(tt:TT)(op:BinOp)(q:gp)(t:TypeId):Prop:=Av tt t=some q\/(q= .num/\op≠ .eql/\op≠ .neq)
def akf(P:Program)(tt:TT)(t:TypeId):gp->Prop
 |.num=>True
 |.bool=>P.underlying t=some .bool
 |.ptr=>∃e,P.underlying t=some (.pointer e)/\∃j,P.info? e=some j
 |.slice=>∃e,P.underlying t=some (.slice e)
 |.map=>∃k e,P.underlying t=some (.map k e)
 |.func=>∃a b c,P.underlying t=some (.func a b c)
 |.iface=>∃a,P.underlying t=some (.interface a)
 |.struct l=>∃fs gs,P.underlying t=some (.struct gs)/\bU.eu fs gs.toList=true/\Av.fields tt fs=some l/\P.stoodInHeld t=false/\P.eqGuardType P.depth t=false
theorem abF(hT:cB P tt){t:TypeId}{q:gp}(hq:Av tt t=some q):akf P tt t q:=by
 unfold Av at hq;split at hq<;>first|(cases hq;done)|skip
 rename_i ti dc;obtain⟨d,hd,cH⟩:=(hT.at dc).und;split at hq<;>first|(cases hq;done)|skip
 all_goals rename_i hk
 all_goals rw[hk]at cH
 .simp only[H0]at hq;subst hq;rw[Vb cH]at hd;exact hd
 .simp only[H0]at hq;subst hq;trivial
 .simp only[H0]at hq;subst hq;trivial
 .simp only[H0]at hq;subst hq;rw[To cH]at hd;exact⟨_,hd,(hT.at dc).elem _ hk⟩
 .simp only[H0]at hq;subst hq;rw[mT cH]at hd;exact⟨_,hd⟩
 .simp only[H0]at hq;subst hq;rw[Od cH]at hd;exact⟨_,_,hd⟩
 .simp only[H0]at hq;subst hq;obtain⟨_,_,_,rfl⟩:=aip cH;exact⟨_,_,_,hd⟩
 .simp only[H0]at hq;subst hq;obtain⟨_,rfl⟩:=afU cH;exact⟨_,hd⟩
 . (split at hq<;>first|(cases hq;done)|skip);rename_i fs _ _ l hp hl;simp only[H0]at hq;subst hq;obtain⟨gs,rfl,hm⟩:=HD cH;exact⟨fs,gs,hd,hm,hl,(hT.at dc).eqs hp⟩
theorem acC(m:Nat)(hT:cB P tt){t:TypeId}{q:gp}(hq:Av tt t=some q){a b:AV}{x y:Value}{r:Bool}(ha:aq ρ n C a x)(hb:aq ρ n C b y)(h:IE q a b=some r)(w:World):
   (Op.equalIn (m+1+1) t x y).run P w= .ok r w:=by
 have hi:=abF hT hq;clear hq;unfold IE at h;split at h<;>first|(cases h;done)|skip
 .simp only[H0]at h;subst h;rw[ha.ir,hb.ir,run_equalIn_bool' w _ t _ _ hi]
 all_goals first
   |(simp only[H0]at h;subst h)
   |skip
 .obtain⟨e,hd,_⟩:=hi;rw[ha.rG,hb.rG];(unfold Op.equalIn;rw[Sem.run_bind,aV hd];rfl)
 .obtain⟨e,hd,_⟩:=hi;obtain⟨_,hb⟩:=hb.fJ;rw[ha.rG,hb];(unfold Op.equalIn;rw[Sem.run_bind,aV hd];rfl)
 .obtain⟨e,hd,_⟩:=hi;obtain⟨_,ha⟩:=ha.fJ;rw[hb.rG,ha];(unfold Op.equalIn;rw[Sem.run_bind,aV hd];rfl)
 .obtain⟨e,hd,_⟩:=hi;obtain⟨_,_,_,_,hb,_⟩:=hb.JH;rw[ha.rG,hb];(unfold Op.equalIn;rw[Sem.run_bind,aV hd];rfl)
 .obtain⟨e,hd,_⟩:=hi;obtain⟨_,_,_,_,ha,_⟩:=ha.JH;rw[hb.rG,ha];(unfold Op.equalIn;rw[Sem.run_bind,aV hd];rfl)
 .obtain⟨e,hd,j,hj⟩:=hi;(split at h<;>first|(cases h;done)|skip);rename_i e1 e2;have e1:=Pos.beq_eq.1 e1;have e2:=H4 e2;subst e1;subst e2;simp only[H0]at h;subst h;obtain⟨_,ha⟩:=ha.fJ;obtain⟨_,hb⟩:=hb.fJ;rw[ha,hb];simp[Op.equalIn,aV hd,sizeOf,typeInfo,hj,run_sameAddr_same]
 .obtain⟨e,hd⟩:=hi;rw[ha.fZ,hb.fZ];(unfold Op.equalIn;rw[Sem.run_bind,aV hd];rfl)
 .obtain⟨e,hd⟩:=hi;obtain⟨_,_,hb,_⟩:=hb.ee;rw[ha.fZ,hb];(unfold Op.equalIn;rw[Sem.run_bind,aV hd];rfl)
 .obtain⟨e,hd⟩:=hi;obtain⟨_,_,ha,_⟩:=ha.ee;rw[hb.fZ,ha];(unfold Op.equalIn;rw[Sem.run_bind,aV hd];rfl)
 .obtain⟨e,hd⟩:=hi;obtain⟨_,_,_,hb,_⟩:=hb.uW;rw[ha.fZ,hb];(unfold Op.equalIn;rw[Sem.run_bind,aV hd];rfl)
 .obtain⟨e,hd⟩:=hi;obtain⟨_,_,_,ha,_⟩:=ha.uW;rw[hb.fZ,ha];(unfold Op.equalIn;rw[Sem.run_bind,aV hd];rfl)
 .obtain⟨k,e,hd⟩:=hi;rw[ha.Cw,hb.Cw];(unfold Op.equalIn;rw[Sem.run_bind,aV hd];rfl)
 .obtain⟨k,e,hd⟩:=hi;obtain⟨_,hb⟩:=hb.zB;rw[ha.Cw,hb];(unfold Op.equalIn;rw[Sem.run_bind,aV hd];rfl)
 .obtain⟨k,e,hd⟩:=hi;obtain⟨_,ha⟩:=ha.zB;rw[hb.Cw,ha];(unfold Op.equalIn;rw[Sem.run_bind,aV hd];rfl)
 .obtain⟨_,_,_,hd⟩:=hi;rw[ha.K9,hb.K9];(unfold Op.equalIn;rw[Sem.run_bind,aV hd];rfl)
 .obtain⟨_,_,_,hd⟩:=hi;obtain⟨_,_,hb,_⟩:=hb.Fw;rw[ha.K9,hb];(unfold Op.equalIn;rw[Sem.run_bind,aV hd];rfl)
 .obtain⟨_,_,_,hd⟩:=hi;obtain⟨_,_,ha,_⟩:=ha.Fw;rw[hb.K9,ha];(unfold Op.equalIn;rw[Sem.run_bind,aV hd];rfl)
 .obtain⟨_,hd⟩:=hi;obtain⟨_,hb,_⟩:=hb.Wx;rw[ha.YW,hb];(unfold Op.equalIn;rw[Sem.run_bind,aV hd];rfl)
 .obtain⟨_,hd⟩:=hi;obtain⟨_,ha,_⟩:=ha.Wx;rw[hb.YW,ha];(unfold Op.equalIn;rw[Sem.run_bind,aV hd];rfl)
 .obtain⟨fs,gs,hd,hm,hl,hp,_⟩:=hi;obtain⟨cx,rfl,hx⟩:=ha.Fj;obtain⟨cy,rfl,hy⟩:=hb.Fj;have hfo:P.fieldsOf t=gs:=(by simp[Program.fieldsOf,hd]);rw[run_equalIn_agg w (m+1) t cx cy (by rw[hfo,hd]) hp,hfo];exact Oe (m:=m) hT hm hl hx hy h w
theorem YY(hT:cB P tt){t:TypeId}{q:gp}(hq:Av tt t=some q){a b:AV}{x y:Value}{r:Bool}(ha:aq ρ n C a x)(hb:aq ρ n C b y)(h:IE q a b=some r)(w:World):
 (Op.equal t x y).run P w= .ok r w:=acC 9998 hT hq ha hb h w
theorem Tr(hT:cB P tt){t:TypeId}{q:gp}(hq:Av tt t=some q){a b:AV}{x y:Value}{r:Bool}(ha:aq ρ n C a x)(hb:aq ρ n C b y)(h:IE q a b=some r)(op:BinOp)(ox oy:Operand)(w:World):
  (eqGuard op t ox oy x y).run P w= .ok () w:=by
 have hi:=abF hT hq;clear hq;unfold IE at h;split at h<;>first|(cases h;done)|skip
 all_goals first
  |(obtain⟨fs,gs,hd,hm,hl,hp,hg⟩:=hi
    obtain⟨cx,rfl,hx⟩:=ha.Fj;obtain⟨cy,rfl,hy⟩:=hb.Fj;exact run_eqGuard_agg w op t ox oy cx cy hg)
  |(cases ha<;>cases hb<;>cases op<;>rfl)
end
section
variable{P:Program}{tt:TT}{ρ:Pos->Loc}{C:Cells}{st:St}{w:World}{n:Nat}
theorem XJ(op:BinOp)(t:TypeId)(k:IntKind)(i j:Int)(hs:op≠ .shl)(hr:op≠ .shr):(binOp op t (.int k i) (.int k j)).run P w=
  (match op with
   |.add|.sub|.mul=>Op.intArith op k i j
   |.quo|.rem=>Op.intDiv op k i j
   |.and|.or|.xor|.andNot=>Op.intBits op k i j
   |_=>Op.intCmp op i j).run P w:=by
 cases op<;>first|(exact absurd rfl hs)|(exact absurd rfl hr)|simp[binOp]
theorem afV(hT:cB P tt){op:BinOp}{t:TypeId}{q:gp}(hq:ah2 tt op q t){a b v:AV}{x y:Value}(ha:aq ρ n C a x)(hb:aq ρ n C b y)(h:jT op q a b=some v)(ox oy:Operand):
  ∃z,(do eqGuard op t ox oy x y;binOp op t x y:Sem Value).run P w= .ok z w/\aq ρ n C v z:=by
 unfold jT at h;split at h
 ·
  rename_i k i k' j;rw[ha.iF,hb.iF];have hg:∀op,(eqGuard op t ox oy (.int k i) (.int k' j)).run P w= .ok () w:=by intro op;cases op<;>rfl
  rw[Sem.run_bind,hg,Result.andThen_ok];split at h
  . split at h
    .   cases h
    .   rename_i bw;rw[eJ]at bw;have bw:=Zl4 bw;simp only[H0]at h;subst h;exact⟨_,by simp[binOp,Op.shift,bw,rH],.int _ _⟩
  . split at h
    .   cases h
    .   rename_i bw;rw[eJ]at bw;have bw:=Zl4 bw;simp only[H0]at h;subst h;exact⟨_,by simp[binOp,Op.shift,bw],.int _ _⟩
  . rename_i hs hr;split at h
    .   cases h
    .   rename_i hk;have:=zA hk;subst this;rw[XJ op t k i j (λe=>hs e) (λe=>hr e)];split at h
        .simp only[H0]at h;subst h;exact⟨_,by simp[Op.intArith,rH],.int _ _⟩
        .simp only[H0]at h;subst h;exact⟨_,by simp[Op.intArith,rH],.int _ _⟩
        .simp only[H0]at h;subst h;exact⟨_,by simp[Op.intArith,rH],.int _ _⟩
        . split at h
          .cases h
          . (rename_i h0;rw[mU]at h0;have h0':¬j=0:=by simpa using h0);simp only[H0]at h;subst h;exact⟨_,by simp[Op.intDiv,h0',rH],.int _ _⟩
        . split at h
          .cases h
          . (rename_i h0;rw[mU]at h0;have h0':¬j=0:=by simpa using h0);simp only[H0]at h;subst h;exact⟨_,by simp[Op.intDiv,h0'],.int _ _⟩
        .simp only[H0]at h;subst h;exact⟨_,by simp[Op.intBits],.int _ _⟩
        .simp only[H0]at h;subst h;exact⟨_,by simp[Op.intBits],.int _ _⟩
        .simp only[H0]at h;subst h;exact⟨_,by simp[Op.intBits],.int _ _⟩
        .simp only[H0]at h;subst h;exact⟨_,by simp[Op.intBits],.int _ _⟩
        .simp only[H0]at h;subst h;exact⟨_,by simp[Op.intCmp,mU],.bool _⟩
        .simp only[H0]at h;subst h;refine⟨_,rfl,?_⟩;rw[mU];exact .bool _
        .simp only[H0]at h;subst h;refine⟨_,rfl,?_⟩;rw[eJ];exact .bool _
        .simp only[H0]at h;subst h;refine⟨_,rfl,?_⟩;rw[iP];exact .bool _
        .simp only[H0]at h;subst h;refine⟨_,rfl,?_⟩;rw[eJ];exact .bool _
        .simp only[H0]at h;subst h;refine⟨_,rfl,?_⟩;rw[iP];exact .bool _
        .cases h
 ·
  rename_i s u;obtain⟨bx,rfl,h1⟩:=ha.eU;obtain⟨bz,rfl,h2⟩:=hb.eU;have hg:∀op,(eqGuard op t ox oy (.string bx) (.string bz)).run P w= .ok () w:=by intro op;cases op<;>rfl
  rw[Sem.run_bind,hg,Result.andThen_ok];have hs:(binOp op t (.string bx) (.string bz)).run P w=(Op.stringOp op bx bz).run P w:=by cases op<;>rfl
  rw[hs];have e1:=JJ h1 h2;have e2:=Sj h1 h2;split at h
  . split at h
    .   rename_i hb;have hb:=Za1 hb;simp only[H0]at h;subst h;have kH:¬(((bx.size+bz.size:Nat):Int)>IntKind.i64.max):=(by rw[yY h1,yY h2];simp[IntKind.max,IntKind.signed,IntKind.bits];omega);refine⟨.string (bx++bz),?_,.str _ _ ?_⟩
        .simp only[Op.stringOp];rw[Za2 kH];rfl
        .rw[ByteArray.data_append,Array.toList_append,Zg3,h1,h2]
    .   cases h
  all_goals first|(cases h;done)|skip
  all_goals
    simp only[H0]at h;subst h;refine⟨_,rfl,?_⟩
    first|rw[e1,e2]|rw[e1]|rw[e2]
    exact .bool _
 ·
  rename_i hni hns;have HF:∀op,(op= .eql\/op= .neq)->(binOp op t x y).run P w=((Op.equal t x y).run P w).andThen λr w'=>.ok (.bool (if op= .eql then r else !r)) w':=by
    rintro op (rfl|rfl)
    all_goals
        cases ha<;>cases hb<;>first
          |(exact(hni _ _ _ _ rfl rfl).elim)
          |(exact(hns _ _ rfl rfl).elim)
          |simp[binOp]
  split at h
  . split at h
    .   rename_i r hr;simp only[H0]at h;subst h;rcases hq with hq|⟨_,hq,_⟩
        .refine⟨.bool r,?_,.bool r⟩;rw[Sem.run_bind,Tr hT hq ha hb hr,Result.andThen_ok,HF _ (.inl rfl),YY hT hq ha hb hr];rfl
        .exact absurd rfl hq
    .   cases h
  . split at h
    .   rename_i r hr;simp only[H0]at h;subst h;rcases hq with hq|⟨_,_,hq⟩
        .refine⟨.bool (!r),?_,.bool _⟩;rw[Sem.run_bind,Tr hT hq ha hb hr,Result.andThen_ok,HF _ (.inr rfl),YY hT hq ha hb hr];rfl
        .exact absurd rfl hq
    .   cases h
  .cases h
end
def dK(P:Program)(tt:TT)(op:Op):Prop:=
 ∀  (ρ:Pos->Loc)(C:Cells)(st:St)(w:World)(k:ax)(xs:List eZ)(cls:Cls)(fr:Fr)(a:Act)(o:Oper)(vs:List AV)(res:cL),
    o.op=op->gI tt op=some (k,xs,cls)->bn ρ C st w->fS ρ st.next.toNat C fr a.tmps->e8 fr xs=some vs->
    k.run (λb=>st.heap.get b) st.next vs=some res->wE P ρ C st w ((execOp a.eval o).run P w) res
section
variable{P:Program}{tt:TT}
theorem Vc{ρ:Pos->Loc}{n:Nat}{C:Cells}{x y:Operand}{os:List eZ}{fr:Fr}{a:Act}{vs:List AV}(h:jJ [x,y]=some os)(hF:fS ρ n C fr a.tmps)(hv:e8 fr os=some vs):
  ∃u v,vs=[u,v]/\aq ρ n C u (a.eval x)/\aq ρ n C v (a.eval y):=by
 have h1:=eT h hF hv;cases vs with
 |nil=>have:=h1.1;simp at this
 |cons u vs=>
  cases vs with
  |nil=>have:=h1.1;simp at this
  |cons v vs=>
   cases vs with
   |nil=>exact⟨u,v,rfl,h1.2 0 u _ rfl rfl,h1.2 1 v _ rfl rfl⟩
   |cons z vs=>have:=h1.1;simp at this
theorem evs3{ρ:Pos->Loc}{n:Nat}{C:Cells}{x y z:Operand}{os:List eZ}{fr:Fr}{a:Act}{vs:List AV}(h:jJ [x,y,z]=some os)(hF:fS ρ n C fr a.tmps)(hv:e8 fr os=some vs):
  ∃u v q,vs=[u,v,q]/\aq ρ n C u (a.eval x)/\aq ρ n C v (a.eval y)/\aq ρ n C q (a.eval z):=by
 have h1:=eT h hF hv
 match vs,h1 with
 |[u,v,q],h1=>exact⟨u,v,q,rfl,h1.2 0 u _ rfl rfl,h1.2 1 v _ rfl rfl,h1.2 2 q _ rfl rfl⟩
 |[],h1=>have:=h1.1;simp at this
 |[_],h1=>have:=h1.1;simp at this
 |[_,_],h1=>have:=h1.1;simp at this
 |_::_::_::_::_,h1=>have:=h1.1;simp at this
theorem afW(x:Operand):dK P tt (.move x):=by
 intro ρ C st w k xs cls fr a o vs res ho hc hW hF hx hr;simp only[gI]at hc;split at hc<;>first|(cases hc;done)|skip
 rename_i b hb;cases hc;obtain⟨v,rfl,hv⟩:=fE hb hF hx;simp only[ax.run,Qq,H0]at hr;subst hr;exact .pure (by simp[execOp,ho]) hv
theorem acD(x:Operand):dK P tt (.assign x):=by
 intro ρ C st w k xs cls fr a o vs res ho hc hW hF hx hr;simp only[gI]at hc;split at hc<;>first|(cases hc;done)|skip
 rename_i b hb;cases hc;obtain⟨v,rfl,hv⟩:=fE hb hF hx;simp only[ax.run,Qq,H0]at hr;subst hr;exact .pure (by simp[execOp,ho]) hv
theorem afX(c x y:Operand):dK P tt (.pick c x y):=by
 intro ρ C st w k xs cls fr a o vs res ho hc hW hF hx hr;simp only[gI]at hc;split at hc<;>first|(cases hc;done)|skip
 rename_i l hl;cases hc;obtain⟨u,v,q,rfl,h1,h2,h3⟩:=evs3 hl hF hx;simp only[ax.run,U8]at hr;split at hr<;>first|(cases hr;done)|skip
 all_goals
   simp only[H0]at hr;subst hr;have h1:=h1.ir
 .exact .pure (by simp[execOp,ho,h1,asBool]) h2
 .exact .pure (by simp[execOp,ho,h1,asBool]) h3
theorem ad5(hT:cB P tt)(op:BinOp)(t:TypeId)(x y:Operand)(yt:TypeId):dK P tt (.binOp op t x y yt):=by
 intro ρ C st w k xs cls fr a o vs res ho hc hW hF hx hr;have key:∃q,ah2 tt op q t/\k= .bin op q/\jJ [x,y]=some xs:=by
  simp only[gI]at hc;split at hc
  .rename_i q l hq hl;cases hc;exact⟨q,.inl hq,rfl,hl⟩
  .rename_i l hq hl;(split at hc<;>first|(cases hc;done)|skip);rename_i h1 h2;cases hc;exact⟨.num,.inr ⟨rfl,λe=>h1 e,λe=>h2 e⟩,rfl,hl⟩
  .cases hc
 obtain⟨q,hq,rfl,hl⟩:=key;obtain⟨u,v,rfl,h1,h2⟩:=Vc hl hF hx;simp only[ax.run,fI]at hr;split at hr<;>first|(cases hr;done)|skip
 rename_i r hb;simp only[H0]at hr;subst hr;obtain⟨z,hz,hv⟩:=afV hT hq h1 h2 hb x y (w:=w);refine .pure ?_ hv;simp only[execOp,ho];rw[Sem.run_bind,hz];rfl
theorem afY(op:UnOp)(t:TypeId)(x:Operand):dK P tt (.unOp op t x):=by
 intro ρ C st w k xs cls fr a o vs res ho hc hW hF hx hr;simp only[gI]at hc;split at hc<;>first|(cases hc;done)|skip
 rename_i b hb;cases hc;obtain⟨v,rfl,hv⟩:=fE hb hF hx;simp only[ax.run,acw]at hr;split at hr<;>first|(cases hr;done)|skip
 rename_i r hu;simp only[H0]at hr;subst hr;unfold unA at hu;split at hu
 . (split at hu<;>first|(cases hu;done)|skip);simp only[H0]at hu;subst hu;exact .pure (by simp[execOp,ho,hv.ir,Op.unary]) (.bool _)
 . (split at hu<;>first|(cases hu;done)|skip);simp only[H0]at hu;subst hu;exact .pure (by simp[execOp,ho,hv.iF,Op.unary,Op.intArith];rfl) (by rw[rH];simpa using aq.int _ _)
 .cases hu
theorem YZ(x:Operand):dK P tt (.nilCheck x):=by
 intro ρ C st w k xs cls fr a o vs res ho hc hW hF hx hr;simp only[gI]at hc;split at hc<;>first|(cases hc;done)|skip
 rename_i b hb;cases hc;obtain⟨v,rfl,hv⟩:=fE hb hF hx;simp only[ax.run,IF]at hr;split at hr<;>first|(cases hr;done)|skip
 all_goals simp only[H0]at hr;subst hr
 .obtain⟨_,he⟩:=hv.fJ;exact .pure (by simp[execOp,ho,he]) hv
 .obtain⟨_,_,_,_,he,_⟩:=hv.JH;exact .pure (by simp[execOp,ho,he]) hv
 .obtain⟨_,_,he,_⟩:=hv.Fw;exact .pure (by simp[execOp,ho,he]) hv
theorem aa9(x:Operand)(i:Nat):dK P tt (.extract x i):=by
 intro ρ C st w k xs cls fr a o vs res ho hc hW hF hx hr;simp only[gI]at hc;split at hc<;>first|(cases hc;done)|skip
 rename_i b hb;cases hc;obtain⟨v,rfl,hv⟩:=fE hb hF hx;simp only[ax.run,EP]at hr;split at hr<;>first|(cases hr;done)|skip
 split at hr<;>first|(cases hr;done)|skip
 rename_i u hu;simp only[H0]at hr;subst hr;obtain⟨cs,he,hs⟩:=hv.Wu;rw[lY]at hu;obtain⟨y,hy,FC⟩:=hs.get hu;exact .pure (by simp at hy;simp[execOp,ho,he,Instr.extract,hy]) FC
theorem aba(hT:cB P tt)(t:TypeId)(x:Operand):dK P tt (.makeInterface t x):=by
 intro ρ C st w k xs cls fr a o vs res ho hc hW hF hx hr;simp only[gI]at hc;split at hc<;>first|(cases hc;done)|skip
 rename_i ti b dc hb;split at hc<;>first|(cases hc;done)|skip
 rename_i h1 h2;cases hc;obtain⟨v,rfl,hv⟩:=fE hb hF hx;simp only[ax.run,KU,H0]at hr;subst hr;obtain⟨d,hd,hk⟩:=(hT.at dc).und;refine .pure (x:= .iface t (a.eval x)) ?_ (.iface _ _ _ hv);have hni:∀ms,d≠ .interface ms:=by
  rintro ms rfl;cases Ek:ti.k<;>rw[Ek]at hk<;>first|(simp[bU]at hk;done)|(exact h1 Ek)|(exact h2 Ek)
 simp only[execOp,ho,Instr.makeInterface,Sem.run_bind,aV hd,Result.andThen_ok];cases d<;>first|rfl|(exact absurd rfl (hni _))
theorem acE(fn:Fn)(first captured:Array Operand):dK P tt (.makeFunc fn first captured):=by
 intro ρ C st w k xs cls fr a o vs res ho hc hW hF hx hr;simp only[gI]at hc;split at hc<;>first|(cases hc;done)|skip
 rename_i f l hl;cases hc;have h:=eT hl hF hx;simp only[ax.run,Hy,H0]at hr;subst hr;have e1:vs.take first.size=vs.take first.size:=rfl
 have h1:=h.take first.size
 have h2:=h.drop first.size
 simp only[Zg3]at h1 h2;rw[Zl6 (by simp)]at h1;rw[List.drop_left' (by simp)]at h2;refine .pure (x:= .func (.func f) (first.map a.eval) (captured.map a.eval)) (by simp[execOp,ho,Instr.makeFunc]) ?_;exact .func _ _ _ _ _ (by simpa using h1.1) (by simpa using h2.1) (λi v v' hv FD=>h1.2 i v v' hv (by simpa using FD)) (λi v v' hv FD=>h2.2 i v v' hv (by simpa using FD))
theorem XK(hT:cB P tt)(t:TypeId)(x:Operand)(f:Nat):dK P tt (.fieldAddr t x f):=by
 intro ρ C st w k xs cls fr a o vs res ho hc hW hF hx hr;simp only[gI]at hc;split at hc<;>first|(cases hc;done)|skip
 rename_i ti b dc hb;split at hc<;>first|(cases hc;done)|skip
 rename_i fs hk;split at hc<;>first|(cases hc;done)|skip
 rename_i off ft nm hf;split at hc<;>first|(cases hc;done)|skip
 rename_i fi hfi;split at hc<;>first|(cases hc;done)|skip
 rename_i ew;cases hc;obtain⟨v,rfl,hv⟩:=fE hb hF hx;obtain⟨d,hd,cH⟩:=(hT.at dc).und;rw[hk]at cH;obtain⟨gs,rfl,hm⟩:=HD cH;obtain⟨g,hg,oJ,B6,_⟩:=K7 hm hf;simp only at oJ B6;obtain⟨i,hi,kZ,_⟩:=(hT.at hfi).info;have hs0:¬i.size=0:=by rw[kZ];exact Zc0 ew
 simp only[ax.run,N9]at hr;split at hr<;>first|(cases hr;done)|skip
 .simp only[H0]at hr;subst hr;obtain⟨bw,he⟩:=hv.fJ;refine .pure (x:= .pointer (some ⟨(ρ _).aA,(ρ _).base+(_+off),none⟩)) ?_ (.ptr _ _ bw);simp at hg;simp[execOp,ho,he,Instr.fieldAt,aV hd,hg,Instr.sureAddr,fieldPlace,B6,iO hi,hs0,lZ,oJ,Zh4]
 .simp only[H0]at hr;subst hr;obtain⟨es,aA,base,cell,he,h1,h2,h3⟩:=hv.JH;rename_i xQ i' j';refine .pure (x:= .pointer (some ⟨aA,base+i'*es+(j'+off),none⟩)) ?_ (.fp _ _ _ es aA base cell h1 h2 h3);simp at hg;simp[execOp,ho,he,Instr.fieldAt,aV hd,hg,Instr.sureAddr,fieldPlace,B6,iO hi,hs0,lZ,oJ,Zh4]
theorem jY{ρ:Pos->Loc}{n:Nat}{C:Cells}{v:AV}{x:Value}{i:Nat}(h:aq ρ n C v x)(hi:uU v=some i):∃k,x= .int k (i:Int):=by
 unfold uU at hi;split at hi<;>first|(cases hi;done)|skip
 split at hi<;>first|(cases hi;done)|skip
 simp only[H0]at hi;subst hi;exact⟨_,h.iF⟩
theorem XL(hT:cB P tt)(t:TypeId)(x ix:Operand):dK P tt (.indexAddr t x ix):=by
 intro ρ C st w k xs cls fr a o vs res ho hc hW hF hx hr;simp only[gI]at hc;split at hc<;>first|(cases hc;done)|skip
 rename_i ti l dc hl;obtain⟨d,hd,cH⟩:=(hT.at dc).und;obtain⟨u,v,rfl,h1,h2⟩:=Vc hl hF (by
   split at hc<;>first|(cases hc;done)|skip
   all_goals
     (split at hc<;>first|(cases hc;done)|skip);cases hc;exact hx)
 split at hc<;>first|(cases hc;done)|skip
 . rename_i e hk;rw[hk]at cH;rw[mT cH]at hd;(split at hc<;>first|(cases hc;done)|skip);rename_i te fK;cases hc;obtain⟨i0,mF,kZ,_⟩:=(hT.at fK).info;simp only[ax.run,mK]at hr;(split at hr<;>first|(cases hr;done)|skip);rename_i i hi;obtain⟨kk,Re⟩:=jY h2 hi;split at hr<;>first|(cases hr;done)|skip
   .rename_i b off len cap es' _;(split at hr<;>first|(cases hr;done)|skip);rename_i bw;have bw:i<len:=(by simpa using bw);simp only[H0]at hr;subst hr;obtain⟨aa,aS,he,hle,_,ha⟩:=h1.ee;obtain⟨hb,rfl,_⟩:=ha (by omega);refine .pure (x:= .pointer (some ⟨(ρ b).aA,(ρ b).base+(off+i*te.size),none⟩)) ?_ (.ptr _ _ hb);simp[execOp,ho,he,Re,Instr.indexAt,aV hd,asIntOf,bw,iO mF,lZ,kZ,Zh4]
   .rename_i xQ es' _;(split at hr<;>first|(cases hr;done)|skip);rename_i bw eF;have bw:i<xQ.length:=(by simpa using bw);have eF:te.size=es':=H4 eF;simp only[H0]at hr;subst hr;obtain⟨aa,aS,cell,he,hle,Az,g1,g2,g3⟩:=h1.uW;have Az:=Az (by intro e;rw[e]at bw;simp at bw);obtain⟨ab,ao,asp⟩:=aa;simp only at Az;subst Az;refine .pure (x:= .pointer (some ⟨ab,ao+i*es'+0,none⟩)) ?_ (.fp _ _ _ es' ab ao cell g1 g2 g3);simp[execOp,ho,he,Re,Instr.indexAt,aV hd,asIntOf,bw,iO mF,lZ,kZ,eF]
   .rename_i hh;cases hh
 . rename_i m e hk;rw[hk]at cH;rw[YV cH]at hd;(split at hc<;>first|(cases hc;done)|skip);rename_i te fK;cases hc;obtain⟨i0,mF,kZ,_⟩:=(hT.at fK).info;simp only[ax.run,mK]at hr;(split at hr<;>first|(cases hr;done)|skip);rename_i i hi;obtain⟨kk,Re⟩:=jY h2 hi;split at hr<;>first|(cases hr;done)|skip
   .rename_i hh;cases hh
   .rename_i hh;cases hh
   .rename_i m' b off hh;cases hh;(split at hr<;>first|(cases hr;done)|skip);rename_i bw;have bw:i<m:=(by simpa using bw);simp only[H0]at hr;subst hr;obtain⟨hb,he⟩:=h1.fJ;refine .pure (x:= .pointer (some ⟨(ρ b).aA,(ρ b).base+(off+i*te.size),none⟩)) ?_ (.ptr _ _ hb);simp[execOp,ho,he,Re,Instr.indexAt,aV hd,asIntOf,bw,iO mF,lZ,kZ,Zh4,Instr.sureAddr]
end
section
variable{P:Program}{tt:TT}
theorem ad6(hT:cB P tt)(t:TypeId)(x:Operand)(f:Nat):dK P tt (.field t x f):=by
 intro ρ C st w k xs cls fr a o vs res ho hc hW hF hx hr;simp only[gI]at hc;split at hc<;>first|(cases hc;done)|skip
 rename_i ti b dc hb;split at hc<;>first|(cases hc;done)|skip
 rename_i fs hk;split at hc<;>first|(cases hc;done)|skip
 rename_i off ft nm hf;split at hc<;>first|(cases hc;done)|skip
 rename_i fi hfi;cases hc;obtain⟨v,rfl,hv⟩:=fE hb hF hx;obtain⟨d,hd,cH⟩:=(hT.at dc).und;rw[hk]at cH;obtain⟨gs,rfl,hm⟩:=HD cH;obtain⟨g,hg,oJ,B6,_⟩:=K7 hm hf;simp only at oJ B6;obtain⟨i,hi,kZ,_⟩:=(hT.at hfi).info;obtain⟨fd,hfd,hfk⟩:=(hT.at hfi).und;have pW:=Si hfk w hfd;simp only[ax.run,Sb]at hr;split at hr<;>first|(cases hr;done)|skip
 rename_i cs;obtain⟨cx,he,hs⟩:=hv.Fj;simp at hg;split at hr
 . rename_i hn;(split at hr<;>first|(cases hr;done)|skip);rename_i u hu;simp only[H0]at hr;subst hr;rw[lY]at hu;obtain⟨y,hy,FC⟩:=hs.get hu;have acF:fi.k.isAgg=false:=by
     unfold Aw at hn;split at hn
     .cases hn
     .assumption
   rw[acF]at pW;refine .pure (x:=y) ?_ FC;simp at hy;simp[execOp,ho,he,Instr.field,aV hd,hg,part,B6,pW,asAgg,oJ,hy]
 . rename_i m hn;simp only[H0]at hr;subst hr;have acF:fi.k.isAgg=true/\m=fi.size:=by
     unfold Aw at hn;split at hn
     .cases hn;exact⟨by assumption,rfl⟩
     .cases hn
   rw[acF.1]at pW;refine .pure (x:= .agg (cx.extract off (off+m))) ?_ (.Fv ?_)
   .simp[execOp,ho,he,Instr.field,aV hd,hg,part,B6,pW,asAgg,oJ,iO hi,kZ,acF.2]
   .have:=(hs.drop off).take m;simpa [Zo5,List.extract]using this
theorem ad7(hT:cB P tt)(t:TypeId)(x ix:Operand):dK P tt (.index t x ix):=by
 intro ρ C st w k xs cls fr a o vs res ho hc hW hF hx hr;simp only[gI]at hc;split at hc<;>first|(cases hc;done)|skip
 rename_i ti l dc hl;split at hc<;>first|(cases hc;done)|skip
 rename_i hk;cases hc;obtain⟨u,v,rfl,h1,h2⟩:=Vc hl hF hx;obtain⟨d,hd,cH⟩:=(hT.at dc).und;rw[hk]at cH;rw[mE cH]at hd;simp only[ax.run,Qr]at hr;split at hr<;>first|(cases hr;done)|skip
 rename_i s i hi;split at hr<;>first|(cases hr;done)|skip
 rename_i c hcx;simp only[H0]at hr;subst hr;obtain⟨bs,he,hs⟩:=h1.eU;obtain⟨kk,Re⟩:=jY h2 hi;rw[lY, <-hs,Zb5]at hcx;obtain⟨b,hb,hbc⟩:=Zf7.1 hcx;have jw:bs[i]? =some b:=by
  obtain⟨bw,kI⟩:=H5.1 hb;have K8:i<bs.size:=by rw[Zg4]at bw;exact bw
  rw[getElem?_pos bs i K8];congr 1
 refine .pure (x:= .int .u8 (.ofNat c)) ?_ (.int _ _);simp[execOp,ho,he,Re,Instr.index,aV hd,asIntOf,jw, <-hbc]
theorem afZ(hT:cB P tt)(t:TypeId)(x:Operand):dK P tt (.load t x):=by
 intro ρ C st w k xs cls fr a o vs res ho hc hW hF hx hr;simp only[gI]at hc;split at hc<;>first|(cases hc;done)|skip
 rename_i ti b dc hb;cases hc;obtain⟨v,rfl,hv⟩:=fE hb hF hx;obtain⟨d,hd,cH⟩:=(hT.at dc).und;obtain⟨i,hi,kZ,_⟩:=(hT.at dc).info;have pW:=Si cH w hd;have hn:(Aw ti=none/\ti.k.isAgg=false)\/(Aw ti=some ti.size/\ti.k.isAgg=true):=by unfold Aw;split<;>simp_all
 simp only[ax.run,wC]at hr;split at hr<;>first|(cases hr;done)|skip
 . rename_i bb off;(split at hr<;>first|(cases hr;done)|skip);rename_i cs fz kI;obtain⟨_,he⟩:=hv.fJ;rcases hn with⟨hn,hf⟩|⟨hn,hf⟩
   .rw[hn]at hr;rw[hf]at pW;simp only at hr;(split at hr<;>first|(cases hr;done)|skip);rename_i u hu;simp only[H0]at hr;subst hr;rw[lY]at hu;obtain⟨y,hy,FC⟩:=hW.cell kI hu;refine .pure (x:=y) ?_ FC;simp[execOp,ho,he,Instr.loadAt,Instr.sureAddr,loadVar,pW,hy]
   .rw[hn]at hr;rw[hf]at pW;simp only at hr;(split at hr<;>first|(cases hr;done)|skip);rename_i us hu;simp only[H0]at hr;subst hr;obtain⟨ys,hy,FC⟩:=hW.loadCells (P:=P) kI hu;refine .pure (x:= .agg ys.toArray) ?_ (.Fv (by simpa using FC));simp[execOp,ho,he,Instr.loadAt,Instr.sureAddr,loadVar,pW,iO hi,kZ,hy]
   rename_i tt0 cs kI;obtain⟨_,he⟩:=hv.fJ;rcases hn with⟨hn,hf⟩|⟨hn,hf⟩
   .rw[hn]at hr;rw[hf]at pW;simp only at hr;(split at hr<;>first|(cases hr;done)|skip);rename_i u hu;simp only[H0]at hr;subst hr;rw[lY]at hu;obtain⟨y,hy,FC⟩:=hW.ake kI hu;refine .pure (x:=y) ?_ FC;simp[execOp,ho,he,Instr.loadAt,Instr.sureAddr,loadVar,pW,hy]
   .rw[hn]at hr;rw[hf]at pW;simp only at hr;(split at hr<;>first|(cases hr;done)|skip);rename_i us hu;simp only[H0]at hr;subst hr;obtain⟨ys,hy,FC⟩:=hW.Tp (P:=P) kI hu;refine .pure (x:= .agg ys.toArray) ?_ (.Fv (by simpa using FC));simp[execOp,ho,he,Instr.loadAt,Instr.sureAddr,loadVar,pW,iO hi,kZ,hy]
 . rename_i xQ i' j';(split at hr<;>first|(cases hr;done)|skip);rename_i cs fT;rw[lY]at fT;obtain⟨es,aA,base,cell,he,g1,g2,g3⟩:=hv.JH;rcases hn with⟨hn,hf⟩|⟨hn,hf⟩
   .rw[hn]at hr;rw[hf]at pW;simp only at hr;(split at hr<;>first|(cases hr;done)|skip);rename_i u hu;simp only[H0]at hr;subst hr;rw[lY]at hu;have HE:=(hW.ek _ _ (g2 _ _ _ _ fT hu)).1;refine .pure (x:=cell i' j') ?_ (g3 _ _ _ _ fT hu);simp[execOp,ho,he,Instr.loadAt,Instr.sureAddr,loadVar,pW,HE]
   . rw[hn]at hr;rw[hf]at pW;simp only at hr;(split at hr<;>first|(cases hr;done)|skip);rename_i us hu;simp only[H0]at hr;subst hr;obtain⟨hus,hle⟩:=Fz hu;have hlen:=wF hu;have cC:(loadCells ⟨aA,base+i'*es+j',none⟩ ti.size).run P w= .ok ((List.range ti.size).map λq=>cell i' (j'+q)).toArray w:=by
        (refine run_loadCells w _ _ _ λq hq=> ?_);rw[lZ];have:cs[j'+q]? =some (cs[j'+q]'(by omega)):=H1 (by omega);rw[Zh4];exact(hW.ek _ _ (g2 _ _ _ _ fT this)).1
     refine .pure (x:= .agg ((List.range ti.size).map λq=>cell i' (j'+q)).toArray) ?_ (.Fv ⟨by simp[hlen],λq u y hu' hy=> ?_⟩)
     .  simp[execOp,ho,he,Instr.loadAt,Instr.sureAddr,loadVar,pW,iO hi,kZ,cC]
     .  have hq:q<ti.size:=(by rw[<-hlen];exact(H5.1 hu').1);rw[hus,Zb8,Za4 hq,Zd7]at hu';simp[hq]at hy;subst hy;exact g3 _ _ _ _ fT hu'
theorem af0{x y:Value}{ρ:Pos->Loc}{n:Nat}{C:Cells}{u v r:AV}{w:World}{st:St}(h1:aq ρ n C u x)(h2:aq ρ n C v y)(hr:Fh (λb=>st.heap.get b) st.next [u,v]=some (.val r)):
   ∃z,(Builtin.min2 x y).run P w= .ok z w/\aq ρ n C r z:=by
 simp only[Fh]at hr;split at hr<;>first|(cases hr;done)|skip
 . simp only[H0,cL.val.injEq]at hr;subst hr;rw[h1.iF,h2.iF];refine⟨_,rfl,?_⟩;rw[eJ];split
   .rename_i h;rw[Za4 (Zh6 h)];exact .int _ _
   .rename_i h;rw[Za2 (Zl4 h)];exact .int _ _
 . simp only[H0,cL.val.injEq]at hr;subst hr;rename_i sa sb;obtain⟨bx,rfl,e1⟩:=h1.eU;obtain⟨bz,rfl,e2⟩:=h2.eU;have hh:(Op.stringOp .leq bx bz).run P w= .ok (.bool (aD sa sb||ja sa sb)) w:=by
     simp only[Op.stringOp,Sem.run_pure];rw[Sj e1 e2,JJ e1 e2]
   refine⟨_,by simp only[Builtin.min2,Sem.run_bind,hh,Result.andThen_ok,asBool,Sem.run_pure];rfl,?_⟩;split
   .rename_i h;rw[Za4 h];exact .str _ _ e1
   .rename_i h;rw[Za2 (by rw[h];simp)];exact .str _ _ e2
theorem af1{x y:Value}{ρ:Pos->Loc}{n:Nat}{C:Cells}{u v r:AV}{w:World}{st:St}(h1:aq ρ n C u x)(h2:aq ρ n C v y)(hr:Fi (λb=>st.heap.get b) st.next [u,v]=some (.val r)):
   ∃z,(Builtin.max2 x y).run P w= .ok z w/\aq ρ n C r z:=by
 simp only[Fi]at hr;split at hr<;>first|(cases hr;done)|skip
 . simp only[H0,cL.val.injEq]at hr;subst hr;rw[h1.iF,h2.iF];refine⟨_,rfl,?_⟩;rw[eJ];split
   .rename_i h;rw[Za4 (Zh6 h)];exact .int _ _
   .rename_i h;rw[Za2 (Zl4 h)];exact .int _ _
 . simp only[H0,cL.val.injEq]at hr;subst hr;rename_i sa sb;obtain⟨bx,rfl,e1⟩:=h1.eU;obtain⟨bz,rfl,e2⟩:=h2.eU;have hh:(Op.stringOp .geq bx bz).run P w= .ok (.bool (!aD sa sb)) w:=by
     simp only[Op.stringOp,Sem.run_pure];rw[Sj e1 e2]
   refine⟨_,by simp only[Builtin.max2,Sem.run_bind,hh,Result.andThen_ok,asBool,Sem.run_pure];rfl,?_⟩;split
   .rename_i h;rw[Za2 (by rw[h];simp)];exact .str _ _ e2
   .rename_i h;rw[Za4 (by rw[h];rfl)];exact .str _ _ e1
theorem gO(xs:Array Operand)(a:Act):xs.toList.map a.eval=(xs.map a.eval).toList:=by simp
end
section
variable{P:Program}{tt:TT}
theorem vs1{ρ:Pos->Loc}{n:Nat}{C:Cells}{bs:List AV}{x:Value}(h:az ρ n C bs [x]):∃b,bs=[b]/\aq ρ n C b x:=by
 match bs,h with
 |[b],h=>exact⟨b,rfl,h.2 0 b x rfl rfl⟩
 |[],h=>have:=h.1;simp at this
 |_::_::_,h=>have:=h.1;simp at this
theorem vs2{ρ:Pos->Loc}{n:Nat}{C:Cells}{bs:List AV}{x y:Value}(h:az ρ n C bs [x,y]):∃b c,bs=[b,c]/\aq ρ n C b x/\aq ρ n C c y:=by
 match bs,h with
 |[b,c],h=>exact⟨b,c,rfl,h.2 0 b x rfl rfl,h.2 1 c y rfl rfl⟩
 |[],h=>have:=h.1;simp at this
 |[_],h=>have:=h.1;simp at this
 |_::_::_::_,h=>have:=h.1;simp at this
theorem vs3{ρ:Pos->Loc}{n:Nat}{C:Cells}{bs:List AV}{x y z:Value}(h:az ρ n C bs [x,y,z]):∃b c d,bs=[b,c,d]/\aq ρ n C b x/\aq ρ n C c y/\aq ρ n C d z:=by
 match bs,h with
 |[b,c,d],h=>exact⟨b,c,d,rfl,h.2 0 b x rfl rfl,h.2 1 c y rfl rfl,h.2 2 d z rfl rfl⟩
 |[],h=>have:=h.1;simp at this
 |[_],h=>have:=h.1;simp at this
 |[_,_],h=>have:=h.1;simp at this
 |_::_::_::_::_,h=>have:=h.1;simp at this
def FE(x:Option Value)(i:Option Nat):Prop:=(x=none/\i=none)\/∃j k,i=some j/\x=some (.int k (j:Int))
theorem Ts{ρ:Pos->Loc}{n:Nat}{C:Cells}{lo hi mx:Option Operand}{bs:List AV}{a:Act}{l h m:Option Nat}
   (hb:az ρ n C bs ((Ax lo++Ax hi++Ax mx).map a.eval)) (hr:bounds lo.isSome hi.isSome mx.isSome bs=some (l,h,m)):
   FE (lo.map a.eval) l/\FE (hi.map a.eval) h/\FE (mx.map a.eval) m/\(m.isSome=true->h.isSome=true):=by
 unfold bounds at hr
 cases lo<;>cases hi<;>cases mx<;>simp only[Zp3,Option.isSome_none,Ax,Ze6,Ze9,Ze8,Zb4,Ze0]at hb hr<;>
   first|(cases hr;done)|skip
 . cases bs with
   |cons b bs=>have:=hb.1;simp at this
   |nil=>simp at hr;obtain⟨rfl,rfl,rfl⟩:=hr;exact⟨.inl ⟨rfl,rfl⟩,.inl ⟨rfl,rfl⟩,.inl ⟨rfl,rfl⟩,λh=>by cases h⟩
 .obtain⟨b,rfl,h1⟩:=vs1 hb;simp only at hr;(split at hr<;>first|(cases hr;done)|skip);rename_i j hj;obtain⟨k,hk⟩:=jY h1 hj;simp at hr;obtain⟨rfl,rfl,rfl⟩:=hr;exact⟨.inl ⟨rfl,rfl⟩,.inr ⟨j,k,rfl,by simp[hk]⟩,.inl ⟨rfl,rfl⟩,λh=>by cases h⟩
 .obtain⟨b,c,rfl,h1,h2⟩:=vs2 hb;simp only at hr;(split at hr<;>first|(cases hr;done)|skip);rename_i j j' hj Ei;obtain⟨k,hk⟩:=jY h1 hj;obtain⟨k',lB⟩:=jY h2 Ei;simp at hr;obtain⟨rfl,rfl,rfl⟩:=hr;exact⟨.inl ⟨rfl,rfl⟩,.inr ⟨j,k,rfl,by simp[hk]⟩,.inr ⟨j',k',rfl,by simp[lB]⟩,λ_=>rfl⟩
 .obtain⟨b,rfl,h1⟩:=vs1 hb;simp only at hr;(split at hr<;>first|(cases hr;done)|skip);rename_i j hj;obtain⟨k,hk⟩:=jY h1 hj;simp at hr;obtain⟨rfl,rfl,rfl⟩:=hr;exact⟨.inr ⟨j,k,rfl,by simp[hk]⟩,.inl ⟨rfl,rfl⟩,.inl ⟨rfl,rfl⟩,λh=>by cases h⟩
 .obtain⟨b,c,rfl,h1,h2⟩:=vs2 hb;simp only at hr;(split at hr<;>first|(cases hr;done)|skip);rename_i j j' hj Ei;obtain⟨k,hk⟩:=jY h1 hj;obtain⟨k',lB⟩:=jY h2 Ei;simp at hr;obtain⟨rfl,rfl,rfl⟩:=hr;exact⟨.inr ⟨j,k,rfl,by simp[hk]⟩,.inr ⟨j',k',rfl,by simp[lB]⟩,.inl ⟨rfl,rfl⟩,λh=>by cases h⟩
 .obtain⟨b,c,d,rfl,h1,h2,h3⟩:=vs3 hb;simp only at hr;(split at hr<;>first|(cases hr;done)|skip);rename_i j j' j'' hj Ei hj'';obtain⟨k,hk⟩:=jY h1 hj;obtain⟨k',lB⟩:=jY h2 Ei;obtain⟨k'',hk''⟩:=jY h3 hj'';simp at hr;obtain⟨rfl,rfl,rfl⟩:=hr;exact⟨.inr ⟨j,k,rfl,by simp[hk]⟩,.inr ⟨j',k',rfl,by simp[lB]⟩,.inr ⟨j'',k'',rfl,by simp[hk'']⟩,λ_=>rfl⟩
theorem B7(isS:Bool){len cap:Nat}{xl xh xm:Option Value}{l h m:Option Nat}(h1:FE xl l)(h2:FE xh h)(h3:FE xm m)(hmh:m.isSome=true->h.isSome=true)
  (JK:l.getD 0<=h.getD len) (hhm:h.getD len<=m.getD cap) (hmc:m.getD cap<=cap) (w:World):
  (Instr.sliceBounds isS len cap xl xh xm).run P w= .ok (l.getD 0,h.getD len,m.getD cap) w:=by
 rcases h1 with⟨rfl,rfl⟩|⟨jl,kl,rfl,rfl⟩<;>rcases h2 with⟨rfl,rfl⟩|⟨jh,kh,rfl,rfl⟩<;>rcases h3 with⟨rfl,rfl⟩|⟨jm,km,rfl,rfl⟩<;>
  simp only[Zi8,Zf1,Zp3,Option.isSome_none]at JK hhm hmc hmh ⊢ <;>
  first
   |(simp at hmh;done)
   |simp[Instr.sliceBounds,Instr.sliceBound,asIntOf,JK,hhm,hmc,Int.ofNat_le]
theorem HG{ρ:Pos->Loc}{n:Nat}{C:Cells}{b:Pos}{off es aS l h M:Nat}{aa:Addr}{af2:Option Nat}
   (ha:aS≠0->b.toNat<n/\aa=⟨(ρ b).aA,(ρ b).base+off,none⟩/\(ρ b).base+off+aS*es<=(ρ b).size)
   (h1:l<=h) (h2:h<=M) (h3:M<=aS) (hc:∀c,af2=some c->c=M - l) (hk:af2=none->b.toNat<n):
   aq ρ n C (.slice b (off+l*es) (h - l) af2 es) (.slice (if M=l then some aa else(some aa).map (·.add (l*es))) (h - l) (M - l)):=by
 by_cases hm:M=l
 .rw[Za4 hm];exact .slice _ _ _ _ _ _ _ (by omega) hc (λh0=>absurd (by omega) h0) hk
 .rw[Za2 hm];obtain⟨hb,rfl,hle⟩:=ha (by omega);refine .slice _ _ _ _ _ _ _ (by omega) hc (λ_=>⟨hb,by show Addr.add _ _=_;rw[lZ,Zh4],?_⟩) hk;have e1:l*es+(M - l)*es=M*es:=(by rw[<-Zj7];congr 1;omega);have e2:M*es<=aS*es:=Zh8 _ h3;omega
theorem ad8(hT:cB P tt)(t:TypeId)(x:Operand)(lo hi mx:Option Operand):dK P tt (.slice t x lo hi mx):=by
 intro ρ C st w k xs cls fr a o vs res ho hc hW hF hx hr;simp only[gI]at hc;split at hc<;>first|(cases hc;done)|skip
 rename_i ti l0 dc hl;obtain⟨d,hd,cH⟩:=(hT.at dc).und;split at hc<;>first|(cases hc;done)|skip
 . rename_i hk;rw[hk]at cH;rw[mE cH]at hd;(split at hc<;>first|(cases hc;done)|skip);cases hc;have hv:=eT hl hF hx;simp only[Ax,Ze9,Ze8,Ze6,Zb4]at hv;simp only[ax.run,qY]at hr;(split at hr<;>first|(cases hr;done)|skip);rename_i u bs;(split at hr<;>first|(cases hr;done)|skip);rename_i s l h m' hb;(split at hr<;>first|(cases hr;done)|skip);rename_i h1 h2;have h1:=Za1 h1;have h2:=Za1 h2;simp only[H0]at hr;subst hr;obtain⟨y,ys,Fu,hu,B8⟩:=hv.cons_inv;simp only[Zj3]at Fu;obtain⟨rfl,rfl⟩:=Fu;have kI:=Ts (lo:=lo) (hi:=hi) (mx:=none) (a:=a) (by simpa [Ax]using B8) hb;obtain⟨bs',he,hs⟩:=hu.eU;have ew:=yY hs
   have cC:=B7 (P:=P) false (len:=bs'.size) (cap:=bs'.size) kI.1 kI.2.1 (.inl ⟨rfl,rfl⟩:FE none none) (λh=>by cases h)
     (by rw[ew];exact h1) (by rw[ew];simpa using h2) (by simp) w
   refine .pure (x:= .string (bs'.extract (l.getD 0) (h.getD bs'.size))) ?_ (.str _ _ ?_)
   .simp only[execOp,ho,Instr.sliceAt,Sem.run_bind,aV hd,Result.andThen_ok,he,Instr.slice];simp[cC]
   .rw[ew,ByteArray.data_extract,Zo5, <-hs,List.extract,Zk8,List.map_drop];rw[List.drop_take]
 . rename_i e hk;rw[hk]at cH;rw[mT cH]at hd;(split at hc<;>first|(cases hc;done)|skip);rename_i te fK;cases hc;obtain⟨i0,mF,kZ,_⟩:=(hT.at fK).info;have hv:=eT hl hF hx;simp only[Ze8,Ze6,Zg8,Zb4]at hv;simp only[ax.run,lu]at hr;(split at hr<;>first|(cases hr;done)|skip);rename_i u bs;obtain⟨y,ys,Fu,hu,B8⟩:=hv.cons_inv;simp only[Zj3]at Fu;obtain⟨rfl,rfl⟩:=Fu
   have oJ:∀(sa:Option Addr)(len cap:Nat)(l h m:Option Nat),a.eval x= .slice sa len cap->bounds lo.isSome hi.isSome mx.isSome bs=some (l,h,m)->
        l.getD 0<=h.getD len->h.getD len<=m.getD cap->m.getD cap<=cap->
        (execOp a.eval o).run P w= .ok (.value (.slice (if m.getD cap=l.getD 0 then sa else sa.map (·.add (l.getD 0*te.size))) (h.getD len - l.getD 0) (m.getD cap - l.getD 0))) w:=by
     intro sa len cap l h m he hb h1 h2 h3;have kI:=Ts (lo:=lo) (hi:=hi) (mx:=mx) (a:=a) (by simpa [Zg8]using B8) hb;have cC:=B7 (P:=P) true (len:=len) (cap:=cap) kI.1 kI.2.1 kI.2.2.1 kI.2.2.2 h1 h2 h3 w;simp only[execOp,ho,Instr.sliceAt,Sem.run_bind,aV hd,Result.andThen_ok,he,Instr.slice,cC,iO mF,kZ,Sem.run_pure]
   split at hr<;>first|(cases hr;done)|skip
   ·
     rename_i b off len cap es' l h m hb;(split at hr<;>first|(cases hr;done)|skip);rename_i eF JK;have eF:te.size=es':=H4 eF;subst eF;have JK:=Za1 JK;obtain⟨aa,aS,he,hle,Vd,ha⟩:=hu.ee;split at hr
     .  rename_i c m';(split at hr<;>first|(cases hr;done)|skip);rename_i e1 e2;have e1:=Za1 e1;have e2:=Za1 e2;have:=Vd c rfl;subst this;simp only[H0]at hr;subst hr;exact .pure (oJ _ _ _ _ _ _ he hb JK (by simpa using e1) (by simpa using e2)) (HG ha JK e1 e2 (λc hc=>by cases hc;rfl) (λh=>by cases h))
     .  rename_i c;(split at hr<;>first|(cases hr;done)|skip);rename_i e1;have e1:=Za1 e1;have:=Vd c rfl;subst this;simp only[H0]at hr;subst hr;exact .pure (oJ _ _ _ _ _ _ he hb JK (by simpa using e1) (by simp)) (HG ha JK e1 (Za3 _) (λc hc=>by cases hc;rfl) (λh=>by cases h))
     .  rename_i m';(split at hr<;>first|(cases hr;done)|skip);rename_i e1 e2;have e1:=Za1 e1;have e2:=Za1 e2;simp only[H0]at hr;subst hr;exact .pure (oJ _ _ _ _ _ _ he hb JK (by simpa using e1) (by simp;omega)) (HG ha JK e1 (by simp;omega) (λc hc=>by cases hc;rfl) (λh=>by cases h))
     .  (split at hr<;>first|(cases hr;done)|skip);rename_i e1;have e1:=Za1 e1;simp only[H0]at hr;subst hr;exact .pure (oJ _ _ _ _ _ _ he hb JK (by simp;omega) (by simp)) (HG ha JK (by simp;omega) (Za3 _) (λc hc=>by cases hc) (λ_=>hu.Wy rfl))
   ·
     rename_i xQ es' l h m hb;(split at hr<;>first|(cases hr;done)|skip);rename_i eF;have eF:te.size=es':=H4 eF;subst eF;obtain⟨aa,aS,cell,he,hle,Az,g1,g2,g3⟩:=hu.uW;split at hr
     .  rename_i m';(split at hr<;>first|(cases hr;done)|skip);rename_i e0 e1 e2;have e0:=H4 e0;have e1:=H4 e1;have e2:=H4 e2;subst e2;simp only[H0]at hr;subst hr;refine .pure (oJ _ _ _ _ _ _ he hb (by omega) (by rw[e1];simp) (by simp)) ?_;simp only[e0,e1,Zf1,Zp0,Zf9];exact .slice _ _ _ _ _ _ _ (Za3 _) (λc hc=>by cases hc;rfl) (λh0=>absurd rfl h0) (λh=>by cases h)
     .  (split at hr<;>first|(cases hr;done)|skip);rename_i e0 e1;have e0:=Za1 e0;have e1:=Za1 e1;simp only[H0]at hr;subst hr;refine .pure (oJ _ _ _ _ _ _ he hb e0 (by simp;omega) (by simp)) ?_;simp only[Zi8];have hlen:(List.drop (l.getD 0) (List.take (h.getD xQ.length) xQ)).length=h.getD xQ.length - l.getD 0:=(by simp;omega);rw[<-hlen];have nG:∀i cs,(List.drop (l.getD 0) (List.take (h.getD xQ.length) xQ))[i]? =some cs->xQ[l.getD 0+i]? =some cs:=by
          intro i cs hi;rw[Zd7,Zb8]at hi;split at hi
          .exact hi
          .cases hi
        by_cases WA:aS=l.getD 0
        .rw[Za4 WA];have hemp:List.drop (l.getD 0) (List.take (h.getD xQ.length) xQ)=[]:=(by apply Zb0;rw[hlen];omega);rw[hemp];exact .fl _ _ _ _ (λ_ _=>undef) (by simp) (λh=>absurd rfl h) (λi cs hi=>by simp at hi) (λi j cs v hi=>by simp at hi) (λi j cs v hi=>by simp at hi)
        . rw[Za2 WA];by_cases cU:xQ=[]
          .subst cU;simp only[List.take_nil,List.drop_nil];exact .fl _ _ _ _ (λ_ _=>undef) (by simp) (λh=>absurd rfl h) (λi cs hi=>by simp at hi) (λi j cs v hi=>by simp at hi) (λi j cs v hi=>by simp at hi)
          .have Az:=Az cU;obtain⟨ab,ao,asp⟩:=aa;simp only at Az;subst Az;simp only[Ze3,lZ];refine .fl _ _ _ _ (λi j=>cell (l.getD 0+i) j) (by rw[hlen];omega) (λ_=>rfl) (λi cs hi=>g1 _ _ (nG i cs hi)) (λi j cs v hi hj=> ?_) (λi j cs v hi hj=>g3 _ _ _ _ (nG i cs hi) hj);have:=g2 _ _ _ _ (nG i cs hi) hj;simp only at this ⊢;rw[<-this];congr 2;rw[Zj7];omega
   ·
     rename_i l h m hb;(split at hr<;>first|(cases hr;done)|skip);rename_i e0 e1 e2;have e0:=H4 e0;have e1:=H4 e1;have e2:=H4 e2;simp only[H0]at hr;subst hr;have he:=hu.fZ;refine .pure (oJ _ _ _ _ _ _ he hb (by omega) (by omega) (by omega)) ?_;simp only[e0,e1,e2,Zp0,Zf9];exact .av
end
section
variable{P:Program}{tt:TT}
theorem IJ{ρ:Pos->Loc}{n:Nat}{C:Cells}:∀{l:List AV}{s:List Nat}{ys:List Value},bytesOf l=some s->az ρ n C l ys->
  ys=(s.map Int.ofNat).map (Value.int .u8)/\∀c,c∈s->c<256
 |[],s,ys,h,hv=>by
  simp[bytesOf]at h;subst h;exact⟨by simpa using hv.mL,λc hc=>by simp at hc⟩
 |v ::l,s,ys,h,hv=>by
  unfold bytesOf at h;split at h<;>first|(cases h;done)|skip
  .rename_i h0;simp at h0
  . rename_i c l' he;simp only[Zj3]at he;obtain⟨rfl,rfl⟩:=he;(split at h<;>first|(cases h;done)|skip);rename_i s' bw mV;simp only[H0]at h;subst h;obtain⟨y,ys',rfl,h1,h2⟩:=hv.cons_inv;obtain⟨e,iu⟩:=IJ mV h2;have bw:c<256:=(by simpa using bw);refine⟨by rw[h1.iF,e];rfl,λc' hc=> ?_⟩;simp at hc;rcases hc with rfl|hc
    .exact bw
    .exact iu _ hc
theorem HH:∀(s:List Nat)(acc:ByteArray),((s.map Int.ofNat).foldl (λr n=>r.push (UInt8.ofNat n.toNat)) acc).data.toList=acc.data.toList++s.map UInt8.ofNat
 |[],acc=>by simp
 |c::s,acc=>by
  simp only[Zb4,Zo7];rw[HH s];simp[ByteArray.push]
theorem abb{P:Program}{e:TypeId}(hc:P.cellsOf e≠0)(count:Nat)(hn:1<=count):liesAt P P.depth e count 0 e 1=true:=by
 have hd:P.depth=(2*(P.types.size+Made.depth)+1)+1:=rfl;rw[hd];simp only[liesAt,Zi0];left;rw[hd];simp[rowAt,hc,hn,sameLayout]
theorem abc(hT:cB P tt)(src dst:TypeId)(x:Operand)(hnb:∀k xs cls,gI tt (.convert src dst x)=some (k,xs,cls)->k≠ .conv .bytes):dK P tt (.convert src dst x):=by
 intro ρ C st w k xs cls fr a o vs res ho hc hW hF hx hr;have hnb:=hnb _ _ _ hc;simp only[gI]at hc;split at hc<;>first|(cases hc;done)|skip
 rename_i s d b hs hd hb;obtain⟨ds,wM,El⟩:=(hT.at hs).und;obtain⟨dd,hdd,cH⟩:=(hT.at hd).und;split at hc<;>first|(cases hc;done)|skip
 . rename_i k1 k2 h1 h2;cases hc;obtain⟨v,rfl,hv⟩:=fE hb hF hx;rw[h1]at El;rw[h2]at cH;rw[JG El]at wM;rw[JG cH]at hdd;simp only[ax.run,wD]at hr;split at hr<;>first|(cases hr;done)|(rename_i heq;cases heq;done)|(rename_i heq;cases heq)
   simp only[H0]at hr;subst hr;refine .pure ?_ (by rw[rH];exact .int _ _);simp[execOp,ho,hv.iF,convert,aV wM,aV hdd,Conv.intToInt]
 . rename_i h1 h2;cases hc;obtain⟨v,rfl,hv⟩:=fE hb hF hx;rw[h1]at El;rw[h2]at cH;rw[mE El]at wM;rw[mE cH]at hdd;simp only[ax.run,wD]at hr;split at hr<;>first|(cases hr;done)|(rename_i heq;cases heq;done)|(rename_i heq;cases heq)
   simp only[H0]at hr;subst hr;obtain⟨bs,he,hs⟩:=hv.eU;exact .pure (x:= .string bs) (by simp[execOp,ho,he,convert,aV wM,aV hdd]) (.str _ _ hs)
 . (split at hc<;>first|(cases hc;done)|skip);(split at hc<;>first|(cases hc;done)|skip);cases hc;exact absurd rfl hnb
 . rename_i e h1 h2;(split at hc<;>first|(cases hc;done)|skip);rename_i te fK;(split at hc<;>first|(cases hc;done)|skip);rename_i hk8;cases hc;obtain⟨v,rfl,hv⟩:=fE hb hF hx;rw[h1]at El;rw[h2]at cH;rw[mT El]at wM;rw[mE cH]at hdd;obtain⟨de,hde,hke⟩:=(hT.at fK).und;rw[hk8]at hke;rw[JG hke]at hde;have oJ:∀y:Option Addr×Nat×Nat,a.eval x= .slice y.1 y.2.1 y.2.2->(execOp a.eval o).run P w=((Conv.bytesToString (a.eval x)).run P w).andThen λv w=>.ok (.value v) w:=by
     intro y he;simp[execOp,ho,he,convert,aV wM,aV hdd,aV hde]
   simp only[ax.run,wD]at hr;split at hr<;>first|(cases hr;done)|(rename_i heq;cases heq;done)|(rename_i heq;cases heq)
   .simp only[H0]at hr;subst hr;have he:=hv.fZ;refine .pure (x:= .string .empty) ?_ (.str _ _ rfl);rw[oJ (none,0,0) he,he];simp[Conv.bytesToString]
   . rename_i bb off m cap es;obtain⟨aa,aS,he,hle,_,ha⟩:=hv.ee;split at hr
     .  rename_i h0;have:=H4 h0;subst this;simp only[H0]at hr;subst hr;refine .pure (x:= .string .empty) ?_ (.str _ _ rfl);rw[oJ (some aa,0,aS) he,he];simp[Conv.bytesToString,loadCells,loadCellsFrom]
     .  (rename_i h0;have h0:=Zc0 h0;(split at hr<;>first|(cases hr;done)|skip);rename_i cs fz kI;(split at hr<;>first|(cases hr;done)|skip);rename_i l hcut;(split at hr<;>first|(cases hr;done)|skip);rename_i s' Y0;simp only[H0]at hr;subst hr;obtain⟨bw,rfl,_⟩:=ha (by omega);obtain⟨ys,Fu,jf⟩:=hW.loadCells (P:=P) kI hcut;obtain⟨e1,e2⟩:=IJ Y0 jf;rw[e1]at Fu;have cC:=run_bytesToString (P:=P) w ⟨(ρ bb).aA,(ρ bb).base+off,none⟩ m aS (s'.map Int.ofNat) Fu;refine .pure (x:= .string _) (by rw[oJ (some _,m,aS) he,he,cC];rfl) (.str _ _ ?_);rw[HH,Zg3];have e0:ByteArray.empty.data.toList=[]:=rfl;rw[e0,Ze0,Ze6,Zh1];have e3:s'.map (UInt8.toNat∘UInt8.ofNat)=s'.map id:=Zj9 λc hc=>by have:=e2 c hc;simp only[Function.comp,id,UInt8.toNat_ofNat'];omega);rw[e3,Zq7]
 ·
   rename_i e h1 h2;(split at hc<;>first|(cases hc;done)|skip);rename_i te fK;(split at hc<;>first|(cases hc;done)|skip);rename_i ew;cases hc;obtain⟨v,rfl,hv⟩:=fE hb hF hx;rw[h1]at El;rw[h2]at cH;rw[To El]at wM;rw[ad4 cH]at hdd;obtain⟨i0,mF,kZ,_⟩:=(hT.at fK).info;have ew:=Zc0 ew;simp only[ax.run,Oa]at hr;split at hr<;>first|(cases hr;done)|skip
   .simp only[H0]at hr;subst hr;refine .pure (x:= .pointer none) ?_ .fH;simp[execOp,ho,hv.rG,convert,aV wM,aV hdd,Conv.unsafePointer]
   .rename_i bb off;(split at hr<;>first|(cases hr;done)|skip);rename_i t0 cs kI;(split at hr<;>first|(cases hr;done)|skip);rename_i bw;have bw:off<cs.length:=(by simpa using bw);simp only[H0]at hr;subst hr;obtain⟨_,he⟩:=hv.fJ;obtain⟨_,_,c,fr,g1,g2,g3,g4,g5,g6⟩:=hW.live _ _ kI;have Th:w.shape? (ρ bb).aA=some (t0,c.size):=(by simp[World.shape?,g1]);have:=Lib.run_to_unsafe (P:=P) (w:=w) (j:=i0) ⟨(ρ bb).aA,(ρ bb).base+off,none⟩ wM hdd mF (by rw[kZ];exact ew) Th (by show(ρ bb).base+off<c.size;omega);exact .pure (x:= .pointer (some ⟨(ρ bb).aA,(ρ bb).base+off,none⟩)) (by simp[execOp,ho,he,this]) (he ▸hv)
 ·
   rename_i e h1 h2;(split at hc<;>first|(cases hc;done)|skip);rename_i te fK;(split at hc<;>first|(cases hc;done)|skip);rename_i ew;cases hc;obtain⟨v,rfl,hv⟩:=fE hb hF hx;rw[h1]at El;rw[h2]at cH;rw[ad4 El]at wM;rw[To cH]at hdd;obtain⟨i0,mF,kZ,_⟩:=(hT.at fK).info;have ew:=Zc0 ew;simp only[ax.run,Fs]at hr;split at hr<;>first|(cases hr;done)|skip
   .simp only[H0]at hr;subst hr;refine .pure (x:= .pointer none) ?_ .fH;simp[execOp,ho,hv.rG,convert,aV wM,aV hdd,Conv.unsafePointer]
   .rename_i bb;(split at hr<;>first|(cases hr;done)|skip);rename_i t0 cs kI;(split at hr<;>first|(cases hr;done)|skip);rename_i ht hle;have ht:=H4 ht;have hle:=Za1 hle;subst ht;simp only[H0]at hr;subst hr;obtain⟨_,he⟩:=hv.fJ;obtain⟨_,_,c,fr,g1,g2,g3,g4,g5,g6⟩:=hW.live _ _ kI;have Th:w.shape? (ρ bb).aA=some (t0,c.size):=(by simp[World.shape?,g1]);have HE:P.cellsOf t0=te.size:=(by simp[Program.cellsOf,mF,kZ]);have hone:1<=c.size / P.cellsOf t0:=(by rw[HE,Nat.le_div_iff_mul_le (by omega)];omega);rw[Zf8]at he;have:=Lib.run_from_unsafe (P:=P) (w:=w) (j:=i0) ⟨(ρ bb).aA,(ρ bb).base,none⟩ wM hdd mF Th (by show liesAt P P.depth t0 _ (ρ bb).base t0 1=true;rw[g6];exact abb (by rw[HE];exact ew) _ hone);exact .pure (x:= .pointer (some ⟨(ρ bb).aA,(ρ bb).base,none⟩)) (by simp[execOp,ho,he,this]) (he ▸hv)
theorem JL{t:TypeId}{d:TypeDesc}(hd:P.underlying t=some d){pk:PK}(hk:pk.fits d=true)(e:Bool)(m:Nat)(x:Value)(w:World):
  (Instr.checkKey e (m+1) t x).run P w= .ok () w:=by
 unfold Instr.checkKey;rw[Sem.run_bind,aV hd,Result.andThen_ok];cases pk<;>cases d<;>simp[PK.fits]at hk<;>rfl
theorem Rf{ρ:Pos->Loc}{n:Nat}{C:Cells}{pk:PK}{d:TypeDesc}(hk:pk.fits d=true){u v:AV}{x y:Value}{r:Bool}
   (h1:aq ρ n C u x) (h2:aq ρ n C v y) (h:yW pk u v=some r):Instr.sameNow d x y=some r:=by
 unfold yW at h;split at h<;>first|(cases h;done)|skip
 .simp only[H0]at h;subst h;cases d<;>simp[PK.fits]at hk;rw[h1.ir,h2.ir];rfl
 . (split at h<;>first|(cases h;done)|skip);rename_i Ek;have:=zA Ek;subst this;simp only[H0]at h;subst h;cases d<;>simp[PK.fits]at hk;rw[h1.iF,h2.iF];simp[Instr.sameNow,mU]
 .simp only[H0]at h;subst h;cases d<;>simp[PK.fits]at hk;obtain⟨bx,rfl,e1⟩:=h1.eU;obtain⟨bz,rfl,e2⟩:=h2.eU;simp only[Instr.sameNow];rw[beq_toListBytes,JJ e1 e2]
def HI(ρ:Pos->Loc)(n:Nat)(C:Cells)(es:List (AV×AV×Nat))(es':List MapEntry):Prop:=
 es.length=es'.length/\∀(i:Nat)(e:AV×AV×Nat)(e':MapEntry),es[i]? =some e->es'[i]? =some e'->aq ρ n C e.1 e'.key/\aq ρ n C e.2.1 e'.val/\e.2.2=e'.born
theorem C7{ρ:Pos->Loc}{n:Nat}{C:Cells}{pk:PK}{d:TypeDesc}(hk:pk.fits d=true){u:AV}{x:Value}(hu:aq ρ n C u x):
  ∀{es:List (AV×AV×Nat)}{es':List MapEntry}{i:Nat}{r:Option (Nat×AV)},HI ρ n C es es'->jU pk u es i=some r->
  ∃r',Instr.findNow d x es' i=some r'/\((r=none/\r'=none)\/∃j v y,r=some (j,v)/\r'=some (j,y)/\aq ρ n C v y/\i<=j/\j<i+es.length)
 |[],es',i,r,he,h=>by
  simp[jU]at h;subst h;cases es' with
  |nil=>exact⟨none,rfl,.inl ⟨rfl,rfl⟩⟩
  |cons e es'=>have:=he.1;simp at this
 |(k',v,born)::es,es',i,r,he,h=>by
  cases es' with
  |nil=>have:=he.1;simp at this
  |cons e' es'=>
   have h0:=he.2 0 (k',v,born) e' rfl rfl;have kX:HI ρ n C es es':=⟨by have:=he.1;simpa using this,λj e e' h1 h2=>he.2 (j+1) e e' (by simpa using h1) (by simpa using h2)⟩
   unfold jU at h;split at h<;>first|(cases h;done)|skip
   .    rename_i hq;simp only[H0]at h;subst h;refine⟨some (i,e'.val),by simp[Instr.findNow,Rf hk hu h0.1 hq],.inr ⟨i,v,e'.val,rfl,rfl,h0.2.1,Za3 _,by simp⟩⟩
   .    rename_i hq;obtain⟨r',h1,h2⟩:=C7 hk hu kX h;refine⟨r',by simp[Instr.findNow,Rf hk hu h0.1 hq,h1],?_⟩;rcases h2 with h2|⟨j,v',y,e1,e2,e3,e4,e5⟩
        .exact .inl h2
        .exact .inr ⟨j,v',y,e1,e2,e3,by omega,by simp;omega⟩
theorem run_findKey{t:TypeId}{d:TypeDesc}(hd:P.underlying t=some d){x:Value}{es:List MapEntry}{r:Option (Nat×Value)}(h:Instr.findNow d x es 0=some r)(w:World):
  (Instr.findKey t x es).run P w= .ok r w:=by
 simp[Instr.findKey,aV hd,h]
theorem run_getObj_map{r:Nat}{es:Array MapEntry}{c:Nat}{w:World}(h:w.heap[r]? =some (.map es c)):(getObj r).run P w= .ok (.map es c) w:=by
 simp[getObj,Sem.run,h]
theorem ah3(k:TK){d:TypeDesc}(h:bU k d=true){pk:PK}(hp:(k= .bool/\pk= .b)\/((∃i,k= .int i)/\pk= .i)\/(k= .string/\pk= .s)):pk.fits d=true:=by
 rcases hp with⟨rfl,rfl⟩|⟨⟨i,rfl⟩,rfl⟩|⟨rfl,rfl⟩
 .rw[Vb h];rfl
 .rw[JG h];rfl
 .rw[mE h];rfl
theorem uX(hT:cB P tt){t:Nat}{ti:TI}(ht:tt.get (key t)=some ti){z:List AV}(hz:ti.zero=some z){ρ:Pos->Loc}{n:Nat}{C:Cells}(w:World):
   ∃v,(zeroValue t).run P w= .ok v w/\aq ρ n C (gI.JD ti z) v/\az ρ n C z v.cells.toList:=by
 obtain⟨i,hi,kZ,_,B9⟩:=(hT.at ht).info;obtain⟨v,hv,hs,hlen,h1,h2⟩:=B9 z hz;refine⟨v,afT hi hv w,?_,td hs⟩;unfold gI.JD;split
 .rename_i ha;obtain⟨cs,rfl⟩:=h1 ha;exact .Fv (td hs)
 .rename_i ha;have hc:=h2 ha;rw[hc]at hs;simp only[oH]at hs;(split at hs<;>first|(cases hs;done)|skip);rename_i a as e1 e2;simp only[H0]at hs e2;subst hs;subst e2;simp only;exact Fx e1
theorem acG(hT:cB P tt)(t:TypeId)(x ix:Operand)(ok:Bool):dK P tt (.lookup t x ix ok):=by
 intro ρ C st w k xs cls fr a o vs res ho hc hW hF hx hr;simp only[gI]at hc;split at hc<;>first|(cases hc;done)|skip
 rename_i ti l dc hl;split at hc<;>first|(cases hc;done)|skip
 rename_i kt et hk;split at hc<;>first|(cases hc;done)|skip
 rename_i tk te pX fK;obtain⟨d,hd,cH⟩:=(hT.at dc).und;rw[hk]at cH;rw[Od cH]at hd;obtain⟨dk,WB,Ek⟩:=(hT.at pX).und;have key:∃pk z,te.zero=some z/\k= .lookup pk (gI.JD te z) ok/\xs=l/\cls= .read/\pk.fits dk=true:=by
  split at hc<;>first|(cases hc;done)|skip
  all_goals
    rename_i z h1 h2;cases hc;refine⟨_,z,h2,rfl,rfl,rfl,ah3 tk.k Ek ?_⟩
  .exact .inr (.inl ⟨⟨_,h1⟩,rfl⟩)
  .exact .inr (.inr ⟨h1,rfl⟩)
  .exact .inl ⟨h1,rfl⟩
 obtain⟨pk,z,hz,rfl,rfl,rfl,II⟩:=key;obtain⟨m,kk,rfl,h1,h2⟩:=Vc hl hF hx;obtain⟨zv,Ca,Tt,_⟩:=uX hT fK hz (ρ:=ρ) (n:=st.next.toNat) (C:=C) w;have qg:∀e,(Instr.checkKey e 10000 kt (a.eval ix)).run P w= .ok () w:=λe=>JL WB II e 9999 _ w
 simp only[ax.run,zu]at hr;split at hr<;>first|(cases hr;done)|skip
 ·
  rename_i j v hm;simp only[H0]at hr;subst hr;split at hm<;>first|(cases hm;done)|skip
  .split at hm<;>first|(cases hm;done)|(simp at hm;done)
  . rename_i b;(split at hm<;>first|(cases hm;done)|skip);rename_i es c hb;obtain⟨_,he⟩:=h1.zB;obtain⟨_,_,es',eF,hlen,iu⟩:=hW.live _ _ hb;have hE:HI ρ st.next.toNat C es es'.toList:=⟨by simpa using hlen,λi e e' h1 h2=>iu i e e' h1 (by simpa using h2)⟩
    obtain⟨r',hf,th⟩:=C7 II h2 hE hm;rcases th with⟨e1,_⟩|⟨j',v',y,e1,e2,e3,_⟩
    .   cases e1
    .   cases e1;subst e2;have cC:(execOp a.eval o).run P w= .ok (.value (if ok then .tuple #[y,.bool true]else y)) w:=by
          simp only[execOp,ho,Instr.lookup,Sem.run_bind,aV hd,Result.andThen_ok,he,run_getObj_map eF,qg,run_findKey WB hf,Sem.run_pure]
        refine .pure cC ?_;cases ok
        .exact e3
        .exact .uV (az.cons e3 (az.cons (.bool true) az.nil))
 ·
  rename_i hm;simp only[H0]at hr;subst hr;have cC:(execOp a.eval o).run P w= .ok (.value (if ok then .tuple #[zv,.bool false]else zv)) w:=by
    split at hm<;>first|(cases hm;done)|skip
    .   (split at hm<;>first|(cases hm;done)|skip);have he:=h1.Cw;have hf:(Instr.findKey kt (a.eval ix) []).run P w= .ok none w:=run_findKey WB rfl w;simp only[execOp,ho,Instr.lookup,Sem.run_bind,aV hd,Result.andThen_ok,he,qg,hf,Ca,Sem.run_pure]
    .   rename_i b;(split at hm<;>first|(cases hm;done)|skip);rename_i es c hb;obtain⟨_,he⟩:=h1.zB;obtain⟨_,_,es',eF,hlen,iu⟩:=hW.live _ _ hb;have hE:HI ρ st.next.toNat C es es'.toList:=⟨by simpa using hlen,λi e e' h1 h2=>iu i e e' h1 (by simpa using h2)⟩
        obtain⟨r',hf,th⟩:=C7 II h2 hE hm;rcases th with⟨_,e2⟩|⟨j',v',y,e1,_⟩
        .subst e2;simp only[execOp,ho,Instr.lookup,Sem.run_bind,aV hd,Result.andThen_ok,he,run_getObj_map eF,qg,run_findKey WB hf,Ca,Sem.run_pure]
        .cases e1
  refine .pure cC ?_;cases ok
  .exact Tt
  .exact .uV (az.cons Tt (az.cons (.bool false) az.nil))
end
section
variable{P:Program}{tt:TT}
theorem FF:∀(l:List Value)(off k:Nat)(cs:Array Value),off+k+l.length<=cs.size->
  ((l.zipIdx k).foldl (λcs (c,j)=>cs.setIfInBounds (off+j) c) cs).toList=aL cs.toList (off+k) l
 |[],off,k,cs,_=>by simp[aL,Zk2]
 |v::l,off,k,cs,h=>by
  simp only[Zb2]at h;simp only[List.zipIdx_cons,Zo7];rw[FF l off (k+1) _ (by simp;omega)];simp only[aL,Zb2,Zp2];rw[List.drop_set_of_lt (by omega)];have:off+(k+1)=(off+k)+1:=by omega
  rw[this,List.take_set,Zn2];have bw:off+k<cs.toList.length:=by simp;omega
  rw[H1 bw];simp only[Option.toList_some,List.set_append,Zl2];have hm:min (off+k) cs.toList.length=off+k:=Zk4 (Nat.le_of_lt bw);rw[hm,Za2 (Zo4 _),Zp0];simp;rw[show off+k+1+l.length=off+k+(l.length+1)from by omega]
theorem Sk{ρ:Pos->Loc}{n:Nat}{C:Cells}(pl:Nat->Option (Nat×Nat)):∀{pp:List (Nat×Nat)}{vs cells r:List AV}{ps:List (Nat×Value)}{cs:Array Value},
  cI cells pp vs=some r->az ρ n C cells cs.toList->az ρ n C vs (ps.map (·.2))->ps.map (λx=>pl x.1)=pp.map some->
  ∃mG,Instr.fill pl cs ps=some mG/\az ρ n C r mG.toList
 |[],vs,cells,r,ps,cs,h,hc,hv,hp=>by
  unfold cI at h;split at h<;>first|(cases h;done)|skip
  .simp only[H0]at h;subst h;have:ps=[]:=(by simpa using hv.mL);subst this;exact⟨cs,rfl,hc⟩
  .rename_i hh;cases hh
 |(off  ,size)::pp,vs,cells,r,ps,cs,h,hc,hv,hp=>by
  unfold cI at h;split at h<;>first|(cases h;done)|skip
  .rename_i hh;cases hh
  . rename_i off' size' pp' v vs' hh;simp only[Zj3,Zb6]at hh;obtain⟨⟨rfl,rfl⟩,rfl⟩:=hh;(split at h<;>first|(cases h;done)|skip);rename_i h1 h2;have h1:=H4 h1;have h2:=Za1 h2;cases ps with
    |nil=>have:=hv.1;simp at this
    |   cons p ps=>
        obtain⟨i,x⟩:=p;simp only[Zb4,Zj3]at hp hv;obtain⟨eG,C8⟩:=hp;obtain⟨y,ys,Fu,hx,jf⟩:=hv.cons_inv;simp only[Zj3]at Fu;obtain⟨rfl,rfl⟩:=Fu;have hxc:=hx.cells;have hlen:x.cells.size=size:=(by rw[<-h1,hxc.1];simp);have ew:off+size<=cs.size:=(by have:=hc.1;simp at this;omega);have akg:(x.cells.zipIdx.foldl (λcs (c,j)=>cs.setIfInBounds (off+j) c) cs).toList=aL cs.toList off x.cells.toList:=(by rw[<-Array.foldl_toList,Array.toList_zipIdx];have:=FF x.cells.toList off 0 cs (by simp;omega);simpa using this);obtain⟨mG,e1,e2⟩:=Sk pl h (cs:=x.cells.zipIdx.foldl (λcs (c,j)=>cs.setIfInBounds (off+j) c) cs) (by rw[akg];exact hc.aL hxc off) jf C8;refine⟨mG,?_,e2⟩;simp only[Instr.fill,eG];rw[Za2 (by simp[hlen];omega)];exact e1
theorem M9(hT:cB P tt){gs:Array Field}(w:World):∀{fs:List (Nat×Nat×Bool)}(_hm:bU.eu fs gs.toList=true){is:List Nat}{pp:List (Nat×Nat)}
  (_h:gI.places tt fs is=some pp) {Of:List (Nat×Nat)} (_hpl:∀(i:Nat)(f:Field)(inf:TypeInfo),gs.toList[i]? =some f->P.info? f.type=some inf->Of[i]? =some (f.offset,inf.size)),
  is.map (λi=>Of[i]?)=pp.map some
 |fs,hm,[],pp,h,Of,mH=>by simp[gI.places]at h;subst h;rfl
 |fs,hm,i::is,pp,h,Of,mH=>by
  unfold gI.places at h;split at h<;>first|(cases h;done)|skip
  rename_i off t nm l h1 h2;split at h<;>first|(cases h;done)|skip
  rename_i ti WC;simp only[H0]at h;subst h;obtain⟨f,hf,e1,e2,_⟩:=K7 hm h1;obtain⟨inf,Y3,ew,_⟩:=(hT.at WC).info;simp only at e1 e2;have:=mH i f inf hf (by rw[e2];exact Y3);simp only[Zb4,this,e1,ew];rw[M9 hT w hm h2 mH]
theorem Tu(hT:cB P tt):∀{fs:List (Nat×Nat×Bool)}{gs:List Field}(_hm:bU.eu fs gs=true)(_ha:gI.Yp tt fs=true),
  ∃Of:List (Nat×Nat),gs.mapM (λf=>(P.info? f.type).map λi=>(f.offset,i.size))=some Of/\
   ∀(i:Nat)(f:Field)(inf:TypeInfo),gs[i]? =some f->P.info? f.type=some inf->Of[i]? =some (f.offset,inf.size)
 |[],gs,hm,ha=>by
  cases gs with
  |cons g gs=>simp[bU.eu]at hm
  |nil=>exact⟨[],rfl,λi f inf h=>by simp at h⟩
 |(off,t,nm)::fs,gs,hm,ha=>by
  cases gs with
  |nil=>simp[bU.eu]at hm
  |cons g gs=>
   simp[bU.eu]at hm;unfold gI.Yp at ha;(split at ha<;>first|(cases ha;done)|skip);rename_i ti WC;obtain⟨inf,Y3,_⟩:=(hT.at WC).info;obtain⟨Of,h1,h2⟩:=Tu hT hm.2 ha;rw[hm.1.1.2]at Y3;refine⟨(g.offset,inf.size)::Of,by simp[Y3,h1],λi f inf' hi hf=> ?_⟩;cases i with
   |zero=>simp at hi;subst hi;rw[Y3]at hf;cases hf;rfl
   |succ i=>simp at hi ⊢; exact h2 i f inf' hi hf
theorem ad9(hT:cB P tt)(t:TypeId)(ps:Array (Nat×Operand)):dK P tt (.build t ps):=by
 intro ρ C st w k xs cls fr a o vs res ho hc hW hF hx hr;simp only[gI]at hc;split at hc<;>first|(cases hc;done)|skip
 rename_i ti l dc hl;obtain⟨d,hd,cH⟩:=(hT.at dc).und;obtain⟨it,Na,_,_,B9⟩:=(hT.at dc).info
 have oJ:∀(pp:List (Nat×Nat))(z:List AV)(pl:Nat->Option (Nat×Nat)),ti.zero=some z->k= .build z pp->xs=l->ps.toList.map (λx=>pl x.1)=pp.map some->
    (∀(v:Value)(parts:List (Nat×Value))(cells:Array Value),it.zero=some v->Instr.fill pl v.cells parts=some cells->P.built t parts=some cells)->
    wE P ρ C st w ((execOp a.eval o).run P w) res:=by
   rintro pp z pl hz rfl rfl hpp ajw;have hv:=eT hl hF hx;obtain⟨v,JM,hs,_⟩:=B9 z hz;simp only[ax.run,KT]at hr;(split at hr<;>first|(cases hr;done)|skip);rename_i cs AA;simp only[H0]at hr;subst hr;have Tt:az ρ st.next.toNat C z v.cells.toList:=td hs;have hps:(ps.map λ(i,x)=>(i,a.eval x)).toList=ps.toList.map λx=>(x.1,a.eval x.2):=(by simp);obtain⟨mG,e1,e2⟩:=Sk pl AA Tt (ps:=ps.toList.map λx=>(x.1,a.eval x.2)) (by simpa [Zh1,Zk6]using hv) (by simpa [Zh1,Zk6]using hpp);refine .pure (x:= .agg mG) ?_ (.Fv e2);have cC:=run_build w t (ps.map λ(i,x)=>(i,a.eval x)) mG (ajw v _ _ JM (by rw[hps];exact e1));simp only[execOp,ho,Sem.run_bind];rw[cC];rfl
 split at hc<;>first|(cases hc;done)|skip
 .rename_i fs z hk hz;rw[hk]at cH;obtain⟨gs,rfl,hm⟩:=HD cH;(split at hc<;>first|(cases hc;done)|skip);rename_i pp mH iu;cases hc;obtain⟨Of,h1,h2⟩:=Tu hT hm iu;have hpp:=M9 hT w hm mH h2;(refine oJ pp z (λi=>Of.toArray[i]?) hz rfl rfl (by simpa [Zh1,Zk6]using hpp) λv parts cells hv hf=> ?_);unfold Program.built;rw[Na,hd];simp only[hv,h1];exact hf
 .rename_i e z hk hz;rw[hk]at cH;rw[YV cH]at hd;(split at hc<;>first|(cases hc;done)|skip);rename_i te fK;cases hc;obtain⟨ie,hie,ew,_⟩:=(hT.at fK).info;(refine oJ _ z (λi=>some (i*te.size,te.size)) hz rfl rfl (by simp[Zh1,Zk6]) λv parts cells hv hf=> ?_);unfold Program.built;rw[Na,hd];simp only[hv,hie,ew];exact hf
end
end
end Go.Ai
