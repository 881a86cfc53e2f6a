/- Its operations answer as the model does. -/
import Derived.Test.YtlkadmkojjceiaaGreatDoorQEvalA
import Derived.Laws.StructEq
import Derived.Lib.Builder
import Derived.Laws.BytesString
set_option linter.all false
namespace Go.Ai
section
def bE:TK->TypeDesc->Bool
 |.bool,.bool=>true
 |.int k,.int k'=>AY k k'
 |.string,.string=>true
 |.ptr e,.pointer e'=>Nat.beq e e'
 |.slice e,.slice e'=>Nat.beq e e'
 |.array n e,.array n' e'=>Nat.beq n n'&&Nat.beq e e'
 |.map k e,.map k' e'=>Nat.beq k k'&&Nat.beq e e'
 |.struct fs,.struct fs'=>dG fs fs'.toList
 |.func,.func _ _ _=>true
 |.iface,.interface _=>true
 | .Y7,.unsafePointer=>true
 |.other,.interface _=>false
 |.other,.int _=>false
 |.other,.array _ _=>false
 |.other,.struct _=>false
 |.other,_=>true
 |_,_=>false
where
 dG:List (Nat×Nat×Bool)->List Field->Bool
  |[],[]=>true
  |(off,t,named)::l,f::l'=>Nat.beq off f.offset&&Nat.beq t f.type&&(named==(f.name != "_"))&&dG l l'
  |_,_=>false
structure Xp(P:Program)(t:TypeId)(ti:TI):Prop where
 und:∃d,P.underlying t=some d/\bE ti.k d=true
 info:∃i,P.info? t=some i/\i.size=ti.size/\i.bytes=ti.bytes/\
  ∀z,ti.zero=some z->∃v,i.zero=some v/\mG v.cells.toList=some z/\z.length=ti.size/\(ti.k.isAgg=true->∃cs,v= .agg cs)/\(ti.k.isAgg=false->v.cells= #[v])
 elem:∀e,ti.k= .ptr e->∃j,P.info? e=some j
 eqs:ti.tZ=true->P.stoodInHeld t=false/\P.eqGuardType P.depth t=false
def bL(P:Program)(tt:TT):Prop:=∀p ti,tt.get p=some ti->Xp P (p.toNat - 1) ti
theorem bL.at{P:Program}{tt:TT}(h:bL P tt){t:Nat}{ti:TI}(ht:tt.get (key t)=some ti):Xp P t ti:=by
 have:=h _ _ ht
 rwa [eW,Ze9]at this
section
variable{P:Program}{tt:TT}{ρ:Pos->Loc}{n:Nat}{C:Cells}
theorem aO{t:TypeId}{d:TypeDesc}(h:P.underlying t=some d)(w:World):(underlying t).run P w= .ok d w:=run_underlying h w
theorem Sq{t:TypeId}{i:TypeInfo}(h:P.info? t=some i)(w:World):(typeInfo t).run P w= .ok i w:=by simp[typeInfo,h]
theorem ic{t:TypeId}{i:TypeInfo}(h:P.info? t=some i)(w:World):(sizeOf t).run P w= .ok i.size w:=by simp[sizeOf,typeInfo,h]
theorem aaY{t:TypeId}{i:TypeInfo}{v:Value}(h:P.info? t=some i)(hz:i.zero=some v)(w:World):(zeroValue t).run P w= .ok v w:=by simp[zeroValue,typeInfo,h,hz]
theorem LZ{k:TK}{d:TypeDesc}(h:bE k d=true)(w:World){t:TypeId}(ht:P.underlying t=some d):(isAgg t).run P w= .ok k.isAgg w:=by
 cases k<;>cases d<;>first|(simp[bE]at h;done)|simp[isAgg,aO ht,TK.isAgg]
theorem lM{e:Nat}{d:TypeDesc}(h:bE (.slice e) d=true):d= .slice e:=by
 cases d<;>simp[bE]at h;rw[h]
theorem Na{e:Nat}{d:TypeDesc}(h:bE (.ptr e) d=true):d= .pointer e:=by
 cases d<;>simp[bE]at h;rw[h]
theorem Sr{m e:Nat}{d:TypeDesc}(h:bE (.array m e) d=true):d= .array m e:=by
 cases d<;>simp[bE]at h;rw[h.1,h.2]
theorem Ik{k e:Nat}{d:TypeDesc}(h:bE (.map k e) d=true):d= .map k e:=by
 cases d<;>simp[bE]at h;rw[h.1,h.2]
theorem OV{d:TypeDesc}(h:bE .bool d=true):d= .bool:=by cases d<;>simp[bE]at h;rfl
theorem uJ{a b:IntKind}(h:AY a b=true):a=b:=by
 unfold AY at h;split at h
 .assumption
 .cases h
theorem D4{k:IntKind}{d:TypeDesc}(h:bE (.int k) d=true):d= .int k:=by
 cases d<;>simp[bE]at h;rw[uJ h]
theorem kY{d:TypeDesc}(h:bE .string d=true):d= .string:=by cases d<;>simp[bE]at h;rfl
theorem Cs{fs:List (Nat×Nat×Bool)}{d:TypeDesc}(h:bE (.struct fs) d=true):∃gs,d= .struct gs/\bE.dG fs gs.toList=true:=by
 cases d<;>simp[bE]at h;exact⟨_,rfl,h⟩
theorem ac9{d:TypeDesc}(h:bE .func d=true):∃a b c,d= .func a b c:=by
 cases d<;>simp[bE]at h;exact⟨_,_,_,rfl⟩
theorem aaZ{d:TypeDesc}(h:bE .iface d=true):∃a,d= .interface a:=by
 cases d<;>simp[bE]at h;exact⟨_,rfl⟩
theorem Za{d:TypeDesc}(h:bE .Y7 d=true):d= .unsafePointer:=by cases d<;>simp[bE]at h;rfl
theorem kN{α:Type}:∀(l:List α)(i:Nat),nth l i=l[i]?
 |[],_=>by simp[nth]
 |_::_,0=>rfl
 |_::l,i+1=>by simp[nth,kN l i]
theorem FC:∀{fs:List (Nat×Nat×Bool)}{gs:List Field}{i:Nat}{x:Nat×Nat×Bool},bE.dG fs gs=true->nth fs i=some x->
  ∃f,gs[i]? =some f/\f.offset=x.1/\f.type=x.2.1/\(f.name != "_")=x.2.2
 |[],_,i,_,_,h=>by simp[nth]at h
 |(off,t,named)::l,[],i,_,h,_=>by simp[bE.dG]at h
 |(off,t,named)::l,f::l',0,x,h,hx=>by
  simp[bE.dG]at h;simp[nth]at hx;subst hx;exact⟨f,rfl,h.1.1.1.symm,h.1.1.2.symm,h.1.2.symm⟩
 |(off,t,named)::l,f::l',i+1,x,h,hx=>by
  simp[bE.dG]at h;simp[nth]at hx;obtain⟨f',h1,h2⟩:=FC h.2 hx;exact⟨f',by simpa using h1,h2⟩
theorem A5{v:Value}{a:AV}(h:Fx v=some a):aj ρ n C a v:=by
 unfold Fx at h
 split at h<;>first
   |(cases h;done)
   |(simp only[H4]at h;subst h)
 .exact .bool _
 .exact .int _ _
 .exact .str _ _ rfl
 .exact .iC
 .exact .af
 .exact .nF
 .exact .func _ _ _ _ _ rfl rfl (λ_ _ _ h=>by simp at h) (λ_ _ _ h=>by simp at h)
 .exact .jk
 .exact .uk
theorem pn:∀{l:List Value}{as:List AV},mG l=some as->au ρ n C as l
 |[],as,h=>by simp[mG]at h;subst h;exact au.nil
 |v ::l,as,h=>by
  unfold mG at h;split at h
  .rename_i a as' h1 h2;simp only[H4]at h;subst h;exact au.cons (A5 h1) (pn h2)
  .cases h
theorem U8{v:Value}{a:AV}(h:OT v=some a):aj ρ n C a v:=by
 unfold OT at h;split at h
 . split at h
   .rename_i l hl;simp only[H4]at h;subst h;exact .A3 (pn hl)
   .cases h
 .exact A5 h
theorem ov{x:Operand}{o:dU}{fr:Fr}{a:Act}{v:AV}(h:kz x=some o)(hF:fo ρ n C fr a.tmps)(hv:yE fr o=some v):aj ρ n C v (a.eval x):=by
 unfold kz at h;split at h
 .rename_i t;simp only[H4]at h;subst h;obtain⟨y,hy,hr⟩:=hF _ _ hv;rw[eW,Ze9]at hy;simp only[Act.eval,Zh8,hy,Zg1];exact hr
 . split at h
   .rename_i c hc;simp only[H4]at h;subst h;simp only[yE,H4]at hv;subst hv;exact U8 hc
   .cases h
 .rename_i f;simp only[H4]at h;subst h;simp only[yE,H4]at hv;subst hv;exact .func _ _ _ _ _ rfl rfl (λ_ _ _ h=>by simp at h) (λ_ _ _ h=>by simp at h)
 .cases h
theorem dQ:∀{xs:List Operand}{os:List dU}{fr:Fr}{a:Act}{vs:List AV},iV xs=some os->fo ρ n C fr a.tmps->dV fr os=some vs->au ρ n C vs (xs.map a.eval)
 |[],os,fr,a,vs,h,_,hv=>by simp[iV]at h;subst h;simp[dV]at hv;subst hv;exact au.nil
 |x ::xs,os,fr,a,vs,h,hF,hv=>by
  unfold iV at h;split at h
  . rename_i o os' h1 h2;simp only[H4]at h;subst h;unfold dV at hv;split at hv
    .   rename_i v KM;split at hv
        .rename_i vs' Il;simp only[H4]at hv;subst hv;exact au.cons (ov h1 hF KM) (dQ h2 hF Il)
        .cases hv
    .   cases hv
  .cases h
theorem eX{x:Operand}{o:dU}{fr:Fr}{a:Act}{vs:List AV}(h:kz x=some o)(hF:fo ρ n C fr a.tmps)(hv:dV fr [o]=some vs):
   ∃v,vs=[v]/\aj ρ n C v (a.eval x):=by
 unfold dV at hv;split at hv
 .rename_i v KM;simp only[dV,H4]at hv;subst hv;exact⟨v,rfl,ov h hF KM⟩
 .cases hv
end
def Yields(N:Next)(x:Value):Prop:=N= .value x\/(N= .skip/\x=undef)
def rK(P:Program)(ρ:Pos->Loc)(C:Cells)(st:St)(w:World)(r:Result Next):cq->Prop
 |.val v=>∃N x,r= .ok N w/\Yields N x/\aj ρ st.next.toNat C v x
 |.aH v del set new=>∃N x w' ρ',r= .ok N w'/\Yields N x/\(∀b:Pos,b.toNat<st.next.toNat->ρ' b=ρ b)/\aV ρ' C (st.aH del set new) w'/\
  aj ρ' (st.aH del set new).next.toNat C v x/\jJ ρ st w ρ' (st.aH del set new) w'
 |.call f args=>∃bC:List Value,r=(callFunc f bC.toArray).run P w/\au ρ st.next.toNat C args bC
end
section
open Go Go.RowKit
theorem kO(b o i:Nat):(⟨b,o,none⟩:Addr).add i=⟨b,o+i,none⟩:=by
 unfold Addr.add;split
 .rename_i h;subst h;rfl
 .rfl
section
variable{P:Program}{ρ ρ':Pos->Loc}{C:Cells}{st:St}{w w':World}
theorem aV.Xq(hW:aV ρ C st w){Xr:T AB}{next' b0:Pos}{x0:AB}
  (hn:st.next.toNat<=next'.toNat) (KN:b0.toNat<next'.toNat) (aeX:Xr.get b0=some x0)
  (pU:∀b x,b≠b0->Xr.get b=some x->st.heap.get b=some x/\(ρ b).ax≠(ρ' b0).ax)
  (aS:∀b:Pos,b.toNat<st.next.toNat->ρ' b=ρ b)
  (hB:lH ρ' next'.toNat C (ρ' b0) w' x0)
  (VK:∀a v,C a=some v->a.block≠(ρ' b0).ax)
  (aT:(ρ' b0).ax<w'.heap.size) (aeY:w.heap.size<=w'.heap.size)
  (sN:∀k,k<w.heap.size->k≠(ρ' b0).ax->w'.heap[k]? =w.heap[k]?):
  aV ρ' C ⟨Xr,next'⟩ w' where
 live b x hb:=by
  by_cases h:b=b0
  .  subst h;rw[aeX]at hb;cases hb;exact⟨KN,aT,hB⟩
  .  obtain⟨h1,h2⟩:=pU b x h hb;obtain⟨h3,h4,h5⟩:=hW.live b x h1;rw[aS b h3];exact⟨Zd0 h3 hn,Zd0 h4 aeY,(h5.mono aS hn).of_heap (sN _ h4 h2)⟩
 inj b  b' x x' hb jK he:=by
  by_cases h:b=b0
  .  subst h;by_cases h':b'=b
     .  exact h'.symm
     .  obtain⟨h1,h2⟩:=pU b' x' h' jK;rw[aS b' (hW.live b' x' h1).1]at he;exact absurd he.symm h2
  .  obtain⟨h1,h2⟩:=pU b x h hb;rw[aS b (hW.live b x h1).1]at he;by_cases h':b'=b0
     .  subst h';exact absurd he h2
     .  obtain⟨Qh,h2'⟩:=pU b' x' h' jK;rw[aS b' (hW.live b' x' Qh).1]at he;exact hW.inj b b' x x' h1 Qh he
 dB a v ha:=by
  obtain⟨h1,h2⟩:=hW.dB a v ha;have A6:a.block<w.heap.size:=World.block_lt_of_cell? _ _ h1;refine⟨?_,λb x hb=> ?_⟩
  .  rw[World.cell?_of_block (w:=w) (sN _ A6 (VK a v ha))];exact h1
  .  by_cases h:b=b0
     .  subst h;exact λe=>VK a v ha e.symm
     .  obtain⟨h3,_⟩:=pU b x h hb;rw[aS b (hW.live b x h3).1];exact h2 b x h3
 whole a v ha o ho:=by have kZ:a.block<w.heap.size:=World.block_lt_of_cell? _ _ (hW.dB a v ha).1;rw[World.cell?_of_block (w:=w) (a:=⟨a.block,o,none⟩) (sN _ kZ (VK a v ha))];exact hW.whole a v ha o ho
theorem aV.cell(hW:aV ρ C st w){b:Pos}{cs:List AV}{fz:Nat}(hb:st.heap.get b=some (.cells cs fz)){i:Nat}{v:AV}(hv:cs[i]? =some v):
  ∃x,w.cell? ⟨(ρ b).ax,(ρ b).base+i,none⟩=some x/\aj ρ st.next.toNat C v x:=by
 obtain⟨_,_,c,e,fr,h1,h2,h3,h4,_⟩:=hW.live b _ hb;obtain⟨x,hx,hr⟩:=h4.get hv;have hi:i<cs.length:=(Za3.1 hv).1;rw[Zb8,Za7 hi,Zc5]at hx;exact⟨x,by simp[World.cell?,h1, <-hx],hr⟩
theorem aV.aeZ(hW:aV ρ C st w){b:Pos}{cs:List AV}{t:TypeId}(hb:st.heap.get b=some (.typed t cs)){i:Nat}{v:AV}(hv:cs[i]? =some v):
  ∃x,w.cell? ⟨(ρ b).ax,(ρ b).base+i,none⟩=some x/\aj ρ st.next.toNat C v x:=by
 obtain⟨_,_,c,fr,h1,h2,h3,h4,_⟩:=hW.live b _ hb;obtain⟨x,hx,hr⟩:=h4.get hv;have hi:i<cs.length:=(Za3.1 hv).1;rw[Zb8,Za7 hi,Zc5]at hx;exact⟨x,by simp[World.cell?,h1, <-hx],hr⟩
theorem A7{α:Type}{l l':List α}{i n:Nat}(h:cut l i n=some l'):l'=(l.drop i).take n/\i+n<=l.length:=by
 unfold cut at h;split at h
 .rename_i hb;cases h;exact⟨rfl,Za4 hb⟩
 .cases h
theorem rL{α:Type}{l l':List α}{i n:Nat}(h:cut l i n=some l'):l'.length=n:=by obtain⟨rfl,h2⟩:=A7 h;simp;omega
theorem aV.loadCells(hW:aV ρ C st w){b:Pos}{cs vs:List AV}{fz off n:Nat}(hb:st.heap.get b=some (.cells cs fz))(hc:cut cs off n=some vs):
  ∃ys:List Value,(Go.loadCells ⟨(ρ b).ax,(ρ b).base+off,none⟩ n).run P w= .ok ys.toArray w/\au ρ st.next.toNat C vs ys:=by
 obtain⟨_,_,c,e,fr,h1,h2,h3,h4,_⟩:=hW.live b _ hb;obtain⟨iD,hle⟩:=A7 hc;have hr:=(h4.drop off).take n;rw[<-iD]at hr;refine⟨_,?_,hr⟩;have hlen:(List.take n (List.drop off (List.take cs.length (List.drop (ρ b).base c.toList)))).length=n:=by rw[<-hr.1];exact rL hc
 conv=>lhs;rw[<-hlen]
 refine run_loadCells_list w _ _ λj v hj=> ?_
 have yG:j<n:=by rw[<-hlen];exact(Za3.1 hj).1
 rw[Zb8,Za7 yG,Zc5,Zb8,Za7 (by omega),Zc5]at hj;rw[kO];simp[World.cell?,h1, <-hj,Zh9]
theorem aV.Nb(hW:aV ρ C st w){b:Pos}{cs vs:List AV}{t:TypeId}{off n:Nat}(hb:st.heap.get b=some (.typed t cs))(hc:cut cs off n=some vs):
  ∃ys:List Value,(Go.loadCells ⟨(ρ b).ax,(ρ b).base+off,none⟩ n).run P w= .ok ys.toArray w/\au ρ st.next.toNat C vs ys:=by
 obtain⟨_,_,c,fr,h1,h2,h3,h4,_⟩:=hW.live b _ hb;obtain⟨iD,hle⟩:=A7 hc;have hr:=(h4.drop off).take n;rw[<-iD]at hr;refine⟨_,?_,hr⟩;have hlen:(List.take n (List.drop off (List.take cs.length (List.drop (ρ b).base c.toList)))).length=n:=by rw[<-hr.1];exact rL hc
 conv=>lhs;rw[<-hlen]
 refine run_loadCells_list w _ _ λj v hj=> ?_
 have yG:j<n:=by rw[<-hlen];exact(Za3.1 hj).1
 rw[Zb8,Za7 yG,Zc5,Zb8,Za7 (by omega),Zc5]at hj;rw[kO];simp[World.cell?,h1, <-hj,Zh9]
theorem jU(g e:Nat)(fr:Nat×Nat):∀(vs:List Value)(i o:Nat)(cur:Array Value)(w:World),w.heap[g]? =some (.cells cur e fr)->o+i+vs.length<=cur.size->
  (∀v∈vs,v.oneCell'=true)->(∀k,o+i<=k->k<cur.size->¬(fr.1<=k/\k<fr.2))->
  ∃ w',(storeCells ⟨g,o,none⟩ vs i).run P w= .ok () w'/\w'.heap[g]? =some (.cells (aF cur.toList (o+i) vs).toArray e fr)/\
    w'.heap.size=w.heap.size/\(∀k,k≠g->w'.heap[k]? =w.heap[k]?)/\w'.os=w.os/\w'.tape=w.tape/\w'.output=w.output
 |[],i,o,cur,w,hg,_,_,_=>⟨w,by simp[storeCells],by rw[hg];simp[aF,Zg6],rfl,λ_ _=>rfl,rfl,rfl,rfl⟩
 |v ::vs,i,o,cur,w,hg,hle,h1,hf=>by
  simp only[Zd4]at hle;have hv:v.oneCell'=true:=h1 v (by simp);have Ct:w.cell? ⟨g,o+i,none⟩=some (cur[o+i]'(by omega)):=by simp[World.cell?,hg]
  have Zb:w.frozen? ⟨g,o+i,none⟩=false:=by have:=hf (o+i) (Za6 _) (by omega);simp only[World.frozen?,hg];simpa using this
  have Nc:(w.setCell ⟨g,o+i,none⟩ v).heap[g]? =some (.cells (cur.setIfInBounds (o+i) v) e fr):=by
    simp[World.setCell,Zn6,hg]
  obtain⟨w',h2,h3,h4,h5,h6,h7,h8⟩:=jU g e fr vs (i+1) o _ _ Nc (by simp;omega) (λv hv=>h1 v (by simp[hv])) (by intro k hk kA;simp at kA;exact hf k (by omega) kA);refine⟨w',?_,?_,by simp[h4],λk hk=> ?_,h6,h7,h8⟩
  .simp only[storeCells,Sem.run_bind,kO,run_store P w _ _ _ hv,Ct,Zb];simpa using h2
  .rw[h3];congr 2;simp only[aF,Zd4,Zo8];rw[List.drop_set_of_lt (by omega)];have:o+(i+1)=(o+i)+1:=(by omega);rw[this,List.take_set,Zp5];have aT:o+i<cur.toList.length:=(by simp;omega);rw[H5 aT];simp only[Option.toList_some,List.set_append,Zd5];have hm:min (o+i) cur.toList.length=o+i:=Zj1 (Nat.le_of_lt aT);rw[hm,Za5 (Zo1 _),Zm8];simp;rw[show o+i+1+vs.length=o+i+(vs.length+1)from by omega]
  .rw[h5 k hk,Below.heap_setCell _ _ _ _ (by simpa using hk)]
end
section
variable{P:Program}{tt:TT}{ρ:Pos->Loc}{C:Cells}{st:St}{w:World}{n:Nat}
theorem Yields.value(x:Value):Yields (.value x) x:= .inl rfl
theorem rK.pure{v:AV}{x:Value}{r:Result Next}(h:r= .ok (.value x) w)(hv:aj ρ st.next.toNat C v x):rK P ρ C st w r (.val v):=
 ⟨_,x,h,Yields.value x,hv⟩
theorem aj.iy{k:IntKind}{i:Int}{x:Value}(h:aj ρ n C (.int k i) x):x= .int k i:=by cases h;rfl
theorem aj.gJ{b:Bool}{x:Value}(h:aj ρ n C (.bool b) x):x= .bool b:=by cases h;rfl
theorem aj.dX{s:List Nat}{x:Value}(h:aj ρ n C (.str s) x):∃bs:ByteArray,x= .string bs/\bs.data.toList.map UInt8.toNat=s:=by
 cases h with|str _ bs h=>exact⟨bs,rfl,h⟩
theorem aj.ow{x:Value}(h:aj ρ n C .iC x):x= .pointer none:=by cases h;rfl
theorem aj.fA{x:Value}(h:aj ρ n C .af x):x= .slice none 0 0:=by cases h;rfl
theorem aj.xQ{x:Value}(h:aj ρ n C .nF x):x= .map none:=by cases h;rfl
theorem aj.FD{x:Value}(h:aj ρ n C .jk x):x= .nilFunc:=by cases h;rfl
theorem aj.Ss{x:Value}(h:aj ρ n C .uk x):x= .nilIface:=by cases h;rfl
theorem aj.e9{b:Pos}{off:Nat}{x:Value}(h:aj ρ n C (.ptr b off) x):b.toNat<n/\x= .pointer (some ⟨(ρ b).ax,(ρ b).base+off,none⟩):=by
 cases h with|ptr _ _ h=>exact⟨h,rfl⟩
theorem aj.uK{b:Pos}{x:Value}(h:aj ρ n C (.map b) x):b.toNat<n/\x= .map (some (ρ b).ax):=by
 cases h with|map _ h=>exact⟨h,rfl⟩
theorem aj.Qi{t:TypeId}{v:AV}{x:Value}(h:aj ρ n C (.iface t v) x):∃y,x= .iface t y/\aj ρ n C v y:=by
 cases h with|iface _ _ y h=>exact⟨y,rfl,h⟩
theorem aj.cK{b:Pos}{off len es:Nat}{cap:Option Nat}{x:Value}(h:aj ρ n C (.slice b off len cap es) x):
  ∃(a:Addr) (aJ:Nat),x= .slice (some a) len aJ/\len<=aJ/\(∀c,cap=some c->c=aJ)/\
   (aJ≠0->b.toNat<n/\a=⟨(ρ b).ax,(ρ b).base+off,none⟩/\(ρ b).base+off+aJ*es<=(ρ b).size):=by
 cases h with|slice _ _ _ _ _ aJ a hl hc ha _=>exact⟨a,aJ,rfl,hl,hc,ha⟩
theorem aj.Qj{b:Pos}{off len es:Nat}{cap:Option Nat}{x:Value}(h:aj ρ n C (.slice b off len cap es) x):cap=none->b.toNat<n:=by
 cases h with|slice _ _ _ _ _ _ _ _ _ _ hk=>exact hk
theorem aj.qF{xs:List (List AV)}{es:Nat}{x:Value}(h:aj ρ n C (.fl xs es) x):
  ∃(a:Addr) (aJ:Nat) (cell:Nat->Nat->Value),x= .slice (some a) xs.length aJ/\xs.length<=aJ/\(xs≠[]->a.spot=none)/\
   (∀(i:Nat)(cs:List AV),xs[i]? =some cs->cs.length=es)/\
   (∀(i j:Nat)(cs:List AV)(v:AV),xs[i]? =some cs->cs[j]? =some v->C ⟨a.block,a.off+i*es+j,none⟩=some (cell i j))/\
   (∀(i j:Nat)(cs:List AV)(v:AV),xs[i]? =some cs->cs[j]? =some v->aj ρ n C v (cell i j)):=by
 cases h with|fl _ _ aJ a cell hl hs dF hc hv=>exact⟨a,aJ,cell,rfl,hl,hs,dF,hc,hv⟩
theorem aj.D5{xs:List (List AV)}{i j:Nat}{x:Value}(h:aj ρ n C (.fp xs i j) x):
  ∃(es ax base:Nat) (cell:Nat->Nat->Value),x= .pointer (some ⟨ax,base+i*es+j,none⟩)/\
   (∀(i:Nat)(cs:List AV),xs[i]? =some cs->cs.length=es)/\
   (∀(i j:Nat)(cs:List AV)(v:AV),xs[i]? =some cs->cs[j]? =some v->C ⟨ax,base+i*es+j,none⟩=some (cell i j))/\
   (∀(i j:Nat)(cs:List AV)(v:AV),xs[i]? =some cs->cs[j]? =some v->aj ρ n C v (cell i j)):=by
 cases h with|fp _ _ _ es ax base cell hl hc hv=>exact⟨es,ax,base,cell,rfl,hl,hc,hv⟩
theorem qG(k:IntKind)(i:Int):aq k i=k.wrap i:=by
 unfold aq;split
 . rename_i h1 _;split
   .rename_i h2 _;cases k<;>simp only[Qc,Qd]at h1 h2<;>simp only[IntKind.wrap,IntKind.bits,IntKind.signed]<;>simp<;>omega
   .rfl
 .rfl
theorem j7(a b:Int):tY a b=(a==b):=by
 unfold tY;split
 .rename_i h _;subst h;simp
 .rename_i h _;simp[h]
theorem dN(a b:Int):yo a b=decide (a<b):=by
 unfold yo;split<;>(rename_i h _;simp[h])
theorem ig(a b:Int):RV a b=decide (a<=b):=by
 unfold RV;split<;>(rename_i h _;simp[h])
theorem kj:∀{a b:List Nat},iJ a b=true↔a=b
 |[],[]=>by simp[iJ]
 |[],_::_=>by simp[iJ]
 |_::_,[]=>by simp[iJ]
 |a::x,b::y=>by
  unfold iJ;split
  .rename_i h;have:=Za1 h;subst this;simp[kj (a:=x) (b:=y)]
  .rename_i h;have:=Zb9 h;simp[this]
theorem D6:∀{a b:List UInt8},a.map UInt8.toNat=b.map UInt8.toNat->a=b
 |[],[],_=>rfl
 |[],_::_,h=>by simp at h
 |_::_,[],h=>by simp at h
 |a::x,b::y,h=>by
  simp at h;rw[Zq1.1 h.1,D6 h.2]
theorem toList_data(b:ByteArray):b.toList=b.data.toList:=ByteArray.toList_eq b
theorem pQ:∀(x y:List UInt8),ay (x.map UInt8.toNat) (y.map UInt8.toNat)=Op.bytesLess x y
 |[],[]=>by simp[ay,Op.bytesLess]
 |_::_,[]=>by simp[ay,Op.bytesLess]
 |[],_::_=>by simp[ay,Op.bytesLess]
 |a ::x,b::y=>by
  simp only[Zd6,ay,Op.bytesLess];split
  .rename_i h;have:a<b:=(by rw[Zn7];simpa using h);simp[this]
  . (rename_i h;have h1:¬a<b:=by rw[Zn7];intro h';have h2:Nat.blt a.toNat b.toNat=true:=(by simpa using h');rw[h2]at h;cases h);split
    .   rename_i h2;have:a=b:=Zq1.1 (Za1 h2);subst this;simp only[h1,decide_false,Bool.false_or,beq_self_eq_true,Zf4];exact pQ x y
    .   (rename_i h2;have:a≠b:=λe=>Zb9 h2 (by rw[e]));simp[h1,this]
theorem D7{a b:List Nat}{x y:ByteArray}(hx:x.data.toList.map UInt8.toNat=a)(hy:y.data.toList.map UInt8.toNat=b):(x.toList==y.toList)=iJ a b:=by
 rw[toList_data,toList_data,Zk5,kj,beq_iff_eq, <-hx, <-hy];exact⟨λh=>by rw[h],λh=>D6 h⟩
theorem L4{a b:List Nat}{x y:ByteArray}(hx:x.data.toList.map UInt8.toNat=a)(hy:y.data.toList.map UInt8.toNat=b):Op.bytesLess x.toList y.toList=ay a b:=by
 rw[toList_data,toList_data, <-hx, <-hy,pQ]
theorem uo{a:List Nat}{x:ByteArray}(hx:x.data.toList.map UInt8.toNat=a):x.size=a.length:=by rw[<-hx,Za9,Zf6];rfl
def PK.fits:PK->TypeDesc->Bool
 |.b,.bool=>true
 |.i,.int _=>true
 |.s,.string=>true
 |_,_=>false
theorem Su{t:TypeId}{d:TypeDesc}(hd:P.underlying t=some d){pk:PK}(hk:pk.fits d=true){a b:AV}{x y:Value}{r:Bool}{m:Nat}
   (ha:aj ρ n C a x) (hb:aj ρ n C b y) (h:xL pk a b=some r) (w:World):(Op.equalIn (m+1) t x y).run P w= .ok r w:=by
 unfold xL at h;split at h
 .simp only[H4]at h;subst h;rw[ha.gJ,hb.gJ];cases d<;>simp[PK.fits]at hk;rw[run_equalIn_bool' w m t _ _ hd]
 . split at h
   .rename_i kA;have:=uJ kA;subst this;simp only[H4]at h;subst h;rw[ha.iy,hb.iy];cases d<;>simp[PK.fits]at hk;rw[run_equalIn_int w m t _ _ _ _ hd,j7]
   .cases h
 .simp only[H4]at h;subst h;obtain⟨bx,rfl,h1⟩:=ha.dX;obtain⟨bz,rfl,h2⟩:=hb.dX;cases d<;>simp[PK.fits]at hk;rw[run_equalIn_string w m t _ _ hd,D7 h1 h2]
 .cases h
theorem Im:∀{fs:List (Nat×Nat×Bool)}{l:List (Nat×PK)}{gs:List Field}{xs ys:List AV}{cx cy:Array Value}{r:Bool}{m:Nat}(_hT:bL P tt)
  (_hm:bE.dG fs gs=true) (_hf:vw.fields tt fs=some l) (_hx:au ρ n C xs cx.toList) (_hy:au ρ n C ys cy.toList) (_h:eqFields xs ys l=some r) (w:World),
  (Op.eqFields (m+1) cx cy gs).run P w= .ok r w
 |[],l,gs,xs,ys,cx,cy,r,m,hT,hm,hf,hx,hy,h,w=>by
  cases gs with
  |cons f gs=>simp[bE.dG]at hm
  | nil=>
    simp[vw.fields]at hf;subst hf;simp[eqFields]at h;subst h;simp[Op.eqFields]
 |(off  , t,named)::fs,l,gs,xs,ys,cx,cy,r,m,hT,hm,hf,hx,hy,h,w=>by
  cases gs with
  |nil=>simp[bE.dG]at hm
  | cons f gs=>
    simp[bE.dG]at hm;obtain⟨⟨⟨ho,ht⟩,hn⟩,Zc⟩:=hm;unfold vw.fields at hf;(split at hf<;>first|(cases hf;done)|skip);rename_i ti l' cJ hl';obtain⟨d,hd,bY⟩:=(hT.at cJ).und;have key:∃pk,l=(off,pk)::l'/\pk.fits d=true/\(isAgg t).run P w= .ok false w:=by
        have ny:=LZ bY w hd;split at hf<;>first|(cases hf;done)|skip
        all_goals
          rename_i hk;simp only[H4]at hf;rw[hk]at bY ny;refine⟨_,hf.symm,?_,ny⟩
        .rw[OV bY];rfl
        .rw[D4 bY];rfl
        .rw[kY bY];rfl
    obtain⟨pk,rfl,Dl,ny⟩:=key;have cF:f.name≠ "_" :=(by intro e;rw[e]at hn;simp at hn);unfold eqFields at h;(split at h<;>first|(cases h;done)|skip);rename_i a b ha hb;rw[kN]at ha hb;obtain⟨x,VL,VM⟩:=hx.get ha;obtain⟨y,zH,A8⟩:=hy.get hb;have px:(part f.type cx f.offset).run P w= .ok x w:=by
        rw[<-ht, <-ho];simp at VL;simp[part,ny,VL]
    have py:(part f.type cy f.offset).run P w= .ok y w:=by
        rw[<-ht, <-ho];simp at zH;simp[part,ny,zH]
    simp only[Op.eqFields,Sem.run_bind,Sem.run_ite,cF,px,py,Result.andThen_ok,ne_eq,not_false_eq_true,Zg5];split at h
    .   rename_i he;rw[<-ht,Su hd Dl VM A8 he w];simpa using Im (m:=m) hT Zc hl' hx hy h w
    .   rename_i he;simp only[H4]at h;subst h;rw[<-ht,Su hd Dl VM A8 he w];simp
    .   cases h
def acN(tt:TT)(op:BinOp)(q:ew)(t:TypeId):Prop:=vw tt t=some q\/(q= .num/\op≠ .eql/\op≠ .neq)
def ae0(P:Program)(tt:TT)(t:TypeId):ew->Prop
 |.num=>True
 |.bool=>P.underlying t=some .bool
 |.ptr=>∃e,P.underlying t=some (.pointer e)/\∃j,P.info? e=some j
 |.slice=>∃e,P.underlying t=some (.slice e)
 |.map=>∃k e,P.underlying t=some (.map k e)
 |.func=>∃a b c,P.underlying t=some (.func a b c)
 |.iface=>∃a,P.underlying t=some (.interface a)
 |.struct l=>∃fs gs,P.underlying t=some (.struct gs)/\bE.dG fs gs.toList=true/\vw.fields tt fs=some l/\P.stoodInHeld t=false/\P.eqGuardType P.depth t=false
theorem VN(hT:bL P tt){t:TypeId}{q:ew}(hq:vw tt t=some q):ae0 P tt t q:=by
 unfold vw at hq;split at hq<;>first|(cases hq;done)|skip
 rename_i ti cJ;obtain⟨d,hd,bY⟩:=(hT.at cJ).und;split at hq<;>first|(cases hq;done)|skip
 all_goals rename_i hk
 all_goals rw[hk]at bY
 .simp only[H4]at hq;subst hq;rw[OV bY]at hd;exact hd
 .simp only[H4]at hq;subst hq;trivial
 .simp only[H4]at hq;subst hq;trivial
 .simp only[H4]at hq;subst hq;rw[Na bY]at hd;exact⟨_,hd,(hT.at cJ).elem _ hk⟩
 .simp only[H4]at hq;subst hq;rw[lM bY]at hd;exact⟨_,hd⟩
 .simp only[H4]at hq;subst hq;rw[Ik bY]at hd;exact⟨_,_,hd⟩
 .simp only[H4]at hq;subst hq;obtain⟨_,_,_,rfl⟩:=ac9 bY;exact⟨_,_,_,hd⟩
 .simp only[H4]at hq;subst hq;obtain⟨_,rfl⟩:=aaZ bY;exact⟨_,hd⟩
 . (split at hq<;>first|(cases hq;done)|skip);rename_i fs _ _ l hp hl;simp only[H4]at hq;subst hq;obtain⟨gs,rfl,hm⟩:=Cs bY;exact⟨fs,gs,hd,hm,hl,(hT.at cJ).eqs hp⟩
theorem Xs(m:Nat)(hT:bL P tt){t:TypeId}{q:ew}(hq:vw tt t=some q){a b:AV}{x y:Value}{r:Bool}(ha:aj ρ n C a x)(hb:aj ρ n C b y)(h:LS q a b=some r)(w:World):
   (Op.equalIn (m+1+1) t x y).run P w= .ok r w:=by
 have hi:=VN hT hq;clear hq;unfold LS at h;split at h<;>first|(cases h;done)|skip
 .simp only[H4]at h;subst h;rw[ha.gJ,hb.gJ,run_equalIn_bool' w _ t _ _ hi]
 all_goals first
   |(simp only[H4]at h;subst h)
   |skip
 .obtain⟨e,hd,_⟩:=hi;rw[ha.ow,hb.ow];(unfold Op.equalIn;rw[Sem.run_bind,aO hd];rfl)
 .obtain⟨e,hd,_⟩:=hi;obtain⟨_,hb⟩:=hb.e9;rw[ha.ow,hb];(unfold Op.equalIn;rw[Sem.run_bind,aO hd];rfl)
 .obtain⟨e,hd,_⟩:=hi;obtain⟨_,ha⟩:=ha.e9;rw[hb.ow,ha];(unfold Op.equalIn;rw[Sem.run_bind,aO hd];rfl)
 .obtain⟨e,hd,_⟩:=hi;obtain⟨_,_,_,_,hb,_⟩:=hb.D5;rw[ha.ow,hb];(unfold Op.equalIn;rw[Sem.run_bind,aO hd];rfl)
 .obtain⟨e,hd,_⟩:=hi;obtain⟨_,_,_,_,ha,_⟩:=ha.D5;rw[hb.ow,ha];(unfold Op.equalIn;rw[Sem.run_bind,aO hd];rfl)
 .obtain⟨e,hd,j,hj⟩:=hi;(split at h<;>first|(cases h;done)|skip);rename_i e1 e2;have e1:=Pos.beq_eq.1 e1;have e2:=Za1 e2;subst e1;subst e2;simp only[H4]at h;subst h;obtain⟨_,ha⟩:=ha.e9;obtain⟨_,hb⟩:=hb.e9;rw[ha,hb];simp[Op.equalIn,aO hd,sizeOf,typeInfo,hj,run_sameAddr_same]
 .obtain⟨e,hd⟩:=hi;rw[ha.fA,hb.fA];(unfold Op.equalIn;rw[Sem.run_bind,aO hd];rfl)
 .obtain⟨e,hd⟩:=hi;obtain⟨_,_,hb,_⟩:=hb.cK;rw[ha.fA,hb];(unfold Op.equalIn;rw[Sem.run_bind,aO hd];rfl)
 .obtain⟨e,hd⟩:=hi;obtain⟨_,_,ha,_⟩:=ha.cK;rw[hb.fA,ha];(unfold Op.equalIn;rw[Sem.run_bind,aO hd];rfl)
 .obtain⟨e,hd⟩:=hi;obtain⟨_,_,_,hb,_⟩:=hb.qF;rw[ha.fA,hb];(unfold Op.equalIn;rw[Sem.run_bind,aO hd];rfl)
 .obtain⟨e,hd⟩:=hi;obtain⟨_,_,_,ha,_⟩:=ha.qF;rw[hb.fA,ha];(unfold Op.equalIn;rw[Sem.run_bind,aO hd];rfl)
 .obtain⟨k,e,hd⟩:=hi;rw[ha.xQ,hb.xQ];(unfold Op.equalIn;rw[Sem.run_bind,aO hd];rfl)
 .obtain⟨k,e,hd⟩:=hi;obtain⟨_,hb⟩:=hb.uK;rw[ha.xQ,hb];(unfold Op.equalIn;rw[Sem.run_bind,aO hd];rfl)
 .obtain⟨k,e,hd⟩:=hi;obtain⟨_,ha⟩:=ha.uK;rw[hb.xQ,ha];(unfold Op.equalIn;rw[Sem.run_bind,aO hd];rfl)
 .obtain⟨_,_,_,hd⟩:=hi;rw[ha.FD,hb.FD];(unfold Op.equalIn;rw[Sem.run_bind,aO hd];rfl)
 .obtain⟨_,_,_,hd⟩:=hi;obtain⟨_,_,hb,_⟩:=hb.A4;rw[ha.FD,hb];(unfold Op.equalIn;rw[Sem.run_bind,aO hd];rfl)
 .obtain⟨_,_,_,hd⟩:=hi;obtain⟨_,_,ha,_⟩:=ha.A4;rw[hb.FD,ha];(unfold Op.equalIn;rw[Sem.run_bind,aO hd];rfl)
 .obtain⟨_,hd⟩:=hi;obtain⟨_,hb,_⟩:=hb.Qi;rw[ha.Ss,hb];(unfold Op.equalIn;rw[Sem.run_bind,aO hd];rfl)
 .obtain⟨_,hd⟩:=hi;obtain⟨_,ha,_⟩:=ha.Qi;rw[hb.Ss,ha];(unfold Op.equalIn;rw[Sem.run_bind,aO hd];rfl)
 .obtain⟨fs,gs,hd,hm,hl,hp,_⟩:=hi;obtain⟨cx,rfl,hx⟩:=ha.AA;obtain⟨cy,rfl,hy⟩:=hb.AA;have hfo:P.fieldsOf t=gs:=(by simp[Program.fieldsOf,hd]);rw[run_equalIn_agg w (m+1) t cx cy (by rw[hfo,hd]) hp,hfo];exact Im (m:=m) hT hm hl hx hy h w
theorem Sv(hT:bL P tt){t:TypeId}{q:ew}(hq:vw tt t=some q){a b:AV}{x y:Value}{r:Bool}(ha:aj ρ n C a x)(hb:aj ρ n C b y)(h:LS q a b=some r)(w:World):
 (Op.equal t x y).run P w= .ok r w:=Xs 9998 hT hq ha hb h w
theorem Nd(hT:bL P tt){t:TypeId}{q:ew}(hq:vw tt t=some q){a b:AV}{x y:Value}{r:Bool}(ha:aj ρ n C a x)(hb:aj ρ n C b y)(h:LS q a b=some r)(op:BinOp)(ox oy:Operand)(w:World):
  (eqGuard op t ox oy x y).run P w= .ok () w:=by
 have hi:=VN hT hq;clear hq;unfold LS at h;split at h<;>first|(cases h;done)|skip
 all_goals first
  |(obtain⟨fs,gs,hd,hm,hl,hp,hg⟩:=hi
    obtain⟨cx,rfl,hx⟩:=ha.AA;obtain⟨cy,rfl,hy⟩:=hb.AA;exact run_eqGuard_agg w op t ox oy cx cy hg)
  |(cases ha<;>cases hb<;>cases op<;>rfl)
end
section
variable{P:Program}{tt:TT}{ρ:Pos->Loc}{C:Cells}{st:St}{w:World}{n:Nat}
theorem Ru(op:BinOp)(t:TypeId)(k:IntKind)(i j:Int)(hs:op≠ .shl)(hr:op≠ .shr):(binOp op t (.int k i) (.int k j)).run P w=
  (match op with
   |.add|.sub|.mul=>Op.intArith op k i j
   |.quo|.rem=>Op.intDiv op k i j
   |.and|.or|.xor|.andNot=>Op.intBits op k i j
   |_=>Op.intCmp op i j).run P w:=by
 cases op<;>first|(exact absurd rfl hs)|(exact absurd rfl hr)|simp[binOp]
theorem aa0(hT:bL P tt){op:BinOp}{t:TypeId}{q:ew}(hq:acN tt op q t){a b v:AV}{x y:Value}(ha:aj ρ n C a x)(hb:aj ρ n C b y)(h:lC op q a b=some v)(ox oy:Operand):
  ∃z,(do eqGuard op t ox oy x y;binOp op t x y:Sem Value).run P w= .ok z w/\aj ρ n C v z:=by
 unfold lC at h;split at h
 ·
  rename_i k i k' j;rw[ha.iy,hb.iy];have hg:∀op,(eqGuard op t ox oy (.int k i) (.int k' j)).run P w= .ok () w:=by intro op;cases op<;>rfl
  rw[Sem.run_bind,hg,Result.andThen_ok];split at h
  . split at h
    .   cases h
    .   rename_i aT;rw[dN]at aT;have aT:=Zm4 aT;simp only[H4]at h;subst h;exact⟨_,by simp[binOp,Op.shift,aT,qG],.int _ _⟩
  . split at h
    .   cases h
    .   rename_i aT;rw[dN]at aT;have aT:=Zm4 aT;simp only[H4]at h;subst h;exact⟨_,by simp[binOp,Op.shift,aT],.int _ _⟩
  . rename_i hs hr;split at h
    .   cases h
    .   rename_i hk;have:=uJ hk;subst this;rw[Ru op t k i j (λe=>hs e) (λe=>hr e)];split at h
        .simp only[H4]at h;subst h;exact⟨_,by simp[Op.intArith,qG],.int _ _⟩
        .simp only[H4]at h;subst h;exact⟨_,by simp[Op.intArith,qG],.int _ _⟩
        .simp only[H4]at h;subst h;exact⟨_,by simp[Op.intArith,qG],.int _ _⟩
        . split at h
          .cases h
          . (rename_i h0;rw[j7]at h0;have h0':¬j=0:=by simpa using h0);simp only[H4]at h;subst h;exact⟨_,by simp[Op.intDiv,h0',qG],.int _ _⟩
        . split at h
          .cases h
          . (rename_i h0;rw[j7]at h0;have h0':¬j=0:=by simpa using h0);simp only[H4]at h;subst h;exact⟨_,by simp[Op.intDiv,h0'],.int _ _⟩
        .simp only[H4]at h;subst h;exact⟨_,by simp[Op.intBits],.int _ _⟩
        .simp only[H4]at h;subst h;exact⟨_,by simp[Op.intBits],.int _ _⟩
        .simp only[H4]at h;subst h;exact⟨_,by simp[Op.intBits],.int _ _⟩
        .simp only[H4]at h;subst h;exact⟨_,by simp[Op.intBits],.int _ _⟩
        .simp only[H4]at h;subst h;exact⟨_,by simp[Op.intCmp,j7],.bool _⟩
        .simp only[H4]at h;subst h;refine⟨_,rfl,?_⟩;rw[j7];exact .bool _
        .simp only[H4]at h;subst h;refine⟨_,rfl,?_⟩;rw[dN];exact .bool _
        .simp only[H4]at h;subst h;refine⟨_,rfl,?_⟩;rw[ig];exact .bool _
        .simp only[H4]at h;subst h;refine⟨_,rfl,?_⟩;rw[dN];exact .bool _
        .simp only[H4]at h;subst h;refine⟨_,rfl,?_⟩;rw[ig];exact .bool _
        .cases h
 ·
  rename_i s u;obtain⟨bx,rfl,h1⟩:=ha.dX;obtain⟨bz,rfl,h2⟩:=hb.dX;have hg:∀op,(eqGuard op t ox oy (.string bx) (.string bz)).run P w= .ok () w:=by intro op;cases op<;>rfl
  rw[Sem.run_bind,hg,Result.andThen_ok];have hs:(binOp op t (.string bx) (.string bz)).run P w=(Op.stringOp op bx bz).run P w:=by cases op<;>rfl
  rw[hs];have e1:=D7 h1 h2;have e2:=L4 h1 h2;split at h
  . split at h
    .   rename_i hb;have hb:=Za4 hb;simp only[H4]at h;subst h;have kP:¬(((bx.size+bz.size:Nat):Int)>IntKind.i64.max):=(by rw[uo h1,uo h2];simp[IntKind.max,IntKind.signed,IntKind.bits];omega);refine⟨.string (bx++bz),?_,.str _ _ ?_⟩
        .simp only[Op.stringOp];rw[Za5 kP];rfl
        .rw[ByteArray.data_append,Array.toList_append,Ze2,h1,h2]
    .   cases h
  all_goals first|(cases h;done)|skip
  all_goals
    simp only[H4]at h;subst h;refine⟨_,rfl,?_⟩
    first|rw[e1,e2]|rw[e1]|rw[e2]
    exact .bool _
 ·
  rename_i hni hns;have Cu:∀op,(op= .eql\/op= .neq)->(binOp op t x y).run P w=((Op.equal t x y).run P w).andThen λr w'=>.ok (.bool (if op= .eql then r else !r)) w':=by
    rintro op (rfl|rfl)
    all_goals
        cases ha<;>cases hb<;>first
          |(exact(hni _ _ _ _ rfl rfl).elim)
          |(exact(hns _ _ rfl rfl).elim)
          |simp[binOp]
  split at h
  . split at h
    .   rename_i r hr;simp only[H4]at h;subst h;rcases hq with hq|⟨_,hq,_⟩
        .refine⟨.bool r,?_,.bool r⟩;rw[Sem.run_bind,Nd hT hq ha hb hr,Result.andThen_ok,Cu _ (.inl rfl),Sv hT hq ha hb hr];rfl
        .exact absurd rfl hq
    .   cases h
  . split at h
    .   rename_i r hr;simp only[H4]at h;subst h;rcases hq with hq|⟨_,_,hq⟩
        .refine⟨.bool (!r),?_,.bool _⟩;rw[Sem.run_bind,Nd hT hq ha hb hr,Result.andThen_ok,Cu _ (.inr rfl),Sv hT hq ha hb hr];rfl
        .exact absurd rfl hq
    .   cases h
  .cases h
end
def cL(P:Program)(tt:TT)(op:Op):Prop:=
 ∀  (ρ:Pos->Loc)(C:Cells)(st:St)(w:World)(k:av)(xs:List dU)(cls:VJ)(fr:Fr)(a:Act)(o:Oper)(vs:List AV)(res:cq),
    o.op=op->fL tt op=some (k,xs,cls)->aV ρ C st w->fo ρ st.next.toNat C fr a.tmps->dV fr xs=some vs->
    k.run (λb=>st.heap.get b) st.next vs=some res->rK P ρ C st w ((execOp a.eval o).run P w) res
section
variable{P:Program}{tt:TT}
theorem OW{ρ:Pos->Loc}{n:Nat}{C:Cells}{x y:Operand}{os:List dU}{fr:Fr}{a:Act}{vs:List AV}(h:iV [x,y]=some os)(hF:fo ρ n C fr a.tmps)(hv:dV fr os=some vs):
  ∃u v,vs=[u,v]/\aj ρ n C u (a.eval x)/\aj ρ n C v (a.eval y):=by
 have h1:=dQ h hF hv;cases vs with
 |nil=>have:=h1.1;simp at this
 |cons u vs=>
  cases vs with
  |nil=>have:=h1.1;simp at this
  |cons v vs=>
   cases vs with
   |nil=>exact⟨u,v,rfl,h1.2 0 u _ rfl rfl,h1.2 1 v _ rfl rfl⟩
   |cons z vs=>have:=h1.1;simp at this
theorem evs3{ρ:Pos->Loc}{n:Nat}{C:Cells}{x y z:Operand}{os:List dU}{fr:Fr}{a:Act}{vs:List AV}(h:iV [x,y,z]=some os)(hF:fo ρ n C fr a.tmps)(hv:dV fr os=some vs):
  ∃u v q,vs=[u,v,q]/\aj ρ n C u (a.eval x)/\aj ρ n C v (a.eval y)/\aj ρ n C q (a.eval z):=by
 have h1:=dQ h hF hv
 match vs,h1 with
 |[u,v,q],h1=>exact⟨u,v,q,rfl,h1.2 0 u _ rfl rfl,h1.2 1 v _ rfl rfl,h1.2 2 q _ rfl rfl⟩
 |[],h1=>have:=h1.1;simp at this
 |[_],h1=>have:=h1.1;simp at this
 |[_,_],h1=>have:=h1.1;simp at this
 |_::_::_::_::_,h1=>have:=h1.1;simp at this
theorem aa1(x:Operand):cL P tt (.move x):=by
 intro ρ C st w k xs cls fr a o vs res ho hc hW hF hx hr;simp only[fL]at hc;split at hc<;>first|(cases hc;done)|skip
 rename_i b hb;cases hc;obtain⟨v,rfl,hv⟩:=eX hb hF hx;simp only[av.run,J2,H4]at hr;subst hr;exact .pure (by simp[execOp,ho]) hv
theorem Xt(x:Operand):cL P tt (.assign x):=by
 intro ρ C st w k xs cls fr a o vs res ho hc hW hF hx hr;simp only[fL]at hc;split at hc<;>first|(cases hc;done)|skip
 rename_i b hb;cases hc;obtain⟨v,rfl,hv⟩:=eX hb hF hx;simp only[av.run,J2,H4]at hr;subst hr;exact .pure (by simp[execOp,ho]) hv
theorem aa2(c x y:Operand):cL P tt (.pick c x y):=by
 intro ρ C st w k xs cls fr a o vs res ho hc hW hF hx hr;simp only[fL]at hc;split at hc<;>first|(cases hc;done)|skip
 rename_i l hl;cases hc;obtain⟨u,v,q,rfl,h1,h2,h3⟩:=evs3 hl hF hx;simp only[av.run,OS]at hr;split at hr<;>first|(cases hr;done)|skip
 all_goals
   simp only[H4]at hr;subst hr;have h1:=h1.gJ
 .exact .pure (by simp[execOp,ho,h1,asBool]) h2
 .exact .pure (by simp[execOp,ho,h1,asBool]) h3
theorem Zd(hT:bL P tt)(op:BinOp)(t:TypeId)(x y:Operand)(yt:TypeId):cL P tt (.binOp op t x y yt):=by
 intro ρ C st w k xs cls fr a o vs res ho hc hW hF hx hr;have key:∃q,acN tt op q t/\k= .bin op q/\iV [x,y]=some xs:=by
  simp only[fL]at hc;split at hc
  .rename_i q l hq hl;cases hc;exact⟨q,.inl hq,rfl,hl⟩
  .rename_i l hq hl;(split at hc<;>first|(cases hc;done)|skip);rename_i h1 h2;cases hc;exact⟨.num,.inr ⟨rfl,λe=>h1 e,λe=>h2 e⟩,rfl,hl⟩
  .cases hc
 obtain⟨q,hq,rfl,hl⟩:=key;obtain⟨u,v,rfl,h1,h2⟩:=OW hl hF hx;simp only[av.run,gI]at hr;split at hr<;>first|(cases hr;done)|skip
 rename_i r hb;simp only[H4]at hr;subst hr;obtain⟨z,hz,hv⟩:=aa0 hT hq h1 h2 hb x y (w:=w);refine .pure ?_ hv;simp only[execOp,ho];rw[Sem.run_bind,hz];rfl
theorem aa3(op:UnOp)(t:TypeId)(x:Operand):cL P tt (.unOp op t x):=by
 intro ρ C st w k xs cls fr a o vs res ho hc hW hF hx hr;simp only[fL]at hc;split at hc<;>first|(cases hc;done)|skip
 rename_i b hb;cases hc;obtain⟨v,rfl,hv⟩:=eX hb hF hx;simp only[av.run,Xn]at hr;split at hr<;>first|(cases hr;done)|skip
 rename_i r hu;simp only[H4]at hr;subst hr;unfold unA at hu;split at hu
 . (split at hu<;>first|(cases hu;done)|skip);simp only[H4]at hu;subst hu;exact .pure (by simp[execOp,ho,hv.gJ,Op.unary]) (.bool _)
 . (split at hu<;>first|(cases hu;done)|skip);simp only[H4]at hu;subst hu;exact .pure (by simp[execOp,ho,hv.iy,Op.unary,Op.intArith];rfl) (by rw[qG];simpa using aj.int _ _)
 .cases hu
theorem Sw(x:Operand):cL P tt (.nilCheck x):=by
 intro ρ C st w k xs cls fr a o vs res ho hc hW hF hx hr;simp only[fL]at hc;split at hc<;>first|(cases hc;done)|skip
 rename_i b hb;cases hc;obtain⟨v,rfl,hv⟩:=eX hb hF hx;simp only[av.run,Dj]at hr;split at hr<;>first|(cases hr;done)|skip
 all_goals simp only[H4]at hr;subst hr
 .obtain⟨_,he⟩:=hv.e9;exact .pure (by simp[execOp,ho,he]) hv
 .obtain⟨_,_,_,_,he,_⟩:=hv.D5;exact .pure (by simp[execOp,ho,he]) hv
 .obtain⟨_,_,he,_⟩:=hv.A4;exact .pure (by simp[execOp,ho,he]) hv
theorem U9(x:Operand)(i:Nat):cL P tt (.extract x i):=by
 intro ρ C st w k xs cls fr a o vs res ho hc hW hF hx hr;simp only[fL]at hc;split at hc<;>first|(cases hc;done)|skip
 rename_i b hb;cases hc;obtain⟨v,rfl,hv⟩:=eX hb hF hx;simp only[av.run,Ah]at hr;split at hr<;>first|(cases hr;done)|skip
 split at hr<;>first|(cases hr;done)|skip
 rename_i u hu;simp only[H4]at hr;subst hr;obtain⟨cs,he,hs⟩:=hv.Qe;rw[kN]at hu;obtain⟨y,hy,A9⟩:=hs.get hu;exact .pure (by simp at hy;simp[execOp,ho,he,Instr.extract,hy]) A9
theorem Va(hT:bL P tt)(t:TypeId)(x:Operand):cL P tt (.makeInterface t x):=by
 intro ρ C st w k xs cls fr a o vs res ho hc hW hF hx hr;simp only[fL]at hc;split at hc<;>first|(cases hc;done)|skip
 rename_i ti b cJ hb;split at hc<;>first|(cases hc;done)|skip
 rename_i h1 h2;cases hc;obtain⟨v,rfl,hv⟩:=eX hb hF hx;simp only[av.run,Fs,H4]at hr;subst hr;obtain⟨d,hd,hk⟩:=(hT.at cJ).und;refine .pure (x:= .iface t (a.eval x)) ?_ (.iface _ _ _ hv);have hni:∀ms,d≠ .interface ms:=by
  rintro ms rfl;cases xj:ti.k<;>rw[xj]at hk<;>first|(simp[bE]at hk;done)|(exact h1 xj)|(exact h2 xj)
 simp only[execOp,ho,Instr.makeInterface,Sem.run_bind,aO hd,Result.andThen_ok];cases d<;>first|rfl|(exact absurd rfl (hni _))
theorem Xu(fn:Fn)(first captured:Array Operand):cL P tt (.makeFunc fn first captured):=by
 intro ρ C st w k xs cls fr a o vs res ho hc hW hF hx hr;simp only[fL]at hc;split at hc<;>first|(cases hc;done)|skip
 rename_i f l hl;cases hc;have h:=dQ hl hF hx;simp only[av.run,Cn,H4]at hr;subst hr;have e1:vs.take first.size=vs.take first.size:=rfl
 have h1:=h.take first.size
 have h2:=h.drop first.size
 simp only[Ze2]at h1 h2;rw[Zk6 (by simp)]at h1;rw[List.drop_left' (by simp)]at h2;refine .pure (x:= .func (.func f) (first.map a.eval) (captured.map a.eval)) (by simp[execOp,ho,Instr.makeFunc]) ?_;exact .func _ _ _ _ _ (by simpa using h1.1) (by simpa using h2.1) (λi v v' hv Ba=>h1.2 i v v' hv (by simpa using Ba)) (λi v v' hv Ba=>h2.2 i v v' hv (by simpa using Ba))
theorem Rv(hT:bL P tt)(t:TypeId)(x:Operand)(f:Nat):cL P tt (.fieldAddr t x f):=by
 intro ρ C st w k xs cls fr a o vs res ho hc hW hF hx hr;simp only[fL]at hc;split at hc<;>first|(cases hc;done)|skip
 rename_i ti b cJ hb;split at hc<;>first|(cases hc;done)|skip
 rename_i fs hk;split at hc<;>first|(cases hc;done)|skip
 rename_i off ft nm hf;split at hc<;>first|(cases hc;done)|skip
 rename_i fi hfi;split at hc<;>first|(cases hc;done)|skip
 rename_i fc;cases hc;obtain⟨v,rfl,hv⟩:=eX hb hF hx;obtain⟨d,hd,bY⟩:=(hT.at cJ).und;rw[hk]at bY;obtain⟨gs,rfl,hm⟩:=Cs bY;obtain⟨g,hg,mI,xk,_⟩:=FC hm hf;simp only at mI xk;obtain⟨i,hi,ke,_⟩:=(hT.at hfi).info;have hs0:¬i.size=0:=by rw[ke];exact Zb9 fc
 simp only[av.run,Ih]at hr;split at hr<;>first|(cases hr;done)|skip
 .simp only[H4]at hr;subst hr;obtain⟨aT,he⟩:=hv.e9;refine .pure (x:= .pointer (some ⟨(ρ _).ax,(ρ _).base+(_+off),none⟩)) ?_ (.ptr _ _ aT);simp at hg;simp[execOp,ho,he,Instr.fieldAt,aO hd,hg,Instr.sureAddr,fieldPlace,xk,ic hi,hs0,kO,mI,Zh9]
 .simp only[H4]at hr;subst hr;obtain⟨es,ax,base,cell,he,h1,h2,h3⟩:=hv.D5;rename_i tu i' j';refine .pure (x:= .pointer (some ⟨ax,base+i'*es+(j'+off),none⟩)) ?_ (.fp _ _ _ es ax base cell h1 h2 h3);simp at hg;simp[execOp,ho,he,Instr.fieldAt,aO hd,hg,Instr.sureAddr,fieldPlace,xk,ic hi,hs0,kO,mI,Zh9]
theorem jt{ρ:Pos->Loc}{n:Nat}{C:Cells}{v:AV}{x:Value}{i:Nat}(h:aj ρ n C v x)(hi:sM v=some i):∃k,x= .int k (i:Int):=by
 unfold sM at hi;split at hi<;>first|(cases hi;done)|skip
 split at hi<;>first|(cases hi;done)|skip
 simp only[H4]at hi;subst hi;exact⟨_,h.iy⟩
theorem Rw(hT:bL P tt)(t:TypeId)(x ix:Operand):cL P tt (.indexAddr t x ix):=by
 intro ρ C st w k xs cls fr a o vs res ho hc hW hF hx hr;simp only[fL]at hc;split at hc<;>first|(cases hc;done)|skip
 rename_i ti l cJ hl;obtain⟨d,hd,bY⟩:=(hT.at cJ).und;obtain⟨u,v,rfl,h1,h2⟩:=OW hl hF (by
   split at hc<;>first|(cases hc;done)|skip
   all_goals
     (split at hc<;>first|(cases hc;done)|skip);cases hc;exact hx)
 split at hc<;>first|(cases hc;done)|skip
 . rename_i e hk;rw[hk]at bY;rw[lM bY]at hd;(split at hc<;>first|(cases hc;done)|skip);rename_i te fk;cases hc;obtain⟨i0,k9,ke,_⟩:=(hT.at fk).info;simp only[av.run,nG]at hr;(split at hr<;>first|(cases hr;done)|skip);rename_i i hi;obtain⟨kk,Cw⟩:=jt h2 hi;split at hr<;>first|(cases hr;done)|skip
   .rename_i b off len cap es' _;(split at hr<;>first|(cases hr;done)|skip);rename_i aT;have aT:i<len:=(by simpa using aT);simp only[H4]at hr;subst hr;obtain⟨aa,aJ,he,hle,_,ha⟩:=h1.cK;obtain⟨hb,rfl,_⟩:=ha (by omega);refine .pure (x:= .pointer (some ⟨(ρ b).ax,(ρ b).base+(off+i*te.size),none⟩)) ?_ (.ptr _ _ hb);simp[execOp,ho,he,Cw,Instr.indexAt,aO hd,asIntOf,aT,ic k9,kO,ke,Zh9]
   .rename_i tu es' _;(split at hr<;>first|(cases hr;done)|skip);rename_i aT dF;have aT:i<tu.length:=(by simpa using aT);have dF:te.size=es':=Za1 dF;simp only[H4]at hr;subst hr;obtain⟨aa,aJ,cell,he,hle,vE,g1,g2,g3⟩:=h1.qF;have vE:=vE (by intro e;rw[e]at aT;simp at aT);obtain⟨ab,ao,asp⟩:=aa;simp only at vE;subst vE;refine .pure (x:= .pointer (some ⟨ab,ao+i*es'+0,none⟩)) ?_ (.fp _ _ _ es' ab ao cell g1 g2 g3);simp[execOp,ho,he,Cw,Instr.indexAt,aO hd,asIntOf,aT,ic k9,kO,ke,dF]
   .rename_i hh;cases hh
 . rename_i m e hk;rw[hk]at bY;rw[Sr bY]at hd;(split at hc<;>first|(cases hc;done)|skip);rename_i te fk;cases hc;obtain⟨i0,k9,ke,_⟩:=(hT.at fk).info;simp only[av.run,nG]at hr;(split at hr<;>first|(cases hr;done)|skip);rename_i i hi;obtain⟨kk,Cw⟩:=jt h2 hi;split at hr<;>first|(cases hr;done)|skip
   .rename_i hh;cases hh
   .rename_i hh;cases hh
   .rename_i m' b off hh;cases hh;(split at hr<;>first|(cases hr;done)|skip);rename_i aT;have aT:i<m:=(by simpa using aT);simp only[H4]at hr;subst hr;obtain⟨hb,he⟩:=h1.e9;refine .pure (x:= .pointer (some ⟨(ρ b).ax,(ρ b).base+(off+i*te.size),none⟩)) ?_ (.ptr _ _ hb);simp[execOp,ho,he,Cw,Instr.indexAt,aO hd,asIntOf,aT,ic k9,kO,ke,Zh9,Instr.sureAddr]
end
section
variable{P:Program}{tt:TT}
theorem Ze(hT:bL P tt)(t:TypeId)(x:Operand)(f:Nat):cL P tt (.field t x f):=by
 intro ρ C st w k xs cls fr a o vs res ho hc hW hF hx hr;simp only[fL]at hc;split at hc<;>first|(cases hc;done)|skip
 rename_i ti b cJ hb;split at hc<;>first|(cases hc;done)|skip
 rename_i fs hk;split at hc<;>first|(cases hc;done)|skip
 rename_i off ft nm hf;split at hc<;>first|(cases hc;done)|skip
 rename_i fi hfi;cases hc;obtain⟨v,rfl,hv⟩:=eX hb hF hx;obtain⟨d,hd,bY⟩:=(hT.at cJ).und;rw[hk]at bY;obtain⟨gs,rfl,hm⟩:=Cs bY;obtain⟨g,hg,mI,xk,_⟩:=FC hm hf;simp only at mI xk;obtain⟨i,hi,ke,_⟩:=(hT.at hfi).info;obtain⟨fd,hfd,hfk⟩:=(hT.at hfi).und;have ny:=LZ hfk w hfd;simp only[av.run,LU]at hr;split at hr<;>first|(cases hr;done)|skip
 rename_i cs;obtain⟨cx,he,hs⟩:=hv.AA;simp at hg;split at hr
 . rename_i hn;(split at hr<;>first|(cases hr;done)|skip);rename_i u hu;simp only[H4]at hr;subst hr;rw[kN]at hu;obtain⟨y,hy,A9⟩:=hs.get hu;have Xv:fi.k.isAgg=false:=by
     unfold vz at hn;split at hn
     .cases hn
     .assumption
   rw[Xv]at ny;refine .pure (x:=y) ?_ A9;simp at hy;simp[execOp,ho,he,Instr.field,aO hd,hg,part,xk,ny,asAgg,mI,hy]
 . rename_i m hn;simp only[H4]at hr;subst hr;have Xv:fi.k.isAgg=true/\m=fi.size:=by
     unfold vz at hn;split at hn
     .cases hn;exact⟨by assumption,rfl⟩
     .cases hn
   rw[Xv.1]at ny;refine .pure (x:= .agg (cx.extract off (off+m))) ?_ (.A3 ?_)
   .simp[execOp,ho,he,Instr.field,aO hd,hg,part,xk,ny,asAgg,mI,ic hi,ke,Xv.2]
   .have:=(hs.drop off).take m;simpa [Zo3,List.extract]using this
theorem Zf(hT:bL P tt)(t:TypeId)(x ix:Operand):cL P tt (.index t x ix):=by
 intro ρ C st w k xs cls fr a o vs res ho hc hW hF hx hr;simp only[fL]at hc;split at hc<;>first|(cases hc;done)|skip
 rename_i ti l cJ hl;split at hc<;>first|(cases hc;done)|skip
 rename_i hk;cases hc;obtain⟨u,v,rfl,h1,h2⟩:=OW hl hF hx;obtain⟨d,hd,bY⟩:=(hT.at cJ).und;rw[hk]at bY;rw[kY bY]at hd;simp only[av.run,J3]at hr;split at hr<;>first|(cases hr;done)|skip
 rename_i s i hi;split at hr<;>first|(cases hr;done)|skip
 rename_i c hcx;simp only[H4]at hr;subst hr;obtain⟨bs,he,hs⟩:=h1.dX;obtain⟨kk,Cw⟩:=jt h2 hi;rw[kN, <-hs,Zc1]at hcx;obtain⟨b,hb,hbc⟩:=Ze1.1 hcx;have jK:bs[i]? =some b:=by
  obtain⟨aT,jV⟩:=Za3.1 hb;have A6:i<bs.size:=by rw[Zf6]at aT;exact aT
  rw[getElem?_pos bs i A6];congr 1
 refine .pure (x:= .int .u8 (.ofNat c)) ?_ (.int _ _);simp[execOp,ho,he,Cw,Instr.index,aO hd,asIntOf,jK, <-hbc]
theorem aa4(hT:bL P tt)(t:TypeId)(x:Operand):cL P tt (.load t x):=by
 intro ρ C st w k xs cls fr a o vs res ho hc hW hF hx hr;simp only[fL]at hc;split at hc<;>first|(cases hc;done)|skip
 rename_i ti b cJ hb;cases hc;obtain⟨v,rfl,hv⟩:=eX hb hF hx;obtain⟨d,hd,bY⟩:=(hT.at cJ).und;obtain⟨i,hi,ke,_⟩:=(hT.at cJ).info;have ny:=LZ bY w hd;have hn:(vz ti=none/\ti.k.isAgg=false)\/(vz ti=some ti.size/\ti.k.isAgg=true):=by unfold vz;split<;>simp_all
 simp only[av.run,rI]at hr;split at hr<;>first|(cases hr;done)|skip
 . rename_i bb off;(split at hr<;>first|(cases hr;done)|skip);rename_i cs fz jV;obtain⟨_,he⟩:=hv.e9;rcases hn with⟨hn,hf⟩|⟨hn,hf⟩
   .rw[hn]at hr;rw[hf]at ny;simp only at hr;(split at hr<;>first|(cases hr;done)|skip);rename_i u hu;simp only[H4]at hr;subst hr;rw[kN]at hu;obtain⟨y,hy,A9⟩:=hW.cell jV hu;refine .pure (x:=y) ?_ A9;simp[execOp,ho,he,Instr.loadAt,Instr.sureAddr,loadVar,ny,hy]
   .rw[hn]at hr;rw[hf]at ny;simp only at hr;(split at hr<;>first|(cases hr;done)|skip);rename_i us hu;simp only[H4]at hr;subst hr;obtain⟨ys,hy,A9⟩:=hW.loadCells (P:=P) jV hu;refine .pure (x:= .agg ys.toArray) ?_ (.A3 (by simpa using A9));simp[execOp,ho,he,Instr.loadAt,Instr.sureAddr,loadVar,ny,ic hi,ke,hy]
   rename_i tt0 cs jV;obtain⟨_,he⟩:=hv.e9;rcases hn with⟨hn,hf⟩|⟨hn,hf⟩
   .rw[hn]at hr;rw[hf]at ny;simp only at hr;(split at hr<;>first|(cases hr;done)|skip);rename_i u hu;simp only[H4]at hr;subst hr;rw[kN]at hu;obtain⟨y,hy,A9⟩:=hW.aeZ jV hu;refine .pure (x:=y) ?_ A9;simp[execOp,ho,he,Instr.loadAt,Instr.sureAddr,loadVar,ny,hy]
   .rw[hn]at hr;rw[hf]at ny;simp only at hr;(split at hr<;>first|(cases hr;done)|skip);rename_i us hu;simp only[H4]at hr;subst hr;obtain⟨ys,hy,A9⟩:=hW.Nb (P:=P) jV hu;refine .pure (x:= .agg ys.toArray) ?_ (.A3 (by simpa using A9));simp[execOp,ho,he,Instr.loadAt,Instr.sureAddr,loadVar,ny,ic hi,ke,hy]
 . rename_i tu i' j';(split at hr<;>first|(cases hr;done)|skip);rename_i cs fV;rw[kN]at fV;obtain⟨es,ax,base,cell,he,g1,g2,g3⟩:=hv.D5;rcases hn with⟨hn,hf⟩|⟨hn,hf⟩
   .rw[hn]at hr;rw[hf]at ny;simp only at hr;(split at hr<;>first|(cases hr;done)|skip);rename_i u hu;simp only[H4]at hr;subst hr;rw[kN]at hu;have Ct:=(hW.dB _ _ (g2 _ _ _ _ fV hu)).1;refine .pure (x:=cell i' j') ?_ (g3 _ _ _ _ fV hu);simp[execOp,ho,he,Instr.loadAt,Instr.sureAddr,loadVar,ny,Ct]
   . rw[hn]at hr;rw[hf]at ny;simp only at hr;(split at hr<;>first|(cases hr;done)|skip);rename_i us hu;simp only[H4]at hr;subst hr;obtain⟨Zg,hle⟩:=A7 hu;have hlen:=rL hu;have b6:(loadCells ⟨ax,base+i'*es+j',none⟩ ti.size).run P w= .ok ((List.range ti.size).map λq=>cell i' (j'+q)).toArray w:=by
        (refine run_loadCells w _ _ _ λq hq=> ?_);rw[kO];have:cs[j'+q]? =some (cs[j'+q]'(by omega)):=H5 (by omega);rw[Zh9];exact(hW.dB _ _ (g2 _ _ _ _ fV this)).1
     refine .pure (x:= .agg ((List.range ti.size).map λq=>cell i' (j'+q)).toArray) ?_ (.A3 ⟨by simp[hlen],λq u y hu' hy=> ?_⟩)
     .  simp[execOp,ho,he,Instr.loadAt,Instr.sureAddr,loadVar,ny,ic hi,ke,b6]
     .  have hq:q<ti.size:=(by rw[<-hlen];exact(Za3.1 hu').1);rw[Zg,Zb8,Za7 hq,Zc5]at hu';simp[hq]at hy;subst hy;exact g3 _ _ _ _ fV hu'
theorem aa5{x y:Value}{ρ:Pos->Loc}{n:Nat}{C:Cells}{u v r:AV}{w:World}{st:St}(h1:aj ρ n C u x)(h2:aj ρ n C v y)(hr:Ay (λb=>st.heap.get b) st.next [u,v]=some (.val r)):
   ∃z,(Builtin.min2 x y).run P w= .ok z w/\aj ρ n C r z:=by
 simp only[Ay]at hr;split at hr<;>first|(cases hr;done)|skip
 . simp only[H4,cq.val.injEq]at hr;subst hr;rw[h1.iy,h2.iy];refine⟨_,rfl,?_⟩;rw[dN];split
   .rename_i h;rw[Za7 (Zg8 h)];exact .int _ _
   .rename_i h;rw[Za5 (Zm4 h)];exact .int _ _
 . simp only[H4,cq.val.injEq]at hr;subst hr;rename_i sa sb;obtain⟨bx,rfl,e1⟩:=h1.dX;obtain⟨bz,rfl,e2⟩:=h2.dX;have hh:(Op.stringOp .leq bx bz).run P w= .ok (.bool (ay sa sb||iJ sa sb)) w:=by
     simp only[Op.stringOp,Sem.run_pure];rw[L4 e1 e2,D7 e1 e2]
   refine⟨_,by simp only[Builtin.min2,Sem.run_bind,hh,Result.andThen_ok,asBool,Sem.run_pure];rfl,?_⟩;split
   .rename_i h;rw[Za7 h];exact .str _ _ e1
   .rename_i h;rw[Za5 (by rw[h];simp)];exact .str _ _ e2
theorem aa6{x y:Value}{ρ:Pos->Loc}{n:Nat}{C:Cells}{u v r:AV}{w:World}{st:St}(h1:aj ρ n C u x)(h2:aj ρ n C v y)(hr:Az (λb=>st.heap.get b) st.next [u,v]=some (.val r)):
   ∃z,(Builtin.max2 x y).run P w= .ok z w/\aj ρ n C r z:=by
 simp only[Az]at hr;split at hr<;>first|(cases hr;done)|skip
 . simp only[H4,cq.val.injEq]at hr;subst hr;rw[h1.iy,h2.iy];refine⟨_,rfl,?_⟩;rw[dN];split
   .rename_i h;rw[Za7 (Zg8 h)];exact .int _ _
   .rename_i h;rw[Za5 (Zm4 h)];exact .int _ _
 . simp only[H4,cq.val.injEq]at hr;subst hr;rename_i sa sb;obtain⟨bx,rfl,e1⟩:=h1.dX;obtain⟨bz,rfl,e2⟩:=h2.dX;have hh:(Op.stringOp .geq bx bz).run P w= .ok (.bool (!ay sa sb)) w:=by
     simp only[Op.stringOp,Sem.run_pure];rw[L4 e1 e2]
   refine⟨_,by simp only[Builtin.max2,Sem.run_bind,hh,Result.andThen_ok,asBool,Sem.run_pure];rfl,?_⟩;split
   .rename_i h;rw[Za5 (by rw[h];simp)];exact .str _ _ e2
   .rename_i h;rw[Za7 (by rw[h];rfl)];exact .str _ _ e1
theorem fW(xs:Array Operand)(a:Act):xs.toList.map a.eval=(xs.map a.eval).toList:=by simp
end
section
variable{P:Program}{tt:TT}
theorem vs1{ρ:Pos->Loc}{n:Nat}{C:Cells}{bs:List AV}{x:Value}(h:au ρ n C bs [x]):∃b,bs=[b]/\aj ρ n C b x:=by
 match bs,h with
 |[b],h=>exact⟨b,rfl,h.2 0 b x rfl rfl⟩
 |[],h=>have:=h.1;simp at this
 |_::_::_,h=>have:=h.1;simp at this
theorem vs2{ρ:Pos->Loc}{n:Nat}{C:Cells}{bs:List AV}{x y:Value}(h:au ρ n C bs [x,y]):∃b c,bs=[b,c]/\aj ρ n C b x/\aj ρ n C c y:=by
 match bs,h with
 |[b,c],h=>exact⟨b,c,rfl,h.2 0 b x rfl rfl,h.2 1 c y rfl rfl⟩
 |[],h=>have:=h.1;simp at this
 |[_],h=>have:=h.1;simp at this
 |_::_::_::_,h=>have:=h.1;simp at this
theorem vs3{ρ:Pos->Loc}{n:Nat}{C:Cells}{bs:List AV}{x y z:Value}(h:au ρ n C bs [x,y,z]):∃b c d,bs=[b,c,d]/\aj ρ n C b x/\aj ρ n C c y/\aj ρ n C d z:=by
 match bs,h with
 |[b,c,d],h=>exact⟨b,c,d,rfl,h.2 0 b x rfl rfl,h.2 1 c y rfl rfl,h.2 2 d z rfl rfl⟩
 |[],h=>have:=h.1;simp at this
 |[_],h=>have:=h.1;simp at this
 |[_,_],h=>have:=h.1;simp at this
 |_::_::_::_::_,h=>have:=h.1;simp at this
def Bb(x:Option Value)(i:Option Nat):Prop:=(x=none/\i=none)\/∃j k,i=some j/\x=some (.int k (j:Int))
theorem Nf{ρ:Pos->Loc}{n:Nat}{C:Cells}{lo hi mx:Option Operand}{bs:List AV}{a:Act}{l h m:Option Nat}
   (hb:au ρ n C bs ((vC lo++vC hi++vC mx).map a.eval)) (hr:bounds lo.isSome hi.isSome mx.isSome bs=some (l,h,m)):
   Bb (lo.map a.eval) l/\Bb (hi.map a.eval) h/\Bb (mx.map a.eval) m/\(m.isSome=true->h.isSome=true):=by
 unfold bounds at hr
 cases lo<;>cases hi<;>cases mx<;>simp only[Option.isSome_some,Option.isSome_none,vC,Ze0,Zf0,Zf7,Zd6,Zi1]at hb hr<;>
   first|(cases hr;done)|skip
 . cases bs with
   |cons b bs=>have:=hb.1;simp at this
   |nil=>simp at hr;obtain⟨rfl,rfl,rfl⟩:=hr;exact⟨.inl ⟨rfl,rfl⟩,.inl ⟨rfl,rfl⟩,.inl ⟨rfl,rfl⟩,λh=>by cases h⟩
 .obtain⟨b,rfl,h1⟩:=vs1 hb;simp only at hr;(split at hr<;>first|(cases hr;done)|skip);rename_i j hj;obtain⟨k,hk⟩:=jt h1 hj;simp at hr;obtain⟨rfl,rfl,rfl⟩:=hr;exact⟨.inl ⟨rfl,rfl⟩,.inr ⟨j,k,rfl,by simp[hk]⟩,.inl ⟨rfl,rfl⟩,λh=>by cases h⟩
 .obtain⟨b,c,rfl,h1,h2⟩:=vs2 hb;simp only at hr;(split at hr<;>first|(cases hr;done)|skip);rename_i j j' hj yG;obtain⟨k,hk⟩:=jt h1 hj;obtain⟨k',kA⟩:=jt h2 yG;simp at hr;obtain⟨rfl,rfl,rfl⟩:=hr;exact⟨.inl ⟨rfl,rfl⟩,.inr ⟨j,k,rfl,by simp[hk]⟩,.inr ⟨j',k',rfl,by simp[kA]⟩,λ_=>rfl⟩
 .obtain⟨b,rfl,h1⟩:=vs1 hb;simp only at hr;(split at hr<;>first|(cases hr;done)|skip);rename_i j hj;obtain⟨k,hk⟩:=jt h1 hj;simp at hr;obtain⟨rfl,rfl,rfl⟩:=hr;exact⟨.inr ⟨j,k,rfl,by simp[hk]⟩,.inl ⟨rfl,rfl⟩,.inl ⟨rfl,rfl⟩,λh=>by cases h⟩
 .obtain⟨b,c,rfl,h1,h2⟩:=vs2 hb;simp only at hr;(split at hr<;>first|(cases hr;done)|skip);rename_i j j' hj yG;obtain⟨k,hk⟩:=jt h1 hj;obtain⟨k',kA⟩:=jt h2 yG;simp at hr;obtain⟨rfl,rfl,rfl⟩:=hr;exact⟨.inr ⟨j,k,rfl,by simp[hk]⟩,.inr ⟨j',k',rfl,by simp[kA]⟩,.inl ⟨rfl,rfl⟩,λh=>by cases h⟩
 .obtain⟨b,c,d,rfl,h1,h2,h3⟩:=vs3 hb;simp only at hr;(split at hr<;>first|(cases hr;done)|skip);rename_i j j' j'' hj yG hj'';obtain⟨k,hk⟩:=jt h1 hj;obtain⟨k',kA⟩:=jt h2 yG;obtain⟨k'',hk''⟩:=jt h3 hj'';simp at hr;obtain⟨rfl,rfl,rfl⟩:=hr;exact⟨.inr ⟨j,k,rfl,by simp[hk]⟩,.inr ⟨j',k',rfl,by simp[kA]⟩,.inr ⟨j'',k'',rfl,by simp[hk'']⟩,λ_=>rfl⟩
theorem xp(isS:Bool){len cap:Nat}{xl xh xm:Option Value}{l h m:Option Nat}(h1:Bb xl l)(h2:Bb xh h)(h3:Bb xm m)(hmh:m.isSome=true->h.isSome=true)
  (D8:l.getD 0<=h.getD len) (hhm:h.getD len<=m.getD cap) (hmc:m.getD cap<=cap) (w:World):
  (Instr.sliceBounds isS len cap xl xh xm).run P w= .ok (l.getD 0,h.getD len,m.getD cap) w:=by
 rcases h1 with⟨rfl,rfl⟩|⟨jl,kl,rfl,rfl⟩<;>rcases h2 with⟨rfl,rfl⟩|⟨jh,kh,rfl,rfl⟩<;>rcases h3 with⟨rfl,rfl⟩|⟨jm,km,rfl,rfl⟩<;>
  simp only[Zk1,Zg1,Option.isSome_some,Option.isSome_none]at D8 hhm hmc hmh ⊢ <;>
  first
   |(simp at hmh;done)
   |simp[Instr.sliceBounds,Instr.sliceBound,asIntOf,D8,hhm,hmc,Int.ofNat_le]
theorem Cx{ρ:Pos->Loc}{n:Nat}{C:Cells}{b:Pos}{off es aJ l h M:Nat}{aa:Addr}{Xw:Option Nat}
   (ha:aJ≠0->b.toNat<n/\aa=⟨(ρ b).ax,(ρ b).base+off,none⟩/\(ρ b).base+off+aJ*es<=(ρ b).size)
   (h1:l<=h) (h2:h<=M) (h3:M<=aJ) (hc:∀c,Xw=some c->c=M - l) (hk:Xw=none->b.toNat<n):
   aj ρ n C (.slice b (off+l*es) (h - l) Xw es) (.slice (if M=l then some aa else(some aa).map (·.add (l*es))) (h - l) (M - l)):=by
 by_cases hm:M=l
 .rw[Za7 hm];exact .slice _ _ _ _ _ _ _ (by omega) hc (λh0=>absurd (by omega) h0) hk
 .rw[Za5 hm];obtain⟨hb,rfl,hle⟩:=ha (by omega);refine .slice _ _ _ _ _ _ _ (by omega) hc (λ_=>⟨hb,by show Addr.add _ _=_;rw[kO,Zh9],?_⟩) hk;have e1:l*es+(M - l)*es=M*es:=(by rw[<-Zi9];congr 1;omega);have e2:M*es<=aJ*es:=Zg9 _ h3;omega
theorem Zh(hT:bL P tt)(t:TypeId)(x:Operand)(lo hi mx:Option Operand):cL P tt (.slice t x lo hi mx):=by
 intro ρ C st w k xs cls fr a o vs res ho hc hW hF hx hr;simp only[fL]at hc;split at hc<;>first|(cases hc;done)|skip
 rename_i ti l0 cJ hl;obtain⟨d,hd,bY⟩:=(hT.at cJ).und;split at hc<;>first|(cases hc;done)|skip
 . rename_i hk;rw[hk]at bY;rw[kY bY]at hd;(split at hc<;>first|(cases hc;done)|skip);cases hc;have hv:=dQ hl hF hx;simp only[vC,Zf0,Zf7,Ze0,Zd6]at hv;simp only[av.run,Ig]at hr;(split at hr<;>first|(cases hr;done)|skip);rename_i u bs;(split at hr<;>first|(cases hr;done)|skip);rename_i s l h m' hb;(split at hr<;>first|(cases hr;done)|skip);rename_i h1 h2;have h1:=Za4 h1;have h2:=Za4 h2;simp only[H4]at hr;subst hr;obtain⟨y,ys,yF,hu,Hj⟩:=hv.cons_inv;simp only[Zh2]at yF;obtain⟨rfl,rfl⟩:=yF;have jV:=Nf (lo:=lo) (hi:=hi) (mx:=none) (a:=a) (by simpa [vC]using Hj) hb;obtain⟨bs',he,hs⟩:=hu.dX;have fc:=uo hs
   have b6:=xp (P:=P) false (len:=bs'.size) (cap:=bs'.size) jV.1 jV.2.1 (.inl ⟨rfl,rfl⟩:Bb none none) (λh=>by cases h)
     (by rw[fc];exact h1) (by rw[fc];simpa using h2) (by simp) w
   refine .pure (x:= .string (bs'.extract (l.getD 0) (h.getD bs'.size))) ?_ (.str _ _ ?_)
   .simp only[execOp,ho,Instr.sliceAt,Sem.run_bind,aO hd,Result.andThen_ok,he,Instr.slice];simp[b6]
   .rw[fc,ByteArray.data_extract,Zo3, <-hs,List.extract,Zm1,List.map_drop];rw[Zo9]
 . rename_i e hk;rw[hk]at bY;rw[lM bY]at hd;(split at hc<;>first|(cases hc;done)|skip);rename_i te fk;cases hc;obtain⟨i0,k9,ke,_⟩:=(hT.at fk).info;have hv:=dQ hl hF hx;simp only[Zf7,Ze0,Zi2,Zd6]at hv;simp only[av.run,iK]at hr;(split at hr<;>first|(cases hr;done)|skip);rename_i u bs;obtain⟨y,ys,yF,hu,Hj⟩:=hv.cons_inv;simp only[Zh2]at yF;obtain⟨rfl,rfl⟩:=yF
   have mI:∀(sa:Option Addr)(len cap:Nat)(l h m:Option Nat),a.eval x= .slice sa len cap->bounds lo.isSome hi.isSome mx.isSome bs=some (l,h,m)->
        l.getD 0<=h.getD len->h.getD len<=m.getD cap->m.getD cap<=cap->
        (execOp a.eval o).run P w= .ok (.value (.slice (if m.getD cap=l.getD 0 then sa else sa.map (·.add (l.getD 0*te.size))) (h.getD len - l.getD 0) (m.getD cap - l.getD 0))) w:=by
     intro sa len cap l h m he hb h1 h2 h3;have jV:=Nf (lo:=lo) (hi:=hi) (mx:=mx) (a:=a) (by simpa [Zi2]using Hj) hb;have b6:=xp (P:=P) true (len:=len) (cap:=cap) jV.1 jV.2.1 jV.2.2.1 jV.2.2.2 h1 h2 h3 w;simp only[execOp,ho,Instr.sliceAt,Sem.run_bind,aO hd,Result.andThen_ok,he,Instr.slice,b6,ic k9,ke,Sem.run_pure]
   split at hr<;>first|(cases hr;done)|skip
   ·
     rename_i b off len cap es' l h m hb;(split at hr<;>first|(cases hr;done)|skip);rename_i dF D8;have dF:te.size=es':=Za1 dF;subst dF;have D8:=Za4 D8;obtain⟨aa,aJ,he,hle,OX,ha⟩:=hu.cK;split at hr
     .  rename_i c m';(split at hr<;>first|(cases hr;done)|skip);rename_i e1 e2;have e1:=Za4 e1;have e2:=Za4 e2;have:=OX c rfl;subst this;simp only[H4]at hr;subst hr;exact .pure (mI _ _ _ _ _ _ he hb D8 (by simpa using e1) (by simpa using e2)) (Cx ha D8 e1 e2 (λc hc=>by cases hc;rfl) (λh=>by cases h))
     .  rename_i c;(split at hr<;>first|(cases hr;done)|skip);rename_i e1;have e1:=Za4 e1;have:=OX c rfl;subst this;simp only[H4]at hr;subst hr;exact .pure (mI _ _ _ _ _ _ he hb D8 (by simpa using e1) (by simp)) (Cx ha D8 e1 (Za6 _) (λc hc=>by cases hc;rfl) (λh=>by cases h))
     .  rename_i m';(split at hr<;>first|(cases hr;done)|skip);rename_i e1 e2;have e1:=Za4 e1;have e2:=Za4 e2;simp only[H4]at hr;subst hr;exact .pure (mI _ _ _ _ _ _ he hb D8 (by simpa using e1) (by simp;omega)) (Cx ha D8 e1 (by simp;omega) (λc hc=>by cases hc;rfl) (λh=>by cases h))
     .  (split at hr<;>first|(cases hr;done)|skip);rename_i e1;have e1:=Za4 e1;simp only[H4]at hr;subst hr;exact .pure (mI _ _ _ _ _ _ he hb D8 (by simp;omega) (by simp)) (Cx ha D8 (by simp;omega) (Za6 _) (λc hc=>by cases hc) (λ_=>hu.Qj rfl))
   ·
     rename_i tu es' l h m hb;(split at hr<;>first|(cases hr;done)|skip);rename_i dF;have dF:te.size=es':=Za1 dF;subst dF;obtain⟨aa,aJ,cell,he,hle,vE,g1,g2,g3⟩:=hu.qF;split at hr
     .  rename_i m';(split at hr<;>first|(cases hr;done)|skip);rename_i e0 e1 e2;have e0:=Za1 e0;have e1:=Za1 e1;have e2:=Za1 e2;subst e2;simp only[H4]at hr;subst hr;refine .pure (mI _ _ _ _ _ _ he hb (by omega) (by rw[e1];simp) (by simp)) ?_;simp only[e0,e1,Zg1,Zm8,Zg5];exact .slice _ _ _ _ _ _ _ (Za6 _) (λc hc=>by cases hc;rfl) (λh0=>absurd rfl h0) (λh=>by cases h)
     .  (split at hr<;>first|(cases hr;done)|skip);rename_i e0 e1;have e0:=Za4 e0;have e1:=Za4 e1;simp only[H4]at hr;subst hr;refine .pure (mI _ _ _ _ _ _ he hb e0 (by simp;omega) (by simp)) ?_;simp only[Zk1];have hlen:(List.drop (l.getD 0) (List.take (h.getD tu.length) tu)).length=h.getD tu.length - l.getD 0:=(by simp;omega);rw[<-hlen];have pU:∀i cs,(List.drop (l.getD 0) (List.take (h.getD tu.length) tu))[i]? =some cs->tu[l.getD 0+i]? =some cs:=by
          intro i cs hi;rw[Zc5,Zb8]at hi;split at hi
          .exact hi
          .cases hi
        by_cases hcl:aJ=l.getD 0
        .rw[Za7 hcl];have hemp:List.drop (l.getD 0) (List.take (h.getD tu.length) tu)=[]:=(by apply Zb2;rw[hlen];omega);rw[hemp];exact .fl _ _ _ _ (λ_ _=>undef) (by simp) (λh=>absurd rfl h) (λi cs hi=>by simp at hi) (λi j cs v hi=>by simp at hi) (λi j cs v hi=>by simp at hi)
        . rw[Za5 hcl];by_cases cF:tu=[]
          .subst cF;simp only[List.take_nil,List.drop_nil];exact .fl _ _ _ _ (λ_ _=>undef) (by simp) (λh=>absurd rfl h) (λi cs hi=>by simp at hi) (λi j cs v hi=>by simp at hi) (λi j cs v hi=>by simp at hi)
          .have vE:=vE cF;obtain⟨ab,ao,asp⟩:=aa;simp only at vE;subst vE;simp only[Ze8,kO];refine .fl _ _ _ _ (λi j=>cell (l.getD 0+i) j) (by rw[hlen];omega) (λ_=>rfl) (λi cs hi=>g1 _ _ (pU i cs hi)) (λi j cs v hi hj=> ?_) (λi j cs v hi hj=>g3 _ _ _ _ (pU i cs hi) hj);have:=g2 _ _ _ _ (pU i cs hi) hj;simp only at this ⊢;rw[<-this];congr 2;rw[Zi9];omega
   ·
     rename_i l h m hb;(split at hr<;>first|(cases hr;done)|skip);rename_i e0 e1 e2;have e0:=Za1 e0;have e1:=Za1 e1;have e2:=Za1 e2;simp only[H4]at hr;subst hr;have he:=hu.fA;refine .pure (mI _ _ _ _ _ _ he hb (by omega) (by omega) (by omega)) ?_;simp only[e0,e1,e2,Zm8,Zg5];exact .af
end
section
variable{P:Program}{tt:TT}
theorem Dm{ρ:Pos->Loc}{n:Nat}{C:Cells}:∀{l:List AV}{s:List Nat}{ys:List Value},bytesOf l=some s->au ρ n C l ys->
  ys=(s.map Int.ofNat).map (Value.int .u8)/\∀c,c∈s->c<256
 |[],s,ys,h,hv=>by
  simp[bytesOf]at h;subst h;exact⟨by simpa using hv.mB,λc hc=>by simp at hc⟩
 |v ::l,s,ys,h,hv=>by
  unfold bytesOf at h;split at h<;>first|(cases h;done)|skip
  .rename_i h0;simp at h0
  . rename_i c l' he;simp only[Zh2]at he;obtain⟨rfl,rfl⟩:=he;(split at h<;>first|(cases h;done)|skip);rename_i s' aT gK;simp only[H4]at h;subst h;obtain⟨y,ys',rfl,h1,h2⟩:=hv.cons_inv;obtain⟨e,gL⟩:=Dm gK h2;have aT:c<256:=(by simpa using aT);refine⟨by rw[h1.iy,e];rfl,λc' hc=> ?_⟩;simp at hc;rcases hc with rfl|hc
    .exact aT
    .exact gL _ hc
theorem Cy:∀(s:List Nat)(acc:ByteArray),((s.map Int.ofNat).foldl (λr n=>r.push (UInt8.ofNat n.toNat)) acc).data.toList=acc.data.toList++s.map UInt8.ofNat
 |[],acc=>by simp
 |c::s,acc=>by
  simp only[Zd6,Zq2];rw[Cy s];simp[ByteArray.push]
theorem Vb{P:Program}{e:TypeId}(hc:P.cellsOf e≠0)(count:Nat)(hn:1<=count):liesAt P P.depth e count 0 e 1=true:=by
 have hd:P.depth=(2*(P.types.size+Made.depth)+1)+1:=rfl;rw[hd];simp only[liesAt,Zh3];left;rw[hd];simp[rowAt,hc,hn,sameLayout]
theorem Vc(hT:bL P tt)(src dst:TypeId)(x:Operand)(hnb:∀k xs cls,fL tt (.convert src dst x)=some (k,xs,cls)->k≠ .conv .bytes):cL P tt (.convert src dst x):=by
 intro ρ C st w k xs cls fr a o vs res ho hc hW hF hx hr;have hnb:=hnb _ _ _ hc;simp only[fL]at hc;split at hc<;>first|(cases hc;done)|skip
 rename_i s d b hs hd hb;obtain⟨ds,sg,zI⟩:=(hT.at hs).und;obtain⟨dd,hdd,bY⟩:=(hT.at hd).und;split at hc<;>first|(cases hc;done)|skip
 . rename_i k1 k2 h1 h2;cases hc;obtain⟨v,rfl,hv⟩:=eX hb hF hx;rw[h1]at zI;rw[h2]at bY;rw[D4 zI]at sg;rw[D4 bY]at hdd;simp only[av.run,uF]at hr;split at hr<;>first|(cases hr;done)|(rename_i heq;cases heq;done)|(rename_i heq;cases heq)
   simp only[H4]at hr;subst hr;refine .pure ?_ (by rw[qG];exact .int _ _);simp[execOp,ho,hv.iy,convert,aO sg,aO hdd,Conv.intToInt]
 . rename_i h1 h2;cases hc;obtain⟨v,rfl,hv⟩:=eX hb hF hx;rw[h1]at zI;rw[h2]at bY;rw[kY zI]at sg;rw[kY bY]at hdd;simp only[av.run,uF]at hr;split at hr<;>first|(cases hr;done)|(rename_i heq;cases heq;done)|(rename_i heq;cases heq)
   simp only[H4]at hr;subst hr;obtain⟨bs,he,hs⟩:=hv.dX;exact .pure (x:= .string bs) (by simp[execOp,ho,he,convert,aO sg,aO hdd]) (.str _ _ hs)
 . (split at hc<;>first|(cases hc;done)|skip);(split at hc<;>first|(cases hc;done)|skip);cases hc;exact absurd rfl hnb
 . rename_i e h1 h2;(split at hc<;>first|(cases hc;done)|skip);rename_i te fk;(split at hc<;>first|(cases hc;done)|skip);rename_i Zi;cases hc;obtain⟨v,rfl,hv⟩:=eX hb hF hx;rw[h1]at zI;rw[h2]at bY;rw[lM zI]at sg;rw[kY bY]at hdd;obtain⟨de,Zj,Zk⟩:=(hT.at fk).und;rw[Zi]at Zk;rw[D4 Zk]at Zj;have mI:∀y:Option Addr×Nat×Nat,a.eval x= .slice y.1 y.2.1 y.2.2->(execOp a.eval o).run P w=((Conv.bytesToString (a.eval x)).run P w).andThen λv w=>.ok (.value v) w:=by
     intro y he;simp[execOp,ho,he,convert,aO sg,aO hdd,aO Zj]
   simp only[av.run,uF]at hr;split at hr<;>first|(cases hr;done)|(rename_i heq;cases heq;done)|(rename_i heq;cases heq)
   .simp only[H4]at hr;subst hr;have he:=hv.fA;refine .pure (x:= .string .empty) ?_ (.str _ _ rfl);rw[mI (none,0,0) he,he];simp[Conv.bytesToString]
   . rename_i bb off m cap es;obtain⟨aa,aJ,he,hle,_,ha⟩:=hv.cK;split at hr
     .  rename_i h0;have:=Za1 h0;subst this;simp only[H4]at hr;subst hr;refine .pure (x:= .string .empty) ?_ (.str _ _ rfl);rw[mI (some aa,0,aJ) he,he];simp[Conv.bytesToString,loadCells,loadCellsFrom]
     .  (rename_i h0;have h0:=Zb9 h0;(split at hr<;>first|(cases hr;done)|skip);rename_i cs fz jV;(split at hr<;>first|(cases hr;done)|skip);rename_i l hcut;(split at hr<;>first|(cases hr;done)|skip);rename_i s' Sx;simp only[H4]at hr;subst hr;obtain⟨aT,rfl,_⟩:=ha (by omega);obtain⟨ys,yF,iD⟩:=hW.loadCells (P:=P) jV hcut;obtain⟨e1,e2⟩:=Dm Sx iD;rw[e1]at yF;have b6:=run_bytesToString (P:=P) w ⟨(ρ bb).ax,(ρ bb).base+off,none⟩ m aJ (s'.map Int.ofNat) yF;refine .pure (x:= .string _) (by rw[mI (some _,m,aJ) he,he,b6];rfl) (.str _ _ ?_);rw[Cy,Ze2];have e0:ByteArray.empty.data.toList=[]:=rfl;rw[e0,Zi1,Ze0,Zg4];have e3:s'.map (UInt8.toNat∘UInt8.ofNat)=s'.map id:=Zj3 λc hc=>by have:=e2 c hc;simp only[Function.comp,id,UInt8.toNat_ofNat'];omega);rw[e3,List.map_id]
 ·
   rename_i e h1 h2;(split at hc<;>first|(cases hc;done)|skip);rename_i te fk;(split at hc<;>first|(cases hc;done)|skip);rename_i fc;cases hc;obtain⟨v,rfl,hv⟩:=eX hb hF hx;rw[h1]at zI;rw[h2]at bY;rw[Na zI]at sg;rw[Za bY]at hdd;obtain⟨i0,k9,ke,_⟩:=(hT.at fk).info;have fc:=Zb9 fc;simp only[av.run,M3]at hr;split at hr<;>first|(cases hr;done)|skip
   .simp only[H4]at hr;subst hr;refine .pure (x:= .pointer none) ?_ .iC;simp[execOp,ho,hv.ow,convert,aO sg,aO hdd,Conv.unsafePointer]
   .rename_i bb off;(split at hr<;>first|(cases hr;done)|skip);rename_i t0 cs jV;(split at hr<;>first|(cases hr;done)|skip);rename_i aT;have aT:off<cs.length:=(by simpa using aT);simp only[H4]at hr;subst hr;obtain⟨_,he⟩:=hv.e9;obtain⟨_,_,c,fr,g1,g2,g3,g4,g5,g6⟩:=hW.live _ _ jV;have Ng:w.shape? (ρ bb).ax=some (t0,c.size):=(by simp[World.shape?,g1]);have:=Lib.run_to_unsafe (P:=P) (w:=w) (j:=i0) ⟨(ρ bb).ax,(ρ bb).base+off,none⟩ sg hdd k9 (by rw[ke];exact fc) Ng (by show(ρ bb).base+off<c.size;omega);exact .pure (x:= .pointer (some ⟨(ρ bb).ax,(ρ bb).base+off,none⟩)) (by simp[execOp,ho,he,this]) (he ▸hv)
 ·
   rename_i e h1 h2;(split at hc<;>first|(cases hc;done)|skip);rename_i te fk;(split at hc<;>first|(cases hc;done)|skip);rename_i fc;cases hc;obtain⟨v,rfl,hv⟩:=eX hb hF hx;rw[h1]at zI;rw[h2]at bY;rw[Za zI]at sg;rw[Na bY]at hdd;obtain⟨i0,k9,ke,_⟩:=(hT.at fk).info;have fc:=Zb9 fc;simp only[av.run,Fv]at hr;split at hr<;>first|(cases hr;done)|skip
   .simp only[H4]at hr;subst hr;refine .pure (x:= .pointer none) ?_ .iC;simp[execOp,ho,hv.ow,convert,aO sg,aO hdd,Conv.unsafePointer]
   .rename_i bb;(split at hr<;>first|(cases hr;done)|skip);rename_i t0 cs jV;(split at hr<;>first|(cases hr;done)|skip);rename_i ht hle;have ht:=Za1 ht;have hle:=Za4 hle;subst ht;simp only[H4]at hr;subst hr;obtain⟨_,he⟩:=hv.e9;obtain⟨_,_,c,fr,g1,g2,g3,g4,g5,g6⟩:=hW.live _ _ jV;have Ng:w.shape? (ρ bb).ax=some (t0,c.size):=(by simp[World.shape?,g1]);have Ct:P.cellsOf t0=te.size:=(by simp[Program.cellsOf,k9,ke]);have L5:1<=c.size / P.cellsOf t0:=(by rw[Ct,Nat.le_div_iff_mul_le (by omega)];omega);rw[Zh5]at he;have:=Lib.run_from_unsafe (P:=P) (w:=w) (j:=i0) ⟨(ρ bb).ax,(ρ bb).base,none⟩ sg hdd k9 Ng (by show liesAt P P.depth t0 _ (ρ bb).base t0 1=true;rw[g6];exact Vb (by rw[Ct];exact fc) _ L5);exact .pure (x:= .pointer (some ⟨(ρ bb).ax,(ρ bb).base,none⟩)) (by simp[execOp,ho,he,this]) (he ▸hv)
theorem D9{t:TypeId}{d:TypeDesc}(hd:P.underlying t=some d){pk:PK}(hk:pk.fits d=true)(e:Bool)(m:Nat)(x:Value)(w:World):
  (Instr.checkKey e (m+1) t x).run P w= .ok () w:=by
 unfold Instr.checkKey;rw[Sem.run_bind,aO hd,Result.andThen_ok];cases pk<;>cases d<;>simp[PK.fits]at hk<;>rfl
theorem KO{ρ:Pos->Loc}{n:Nat}{C:Cells}{pk:PK}{d:TypeDesc}(hk:pk.fits d=true){u v:AV}{x y:Value}{r:Bool}
   (h1:aj ρ n C u x) (h2:aj ρ n C v y) (h:xL pk u v=some r):Instr.sameNow d x y=some r:=by
 unfold xL at h;split at h<;>first|(cases h;done)|skip
 .simp only[H4]at h;subst h;cases d<;>simp[PK.fits]at hk;rw[h1.gJ,h2.gJ];rfl
 . (split at h<;>first|(cases h;done)|skip);rename_i xj;have:=uJ xj;subst this;simp only[H4]at h;subst h;cases d<;>simp[PK.fits]at hk;rw[h1.iy,h2.iy];simp[Instr.sameNow,j7]
 .simp only[H4]at h;subst h;cases d<;>simp[PK.fits]at hk;obtain⟨bx,rfl,e1⟩:=h1.dX;obtain⟨bz,rfl,e2⟩:=h2.dX;simp only[Instr.sameNow];rw[beq_toListBytes,D7 e1 e2]
def Cz(ρ:Pos->Loc)(n:Nat)(C:Cells)(es:List (AV×AV×Nat))(es':List MapEntry):Prop:=
 es.length=es'.length/\∀(i:Nat)(e:AV×AV×Nat)(e':MapEntry),es[i]? =some e->es'[i]? =some e'->aj ρ n C e.1 e'.key/\aj ρ n C e.2.1 e'.val/\e.2.2=e'.born
theorem yH{ρ:Pos->Loc}{n:Nat}{C:Cells}{pk:PK}{d:TypeDesc}(hk:pk.fits d=true){u:AV}{x:Value}(hu:aj ρ n C u x):
  ∀{es:List (AV×AV×Nat)}{es':List MapEntry}{i:Nat}{r:Option (Nat×AV)},Cz ρ n C es es'->jr pk u es i=some r->
  ∃r',Instr.findNow d x es' i=some r'/\((r=none/\r'=none)\/∃j v y,r=some (j,v)/\r'=some (j,y)/\aj ρ n C v y/\i<=j/\j<i+es.length)
 |[],es',i,r,he,h=>by
  simp[jr]at h;subst h;cases es' with
  |nil=>exact⟨none,rfl,.inl ⟨rfl,rfl⟩⟩
  |cons e es'=>have:=he.1;simp at this
 |(k',v,born)::es,es',i,r,he,h=>by
  cases es' with
  |nil=>have:=he.1;simp at this
  |cons e' es'=>
   have h0:=he.2 0 (k',v,born) e' rfl rfl;have j9:Cz ρ n C es es':=⟨by have:=he.1;simpa using this,λj e e' h1 h2=>he.2 (j+1) e e' (by simpa using h1) (by simpa using h2)⟩
   unfold jr at h;split at h<;>first|(cases h;done)|skip
   .    rename_i hq;simp only[H4]at h;subst h;refine⟨some (i,e'.val),by simp[Instr.findNow,KO hk hu h0.1 hq],.inr ⟨i,v,e'.val,rfl,rfl,h0.2.1,Za6 _,by simp⟩⟩
   .    rename_i hq;obtain⟨r',h1,h2⟩:=yH hk hu j9 h;refine⟨r',by simp[Instr.findNow,KO hk hu h0.1 hq,h1],?_⟩;rcases h2 with h2|⟨j,v',y,e1,e2,e3,e4,e5⟩
        .exact .inl h2
        .exact .inr ⟨j,v',y,e1,e2,e3,by omega,by simp;omega⟩
theorem run_findKey{t:TypeId}{d:TypeDesc}(hd:P.underlying t=some d){x:Value}{es:List MapEntry}{r:Option (Nat×Value)}(h:Instr.findNow d x es 0=some r)(w:World):
  (Instr.findKey t x es).run P w= .ok r w:=by
 simp[Instr.findKey,aO hd,h]
theorem run_getObj_map{r:Nat}{es:Array MapEntry}{c:Nat}{w:World}(h:w.heap[r]? =some (.map es c)):(getObj r).run P w= .ok (.map es c) w:=by
 simp[getObj,Sem.run,h]
theorem acO(k:TK){d:TypeDesc}(h:bE k d=true){pk:PK}(hp:(k= .bool/\pk= .b)\/((∃i,k= .int i)/\pk= .i)\/(k= .string/\pk= .s)):pk.fits d=true:=by
 rcases hp with⟨rfl,rfl⟩|⟨⟨i,rfl⟩,rfl⟩|⟨rfl,rfl⟩
 .rw[OV h];rfl
 .rw[D4 h];rfl
 .rw[kY h];rfl
theorem qH(hT:bL P tt){t:Nat}{ti:TI}(ht:tt.get (key t)=some ti){z:List AV}(hz:ti.zero=some z){ρ:Pos->Loc}{n:Nat}{C:Cells}(w:World):
   ∃v,(zeroValue t).run P w= .ok v w/\aj ρ n C (fL.DY ti z) v/\au ρ n C z v.cells.toList:=by
 obtain⟨i,hi,ke,_,xq⟩:=(hT.at ht).info;obtain⟨v,hv,hs,hlen,h1,h2⟩:=xq z hz;refine⟨v,aaY hi hv w,?_,pn hs⟩;unfold fL.DY;split
 .rename_i ha;obtain⟨cs,rfl⟩:=h1 ha;exact .A3 (pn hs)
 .rename_i ha;have hc:=h2 ha;rw[hc]at hs;simp only[mG]at hs;(split at hs<;>first|(cases hs;done)|skip);rename_i a as e1 e2;simp only[H4]at hs e2;subst hs;subst e2;simp only;exact A5 e1
theorem Xx(hT:bL P tt)(t:TypeId)(x ix:Operand)(ok:Bool):cL P tt (.lookup t x ix ok):=by
 intro ρ C st w k xs cls fr a o vs res ho hc hW hF hx hr;simp only[fL]at hc;split at hc<;>first|(cases hc;done)|skip
 rename_i ti l cJ hl;split at hc<;>first|(cases hc;done)|skip
 rename_i kt et hk;split at hc<;>first|(cases hc;done)|skip
 rename_i tk te Ec fk;obtain⟨d,hd,bY⟩:=(hT.at cJ).und;rw[hk]at bY;rw[Ik bY]at hd;obtain⟨dk,Qk,xj⟩:=(hT.at Ec).und;have key:∃pk z,te.zero=some z/\k= .lookup pk (fL.DY te z) ok/\xs=l/\cls= .read/\pk.fits dk=true:=by
  split at hc<;>first|(cases hc;done)|skip
  all_goals
    rename_i z h1 h2;cases hc;refine⟨_,z,h2,rfl,rfl,rfl,acO tk.k xj ?_⟩
  .exact .inr (.inl ⟨⟨_,h1⟩,rfl⟩)
  .exact .inr (.inr ⟨h1,rfl⟩)
  .exact .inl ⟨h1,rfl⟩
 obtain⟨pk,z,hz,rfl,rfl,rfl,Dl⟩:=key;obtain⟨m,kk,rfl,h1,h2⟩:=OW hl hF hx;obtain⟨zv,xw,Nh,_⟩:=qH hT fk hz (ρ:=ρ) (n:=st.next.toNat) (C:=C) w;have Hl:∀e,(Instr.checkKey e 10000 kt (a.eval ix)).run P w= .ok () w:=λe=>D9 Qk Dl e 9999 _ w
 simp only[av.run,uG]at hr;split at hr<;>first|(cases hr;done)|skip
 ·
  rename_i j v hm;simp only[H4]at hr;subst hr;split at hm<;>first|(cases hm;done)|skip
  .split at hm<;>first|(cases hm;done)|(simp at hm;done)
  . rename_i b;(split at hm<;>first|(cases hm;done)|skip);rename_i es c hb;obtain⟨_,he⟩:=h1.uK;obtain⟨_,_,es',dF,hlen,gL⟩:=hW.live _ _ hb;have hE:Cz ρ st.next.toNat C es es'.toList:=⟨by simpa using hlen,λi e e' h1 h2=>gL i e e' h1 (by simpa using h2)⟩
    obtain⟨r',hf,pz⟩:=yH Dl h2 hE hm;rcases pz with⟨e1,_⟩|⟨j',v',y,e1,e2,e3,_⟩
    .   cases e1
    .   cases e1;subst e2;have b6:(execOp a.eval o).run P w= .ok (.value (if ok then .tuple #[y,.bool true]else y)) w:=by
          simp only[execOp,ho,Instr.lookup,Sem.run_bind,aO hd,Result.andThen_ok,he,run_getObj_map dF,Hl,run_findKey Qk hf,Sem.run_pure]
        refine .pure b6 ?_;cases ok
        .exact e3
        .exact .qE (au.cons e3 (au.cons (.bool true) au.nil))
 ·
  rename_i hm;simp only[H4]at hr;subst hr;have b6:(execOp a.eval o).run P w= .ok (.value (if ok then .tuple #[zv,.bool false]else zv)) w:=by
    split at hm<;>first|(cases hm;done)|skip
    .   (split at hm<;>first|(cases hm;done)|skip);have he:=h1.xQ;have hf:(Instr.findKey kt (a.eval ix) []).run P w= .ok none w:=run_findKey Qk rfl w;simp only[execOp,ho,Instr.lookup,Sem.run_bind,aO hd,Result.andThen_ok,he,Hl,hf,xw,Sem.run_pure]
    .   rename_i b;(split at hm<;>first|(cases hm;done)|skip);rename_i es c hb;obtain⟨_,he⟩:=h1.uK;obtain⟨_,_,es',dF,hlen,gL⟩:=hW.live _ _ hb;have hE:Cz ρ st.next.toNat C es es'.toList:=⟨by simpa using hlen,λi e e' h1 h2=>gL i e e' h1 (by simpa using h2)⟩
        obtain⟨r',hf,pz⟩:=yH Dl h2 hE hm;rcases pz with⟨_,e2⟩|⟨j',v',y,e1,_⟩
        .subst e2;simp only[execOp,ho,Instr.lookup,Sem.run_bind,aO hd,Result.andThen_ok,he,run_getObj_map dF,Hl,run_findKey Qk hf,xw,Sem.run_pure]
        .cases e1
  refine .pure b6 ?_;cases ok
  .exact Nh
  .exact .qE (au.cons Nh (au.cons (.bool false) au.nil))
end
section
variable{P:Program}{tt:TT}
theorem Bc:∀(l:List Value)(off k:Nat)(cs:Array Value),off+k+l.length<=cs.size->
  ((l.zipIdx k).foldl (λcs (c,j)=>cs.setIfInBounds (off+j) c) cs).toList=aF cs.toList (off+k) l
 |[],off,k,cs,_=>by simp[aF,Zg6]
 |v::l,off,k,cs,h=>by
  simp only[Zd4]at h;simp only[List.zipIdx_cons,Zq2];rw[Bc l off (k+1) _ (by simp;omega)];simp only[aF,Zd4,Zo8];rw[List.drop_set_of_lt (by omega)];have:off+(k+1)=(off+k)+1:=by omega
  rw[this,List.take_set,Zp5];have aT:off+k<cs.toList.length:=by simp;omega
  rw[H5 aT];simp only[Option.toList_some,List.set_append,Zd5];have hm:min (off+k) cs.toList.length=off+k:=Zj1 (Nat.le_of_lt aT);rw[hm,Za5 (Zo1 _),Zm8];simp;rw[show off+k+1+l.length=off+k+(l.length+1)from by omega]
theorem L6{ρ:Pos->Loc}{n:Nat}{C:Cells}(pl:Nat->Option (Nat×Nat)):∀{pp:List (Nat×Nat)}{vs cells r:List AV}{ps:List (Nat×Value)}{cs:Array Value},
  cj cells pp vs=some r->au ρ n C cells cs.toList->au ρ n C vs (ps.map (·.2))->ps.map (λx=>pl x.1)=pp.map some->
  ∃lf,Instr.fill pl cs ps=some lf/\au ρ n C r lf.toList
 |[],vs,cells,r,ps,cs,h,hc,hv,hp=>by
  unfold cj at h;split at h<;>first|(cases h;done)|skip
  .simp only[H4]at h;subst h;have:ps=[]:=(by simpa using hv.mB);subst this;exact⟨cs,rfl,hc⟩
  .rename_i hh;cases hh
 |(off  ,size)::pp,vs,cells,r,ps,cs,h,hc,hv,hp=>by
  unfold cj at h;split at h<;>first|(cases h;done)|skip
  .rename_i hh;cases hh
  . rename_i off' size' pp' v vs' hh;simp only[Zh2,Zb6]at hh;obtain⟨⟨rfl,rfl⟩,rfl⟩:=hh;(split at h<;>first|(cases h;done)|skip);rename_i h1 h2;have h1:=Za1 h1;have h2:=Za4 h2;cases ps with
    |nil=>have:=hv.1;simp at this
    |   cons p ps=>
        obtain⟨i,x⟩:=p;simp only[Zd6,Zh2]at hp hv;obtain⟨fE,xx⟩:=hp;obtain⟨y,ys,yF,hx,iD⟩:=hv.cons_inv;simp only[Zh2]at yF;obtain⟨rfl,rfl⟩:=yF;have hxc:=hx.cells;have hlen:x.cells.size=size:=(by rw[<-h1,hxc.1];simp);have fc:off+size<=cs.size:=(by have:=hc.1;simp at this;omega);have ae1:(x.cells.zipIdx.foldl (λcs (c,j)=>cs.setIfInBounds (off+j) c) cs).toList=aF cs.toList off x.cells.toList:=(by rw[<-Array.foldl_toList,Array.toList_zipIdx];have:=Bc x.cells.toList off 0 cs (by simp;omega);simpa using this);obtain⟨lf,e1,e2⟩:=L6 pl h (cs:=x.cells.zipIdx.foldl (λcs (c,j)=>cs.setIfInBounds (off+j) c) cs) (by rw[ae1];exact hc.aF hxc off) iD xx;refine⟨lf,?_,e2⟩;simp only[Instr.fill,fE];rw[Za5 (by simp[hlen];omega)];exact e1
theorem Ho(hT:bL P tt){gs:Array Field}(w:World):∀{fs:List (Nat×Nat×Bool)}(_hm:bE.dG fs gs.toList=true){is:List Nat}{pp:List (Nat×Nat)}
  (_h:fL.places tt fs is=some pp) {Io:List (Nat×Nat)} (_hpl:∀(i:Nat)(f:Field)(inf:TypeInfo),gs.toList[i]? =some f->P.info? f.type=some inf->Io[i]? =some (f.offset,inf.size)),
  is.map (λi=>Io[i]?)=pp.map some
 |fs,hm,[],pp,h,Io,pE=>by simp[fL.places]at h;subst h;rfl
 |fs,hm,i::is,pp,h,Io,pE=>by
  unfold fL.places at h;split at h<;>first|(cases h;done)|skip
  rename_i off t nm l h1 h2;split at h<;>first|(cases h;done)|skip
  rename_i ti Zl;simp only[H4]at h;subst h;obtain⟨f,hf,e1,e2,_⟩:=FC hm h1;obtain⟨inf,Sy,fc,_⟩:=(hT.at Zl).info;simp only at e1 e2;have:=pE i f inf hf (by rw[e2];exact Sy);simp only[Zd6,this,e1,fc];rw[Ho hT w hm h2 pE]
theorem Ni(hT:bL P tt):∀{fs:List (Nat×Nat×Bool)}{gs:List Field}(_hm:bE.dG fs gs=true)(_ha:fL.RW tt fs=true),
  ∃Io:List (Nat×Nat),gs.mapM (λf=>(P.info? f.type).map λi=>(f.offset,i.size))=some Io/\
   ∀(i:Nat)(f:Field)(inf:TypeInfo),gs[i]? =some f->P.info? f.type=some inf->Io[i]? =some (f.offset,inf.size)
 |[],gs,hm,ha=>by
  cases gs with
  |cons g gs=>simp[bE.dG]at hm
  |nil=>exact⟨[],rfl,λi f inf h=>by simp at h⟩
 |(off,t,nm)::fs,gs,hm,ha=>by
  cases gs with
  |nil=>simp[bE.dG]at hm
  |cons g gs=>
   simp[bE.dG]at hm;unfold fL.RW at ha;(split at ha<;>first|(cases ha;done)|skip);rename_i ti Zl;obtain⟨inf,Sy,_⟩:=(hT.at Zl).info;obtain⟨Io,h1,h2⟩:=Ni hT hm.2 ha;rw[hm.1.1.2]at Sy;refine⟨(g.offset,inf.size)::Io,by simp[Sy,h1],λi f inf' hi hf=> ?_⟩;cases i with
   |zero=>simp at hi;subst hi;rw[Sy]at hf;cases hf;rfl
   |succ i=>simp at hi ⊢; exact h2 i f inf' hi hf
theorem Zm(hT:bL P tt)(t:TypeId)(ps:Array (Nat×Operand)):cL P tt (.build t ps):=by
 intro ρ C st w k xs cls fr a o vs res ho hc hW hF hx hr;simp only[fL]at hc;split at hc<;>first|(cases hc;done)|skip
 rename_i ti l cJ hl;obtain⟨d,hd,bY⟩:=(hT.at cJ).und;obtain⟨it,Ql,_,_,xq⟩:=(hT.at cJ).info
 have mI:∀(pp:List (Nat×Nat))(z:List AV)(pl:Nat->Option (Nat×Nat)),ti.zero=some z->k= .build z pp->xs=l->ps.toList.map (λx=>pl x.1)=pp.map some->
    (∀(v:Value)(parts:List (Nat×Value))(cells:Array Value),it.zero=some v->Instr.fill pl v.cells parts=some cells->P.built t parts=some cells)->
    rK P ρ C st w ((execOp a.eval o).run P w) res:=by
   rintro pp z pl hz rfl rfl hpp aeh;have hv:=dQ hl hF hx;obtain⟨v,Ed,hs,_⟩:=xq z hz;simp only[av.run,Fq]at hr;(split at hr<;>first|(cases hr;done)|skip);rename_i cs Aj;simp only[H4]at hr;subst hr;have Nh:au ρ st.next.toNat C z v.cells.toList:=pn hs;have VO:(ps.map λ(i,x)=>(i,a.eval x)).toList=ps.toList.map λx=>(x.1,a.eval x.2):=(by simp);obtain⟨lf,e1,e2⟩:=L6 pl Aj Nh (ps:=ps.toList.map λx=>(x.1,a.eval x.2)) (by simpa [Zg4,Zj9]using hv) (by simpa [Zg4,Zj9]using hpp);refine .pure (x:= .agg lf) ?_ (.A3 e2);have b6:=run_build w t (ps.map λ(i,x)=>(i,a.eval x)) lf (aeh v _ _ Ed (by rw[VO];exact e1));simp only[execOp,ho,Sem.run_bind];rw[b6];rfl
 split at hc<;>first|(cases hc;done)|skip
 .rename_i fs z hk hz;rw[hk]at bY;obtain⟨gs,rfl,hm⟩:=Cs bY;(split at hc<;>first|(cases hc;done)|skip);rename_i pp pE gL;cases hc;obtain⟨Io,h1,h2⟩:=Ni hT hm gL;have hpp:=Ho hT w hm pE h2;(refine mI pp z (λi=>Io.toArray[i]?) hz rfl rfl (by simpa [Zg4,Zj9]using hpp) λv parts cells hv hf=> ?_);unfold Program.built;rw[Ql,hd];simp only[hv,h1];exact hf
 .rename_i e z hk hz;rw[hk]at bY;rw[Sr bY]at hd;(split at hc<;>first|(cases hc;done)|skip);rename_i te fk;cases hc;obtain⟨ie,hie,fc,_⟩:=(hT.at fk).info;(refine mI _ z (λi=>some (i*te.size,te.size)) hz rfl rfl (by simp[Zg4,Zj9]) λv parts cells hv hf=> ?_);unfold Program.built;rw[Ql,hd];simp only[hv,hie,fc];exact hf
end
end
end Go.Ai
