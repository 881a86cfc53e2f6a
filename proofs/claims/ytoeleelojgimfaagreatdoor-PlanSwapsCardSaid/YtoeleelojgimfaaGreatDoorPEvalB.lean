/- Its operations answer as the model does. -/
import Derived.Test.YtoeleelojgimfaaGreatDoorPEvalA
import Derived.Laws.StructEq
import Derived.Lib.Builder
import Derived.Laws.BytesString
set_option linter.all false
namespace Go.Ai
section
def bu:TK->TypeDesc->Bool
 |.bool,.bool=>true
 |.int k,.int k'=>zh k k'
 |.string,.string=>true
 |.ptr e,.pointer e'=>Nat.beq e e'
 |.slice e,.slice e'=>Nat.beq e e'
 |.array n e,.array n' e'=>Nat.beq n n'&&Nat.beq e e'
 |.map k e,.map k' e'=>Nat.beq k k'&&Nat.beq e e'
 |.struct fs,.struct fs'=>dc fs fs'.toList
 |.func,.func _ _ _=>true
 |.iface,.interface _=>true
 | .VP,.unsafePointer=>true
 |.other,.interface _=>false
 |.other,.int _=>false
 |.other,.array _ _=>false
 |.other,.struct _=>false
 |.other,_=>true
 |_,_=>false
where
 dc:List (Nat×Nat×Bool)->List Field->Bool
  |[],[]=>true
  |(off,t,named)::l,f::l'=>Nat.beq off f.offset&&Nat.beq t f.type&&(named==(f.name != "_"))&&dc l l'
  |_,_=>false
structure Uj(P:Program)(t:TypeId)(ti:TI):Prop where
 und:∃d,P.underlying t=some d/\bu ti.k d=true
 info:∃i,P.info? t=some i/\i.size=ti.size/\i.bytes=ti.bytes/\
  ∀z,ti.zero=some z->∃v,i.zero=some v/\lM v.cells.toList=some z/\z.length=ti.size/\(ti.k.isAgg=true->∃cs,v= .agg cs)/\(ti.k.isAgg=false->v.cells= #[v])
 elem:∀e,ti.k= .ptr e->∃j,P.info? e=some j
 eqs:ti.sy=true->P.stoodInHeld t=false/\P.eqGuardType P.depth t=false
def bH(P:Program)(tt:TT):Prop:=∀p ti,tt.get p=some ti->Uj P (p.toNat - 1) ti
theorem bH.at{P:Program}{tt:TT}(h:bH P tt){t:Nat}{ti:TI}(ht:tt.get (key t)=some ti):Uj P t ti:=by
 have:=h _ _ ht
 rwa [ej,Ze9]at this
section
variable{P:Program}{tt:TT}{ρ:Pos->Loc}{n:Nat}{C:Cells}
theorem aJ{t:TypeId}{d:TypeDesc}(h:P.underlying t=some d)(w:World):(underlying t).run P w= .ok d w:=run_underlying h w
theorem PI{t:TypeId}{i:TypeInfo}(h:P.info? t=some i)(w:World):(typeInfo t).run P w= .ok i w:=by simp[typeInfo,h]
theorem gu{t:TypeId}{i:TypeInfo}(h:P.info? t=some i)(w:World):(sizeOf t).run P w= .ok i.size w:=by simp[sizeOf,typeInfo,h]
theorem YJ{t:TypeId}{i:TypeInfo}{v:Value}(h:P.info? t=some i)(hz:i.zero=some v)(w:World):(zeroValue t).run P w= .ok v w:=by simp[zeroValue,typeInfo,h,hz]
theorem Jj{k:TK}{d:TypeDesc}(h:bu k d=true)(w:World){t:TypeId}(ht:P.underlying t=some d):(isAgg t).run P w= .ok k.isAgg w:=by
 cases k<;>cases d<;>first|(simp[bu]at h;done)|simp[isAgg,aJ ht,TK.isAgg]
theorem kJ{e:Nat}{d:TypeDesc}(h:bu (.slice e) d=true):d= .slice e:=by
 cases d<;>simp[bu]at h;rw[h]
theorem Kk{e:Nat}{d:TypeDesc}(h:bu (.ptr e) d=true):d= .pointer e:=by
 cases d<;>simp[bu]at h;rw[h]
theorem PJ{m e:Nat}{d:TypeDesc}(h:bu (.array m e) d=true):d= .array m e:=by
 cases d<;>simp[bu]at h;rw[h.1,h.2]
theorem FG{k e:Nat}{d:TypeDesc}(h:bu (.map k e) d=true):d= .map k e:=by
 cases d<;>simp[bu]at h;rw[h.1,h.2]
theorem L4{d:TypeDesc}(h:bu .bool d=true):d= .bool:=by cases d<;>simp[bu]at h;rfl
theorem tE{a b:IntKind}(h:zh a b=true):a=b:=by
 unfold zh at h;split at h
 .assumption
 .cases h
theorem Cd{k:IntKind}{d:TypeDesc}(h:bu (.int k) d=true):d= .int k:=by
 cases d<;>simp[bu]at h;rw[tE h]
theorem kq{d:TypeDesc}(h:bu .string d=true):d= .string:=by cases d<;>simp[bu]at h;rfl
theorem AS{fs:List (Nat×Nat×Bool)}{d:TypeDesc}(h:bu (.struct fs) d=true):∃gs,d= .struct gs/\bu.dc fs gs.toList=true:=by
 cases d<;>simp[bu]at h;exact⟨_,rfl,h⟩
theorem aa1{d:TypeDesc}(h:bu .func d=true):∃a b c,d= .func a b c:=by
 cases d<;>simp[bu]at h;exact⟨_,_,_,rfl⟩
theorem YK{d:TypeDesc}(h:bu .iface d=true):∃a,d= .interface a:=by
 cases d<;>simp[bu]at h;exact⟨_,rfl⟩
theorem VS{d:TypeDesc}(h:bu .VP d=true):d= .unsafePointer:=by cases d<;>simp[bu]at h;rfl
theorem j4{α:Type}:∀(l:List α)(i:Nat),nth l i=l[i]?
 |[],_=>by simp[nth]
 |_::_,0=>rfl
 |_::l,i+1=>by simp[nth,j4 l i]
theorem Dp:∀{fs:List (Nat×Nat×Bool)}{gs:List Field}{i:Nat}{x:Nat×Nat×Bool},bu.dc fs gs=true->nth fs i=some x->
  ∃f,gs[i]? =some f/\f.offset=x.1/\f.type=x.2.1/\(f.name != "_")=x.2.2
 |[],_,i,_,_,h=>by simp[nth]at h
 |(off,t,named)::l,[],i,_,h,_=>by simp[bu.dc]at h
 |(off,t,named)::l,f::l',0,x,h,hx=>by
  simp[bu.dc]at h;simp[nth]at hx;subst hx;exact⟨f,rfl,h.1.1.1.symm,h.1.1.2.symm,h.1.2.symm⟩
 |(off,t,named)::l,f::l',i+1,x,h,hx=>by
  simp[bu.dc]at h;simp[nth]at hx;obtain⟨f',h1,h2⟩:=Dp h.2 hx;exact⟨f',by simpa using h1,h2⟩
theorem zm{v:Value}{a:AV}(h:Dj v=some a):aj ρ n C a v:=by
 unfold Dj at h
 split at h<;>first
   |(cases h;done)
   |(simp only[H0]at h;subst h)
 .exact .bool _
 .exact .int _ _
 .exact .str _ _ rfl
 .exact .gH
 .exact .ah
 .exact .mR
 .exact .func _ _ _ _ _ rfl rfl (λ_ _ _ h=>by simp at h) (λ_ _ _ h=>by simp at h)
 .exact .iC
 .exact .sN
theorem oF:∀{l:List Value}{as:List AV},lM l=some as->aq ρ n C as l
 |[],as,h=>by simp[lM]at h;subst h;exact aq.nil
 |v ::l,as,h=>by
  unfold lM at h;split at h
  .rename_i a as' h1 h2;simp only[H0]at h;subst h;exact aq.cons (zm h1) (oF h2)
  .cases h
theorem Sf{v:Value}{a:AV}(h:LY v=some a):aj ρ n C a v:=by
 unfold LY at h;split at h
 . split at h
   .rename_i l hl;simp only[H0]at h;subst h;exact .zl (oF hl)
   .cases h
 .exact zm h
theorem nN{x:Operand}{o:dL}{fr:Fr}{a:Act}{v:AV}(h:jN x=some o)(hF:eJ ρ n C fr a.tmps)(hv:wU fr o=some v):aj ρ n C v (a.eval x):=by
 unfold jN at h;split at h
 .rename_i t;simp only[H0]at h;subst h;obtain⟨y,hy,hr⟩:=hF _ _ hv;rw[ej,Ze9]at hy;simp only[Act.eval,Zh7,hy,Zj2];exact hr
 . split at h
   .rename_i c hc;simp only[H0]at h;subst h;simp only[wU,H0]at hv;subst hv;exact Sf hc
   .cases h
 .rename_i f;simp only[H0]at h;subst h;simp only[wU,H0]at hv;subst hv;exact .func _ _ _ _ _ rfl rfl (λ_ _ _ h=>by simp at h) (λ_ _ _ h=>by simp at h)
 .cases h
theorem dB:∀{xs:List Operand}{os:List dL}{fr:Fr}{a:Act}{vs:List AV},ij xs=some os->eJ ρ n C fr a.tmps->dM fr os=some vs->aq ρ n C vs (xs.map a.eval)
 |[],os,fr,a,vs,h,_,hv=>by simp[ij]at h;subst h;simp[dM]at hv;subst hv;exact aq.nil
 |x ::xs,os,fr,a,vs,h,hF,hv=>by
  unfold ij at h;split at h
  . rename_i o os' h1 h2;simp only[H0]at h;subst h;unfold dM at hv;split at hv
    .   rename_i v Im;split at hv
        .rename_i vs' Ce;simp only[H0]at hv;subst hv;exact aq.cons (nN h1 hF Im) (dB h2 hF Ce)
        .cases hv
    .   cases hv
  .cases h
theorem ek{x:Operand}{o:dL}{fr:Fr}{a:Act}{vs:List AV}(h:jN x=some o)(hF:eJ ρ n C fr a.tmps)(hv:dM fr [o]=some vs):
   ∃v,vs=[v]/\aj ρ n C v (a.eval x):=by
 unfold dM at hv;split at hv
 .rename_i v Im;simp only[dM,H0]at hv;subst hv;exact⟨v,rfl,nN h hF Im⟩
 .cases hv
end
def Yields(N:Next)(x:Value):Prop:=N= .value x\/(N= .skip/\x=undef)
def qz(P:Program)(ρ:Pos->Loc)(C:Cells)(st:St)(w:World)(r:Result Next):bU->Prop
 |.val v=>∃N x,r= .ok N w/\Yields N x/\aj ρ st.next.toNat C v x
 |.aC v del set new=>∃N x w' ρ',r= .ok N w'/\Yields N x/\(∀b:Pos,b.toNat<st.next.toNat->ρ' b=ρ b)/\aU ρ' C (st.aC del set new) w'/\
  aj ρ' (st.aC del set new).next.toNat C v x/\iT ρ st w ρ' (st.aC del set new) w'
 |.call f args=>∃bw:List Value,r=(callFunc f bw.toArray).run P w/\aq ρ st.next.toNat C args bw
end
section
open Go Go.RowKit
theorem j5(b o i:Nat):(⟨b,o,none⟩:Addr).add i=⟨b,o+i,none⟩:=by
 unfold Addr.add;split
 .rename_i h;subst h;rfl
 .rfl
section
variable{P:Program}{ρ ρ':Pos->Loc}{C:Cells}{st:St}{w w':World}
theorem aU.Uk(hW:aU ρ C st w){Ul:T AB}{next' b0:Pos}{x0:AB}
  (hn:st.next.toNat<=next'.toNat) (hb0:b0.toNat<next'.toNat) (acB:Ul.get b0=some x0)
  (oX:∀b x,b≠b0->Ul.get b=some x->st.heap.get b=some x/\(ρ b).au≠(ρ' b0).au)
  (aQ:∀b:Pos,b.toNat<st.next.toNat->ρ' b=ρ b)
  (hB:kG ρ' next'.toNat C (ρ' b0) w' x0)
  (Io:∀a v,C a=some v->a.block≠(ρ' b0).au)
  (aV:(ρ' b0).au<w'.heap.size) (acC:w.heap.size<=w'.heap.size)
  (q9:∀k,k<w.heap.size->k≠(ρ' b0).au->w'.heap[k]? =w.heap[k]?):
  aU ρ' C ⟨Ul,next'⟩ w' where
 live b x hb:=by
  by_cases h:b=b0
  .  subst h;rw[acB]at hb;cases hb;exact⟨hb0,aV,hB⟩
  .  obtain⟨h1,h2⟩:=oX b x h hb;obtain⟨h3,h4,h5⟩:=hW.live b x h1;rw[aQ b h3];exact⟨Zc5 h3 hn,Zc5 h4 acC,(h5.mono aQ hn).of_heap (q9 _ h4 h2)⟩
 inj b  b' x x' hb gQ he:=by
  by_cases h:b=b0
  .  subst h;by_cases h':b'=b
     .  exact h'.symm
     .  obtain⟨h1,h2⟩:=oX b' x' h' gQ;rw[aQ b' (hW.live b' x' h1).1]at he;exact absurd he.symm h2
  .  obtain⟨h1,h2⟩:=oX b x h hb;rw[aQ b (hW.live b x h1).1]at he;by_cases h':b'=b0
     .  subst h';exact absurd he h2
     .  obtain⟨SM,h2'⟩:=oX b' x' h' gQ;rw[aQ b' (hW.live b' x' SM).1]at he;exact hW.inj b b' x x' h1 SM he
 cY a v ha:=by
  obtain⟨h1,h2⟩:=hW.cY a v ha;have Dq:a.block<w.heap.size:=World.block_lt_of_cell? _ _ h1;refine⟨?_,λb x hb=> ?_⟩
  .  rw[World.cell?_of_block (w:=w) (q9 _ Dq (Io a v ha))];exact h1
  .  by_cases h:b=b0
     .  subst h;exact λe=>Io a v ha e.symm
     .  obtain⟨h3,_⟩:=oX b x h hb;rw[aQ b (hW.live b x h3).1];exact h2 b x h3
 whole a v ha o ho:=by have nF:a.block<w.heap.size:=World.block_lt_of_cell? _ _ (hW.cY a v ha).1;rw[World.cell?_of_block (w:=w) (a:=⟨a.block,o,none⟩) (q9 _ nF (Io a v ha))];exact hW.whole a v ha o ho
theorem aU.cell(hW:aU ρ C st w){b:Pos}{cs:List AV}{fz:Nat}(hb:st.heap.get b=some (.cells cs fz)){i:Nat}{v:AV}(hv:cs[i]? =some v):
  ∃x,w.cell? ⟨(ρ b).au,(ρ b).base+i,none⟩=some x/\aj ρ st.next.toNat C v x:=by
 obtain⟨_,_,c,e,fr,h1,h2,h3,h4,_⟩:=hW.live b _ hb;obtain⟨x,hx,hr⟩:=h4.get hv;have hi:i<cs.length:=(Za0.1 hv).1;rw[Zb8,Za7 hi,Zc4]at hx;exact⟨x,by simp[World.cell?,h1, <-hx],hr⟩
theorem aU.acD(hW:aU ρ C st w){b:Pos}{cs:List AV}{t:TypeId}(hb:st.heap.get b=some (.typed t cs)){i:Nat}{v:AV}(hv:cs[i]? =some v):
  ∃x,w.cell? ⟨(ρ b).au,(ρ b).base+i,none⟩=some x/\aj ρ st.next.toNat C v x:=by
 obtain⟨_,_,c,fr,h1,h2,h3,h4,_⟩:=hW.live b _ hb;obtain⟨x,hx,hr⟩:=h4.get hv;have hi:i<cs.length:=(Za0.1 hv).1;rw[Zb8,Za7 hi,Zc4]at hx;exact⟨x,by simp[World.cell?,h1, <-hx],hr⟩
theorem zn{α:Type}{l l':List α}{i n:Nat}(h:cut l i n=some l'):l'=(l.drop i).take n/\i+n<=l.length:=by
 unfold cut at h;split at h
 .rename_i hb;cases h;exact⟨rfl,Za3 hb⟩
 .cases h
theorem qC{α:Type}{l l':List α}{i n:Nat}(h:cut l i n=some l'):l'.length=n:=by obtain⟨rfl,h2⟩:=zn h;simp;omega
theorem aU.loadCells(hW:aU ρ C st w){b:Pos}{cs vs:List AV}{fz off n:Nat}(hb:st.heap.get b=some (.cells cs fz))(hc:cut cs off n=some vs):
  ∃ys:List Value,(Go.loadCells ⟨(ρ b).au,(ρ b).base+off,none⟩ n).run P w= .ok ys.toArray w/\aq ρ st.next.toNat C vs ys:=by
 obtain⟨_,_,c,e,fr,h1,h2,h3,h4,_⟩:=hW.live b _ hb;obtain⟨gI,hle⟩:=zn hc;have hr:=(h4.drop off).take n;rw[<-gI]at hr;refine⟨_,?_,hr⟩;have hlen:(List.take n (List.drop off (List.take cs.length (List.drop (ρ b).base c.toList)))).length=n:=by rw[<-hr.1];exact qC hc
 conv=>lhs;rw[<-hlen]
 refine run_loadCells_list w _ _ λj v hj=> ?_
 have wW:j<n:=by rw[<-hlen];exact(Za0.1 hj).1
 rw[Zb8,Za7 wW,Zc4,Zb8,Za7 (by omega),Zc4]at hj;rw[j5];simp[World.cell?,h1, <-hj,Zh3]
theorem aU.Kl(hW:aU ρ C st w){b:Pos}{cs vs:List AV}{t:TypeId}{off n:Nat}(hb:st.heap.get b=some (.typed t cs))(hc:cut cs off n=some vs):
  ∃ys:List Value,(Go.loadCells ⟨(ρ b).au,(ρ b).base+off,none⟩ n).run P w= .ok ys.toArray w/\aq ρ st.next.toNat C vs ys:=by
 obtain⟨_,_,c,fr,h1,h2,h3,h4,_⟩:=hW.live b _ hb;obtain⟨gI,hle⟩:=zn hc;have hr:=(h4.drop off).take n;rw[<-gI]at hr;refine⟨_,?_,hr⟩;have hlen:(List.take n (List.drop off (List.take cs.length (List.drop (ρ b).base c.toList)))).length=n:=by rw[<-hr.1];exact qC hc
 conv=>lhs;rw[<-hlen]
 refine run_loadCells_list w _ _ λj v hj=> ?_
 have wW:j<n:=by rw[<-hlen];exact(Za0.1 hj).1
 rw[Zb8,Za7 wW,Zc4,Zb8,Za7 (by omega),Zc4]at hj;rw[j5];simp[World.cell?,h1, <-hj,Zh3]
theorem jk(g e:Nat)(fr:Nat×Nat):∀(vs:List Value)(i o:Nat)(cur:Array Value)(w:World),w.heap[g]? =some (.cells cur e fr)->o+i+vs.length<=cur.size->
  (∀v∈vs,v.oneCell'=true)->(∀k,o+i<=k->k<cur.size->¬(fr.1<=k/\k<fr.2))->
  ∃ w',(storeCells ⟨g,o,none⟩ vs i).run P w= .ok () w'/\w'.heap[g]? =some (.cells (aG cur.toList (o+i) vs).toArray e fr)/\
    w'.heap.size=w.heap.size/\(∀k,k≠g->w'.heap[k]? =w.heap[k]?)/\w'.os=w.os/\w'.tape=w.tape/\w'.output=w.output
 |[],i,o,cur,w,hg,_,_,_=>⟨w,by simp[storeCells],by rw[hg];simp[aG,Zk0],rfl,λ_ _=>rfl,rfl,rfl,rfl⟩
 |v ::vs,i,o,cur,w,hg,hle,h1,hf=>by
  simp only[Ze6]at hle;have hv:v.oneCell'=true:=h1 v (by simp);have AT:w.cell? ⟨g,o+i,none⟩=some (cur[o+i]'(by omega)):=by simp[World.cell?,hg]
  have VT:w.frozen? ⟨g,o+i,none⟩=false:=by have:=hf (o+i) (Za4 _) (by omega);simp only[World.frozen?,hg];simpa using this
  have wX:(w.setCell ⟨g,o+i,none⟩ v).heap[g]? =some (.cells (cur.setIfInBounds (o+i) v) e fr):=by
    simp[World.setCell,Zm0,hg]
  obtain⟨w',h2,h3,h4,h5,h6,h7,h8⟩:=jk g e fr vs (i+1) o _ _ wX (by simp;omega) (λv hv=>h1 v (by simp[hv])) (by intro k hk jO;simp at jO;exact hf k (by omega) jO);refine⟨w',?_,?_,by simp[h4],λk hk=> ?_,h6,h7,h8⟩
  .simp only[storeCells,Sem.run_bind,j5,run_store P w _ _ _ hv,AT,VT];simpa using h2
  .rw[h3];congr 2;simp only[aG,Ze6,Zn1];rw[List.drop_set_of_lt (by omega)];have:o+(i+1)=(o+i)+1:=(by omega);rw[this,List.take_set,Zo0];have aV:o+i<cur.toList.length:=(by simp;omega);rw[H4 aV];simp only[Option.toList_some,List.set_append,Zi7];have hm:min (o+i) cur.toList.length=o+i:=Zj6 (Nat.le_of_lt aV);rw[hm,Za5 (Zm6 _),Zn0];simp;rw[show o+i+1+vs.length=o+i+(vs.length+1)from by omega]
  .rw[h5 k hk,Below.heap_setCell _ _ _ _ (by simpa using hk)]
end
section
variable{P:Program}{tt:TT}{ρ:Pos->Loc}{C:Cells}{st:St}{w:World}{n:Nat}
theorem Yields.value(x:Value):Yields (.value x) x:= .inl rfl
theorem qz.pure{v:AV}{x:Value}{r:Result Next}(h:r= .ok (.value x) w)(hv:aj ρ st.next.toNat C v x):qz P ρ C st w r (.val v):=
 ⟨_,x,h,Yields.value x,hv⟩
theorem aj.gD{k:IntKind}{i:Int}{x:Value}(h:aj ρ n C (.int k i) x):x= .int k i:=by cases h;rfl
theorem aj.fM{b:Bool}{x:Value}(h:aj ρ n C (.bool b) x):x= .bool b:=by cases h;rfl
theorem aj.dO{s:List Nat}{x:Value}(h:aj ρ n C (.str s) x):∃bs:ByteArray,x= .string bs/\bs.data.toList.map UInt8.toNat=s:=by
 cases h with|str _ bs h=>exact⟨bs,rfl,h⟩
theorem aj.nO{x:Value}(h:aj ρ n C .gH x):x= .pointer none:=by cases h;rfl
theorem aj.eP{x:Value}(h:aj ρ n C .ah x):x= .slice none 0 0:=by cases h;rfl
theorem aj.vX{x:Value}(h:aj ρ n C .mR x):x= .map none:=by cases h;rfl
theorem aj.Dr{x:Value}(h:aj ρ n C .iC x):x= .nilFunc:=by cases h;rfl
theorem aj.PM{x:Value}(h:aj ρ n C .sN x):x= .nilIface:=by cases h;rfl
theorem aj.ei{b:Pos}{off:Nat}{x:Value}(h:aj ρ n C (.ptr b off) x):b.toNat<n/\x= .pointer (some ⟨(ρ b).au,(ρ b).base+off,none⟩):=by
 cases h with|ptr _ _ h=>exact⟨h,rfl⟩
theorem aj.tF{b:Pos}{x:Value}(h:aj ρ n C (.map b) x):b.toNat<n/\x= .map (some (ρ b).au):=by
 cases h with|map _ h=>exact⟨h,rfl⟩
theorem aj.Nr{t:TypeId}{v:AV}{x:Value}(h:aj ρ n C (.iface t v) x):∃y,x= .iface t y/\aj ρ n C v y:=by
 cases h with|iface _ _ y h=>exact⟨y,rfl,h⟩
theorem aj.cN{b:Pos}{off len es:Nat}{cap:Option Nat}{x:Value}(h:aj ρ n C (.slice b off len cap es) x):
  ∃(a:Addr) (aF:Nat),x= .slice (some a) len aF/\len<=aF/\(∀c,cap=some c->c=aF)/\
   (aF≠0->b.toNat<n/\a=⟨(ρ b).au,(ρ b).base+off,none⟩/\(ρ b).base+off+aF*es<=(ρ b).size):=by
 cases h with|slice _ _ _ _ _ aF a hl hc ha _=>exact⟨a,aF,rfl,hl,hc,ha⟩
theorem aj.Ns{b:Pos}{off len es:Nat}{cap:Option Nat}{x:Value}(h:aj ρ n C (.slice b off len cap es) x):cap=none->b.toNat<n:=by
 cases h with|slice _ _ _ _ _ _ _ _ _ _ hk=>exact hk
theorem aj.pU{xs:List (List AV)}{es:Nat}{x:Value}(h:aj ρ n C (.fl xs es) x):
  ∃(a:Addr) (aF:Nat) (cell:Nat->Nat->Value),x= .slice (some a) xs.length aF/\xs.length<=aF/\(xs≠[]->a.spot=none)/\
   (∀(i:Nat)(cs:List AV),xs[i]? =some cs->cs.length=es)/\
   (∀(i j:Nat)(cs:List AV)(v:AV),xs[i]? =some cs->cs[j]? =some v->C ⟨a.block,a.off+i*es+j,none⟩=some (cell i j))/\
   (∀(i j:Nat)(cs:List AV)(v:AV),xs[i]? =some cs->cs[j]? =some v->aj ρ n C v (cell i j)):=by
 cases h with|fl _ _ aF a cell hl hs cW hc hv=>exact⟨a,aF,cell,rfl,hl,hs,cW,hc,hv⟩
theorem aj.Cf{xs:List (List AV)}{i j:Nat}{x:Value}(h:aj ρ n C (.fp xs i j) x):
  ∃(es au base:Nat) (cell:Nat->Nat->Value),x= .pointer (some ⟨au,base+i*es+j,none⟩)/\
   (∀(i:Nat)(cs:List AV),xs[i]? =some cs->cs.length=es)/\
   (∀(i j:Nat)(cs:List AV)(v:AV),xs[i]? =some cs->cs[j]? =some v->C ⟨au,base+i*es+j,none⟩=some (cell i j))/\
   (∀(i j:Nat)(cs:List AV)(v:AV),xs[i]? =some cs->cs[j]? =some v->aj ρ n C v (cell i j)):=by
 cases h with|fp _ _ _ es au base cell hl hc hv=>exact⟨es,au,base,cell,rfl,hl,hc,hv⟩
theorem pV(k:IntKind)(i:Int):ay k i=k.wrap i:=by
 unfold ay;split
 . rename_i h1 _;split
   .rename_i h2 _;cases k<;>simp only[Nl,Nm]at h1 h2<;>simp only[IntKind.wrap,IntKind.bits,IntKind.signed]<;>simp<;>omega
   .rfl
 .rfl
theorem jB(a b:Int):sx a b=(a==b):=by
 unfold sx;split
 .rename_i h _;subst h;simp
 .rename_i h _;simp[h]
theorem dz(a b:Int):ue a b=decide (a<b):=by
 unfold ue;split<;>(rename_i h _;simp[h])
theorem gM(a b:Int):O8 a b=decide (a<=b):=by
 unfold O8;split<;>(rename_i h _;simp[h])
theorem jI:∀{a b:List Nat},gP a b=true↔a=b
 |[],[]=>by simp[gP]
 |[],_::_=>by simp[gP]
 |_::_,[]=>by simp[gP]
 |a::x,b::y=>by
  unfold gP;split
  .rename_i h;have:=Za1 h;subst this;simp[jI (a:=x) (b:=y)]
  .rename_i h;have:=Zb6 h;simp[this]
theorem Cg:∀{a b:List UInt8},a.map UInt8.toNat=b.map UInt8.toNat->a=b
 |[],[],_=>rfl
 |[],_::_,h=>by simp at h
 |_::_,[],h=>by simp at h
 |a::x,b::y,h=>by
  simp at h;rw[Zo6.1 h.1,Cg h.2]
theorem toList_data(b:ByteArray):b.toList=b.data.toList:=ByteArray.toList_eq b
theorem oQ:∀(x y:List UInt8),aB (x.map UInt8.toNat) (y.map UInt8.toNat)=Op.bytesLess x y
 |[],[]=>by simp[aB,Op.bytesLess]
 |_::_,[]=>by simp[aB,Op.bytesLess]
 |[],_::_=>by simp[aB,Op.bytesLess]
 |a ::x,b::y=>by
  simp only[Zd4,aB,Op.bytesLess];split
  .rename_i h;have:a<b:=(by rw[Zm1];simpa using h);simp[this]
  . (rename_i h;have h1:¬a<b:=by rw[Zm1];intro h';have h2:Nat.blt a.toNat b.toNat=true:=(by simpa using h');rw[h2]at h;cases h);split
    .   rename_i h2;have:a=b:=Zo6.1 (Za1 h2);subst this;simp only[h1,decide_false,Bool.false_or,beq_self_eq_true,Zg6];exact oQ x y
    .   (rename_i h2;have:a≠b:=λe=>Zb6 h2 (by rw[e]));simp[h1,this]
theorem Ci{a b:List Nat}{x y:ByteArray}(hx:x.data.toList.map UInt8.toNat=a)(hy:y.data.toList.map UInt8.toNat=b):(x.toList==y.toList)=gP a b:=by
 rw[toList_data,toList_data,Zj0,jI,beq_iff_eq, <-hx, <-hy];exact⟨λh=>by rw[h],λh=>Cg h⟩
theorem Jk{a b:List Nat}{x y:ByteArray}(hx:x.data.toList.map UInt8.toNat=a)(hy:y.data.toList.map UInt8.toNat=b):Op.bytesLess x.toList y.toList=aB a b:=by
 rw[toList_data,toList_data, <-hx, <-hy,oQ]
theorem sP{a:List Nat}{x:ByteArray}(hx:x.data.toList.map UInt8.toNat=a):x.size=a.length:=by rw[<-hx,Zb3,Zf0];rfl
def PK.fits:PK->TypeDesc->Bool
 |.b,.bool=>true
 |.i,.int _=>true
 |.s,.string=>true
 |_,_=>false
theorem PN{t:TypeId}{d:TypeDesc}(hd:P.underlying t=some d){pk:PK}(hk:pk.fits d=true){a b:AV}{x y:Value}{r:Bool}{m:Nat}
   (ha:aj ρ n C a x) (hb:aj ρ n C b y) (h:vQ pk a b=some r) (w:World):(Op.equalIn (m+1) t x y).run P w= .ok r w:=by
 unfold vQ at h;split at h
 .simp only[H0]at h;subst h;rw[ha.fM,hb.fM];cases d<;>simp[PK.fits]at hk;rw[run_equalIn_bool' w m t _ _ hd]
 . split at h
   .rename_i jO;have:=tE jO;subst this;simp only[H0]at h;subst h;rw[ha.gD,hb.gD];cases d<;>simp[PK.fits]at hk;rw[run_equalIn_int w m t _ _ _ _ hd,jB]
   .cases h
 .simp only[H0]at h;subst h;obtain⟨bx,rfl,h1⟩:=ha.dO;obtain⟨bz,rfl,h2⟩:=hb.dO;cases d<;>simp[PK.fits]at hk;rw[run_equalIn_string w m t _ _ hd,Ci h1 h2]
 .cases h
theorem FH:∀{fs:List (Nat×Nat×Bool)}{l:List (Nat×PK)}{gs:List Field}{xs ys:List AV}{cx cy:Array Value}{r:Bool}{m:Nat}(_hT:bH P tt)
  (_hm:bu.dc fs gs=true) (_hf:ug.fields tt fs=some l) (_hx:aq ρ n C xs cx.toList) (_hy:aq ρ n C ys cy.toList) (_h:eqFields xs ys l=some r) (w:World),
  (Op.eqFields (m+1) cx cy gs).run P w= .ok r w
 |[],l,gs,xs,ys,cx,cy,r,m,hT,hm,hf,hx,hy,h,w=>by
  cases gs with
  |cons f gs=>simp[bu.dc]at hm
  | nil=>
    simp[ug.fields]at hf;subst hf;simp[eqFields]at h;subst h;simp[Op.eqFields]
 |(off  , t,named)::fs,l,gs,xs,ys,cx,cy,r,m,hT,hm,hf,hx,hy,h,w=>by
  cases gs with
  |nil=>simp[bu.dc]at hm
  | cons f gs=>
    simp[bu.dc]at hm;obtain⟨⟨⟨ho,ht⟩,hn⟩,VU⟩:=hm;unfold ug.fields at hf;(split at hf<;>first|(cases hf;done)|skip);rename_i ti l' b9 hl';obtain⟨d,hd,bO⟩:=(hT.at b9).und;have key:∃pk,l=(off,pk)::l'/\pk.fits d=true/\(isAgg t).run P w= .ok false w:=by
        have mO:=Jj bO w hd;split at hf<;>first|(cases hf;done)|skip
        all_goals
          rename_i hk;simp only[H0]at hf;rw[hk]at bO mO;refine⟨_,hf.symm,?_,mO⟩
        .rw[L4 bO];rfl
        .rw[Cd bO];rfl
        .rw[kq bO];rfl
    obtain⟨pk,rfl,Bz,mO⟩:=key;have cj:f.name≠ "_" :=(by intro e;rw[e]at hn;simp at hn);unfold eqFields at h;(split at h<;>first|(cases h;done)|skip);rename_i a b ha hb;rw[j4]at ha hb;obtain⟨x,SN,SP⟩:=hx.get ha;obtain⟨y,yd,zo⟩:=hy.get hb;have px:(part f.type cx f.offset).run P w= .ok x w:=by
        rw[<-ht, <-ho];simp at SN;simp[part,mO,SN]
    have py:(part f.type cy f.offset).run P w= .ok y w:=by
        rw[<-ht, <-ho];simp at yd;simp[part,mO,yd]
    simp only[Op.eqFields,Sem.run_bind,Sem.run_ite,cj,px,py,Result.andThen_ok,ne_eq,not_false_eq_true,Zg8];split at h
    .   rename_i he;rw[<-ht,PN hd Bz SP zo he w];simpa using FH (m:=m) hT VU hl' hx hy h w
    .   rename_i he;simp only[H0]at h;subst h;rw[<-ht,PN hd Bz SP zo he w];simp
    .   cases h
def aaH(tt:TT)(op:BinOp)(q:eO)(t:TypeId):Prop:=ug tt t=some q\/(q= .num/\op≠ .eql/\op≠ .neq)
def acE(P:Program)(tt:TT)(t:TypeId):eO->Prop
 |.num=>True
 |.bool=>P.underlying t=some .bool
 |.ptr=>∃e,P.underlying t=some (.pointer e)/\∃j,P.info? e=some j
 |.slice=>∃e,P.underlying t=some (.slice e)
 |.map=>∃k e,P.underlying t=some (.map k e)
 |.func=>∃a b c,P.underlying t=some (.func a b c)
 |.iface=>∃a,P.underlying t=some (.interface a)
 |.struct l=>∃fs gs,P.underlying t=some (.struct gs)/\bu.dc fs gs.toList=true/\ug.fields tt fs=some l/\P.stoodInHeld t=false/\P.eqGuardType P.depth t=false
theorem SQ(hT:bH P tt){t:TypeId}{q:eO}(hq:ug tt t=some q):acE P tt t q:=by
 unfold ug at hq;split at hq<;>first|(cases hq;done)|skip
 rename_i ti b9;obtain⟨d,hd,bO⟩:=(hT.at b9).und;split at hq<;>first|(cases hq;done)|skip
 all_goals rename_i hk
 all_goals rw[hk]at bO
 .simp only[H0]at hq;subst hq;rw[L4 bO]at hd;exact hd
 .simp only[H0]at hq;subst hq;trivial
 .simp only[H0]at hq;subst hq;trivial
 .simp only[H0]at hq;subst hq;rw[Kk bO]at hd;exact⟨_,hd,(hT.at b9).elem _ hk⟩
 .simp only[H0]at hq;subst hq;rw[kJ bO]at hd;exact⟨_,hd⟩
 .simp only[H0]at hq;subst hq;rw[FG bO]at hd;exact⟨_,_,hd⟩
 .simp only[H0]at hq;subst hq;obtain⟨_,_,_,rfl⟩:=aa1 bO;exact⟨_,_,_,hd⟩
 .simp only[H0]at hq;subst hq;obtain⟨_,rfl⟩:=YK bO;exact⟨_,hd⟩
 . (split at hq<;>first|(cases hq;done)|skip);rename_i fs _ _ l hp hl;simp only[H0]at hq;subst hq;obtain⟨gs,rfl,hm⟩:=AS bO;exact⟨fs,gs,hd,hm,hl,(hT.at b9).eqs hp⟩
theorem Um(m:Nat)(hT:bH P tt){t:TypeId}{q:eO}(hq:ug tt t=some q){a b:AV}{x y:Value}{r:Bool}(ha:aj ρ n C a x)(hb:aj ρ n C b y)(h:Jd q a b=some r)(w:World):
   (Op.equalIn (m+1+1) t x y).run P w= .ok r w:=by
 have hi:=SQ hT hq;clear hq;unfold Jd at h;split at h<;>first|(cases h;done)|skip
 .simp only[H0]at h;subst h;rw[ha.fM,hb.fM,run_equalIn_bool' w _ t _ _ hi]
 all_goals first
   |(simp only[H0]at h;subst h)
   |skip
 .obtain⟨e,hd,_⟩:=hi;rw[ha.nO,hb.nO];(unfold Op.equalIn;rw[Sem.run_bind,aJ hd];rfl)
 .obtain⟨e,hd,_⟩:=hi;obtain⟨_,hb⟩:=hb.ei;rw[ha.nO,hb];(unfold Op.equalIn;rw[Sem.run_bind,aJ hd];rfl)
 .obtain⟨e,hd,_⟩:=hi;obtain⟨_,ha⟩:=ha.ei;rw[hb.nO,ha];(unfold Op.equalIn;rw[Sem.run_bind,aJ hd];rfl)
 .obtain⟨e,hd,_⟩:=hi;obtain⟨_,_,_,_,hb,_⟩:=hb.Cf;rw[ha.nO,hb];(unfold Op.equalIn;rw[Sem.run_bind,aJ hd];rfl)
 .obtain⟨e,hd,_⟩:=hi;obtain⟨_,_,_,_,ha,_⟩:=ha.Cf;rw[hb.nO,ha];(unfold Op.equalIn;rw[Sem.run_bind,aJ hd];rfl)
 .obtain⟨e,hd,j,hj⟩:=hi;(split at h<;>first|(cases h;done)|skip);rename_i e1 e2;have e1:=Pos.beq_eq.1 e1;have e2:=Za1 e2;subst e1;subst e2;simp only[H0]at h;subst h;obtain⟨_,ha⟩:=ha.ei;obtain⟨_,hb⟩:=hb.ei;rw[ha,hb];simp[Op.equalIn,aJ hd,sizeOf,typeInfo,hj,run_sameAddr_same]
 .obtain⟨e,hd⟩:=hi;rw[ha.eP,hb.eP];(unfold Op.equalIn;rw[Sem.run_bind,aJ hd];rfl)
 .obtain⟨e,hd⟩:=hi;obtain⟨_,_,hb,_⟩:=hb.cN;rw[ha.eP,hb];(unfold Op.equalIn;rw[Sem.run_bind,aJ hd];rfl)
 .obtain⟨e,hd⟩:=hi;obtain⟨_,_,ha,_⟩:=ha.cN;rw[hb.eP,ha];(unfold Op.equalIn;rw[Sem.run_bind,aJ hd];rfl)
 .obtain⟨e,hd⟩:=hi;obtain⟨_,_,_,hb,_⟩:=hb.pU;rw[ha.eP,hb];(unfold Op.equalIn;rw[Sem.run_bind,aJ hd];rfl)
 .obtain⟨e,hd⟩:=hi;obtain⟨_,_,_,ha,_⟩:=ha.pU;rw[hb.eP,ha];(unfold Op.equalIn;rw[Sem.run_bind,aJ hd];rfl)
 .obtain⟨k,e,hd⟩:=hi;rw[ha.vX,hb.vX];(unfold Op.equalIn;rw[Sem.run_bind,aJ hd];rfl)
 .obtain⟨k,e,hd⟩:=hi;obtain⟨_,hb⟩:=hb.tF;rw[ha.vX,hb];(unfold Op.equalIn;rw[Sem.run_bind,aJ hd];rfl)
 .obtain⟨k,e,hd⟩:=hi;obtain⟨_,ha⟩:=ha.tF;rw[hb.vX,ha];(unfold Op.equalIn;rw[Sem.run_bind,aJ hd];rfl)
 .obtain⟨_,_,_,hd⟩:=hi;rw[ha.Dr,hb.Dr];(unfold Op.equalIn;rw[Sem.run_bind,aJ hd];rfl)
 .obtain⟨_,_,_,hd⟩:=hi;obtain⟨_,_,hb,_⟩:=hb.vS;rw[ha.Dr,hb];(unfold Op.equalIn;rw[Sem.run_bind,aJ hd];rfl)
 .obtain⟨_,_,_,hd⟩:=hi;obtain⟨_,_,ha,_⟩:=ha.vS;rw[hb.Dr,ha];(unfold Op.equalIn;rw[Sem.run_bind,aJ hd];rfl)
 .obtain⟨_,hd⟩:=hi;obtain⟨_,hb,_⟩:=hb.Nr;rw[ha.PM,hb];(unfold Op.equalIn;rw[Sem.run_bind,aJ hd];rfl)
 .obtain⟨_,hd⟩:=hi;obtain⟨_,ha,_⟩:=ha.Nr;rw[hb.PM,ha];(unfold Op.equalIn;rw[Sem.run_bind,aJ hd];rfl)
 .obtain⟨fs,gs,hd,hm,hl,hp,_⟩:=hi;obtain⟨cx,rfl,hx⟩:=ha.y2;obtain⟨cy,rfl,hy⟩:=hb.y2;have hfo:P.fieldsOf t=gs:=(by simp[Program.fieldsOf,hd]);rw[run_equalIn_agg w (m+1) t cx cy (by rw[hfo,hd]) hp,hfo];exact FH (m:=m) hT hm hl hx hy h w
theorem PO(hT:bH P tt){t:TypeId}{q:eO}(hq:ug tt t=some q){a b:AV}{x y:Value}{r:Bool}(ha:aj ρ n C a x)(hb:aj ρ n C b y)(h:Jd q a b=some r)(w:World):
 (Op.equal t x y).run P w= .ok r w:=Um 9998 hT hq ha hb h w
theorem Km(hT:bH P tt){t:TypeId}{q:eO}(hq:ug tt t=some q){a b:AV}{x y:Value}{r:Bool}(ha:aj ρ n C a x)(hb:aj ρ n C b y)(h:Jd q a b=some r)(op:BinOp)(ox oy:Operand)(w:World):
  (eqGuard op t ox oy x y).run P w= .ok () w:=by
 have hi:=SQ hT hq;clear hq;unfold Jd at h;split at h<;>first|(cases h;done)|skip
 all_goals first
  |(obtain⟨fs,gs,hd,hm,hl,hp,hg⟩:=hi
    obtain⟨cx,rfl,hx⟩:=ha.y2;obtain⟨cy,rfl,hy⟩:=hb.y2;exact run_eqGuard_agg w op t ox oy cx cy hg)
  |(cases ha<;>cases hb<;>cases op<;>rfl)
end
section
variable{P:Program}{tt:TT}{ρ:Pos->Loc}{C:Cells}{st:St}{w:World}{n:Nat}
theorem OJ(op:BinOp)(t:TypeId)(k:IntKind)(i j:Int)(hs:op≠ .shl)(hr:op≠ .shr):(binOp op t (.int k i) (.int k j)).run P w=
  (match op with
   |.add|.sub|.mul=>Op.intArith op k i j
   |.quo|.rem=>Op.intDiv op k i j
   |.and|.or|.xor|.andNot=>Op.intBits op k i j
   |_=>Op.intCmp op i j).run P w:=by
 cases op<;>first|(exact absurd rfl hs)|(exact absurd rfl hr)|simp[binOp]
theorem YM(hT:bH P tt){op:BinOp}{t:TypeId}{q:eO}(hq:aaH tt op q t){a b v:AV}{x y:Value}(ha:aj ρ n C a x)(hb:aj ρ n C b y)(h:k9 op q a b=some v)(ox oy:Operand):
  ∃z,(do eqGuard op t ox oy x y;binOp op t x y:Sem Value).run P w= .ok z w/\aj ρ n C v z:=by
 unfold k9 at h;split at h
 ·
  rename_i k i k' j;rw[ha.gD,hb.gD];have hg:∀op,(eqGuard op t ox oy (.int k i) (.int k' j)).run P w= .ok () w:=by intro op;cases op<;>rfl
  rw[Sem.run_bind,hg,Result.andThen_ok];split at h
  . split at h
    .   cases h
    .   rename_i aV;rw[dz]at aV;have aV:=Zl3 aV;simp only[H0]at h;subst h;exact⟨_,by simp[binOp,Op.shift,aV,pV],.int _ _⟩
  . split at h
    .   cases h
    .   rename_i aV;rw[dz]at aV;have aV:=Zl3 aV;simp only[H0]at h;subst h;exact⟨_,by simp[binOp,Op.shift,aV],.int _ _⟩
  . rename_i hs hr;split at h
    .   cases h
    .   rename_i hk;have:=tE hk;subst this;rw[OJ op t k i j (λe=>hs e) (λe=>hr e)];split at h
        .simp only[H0]at h;subst h;exact⟨_,by simp[Op.intArith,pV],.int _ _⟩
        .simp only[H0]at h;subst h;exact⟨_,by simp[Op.intArith,pV],.int _ _⟩
        .simp only[H0]at h;subst h;exact⟨_,by simp[Op.intArith,pV],.int _ _⟩
        . split at h
          .cases h
          . (rename_i h0;rw[jB]at h0;have h0':¬j=0:=by simpa using h0);simp only[H0]at h;subst h;exact⟨_,by simp[Op.intDiv,h0',pV],.int _ _⟩
        . split at h
          .cases h
          . (rename_i h0;rw[jB]at h0;have h0':¬j=0:=by simpa using h0);simp only[H0]at h;subst h;exact⟨_,by simp[Op.intDiv,h0'],.int _ _⟩
        .simp only[H0]at h;subst h;exact⟨_,by simp[Op.intBits],.int _ _⟩
        .simp only[H0]at h;subst h;exact⟨_,by simp[Op.intBits],.int _ _⟩
        .simp only[H0]at h;subst h;exact⟨_,by simp[Op.intBits],.int _ _⟩
        .simp only[H0]at h;subst h;exact⟨_,by simp[Op.intBits],.int _ _⟩
        .simp only[H0]at h;subst h;exact⟨_,by simp[Op.intCmp,jB],.bool _⟩
        .simp only[H0]at h;subst h;refine⟨_,rfl,?_⟩;rw[jB];exact .bool _
        .simp only[H0]at h;subst h;refine⟨_,rfl,?_⟩;rw[dz];exact .bool _
        .simp only[H0]at h;subst h;refine⟨_,rfl,?_⟩;rw[gM];exact .bool _
        .simp only[H0]at h;subst h;refine⟨_,rfl,?_⟩;rw[dz];exact .bool _
        .simp only[H0]at h;subst h;refine⟨_,rfl,?_⟩;rw[gM];exact .bool _
        .cases h
 ·
  rename_i s u;obtain⟨bx,rfl,h1⟩:=ha.dO;obtain⟨bz,rfl,h2⟩:=hb.dO;have hg:∀op,(eqGuard op t ox oy (.string bx) (.string bz)).run P w= .ok () w:=by intro op;cases op<;>rfl
  rw[Sem.run_bind,hg,Result.andThen_ok];have hs:(binOp op t (.string bx) (.string bz)).run P w=(Op.stringOp op bx bz).run P w:=by cases op<;>rfl
  rw[hs];have e1:=Ci h1 h2;have e2:=Jk h1 h2;split at h
  . split at h
    .   rename_i hb;have hb:=Za3 hb;simp only[H0]at h;subst h;have j6:¬(((bx.size+bz.size:Nat):Int)>IntKind.i64.max):=(by rw[sP h1,sP h2];simp[IntKind.max,IntKind.signed,IntKind.bits];omega);refine⟨.string (bx++bz),?_,.str _ _ ?_⟩
        .simp only[Op.stringOp];rw[Za5 j6];rfl
        .rw[ByteArray.data_append,Array.toList_append,Zd9,h1,h2]
    .   cases h
  all_goals first|(cases h;done)|skip
  all_goals
    simp only[H0]at h;subst h;refine⟨_,rfl,?_⟩
    first|rw[e1,e2]|rw[e1]|rw[e2]
    exact .bool _
 ·
  rename_i hni hns;have AU:∀op,(op= .eql\/op= .neq)->(binOp op t x y).run P w=((Op.equal t x y).run P w).andThen λr w'=>.ok (.bool (if op= .eql then r else !r)) w':=by
    rintro op (rfl|rfl)
    all_goals
        cases ha<;>cases hb<;>first
          |(exact(hni _ _ _ _ rfl rfl).elim)
          |(exact(hns _ _ rfl rfl).elim)
          |simp[binOp]
  split at h
  . split at h
    .   rename_i r hr;simp only[H0]at h;subst h;rcases hq with hq|⟨_,hq,_⟩
        .refine⟨.bool r,?_,.bool r⟩;rw[Sem.run_bind,Km hT hq ha hb hr,Result.andThen_ok,AU _ (.inl rfl),PO hT hq ha hb hr];rfl
        .exact absurd rfl hq
    .   cases h
  . split at h
    .   rename_i r hr;simp only[H0]at h;subst h;rcases hq with hq|⟨_,_,hq⟩
        .refine⟨.bool (!r),?_,.bool _⟩;rw[Sem.run_bind,Km hT hq ha hb hr,Result.andThen_ok,AU _ (.inr rfl),PO hT hq ha hb hr];rfl
        .exact absurd rfl hq
    .   cases h
  .cases h
end
def cr(P:Program)(tt:TT)(op:Op):Prop:=
 ∀  (ρ:Pos->Loc)(C:Cells)(st:St)(w:World)(k:av)(xs:List dL)(cls:SL)(fr:Fr)(a:Act)(o:Oper)(vs:List AV)(res:bU),
    o.op=op->fo tt op=some (k,xs,cls)->aU ρ C st w->eJ ρ st.next.toNat C fr a.tmps->dM fr xs=some vs->
    k.run (λb=>st.heap.get b) st.next vs=some res->qz P ρ C st w ((execOp a.eval o).run P w) res
section
variable{P:Program}{tt:TT}
theorem L5{ρ:Pos->Loc}{n:Nat}{C:Cells}{x y:Operand}{os:List dL}{fr:Fr}{a:Act}{vs:List AV}(h:ij [x,y]=some os)(hF:eJ ρ n C fr a.tmps)(hv:dM fr os=some vs):
  ∃u v,vs=[u,v]/\aj ρ n C u (a.eval x)/\aj ρ n C v (a.eval y):=by
 have h1:=dB h hF hv;cases vs with
 |nil=>have:=h1.1;simp at this
 |cons u vs=>
  cases vs with
  |nil=>have:=h1.1;simp at this
  |cons v vs=>
   cases vs with
   |nil=>exact⟨u,v,rfl,h1.2 0 u _ rfl rfl,h1.2 1 v _ rfl rfl⟩
   |cons z vs=>have:=h1.1;simp at this
theorem evs3{ρ:Pos->Loc}{n:Nat}{C:Cells}{x y z:Operand}{os:List dL}{fr:Fr}{a:Act}{vs:List AV}(h:ij [x,y,z]=some os)(hF:eJ ρ n C fr a.tmps)(hv:dM fr os=some vs):
  ∃u v q,vs=[u,v,q]/\aj ρ n C u (a.eval x)/\aj ρ n C v (a.eval y)/\aj ρ n C q (a.eval z):=by
 have h1:=dB h hF hv
 match vs,h1 with
 |[u,v,q],h1=>exact⟨u,v,q,rfl,h1.2 0 u _ rfl rfl,h1.2 1 v _ rfl rfl,h1.2 2 q _ rfl rfl⟩
 |[],h1=>have:=h1.1;simp at this
 |[_],h1=>have:=h1.1;simp at this
 |[_,_],h1=>have:=h1.1;simp at this
 |_::_::_::_::_,h1=>have:=h1.1;simp at this
theorem YN(x:Operand):cr P tt (.move x):=by
 intro ρ C st w k xs cls fr a o vs res ho hc hW hF hx hr;simp only[fo]at hc;split at hc<;>first|(cases hc;done)|skip
 rename_i b hb;cases hc;obtain⟨v,rfl,hv⟩:=ek hb hF hx;simp only[av.run,HI,H0]at hr;subst hr;exact .pure (by simp[execOp,ho]) hv
theorem Uo(x:Operand):cr P tt (.assign x):=by
 intro ρ C st w k xs cls fr a o vs res ho hc hW hF hx hr;simp only[fo]at hc;split at hc<;>first|(cases hc;done)|skip
 rename_i b hb;cases hc;obtain⟨v,rfl,hv⟩:=ek hb hF hx;simp only[av.run,HI,H0]at hr;subst hr;exact .pure (by simp[execOp,ho]) hv
theorem YO(c x y:Operand):cr P tt (.pick c x y):=by
 intro ρ C st w k xs cls fr a o vs res ho hc hW hF hx hr;simp only[fo]at hc;split at hc<;>first|(cases hc;done)|skip
 rename_i l hl;cases hc;obtain⟨u,v,q,rfl,h1,h2,h3⟩:=evs3 hl hF hx;simp only[av.run,LX]at hr;split at hr<;>first|(cases hr;done)|skip
 all_goals
   simp only[H0]at hr;subst hr;have h1:=h1.fM
 .exact .pure (by simp[execOp,ho,h1,asBool]) h2
 .exact .pure (by simp[execOp,ho,h1,asBool]) h3
theorem VV(hT:bH P tt)(op:BinOp)(t:TypeId)(x y:Operand)(yt:TypeId):cr P tt (.binOp op t x y yt):=by
 intro ρ C st w k xs cls fr a o vs res ho hc hW hF hx hr;have key:∃q,aaH tt op q t/\k= .bin op q/\ij [x,y]=some xs:=by
  simp only[fo]at hc;split at hc
  .rename_i q l hq hl;cases hc;exact⟨q,.inl hq,rfl,hl⟩
  .rename_i l hq hl;(split at hc<;>first|(cases hc;done)|skip);rename_i h1 h2;cases hc;exact⟨.num,.inr ⟨rfl,λe=>h1 e,λe=>h2 e⟩,rfl,hl⟩
  .cases hc
 obtain⟨q,hq,rfl,hl⟩:=key;obtain⟨u,v,rfl,h1,h2⟩:=L5 hl hF hx;simp only[av.run,fX]at hr;split at hr<;>first|(cases hr;done)|skip
 rename_i r hb;simp only[H0]at hr;subst hr;obtain⟨z,hz,hv⟩:=YM hT hq h1 h2 hb x y (w:=w);refine .pure ?_ hv;simp only[execOp,ho];rw[Sem.run_bind,hz];rfl
theorem YP(op:UnOp)(t:TypeId)(x:Operand):cr P tt (.unOp op t x):=by
 intro ρ C st w k xs cls fr a o vs res ho hc hW hF hx hr;simp only[fo]at hc;split at hc<;>first|(cases hc;done)|skip
 rename_i b hb;cases hc;obtain⟨v,rfl,hv⟩:=ek hb hF hx;simp only[av.run,Uh]at hr;split at hr<;>first|(cases hr;done)|skip
 rename_i r hu;simp only[H0]at hr;subst hr;unfold unA at hu;split at hu
 . (split at hu<;>first|(cases hu;done)|skip);simp only[H0]at hu;subst hu;exact .pure (by simp[execOp,ho,hv.fM,Op.unary]) (.bool _)
 . (split at hu<;>first|(cases hu;done)|skip);simp only[H0]at hu;subst hu;exact .pure (by simp[execOp,ho,hv.gD,Op.unary,Op.intArith];rfl) (by rw[pV];simpa using aj.int _ _)
 .cases hu
theorem PR(x:Operand):cr P tt (.nilCheck x):=by
 intro ρ C st w k xs cls fr a o vs res ho hc hW hF hx hr;simp only[fo]at hc;split at hc<;>first|(cases hc;done)|skip
 rename_i b hb;cases hc;obtain⟨v,rfl,hv⟩:=ek hb hF hx;simp only[av.run,Bx]at hr;split at hr<;>first|(cases hr;done)|skip
 all_goals simp only[H0]at hr;subst hr
 .obtain⟨_,he⟩:=hv.ei;exact .pure (by simp[execOp,ho,he]) hv
 .obtain⟨_,_,_,_,he,_⟩:=hv.Cf;exact .pure (by simp[execOp,ho,he]) hv
 .obtain⟨_,_,he,_⟩:=hv.vS;exact .pure (by simp[execOp,ho,he]) hv
theorem Sg(x:Operand)(i:Nat):cr P tt (.extract x i):=by
 intro ρ C st w k xs cls fr a o vs res ho hc hW hF hx hr;simp only[fo]at hc;split at hc<;>first|(cases hc;done)|skip
 rename_i b hb;cases hc;obtain⟨v,rfl,hv⟩:=ek hb hF hx;simp only[av.run,yJ]at hr;split at hr<;>first|(cases hr;done)|skip
 split at hr<;>first|(cases hr;done)|skip
 rename_i u hu;simp only[H0]at hr;subst hr;obtain⟨cs,he,hs⟩:=hv.Nn;rw[j4]at hu;obtain⟨y,hy,zp⟩:=hs.get hu;exact .pure (by simp at hy;simp[execOp,ho,he,Instr.extract,hy]) zp
theorem Si(hT:bH P tt)(t:TypeId)(x:Operand):cr P tt (.makeInterface t x):=by
 intro ρ C st w k xs cls fr a o vs res ho hc hW hF hx hr;simp only[fo]at hc;split at hc<;>first|(cases hc;done)|skip
 rename_i ti b b9 hb;split at hc<;>first|(cases hc;done)|skip
 rename_i h1 h2;cases hc;obtain⟨v,rfl,hv⟩:=ek hb hF hx;simp only[av.run,De,H0]at hr;subst hr;obtain⟨d,hd,hk⟩:=(hT.at b9).und;refine .pure (x:= .iface t (a.eval x)) ?_ (.iface _ _ _ hv);have hni:∀ms,d≠ .interface ms:=by
  rintro ms rfl;cases ye:ti.k<;>rw[ye]at hk<;>first|(simp[bu]at hk;done)|(exact h1 ye)|(exact h2 ye)
 simp only[execOp,ho,Instr.makeInterface,Sem.run_bind,aJ hd,Result.andThen_ok];cases d<;>first|rfl|(exact absurd rfl (hni _))
theorem Up(fn:Fn)(first captured:Array Operand):cr P tt (.makeFunc fn first captured):=by
 intro ρ C st w k xs cls fr a o vs res ho hc hW hF hx hr;simp only[fo]at hc;split at hc<;>first|(cases hc;done)|skip
 rename_i f l hl;cases hc;have h:=dB hl hF hx;simp only[av.run,AN,H0]at hr;subst hr;have e1:vs.take first.size=vs.take first.size:=rfl
 have h1:=h.take first.size
 have h2:=h.drop first.size
 simp only[Zd9]at h1 h2;rw[Zj7 (by simp)]at h1;rw[List.drop_left' (by simp)]at h2;refine .pure (x:= .func (.func f) (first.map a.eval) (captured.map a.eval)) (by simp[execOp,ho,Instr.makeFunc]) ?_;exact .func _ _ _ _ _ (by simpa using h1.1) (by simpa using h2.1) (λi v v' hv vw=>h1.2 i v v' hv (by simpa using vw)) (λi v v' hv vw=>h2.2 i v v' hv (by simpa using vw))
theorem OK(hT:bH P tt)(t:TypeId)(x:Operand)(f:Nat):cr P tt (.fieldAddr t x f):=by
 intro ρ C st w k xs cls fr a o vs res ho hc hW hF hx hr;simp only[fo]at hc;split at hc<;>first|(cases hc;done)|skip
 rename_i ti b b9 hb;split at hc<;>first|(cases hc;done)|skip
 rename_i fs hk;split at hc<;>first|(cases hc;done)|skip
 rename_i off ft nm hf;split at hc<;>first|(cases hc;done)|skip
 rename_i fi hfi;split at hc<;>first|(cases hc;done)|skip
 rename_i eu;cases hc;obtain⟨v,rfl,hv⟩:=ek hb hF hx;obtain⟨d,hd,bO⟩:=(hT.at b9).und;rw[hk]at bO;obtain⟨gs,rfl,hm⟩:=AS bO;obtain⟨g,hg,lQ,vz,_⟩:=Dp hm hf;simp only at lQ vz;obtain⟨i,hi,jF,_⟩:=(hT.at hfi).info;have hs0:¬i.size=0:=by rw[jF];exact Zb6 eu
 simp only[av.run,FD]at hr;split at hr<;>first|(cases hr;done)|skip
 .simp only[H0]at hr;subst hr;obtain⟨aV,he⟩:=hv.ei;refine .pure (x:= .pointer (some ⟨(ρ _).au,(ρ _).base+(_+off),none⟩)) ?_ (.ptr _ _ aV);simp at hg;simp[execOp,ho,he,Instr.fieldAt,aJ hd,hg,Instr.sureAddr,fieldPlace,vz,gu hi,hs0,j5,lQ,Zh3]
 .simp only[H0]at hr;subst hr;obtain⟨es,au,base,cell,he,h1,h2,h3⟩:=hv.Cf;rename_i rE i' j';refine .pure (x:= .pointer (some ⟨au,base+i'*es+(j'+off),none⟩)) ?_ (.fp _ _ _ es au base cell h1 h2 h3);simp at hg;simp[execOp,ho,he,Instr.fieldAt,aJ hd,hg,Instr.sureAddr,fieldPlace,vz,gu hi,hs0,j5,lQ,Zh3]
theorem iG{ρ:Pos->Loc}{n:Nat}{C:Cells}{v:AV}{x:Value}{i:Nat}(h:aj ρ n C v x)(hi:q8 v=some i):∃k,x= .int k (i:Int):=by
 unfold q8 at hi;split at hi<;>first|(cases hi;done)|skip
 split at hi<;>first|(cases hi;done)|skip
 simp only[H0]at hi;subst hi;exact⟨_,h.gD⟩
theorem OM(hT:bH P tt)(t:TypeId)(x ix:Operand):cr P tt (.indexAddr t x ix):=by
 intro ρ C st w k xs cls fr a o vs res ho hc hW hF hx hr;simp only[fo]at hc;split at hc<;>first|(cases hc;done)|skip
 rename_i ti l b9 hl;obtain⟨d,hd,bO⟩:=(hT.at b9).und;obtain⟨u,v,rfl,h1,h2⟩:=L5 hl hF (by
   split at hc<;>first|(cases hc;done)|skip
   all_goals
     (split at hc<;>first|(cases hc;done)|skip);cases hc;exact hx)
 split at hc<;>first|(cases hc;done)|skip
 . rename_i e hk;rw[hk]at bO;rw[kJ bO]at hd;(split at hc<;>first|(cases hc;done)|skip);rename_i te eH;cases hc;obtain⟨i0,ku,jF,_⟩:=(hT.at eH).info;simp only[av.run,lA]at hr;(split at hr<;>first|(cases hr;done)|skip);rename_i i hi;obtain⟨kk,AW⟩:=iG h2 hi;split at hr<;>first|(cases hr;done)|skip
   .rename_i b off len cap es' _;(split at hr<;>first|(cases hr;done)|skip);rename_i aV;have aV:i<len:=(by simpa using aV);simp only[H0]at hr;subst hr;obtain⟨aa,aF,he,hle,_,ha⟩:=h1.cN;obtain⟨hb,rfl,_⟩:=ha (by omega);refine .pure (x:= .pointer (some ⟨(ρ b).au,(ρ b).base+(off+i*te.size),none⟩)) ?_ (.ptr _ _ hb);simp[execOp,ho,he,AW,Instr.indexAt,aJ hd,asIntOf,aV,gu ku,j5,jF,Zh3]
   .rename_i rE es' _;(split at hr<;>first|(cases hr;done)|skip);rename_i aV cW;have aV:i<rE.length:=(by simpa using aV);have cW:te.size=es':=Za1 cW;simp only[H0]at hr;subst hr;obtain⟨aa,aF,cell,he,hle,yf,g1,g2,g3⟩:=h1.pU;have yf:=yf (by intro e;rw[e]at aV;simp at aV);obtain⟨ab,ao,asp⟩:=aa;simp only at yf;subst yf;refine .pure (x:= .pointer (some ⟨ab,ao+i*es'+0,none⟩)) ?_ (.fp _ _ _ es' ab ao cell g1 g2 g3);simp[execOp,ho,he,AW,Instr.indexAt,aJ hd,asIntOf,aV,gu ku,j5,jF,cW]
   .rename_i hh;cases hh
 . rename_i m e hk;rw[hk]at bO;rw[PJ bO]at hd;(split at hc<;>first|(cases hc;done)|skip);rename_i te eH;cases hc;obtain⟨i0,ku,jF,_⟩:=(hT.at eH).info;simp only[av.run,lA]at hr;(split at hr<;>first|(cases hr;done)|skip);rename_i i hi;obtain⟨kk,AW⟩:=iG h2 hi;split at hr<;>first|(cases hr;done)|skip
   .rename_i hh;cases hh
   .rename_i hh;cases hh
   .rename_i m' b off hh;cases hh;(split at hr<;>first|(cases hr;done)|skip);rename_i aV;have aV:i<m:=(by simpa using aV);simp only[H0]at hr;subst hr;obtain⟨hb,he⟩:=h1.ei;refine .pure (x:= .pointer (some ⟨(ρ b).au,(ρ b).base+(off+i*te.size),none⟩)) ?_ (.ptr _ _ hb);simp[execOp,ho,he,AW,Instr.indexAt,aJ hd,asIntOf,aV,gu ku,j5,jF,Zh3,Instr.sureAddr]
end
section
variable{P:Program}{tt:TT}
theorem VW(hT:bH P tt)(t:TypeId)(x:Operand)(f:Nat):cr P tt (.field t x f):=by
 intro ρ C st w k xs cls fr a o vs res ho hc hW hF hx hr;simp only[fo]at hc;split at hc<;>first|(cases hc;done)|skip
 rename_i ti b b9 hb;split at hc<;>first|(cases hc;done)|skip
 rename_i fs hk;split at hc<;>first|(cases hc;done)|skip
 rename_i off ft nm hf;split at hc<;>first|(cases hc;done)|skip
 rename_i fi hfi;cases hc;obtain⟨v,rfl,hv⟩:=ek hb hF hx;obtain⟨d,hd,bO⟩:=(hT.at b9).und;rw[hk]at bO;obtain⟨gs,rfl,hm⟩:=AS bO;obtain⟨g,hg,lQ,vz,_⟩:=Dp hm hf;simp only at lQ vz;obtain⟨i,hi,jF,_⟩:=(hT.at hfi).info;obtain⟨fd,hfd,hfk⟩:=(hT.at hfi).und;have mO:=Jj hfk w hfd;simp only[av.run,Je]at hr;split at hr<;>first|(cases hr;done)|skip
 rename_i cs;obtain⟨cx,he,hs⟩:=hv.y2;simp at hg;split at hr
 . rename_i hn;(split at hr<;>first|(cases hr;done)|skip);rename_i u hu;simp only[H0]at hr;subst hr;rw[j4]at hu;obtain⟨y,hy,zp⟩:=hs.get hu;have Uq:fi.k.isAgg=false:=by
     unfold uh at hn;split at hn
     .cases hn
     .assumption
   rw[Uq]at mO;refine .pure (x:=y) ?_ zp;simp at hy;simp[execOp,ho,he,Instr.field,aJ hd,hg,part,vz,mO,asAgg,lQ,hy]
 . rename_i m hn;simp only[H0]at hr;subst hr;have Uq:fi.k.isAgg=true/\m=fi.size:=by
     unfold uh at hn;split at hn
     .cases hn;exact⟨by assumption,rfl⟩
     .cases hn
   rw[Uq.1]at mO;refine .pure (x:= .agg (cx.extract off (off+m))) ?_ (.zl ?_)
   .simp[execOp,ho,he,Instr.field,aJ hd,hg,part,vz,mO,asAgg,lQ,gu hi,jF,Uq.2]
   .have:=(hs.drop off).take m;simpa [Zm7,List.extract]using this
theorem VX(hT:bH P tt)(t:TypeId)(x ix:Operand):cr P tt (.index t x ix):=by
 intro ρ C st w k xs cls fr a o vs res ho hc hW hF hx hr;simp only[fo]at hc;split at hc<;>first|(cases hc;done)|skip
 rename_i ti l b9 hl;split at hc<;>first|(cases hc;done)|skip
 rename_i hk;cases hc;obtain⟨u,v,rfl,h1,h2⟩:=L5 hl hF hx;obtain⟨d,hd,bO⟩:=(hT.at b9).und;rw[hk]at bO;rw[kq bO]at hd;simp only[av.run,HJ]at hr;split at hr<;>first|(cases hr;done)|skip
 rename_i s i hi;split at hr<;>first|(cases hr;done)|skip
 rename_i c hcx;simp only[H0]at hr;subst hr;obtain⟨bs,he,hs⟩:=h1.dO;obtain⟨kk,AW⟩:=iG h2 hi;rw[j4, <-hs,Zc0]at hcx;obtain⟨b,hb,hbc⟩:=Zd3.1 hcx;have gQ:bs[i]? =some b:=by
  obtain⟨aV,jq⟩:=Za0.1 hb;have Dq:i<bs.size:=by rw[Zf0]at aV;exact aV
  rw[getElem?_pos bs i Dq];congr 1
 refine .pure (x:= .int .u8 (.ofNat c)) ?_ (.int _ _);simp[execOp,ho,he,AW,Instr.index,aJ hd,asIntOf,gQ, <-hbc]
theorem YQ(hT:bH P tt)(t:TypeId)(x:Operand):cr P tt (.load t x):=by
 intro ρ C st w k xs cls fr a o vs res ho hc hW hF hx hr;simp only[fo]at hc;split at hc<;>first|(cases hc;done)|skip
 rename_i ti b b9 hb;cases hc;obtain⟨v,rfl,hv⟩:=ek hb hF hx;obtain⟨d,hd,bO⟩:=(hT.at b9).und;obtain⟨i,hi,jF,_⟩:=(hT.at b9).info;have mO:=Jj bO w hd;have hn:(uh ti=none/\ti.k.isAgg=false)\/(uh ti=some ti.size/\ti.k.isAgg=true):=by unfold uh;split<;>simp_all
 simp only[av.run,qw]at hr;split at hr<;>first|(cases hr;done)|skip
 . rename_i bb off;(split at hr<;>first|(cases hr;done)|skip);rename_i cs fz jq;obtain⟨_,he⟩:=hv.ei;rcases hn with⟨hn,hf⟩|⟨hn,hf⟩
   .rw[hn]at hr;rw[hf]at mO;simp only at hr;(split at hr<;>first|(cases hr;done)|skip);rename_i u hu;simp only[H0]at hr;subst hr;rw[j4]at hu;obtain⟨y,hy,zp⟩:=hW.cell jq hu;refine .pure (x:=y) ?_ zp;simp[execOp,ho,he,Instr.loadAt,Instr.sureAddr,loadVar,mO,hy]
   .rw[hn]at hr;rw[hf]at mO;simp only at hr;(split at hr<;>first|(cases hr;done)|skip);rename_i us hu;simp only[H0]at hr;subst hr;obtain⟨ys,hy,zp⟩:=hW.loadCells (P:=P) jq hu;refine .pure (x:= .agg ys.toArray) ?_ (.zl (by simpa using zp));simp[execOp,ho,he,Instr.loadAt,Instr.sureAddr,loadVar,mO,gu hi,jF,hy]
   rename_i tt0 cs jq;obtain⟨_,he⟩:=hv.ei;rcases hn with⟨hn,hf⟩|⟨hn,hf⟩
   .rw[hn]at hr;rw[hf]at mO;simp only at hr;(split at hr<;>first|(cases hr;done)|skip);rename_i u hu;simp only[H0]at hr;subst hr;rw[j4]at hu;obtain⟨y,hy,zp⟩:=hW.acD jq hu;refine .pure (x:=y) ?_ zp;simp[execOp,ho,he,Instr.loadAt,Instr.sureAddr,loadVar,mO,hy]
   .rw[hn]at hr;rw[hf]at mO;simp only at hr;(split at hr<;>first|(cases hr;done)|skip);rename_i us hu;simp only[H0]at hr;subst hr;obtain⟨ys,hy,zp⟩:=hW.Kl (P:=P) jq hu;refine .pure (x:= .agg ys.toArray) ?_ (.zl (by simpa using zp));simp[execOp,ho,he,Instr.loadAt,Instr.sureAddr,loadVar,mO,gu hi,jF,hy]
 . rename_i rE i' j';(split at hr<;>first|(cases hr;done)|skip);rename_i cs e9;rw[j4]at e9;obtain⟨es,au,base,cell,he,g1,g2,g3⟩:=hv.Cf;rcases hn with⟨hn,hf⟩|⟨hn,hf⟩
   .rw[hn]at hr;rw[hf]at mO;simp only at hr;(split at hr<;>first|(cases hr;done)|skip);rename_i u hu;simp only[H0]at hr;subst hr;rw[j4]at hu;have AT:=(hW.cY _ _ (g2 _ _ _ _ e9 hu)).1;refine .pure (x:=cell i' j') ?_ (g3 _ _ _ _ e9 hu);simp[execOp,ho,he,Instr.loadAt,Instr.sureAddr,loadVar,mO,AT]
   . rw[hn]at hr;rw[hf]at mO;simp only at hr;(split at hr<;>first|(cases hr;done)|skip);rename_i us hu;simp only[H0]at hr;subst hr;obtain⟨VY,hle⟩:=zn hu;have hlen:=qC hu;have bP:(loadCells ⟨au,base+i'*es+j',none⟩ ti.size).run P w= .ok ((List.range ti.size).map λq=>cell i' (j'+q)).toArray w:=by
        (refine run_loadCells w _ _ _ λq hq=> ?_);rw[j5];have:cs[j'+q]? =some (cs[j'+q]'(by omega)):=H4 (by omega);rw[Zh3];exact(hW.cY _ _ (g2 _ _ _ _ e9 this)).1
     refine .pure (x:= .agg ((List.range ti.size).map λq=>cell i' (j'+q)).toArray) ?_ (.zl ⟨by simp[hlen],λq u y hu' hy=> ?_⟩)
     .  simp[execOp,ho,he,Instr.loadAt,Instr.sureAddr,loadVar,mO,gu hi,jF,bP]
     .  have hq:q<ti.size:=(by rw[<-hlen];exact(Za0.1 hu').1);rw[VY,Zb8,Za7 hq,Zc4]at hu';simp[hq]at hy;subst hy;exact g3 _ _ _ _ e9 hu'
theorem YS{x y:Value}{ρ:Pos->Loc}{n:Nat}{C:Cells}{u v r:AV}{w:World}{st:St}(h1:aj ρ n C u x)(h2:aj ρ n C v y)(hr:yY (λb=>st.heap.get b) st.next [u,v]=some (.val r)):
   ∃z,(Builtin.min2 x y).run P w= .ok z w/\aj ρ n C r z:=by
 simp only[yY]at hr;split at hr<;>first|(cases hr;done)|skip
 . simp only[H0,bU.val.injEq]at hr;subst hr;rw[h1.gD,h2.gD];refine⟨_,rfl,?_⟩;rw[dz];split
   .rename_i h;rw[Za7 (Zg2 h)];exact .int _ _
   .rename_i h;rw[Za5 (Zl3 h)];exact .int _ _
 . simp only[H0,bU.val.injEq]at hr;subst hr;rename_i sa sb;obtain⟨bx,rfl,e1⟩:=h1.dO;obtain⟨bz,rfl,e2⟩:=h2.dO;have hh:(Op.stringOp .leq bx bz).run P w= .ok (.bool (aB sa sb||gP sa sb)) w:=by
     simp only[Op.stringOp,Sem.run_pure];rw[Jk e1 e2,Ci e1 e2]
   refine⟨_,by simp only[Builtin.min2,Sem.run_bind,hh,Result.andThen_ok,asBool,Sem.run_pure];rfl,?_⟩;split
   .rename_i h;rw[Za7 h];exact .str _ _ e1
   .rename_i h;rw[Za5 (by rw[h];simp)];exact .str _ _ e2
theorem YT{x y:Value}{ρ:Pos->Loc}{n:Nat}{C:Cells}{u v r:AV}{w:World}{st:St}(h1:aj ρ n C u x)(h2:aj ρ n C v y)(hr:yZ (λb=>st.heap.get b) st.next [u,v]=some (.val r)):
   ∃z,(Builtin.max2 x y).run P w= .ok z w/\aj ρ n C r z:=by
 simp only[yZ]at hr;split at hr<;>first|(cases hr;done)|skip
 . simp only[H0,bU.val.injEq]at hr;subst hr;rw[h1.gD,h2.gD];refine⟨_,rfl,?_⟩;rw[dz];split
   .rename_i h;rw[Za7 (Zg2 h)];exact .int _ _
   .rename_i h;rw[Za5 (Zl3 h)];exact .int _ _
 . simp only[H0,bU.val.injEq]at hr;subst hr;rename_i sa sb;obtain⟨bx,rfl,e1⟩:=h1.dO;obtain⟨bz,rfl,e2⟩:=h2.dO;have hh:(Op.stringOp .geq bx bz).run P w= .ok (.bool (!aB sa sb)) w:=by
     simp only[Op.stringOp,Sem.run_pure];rw[Jk e1 e2]
   refine⟨_,by simp only[Builtin.max2,Sem.run_bind,hh,Result.andThen_ok,asBool,Sem.run_pure];rfl,?_⟩;split
   .rename_i h;rw[Za5 (by rw[h];simp)];exact .str _ _ e2
   .rename_i h;rw[Za7 (by rw[h];rfl)];exact .str _ _ e1
theorem fD(xs:Array Operand)(a:Act):xs.toList.map a.eval=(xs.map a.eval).toList:=by simp
end
section
variable{P:Program}{tt:TT}
theorem vs1{ρ:Pos->Loc}{n:Nat}{C:Cells}{bs:List AV}{x:Value}(h:aq ρ n C bs [x]):∃b,bs=[b]/\aj ρ n C b x:=by
 match bs,h with
 |[b],h=>exact⟨b,rfl,h.2 0 b x rfl rfl⟩
 |[],h=>have:=h.1;simp at this
 |_::_::_,h=>have:=h.1;simp at this
theorem vs2{ρ:Pos->Loc}{n:Nat}{C:Cells}{bs:List AV}{x y:Value}(h:aq ρ n C bs [x,y]):∃b c,bs=[b,c]/\aj ρ n C b x/\aj ρ n C c y:=by
 match bs,h with
 |[b,c],h=>exact⟨b,c,rfl,h.2 0 b x rfl rfl,h.2 1 c y rfl rfl⟩
 |[],h=>have:=h.1;simp at this
 |[_],h=>have:=h.1;simp at this
 |_::_::_::_,h=>have:=h.1;simp at this
theorem vs3{ρ:Pos->Loc}{n:Nat}{C:Cells}{bs:List AV}{x y z:Value}(h:aq ρ n C bs [x,y,z]):∃b c d,bs=[b,c,d]/\aj ρ n C b x/\aj ρ n C c y/\aj ρ n C d z:=by
 match bs,h with
 |[b,c,d],h=>exact⟨b,c,d,rfl,h.2 0 b x rfl rfl,h.2 1 c y rfl rfl,h.2 2 d z rfl rfl⟩
 |[],h=>have:=h.1;simp at this
 |[_],h=>have:=h.1;simp at this
 |[_,_],h=>have:=h.1;simp at this
 |_::_::_::_::_,h=>have:=h.1;simp at this
def zq(x:Option Value)(i:Option Nat):Prop:=(x=none/\i=none)\/∃j k,i=some j/\x=some (.int k (j:Int))
theorem Kn{ρ:Pos->Loc}{n:Nat}{C:Cells}{lo hi mx:Option Operand}{bs:List AV}{a:Act}{l h m:Option Nat}
   (hb:aq ρ n C bs ((uj lo++uj hi++uj mx).map a.eval)) (hr:bounds lo.isSome hi.isSome mx.isSome bs=some (l,h,m)):
   zq (lo.map a.eval) l/\zq (hi.map a.eval) h/\zq (mx.map a.eval) m/\(m.isSome=true->h.isSome=true):=by
 unfold bounds at hr
 cases lo<;>cases hi<;>cases mx<;>simp only[Option.isSome_some,Option.isSome_none,uj,Zf9,Ze8,Zf1,Zd4,Zh6]at hb hr<;>
   first|(cases hr;done)|skip
 . cases bs with
   |cons b bs=>have:=hb.1;simp at this
   |nil=>simp at hr;obtain⟨rfl,rfl,rfl⟩:=hr;exact⟨.inl ⟨rfl,rfl⟩,.inl ⟨rfl,rfl⟩,.inl ⟨rfl,rfl⟩,λh=>by cases h⟩
 .obtain⟨b,rfl,h1⟩:=vs1 hb;simp only at hr;(split at hr<;>first|(cases hr;done)|skip);rename_i j hj;obtain⟨k,hk⟩:=iG h1 hj;simp at hr;obtain⟨rfl,rfl,rfl⟩:=hr;exact⟨.inl ⟨rfl,rfl⟩,.inr ⟨j,k,rfl,by simp[hk]⟩,.inl ⟨rfl,rfl⟩,λh=>by cases h⟩
 .obtain⟨b,c,rfl,h1,h2⟩:=vs2 hb;simp only at hr;(split at hr<;>first|(cases hr;done)|skip);rename_i j j' hj wW;obtain⟨k,hk⟩:=iG h1 hj;obtain⟨k',jO⟩:=iG h2 wW;simp at hr;obtain⟨rfl,rfl,rfl⟩:=hr;exact⟨.inl ⟨rfl,rfl⟩,.inr ⟨j,k,rfl,by simp[hk]⟩,.inr ⟨j',k',rfl,by simp[jO]⟩,λ_=>rfl⟩
 .obtain⟨b,rfl,h1⟩:=vs1 hb;simp only at hr;(split at hr<;>first|(cases hr;done)|skip);rename_i j hj;obtain⟨k,hk⟩:=iG h1 hj;simp at hr;obtain⟨rfl,rfl,rfl⟩:=hr;exact⟨.inr ⟨j,k,rfl,by simp[hk]⟩,.inl ⟨rfl,rfl⟩,.inl ⟨rfl,rfl⟩,λh=>by cases h⟩
 .obtain⟨b,c,rfl,h1,h2⟩:=vs2 hb;simp only at hr;(split at hr<;>first|(cases hr;done)|skip);rename_i j j' hj wW;obtain⟨k,hk⟩:=iG h1 hj;obtain⟨k',jO⟩:=iG h2 wW;simp at hr;obtain⟨rfl,rfl,rfl⟩:=hr;exact⟨.inr ⟨j,k,rfl,by simp[hk]⟩,.inr ⟨j',k',rfl,by simp[jO]⟩,.inl ⟨rfl,rfl⟩,λh=>by cases h⟩
 .obtain⟨b,c,d,rfl,h1,h2,h3⟩:=vs3 hb;simp only at hr;(split at hr<;>first|(cases hr;done)|skip);rename_i j j' j'' hj wW hj'';obtain⟨k,hk⟩:=iG h1 hj;obtain⟨k',jO⟩:=iG h2 wW;obtain⟨k'',hk''⟩:=iG h3 hj'';simp at hr;obtain⟨rfl,rfl,rfl⟩:=hr;exact⟨.inr ⟨j,k,rfl,by simp[hk]⟩,.inr ⟨j',k',rfl,by simp[jO]⟩,.inr ⟨j'',k'',rfl,by simp[hk'']⟩,λ_=>rfl⟩
theorem vC(isS:Bool){len cap:Nat}{xl xh xm:Option Value}{l h m:Option Nat}(h1:zq xl l)(h2:zq xh h)(h3:zq xm m)(hmh:m.isSome=true->h.isSome=true)
  (Cj:l.getD 0<=h.getD len) (hhm:h.getD len<=m.getD cap) (hmc:m.getD cap<=cap) (w:World):
  (Instr.sliceBounds isS len cap xl xh xm).run P w= .ok (l.getD 0,h.getD len,m.getD cap) w:=by
 rcases h1 with⟨rfl,rfl⟩|⟨jl,kl,rfl,rfl⟩<;>rcases h2 with⟨rfl,rfl⟩|⟨jh,kh,rfl,rfl⟩<;>rcases h3 with⟨rfl,rfl⟩|⟨jm,km,rfl,rfl⟩<;>
  simp only[Option.getD_none,Zj2,Option.isSome_some,Option.isSome_none]at Cj hhm hmc hmh ⊢ <;>
  first
   |(simp at hmh;done)
   |simp[Instr.sliceBounds,Instr.sliceBound,asIntOf,Cj,hhm,hmc,Int.ofNat_le]
theorem AX{ρ:Pos->Loc}{n:Nat}{C:Cells}{b:Pos}{off es aF l h M:Nat}{aa:Addr}{Ur:Option Nat}
   (ha:aF≠0->b.toNat<n/\aa=⟨(ρ b).au,(ρ b).base+off,none⟩/\(ρ b).base+off+aF*es<=(ρ b).size)
   (h1:l<=h) (h2:h<=M) (h3:M<=aF) (hc:∀c,Ur=some c->c=M - l) (hk:Ur=none->b.toNat<n):
   aj ρ n C (.slice b (off+l*es) (h - l) Ur es) (.slice (if M=l then some aa else(some aa).map (·.add (l*es))) (h - l) (M - l)):=by
 by_cases hm:M=l
 .rw[Za7 hm];exact .slice _ _ _ _ _ _ _ (by omega) hc (λh0=>absurd (by omega) h0) hk
 .rw[Za5 hm];obtain⟨hb,rfl,hle⟩:=ha (by omega);refine .slice _ _ _ _ _ _ _ (by omega) hc (λ_=>⟨hb,by show Addr.add _ _=_;rw[j5,Zh3],?_⟩) hk;have e1:l*es+(M - l)*es=M*es:=(by rw[<-Zi2];congr 1;omega);have e2:M*es<=aF*es:=Zf5 _ h3;omega
theorem VZ(hT:bH P tt)(t:TypeId)(x:Operand)(lo hi mx:Option Operand):cr P tt (.slice t x lo hi mx):=by
 intro ρ C st w k xs cls fr a o vs res ho hc hW hF hx hr;simp only[fo]at hc;split at hc<;>first|(cases hc;done)|skip
 rename_i ti l0 b9 hl;obtain⟨d,hd,bO⟩:=(hT.at b9).und;split at hc<;>first|(cases hc;done)|skip
 . rename_i hk;rw[hk]at bO;rw[kq bO]at hd;(split at hc<;>first|(cases hc;done)|skip);cases hc;have hv:=dB hl hF hx;simp only[uj,Ze8,Zf1,Zf9,Zd4]at hv;simp only[av.run,FC]at hr;(split at hr<;>first|(cases hr;done)|skip);rename_i u bs;(split at hr<;>first|(cases hr;done)|skip);rename_i s l h m' hb;(split at hr<;>first|(cases hr;done)|skip);rename_i h1 h2;have h1:=Za3 h1;have h2:=Za3 h2;simp only[H0]at hr;subst hr;obtain⟨y,ys,zk,hu,EH⟩:=hv.cons_inv;simp only[Zf4]at zk;obtain⟨rfl,rfl⟩:=zk;have jq:=Kn (lo:=lo) (hi:=hi) (mx:=none) (a:=a) (by simpa [uj]using EH) hb;obtain⟨bs',he,hs⟩:=hu.dO;have eu:=sP hs
   have bP:=vC (P:=P) false (len:=bs'.size) (cap:=bs'.size) jq.1 jq.2.1 (.inl ⟨rfl,rfl⟩:zq none none) (λh=>by cases h)
     (by rw[eu];exact h1) (by rw[eu];simpa using h2) (by simp) w
   refine .pure (x:= .string (bs'.extract (l.getD 0) (h.getD bs'.size))) ?_ (.str _ _ ?_)
   .simp only[execOp,ho,Instr.sliceAt,Sem.run_bind,aJ hd,Result.andThen_ok,he,Instr.slice];simp[bP]
   .rw[eu,ByteArray.data_extract,Zm7, <-hs,List.extract,List.map_take,List.map_drop];rw[List.drop_take]
 . rename_i e hk;rw[hk]at bO;rw[kJ bO]at hd;(split at hc<;>first|(cases hc;done)|skip);rename_i te eH;cases hc;obtain⟨i0,ku,jF,_⟩:=(hT.at eH).info;have hv:=dB hl hF hx;simp only[Zf1,Zf9,Zi3,Zd4]at hv;simp only[av.run,ny]at hr;(split at hr<;>first|(cases hr;done)|skip);rename_i u bs;obtain⟨y,ys,zk,hu,EH⟩:=hv.cons_inv;simp only[Zf4]at zk;obtain⟨rfl,rfl⟩:=zk
   have lQ:∀(sa:Option Addr)(len cap:Nat)(l h m:Option Nat),a.eval x= .slice sa len cap->bounds lo.isSome hi.isSome mx.isSome bs=some (l,h,m)->
        l.getD 0<=h.getD len->h.getD len<=m.getD cap->m.getD cap<=cap->
        (execOp a.eval o).run P w= .ok (.value (.slice (if m.getD cap=l.getD 0 then sa else sa.map (·.add (l.getD 0*te.size))) (h.getD len - l.getD 0) (m.getD cap - l.getD 0))) w:=by
     intro sa len cap l h m he hb h1 h2 h3;have jq:=Kn (lo:=lo) (hi:=hi) (mx:=mx) (a:=a) (by simpa [Zi3]using EH) hb;have bP:=vC (P:=P) true (len:=len) (cap:=cap) jq.1 jq.2.1 jq.2.2.1 jq.2.2.2 h1 h2 h3 w;simp only[execOp,ho,Instr.sliceAt,Sem.run_bind,aJ hd,Result.andThen_ok,he,Instr.slice,bP,gu ku,jF,Sem.run_pure]
   split at hr<;>first|(cases hr;done)|skip
   ·
     rename_i b off len cap es' l h m hb;(split at hr<;>first|(cases hr;done)|skip);rename_i cW Cj;have cW:te.size=es':=Za1 cW;subst cW;have Cj:=Za3 Cj;obtain⟨aa,aF,he,hle,L6,ha⟩:=hu.cN;split at hr
     .  rename_i c m';(split at hr<;>first|(cases hr;done)|skip);rename_i e1 e2;have e1:=Za3 e1;have e2:=Za3 e2;have:=L6 c rfl;subst this;simp only[H0]at hr;subst hr;exact .pure (lQ _ _ _ _ _ _ he hb Cj (by simpa using e1) (by simpa using e2)) (AX ha Cj e1 e2 (λc hc=>by cases hc;rfl) (λh=>by cases h))
     .  rename_i c;(split at hr<;>first|(cases hr;done)|skip);rename_i e1;have e1:=Za3 e1;have:=L6 c rfl;subst this;simp only[H0]at hr;subst hr;exact .pure (lQ _ _ _ _ _ _ he hb Cj (by simpa using e1) (by simp)) (AX ha Cj e1 (Za4 _) (λc hc=>by cases hc;rfl) (λh=>by cases h))
     .  rename_i m';(split at hr<;>first|(cases hr;done)|skip);rename_i e1 e2;have e1:=Za3 e1;have e2:=Za3 e2;simp only[H0]at hr;subst hr;exact .pure (lQ _ _ _ _ _ _ he hb Cj (by simpa using e1) (by simp;omega)) (AX ha Cj e1 (by simp;omega) (λc hc=>by cases hc;rfl) (λh=>by cases h))
     .  (split at hr<;>first|(cases hr;done)|skip);rename_i e1;have e1:=Za3 e1;simp only[H0]at hr;subst hr;exact .pure (lQ _ _ _ _ _ _ he hb Cj (by simp;omega) (by simp)) (AX ha Cj (by simp;omega) (Za4 _) (λc hc=>by cases hc) (λ_=>hu.Ns rfl))
   ·
     rename_i rE es' l h m hb;(split at hr<;>first|(cases hr;done)|skip);rename_i cW;have cW:te.size=es':=Za1 cW;subst cW;obtain⟨aa,aF,cell,he,hle,yf,g1,g2,g3⟩:=hu.pU;split at hr
     .  rename_i m';(split at hr<;>first|(cases hr;done)|skip);rename_i e0 e1 e2;have e0:=Za1 e0;have e1:=Za1 e1;have e2:=Za1 e2;subst e2;simp only[H0]at hr;subst hr;refine .pure (lQ _ _ _ _ _ _ he hb (by omega) (by rw[e1];simp) (by simp)) ?_;simp only[e0,e1,Zj2,Zn0,Zg8];exact .slice _ _ _ _ _ _ _ (Za4 _) (λc hc=>by cases hc;rfl) (λh0=>absurd rfl h0) (λh=>by cases h)
     .  (split at hr<;>first|(cases hr;done)|skip);rename_i e0 e1;have e0:=Za3 e0;have e1:=Za3 e1;simp only[H0]at hr;subst hr;refine .pure (lQ _ _ _ _ _ _ he hb e0 (by simp;omega) (by simp)) ?_;simp only[Option.getD_none];have hlen:(List.drop (l.getD 0) (List.take (h.getD rE.length) rE)).length=h.getD rE.length - l.getD 0:=(by simp;omega);rw[<-hlen];have oX:∀i cs,(List.drop (l.getD 0) (List.take (h.getD rE.length) rE))[i]? =some cs->rE[l.getD 0+i]? =some cs:=by
          intro i cs hi;rw[Zc4,Zb8]at hi;split at hi
          .exact hi
          .cases hi
        by_cases hcl:aF=l.getD 0
        .rw[Za7 hcl];have hemp:List.drop (l.getD 0) (List.take (h.getD rE.length) rE)=[]:=(by apply Zb0;rw[hlen];omega);rw[hemp];exact .fl _ _ _ _ (λ_ _=>undef) (by simp) (λh=>absurd rfl h) (λi cs hi=>by simp at hi) (λi j cs v hi=>by simp at hi) (λi j cs v hi=>by simp at hi)
        . rw[Za5 hcl];by_cases cj:rE=[]
          .subst cj;simp only[List.take_nil,List.drop_nil];exact .fl _ _ _ _ (λ_ _=>undef) (by simp) (λh=>absurd rfl h) (λi cs hi=>by simp at hi) (λi j cs v hi=>by simp at hi) (λi j cs v hi=>by simp at hi)
          .have yf:=yf cj;obtain⟨ab,ao,asp⟩:=aa;simp only at yf;subst yf;simp only[Ze2,j5];refine .fl _ _ _ _ (λi j=>cell (l.getD 0+i) j) (by rw[hlen];omega) (λ_=>rfl) (λi cs hi=>g1 _ _ (oX i cs hi)) (λi j cs v hi hj=> ?_) (λi j cs v hi hj=>g3 _ _ _ _ (oX i cs hi) hj);have:=g2 _ _ _ _ (oX i cs hi) hj;simp only at this ⊢;rw[<-this];congr 2;rw[Zi2];omega
   ·
     rename_i l h m hb;(split at hr<;>first|(cases hr;done)|skip);rename_i e0 e1 e2;have e0:=Za1 e0;have e1:=Za1 e1;have e2:=Za1 e2;simp only[H0]at hr;subst hr;have he:=hu.eP;refine .pure (lQ _ _ _ _ _ _ he hb (by omega) (by omega) (by omega)) ?_;simp only[e0,e1,e2,Zn0,Zg8];exact .ah
end
section
variable{P:Program}{tt:TT}
theorem BA{ρ:Pos->Loc}{n:Nat}{C:Cells}:∀{l:List AV}{s:List Nat}{ys:List Value},bytesOf l=some s->aq ρ n C l ys->
  ys=(s.map Int.ofNat).map (Value.int .u8)/\∀c,c∈s->c<256
 |[],s,ys,h,hv=>by
  simp[bytesOf]at h;subst h;exact⟨by simpa using hv.lC,λc hc=>by simp at hc⟩
 |v ::l,s,ys,h,hv=>by
  unfold bytesOf at h;split at h<;>first|(cases h;done)|skip
  .rename_i h0;simp at h0
  . rename_i c l' he;simp only[Zf4]at he;obtain⟨rfl,rfl⟩:=he;(split at h<;>first|(cases h;done)|skip);rename_i s' aV kK;simp only[H0]at h;subst h;obtain⟨y,ys',rfl,h1,h2⟩:=hv.cons_inv;obtain⟨e,fN⟩:=BA kK h2;have aV:c<256:=(by simpa using aV);refine⟨by rw[h1.gD,e];rfl,λc' hc=> ?_⟩;simp at hc;rcases hc with rfl|hc
    .exact aV
    .exact fN _ hc
theorem AY:∀(s:List Nat)(acc:ByteArray),((s.map Int.ofNat).foldl (λr n=>r.push (UInt8.ofNat n.toNat)) acc).data.toList=acc.data.toList++s.map UInt8.ofNat
 |[],acc=>by simp
 |c::s,acc=>by
  simp only[Zd4,Zo7];rw[AY s];simp[ByteArray.push]
theorem Sj{P:Program}{e:TypeId}(hc:P.cellsOf e≠0)(count:Nat)(hn:1<=count):liesAt P P.depth e count 0 e 1=true:=by
 have hd:P.depth=(2*(P.types.size+Made.depth)+1)+1:=rfl;rw[hd];simp only[liesAt,Zh9];left;rw[hd];simp[rowAt,hc,hn,sameLayout]
theorem Sk(hT:bH P tt)(src dst:TypeId)(x:Operand)(hnb:∀k xs cls,fo tt (.convert src dst x)=some (k,xs,cls)->k≠ .conv .bytes):cr P tt (.convert src dst x):=by
 intro ρ C st w k xs cls fr a o vs res ho hc hW hF hx hr;have hnb:=hnb _ _ _ hc;simp only[fo]at hc;split at hc<;>first|(cases hc;done)|skip
 rename_i s d b hs hd hb;obtain⟨ds,qO,yg⟩:=(hT.at hs).und;obtain⟨dd,hdd,bO⟩:=(hT.at hd).und;split at hc<;>first|(cases hc;done)|skip
 . rename_i k1 k2 h1 h2;cases hc;obtain⟨v,rfl,hv⟩:=ek hb hF hx;rw[h1]at yg;rw[h2]at bO;rw[Cd yg]at qO;rw[Cd bO]at hdd;simp only[av.run,tq]at hr;split at hr<;>first|(cases hr;done)|(rename_i heq;cases heq;done)|(rename_i heq;cases heq)
   simp only[H0]at hr;subst hr;refine .pure ?_ (by rw[pV];exact .int _ _);simp[execOp,ho,hv.gD,convert,aJ qO,aJ hdd,Conv.intToInt]
 . rename_i h1 h2;cases hc;obtain⟨v,rfl,hv⟩:=ek hb hF hx;rw[h1]at yg;rw[h2]at bO;rw[kq yg]at qO;rw[kq bO]at hdd;simp only[av.run,tq]at hr;split at hr<;>first|(cases hr;done)|(rename_i heq;cases heq;done)|(rename_i heq;cases heq)
   simp only[H0]at hr;subst hr;obtain⟨bs,he,hs⟩:=hv.dO;exact .pure (x:= .string bs) (by simp[execOp,ho,he,convert,aJ qO,aJ hdd]) (.str _ _ hs)
 . (split at hc<;>first|(cases hc;done)|skip);(split at hc<;>first|(cases hc;done)|skip);cases hc;exact absurd rfl hnb
 . rename_i e h1 h2;(split at hc<;>first|(cases hc;done)|skip);rename_i te eH;(split at hc<;>first|(cases hc;done)|skip);rename_i V0;cases hc;obtain⟨v,rfl,hv⟩:=ek hb hF hx;rw[h1]at yg;rw[h2]at bO;rw[kJ yg]at qO;rw[kq bO]at hdd;obtain⟨de,V6,V8⟩:=(hT.at eH).und;rw[V0]at V8;rw[Cd V8]at V6;have lQ:∀y:Option Addr×Nat×Nat,a.eval x= .slice y.1 y.2.1 y.2.2->(execOp a.eval o).run P w=((Conv.bytesToString (a.eval x)).run P w).andThen λv w=>.ok (.value v) w:=by
     intro y he;simp[execOp,ho,he,convert,aJ qO,aJ hdd,aJ V6]
   simp only[av.run,tq]at hr;split at hr<;>first|(cases hr;done)|(rename_i heq;cases heq;done)|(rename_i heq;cases heq)
   .simp only[H0]at hr;subst hr;have he:=hv.eP;refine .pure (x:= .string .empty) ?_ (.str _ _ rfl);rw[lQ (none,0,0) he,he];simp[Conv.bytesToString]
   . rename_i bb off m cap es;obtain⟨aa,aF,he,hle,_,ha⟩:=hv.cN;split at hr
     .  rename_i h0;have:=Za1 h0;subst this;simp only[H0]at hr;subst hr;refine .pure (x:= .string .empty) ?_ (.str _ _ rfl);rw[lQ (some aa,0,aF) he,he];simp[Conv.bytesToString,loadCells,loadCellsFrom]
     .  (rename_i h0;have h0:=Zb6 h0;(split at hr<;>first|(cases hr;done)|skip);rename_i cs fz jq;(split at hr<;>first|(cases hr;done)|skip);rename_i l hcut;(split at hr<;>first|(cases hr;done)|skip);rename_i s' PT;simp only[H0]at hr;subst hr;obtain⟨aV,rfl,_⟩:=ha (by omega);obtain⟨ys,zk,gI⟩:=hW.loadCells (P:=P) jq hcut;obtain⟨e1,e2⟩:=BA PT gI;rw[e1]at zk;have bP:=run_bytesToString (P:=P) w ⟨(ρ bb).au,(ρ bb).base+off,none⟩ m aF (s'.map Int.ofNat) zk;refine .pure (x:= .string _) (by rw[lQ (some _,m,aF) he,he,bP];rfl) (.str _ _ ?_);rw[AY,Zd9];have e0:ByteArray.empty.data.toList=[]:=rfl;rw[e0,Zh6,Zf9,Zf7];have e3:s'.map (UInt8.toNat∘UInt8.ofNat)=s'.map id:=Zi5 λc hc=>by have:=e2 c hc;simp only[Function.comp,id,UInt8.toNat_ofNat'];omega);rw[e3,List.map_id]
 ·
   rename_i e h1 h2;(split at hc<;>first|(cases hc;done)|skip);rename_i te eH;(split at hc<;>first|(cases hc;done)|skip);rename_i eu;cases hc;obtain⟨v,rfl,hv⟩:=ek hb hF hx;rw[h1]at yg;rw[h2]at bO;rw[Kk yg]at qO;rw[VS bO]at hdd;obtain⟨i0,ku,jF,_⟩:=(hT.at eH).info;have eu:=Zb6 eu;simp only[av.run,Kg]at hr;split at hr<;>first|(cases hr;done)|skip
   .simp only[H0]at hr;subst hr;refine .pure (x:= .pointer none) ?_ .gH;simp[execOp,ho,hv.nO,convert,aJ qO,aJ hdd,Conv.unsafePointer]
   .rename_i bb off;(split at hr<;>first|(cases hr;done)|skip);rename_i t0 cs jq;(split at hr<;>first|(cases hr;done)|skip);rename_i aV;have aV:off<cs.length:=(by simpa using aV);simp only[H0]at hr;subst hr;obtain⟨_,he⟩:=hv.ei;obtain⟨_,_,c,fr,g1,g2,g3,g4,g5,g6⟩:=hW.live _ _ jq;have Ko:w.shape? (ρ bb).au=some (t0,c.size):=(by simp[World.shape?,g1]);have:=Lib.run_to_unsafe (P:=P) (w:=w) (j:=i0) ⟨(ρ bb).au,(ρ bb).base+off,none⟩ qO hdd ku (by rw[jF];exact eu) Ko (by show(ρ bb).base+off<c.size;omega);exact .pure (x:= .pointer (some ⟨(ρ bb).au,(ρ bb).base+off,none⟩)) (by simp[execOp,ho,he,this]) (he ▸hv)
 ·
   rename_i e h1 h2;(split at hc<;>first|(cases hc;done)|skip);rename_i te eH;(split at hc<;>first|(cases hc;done)|skip);rename_i eu;cases hc;obtain⟨v,rfl,hv⟩:=ek hb hF hx;rw[h1]at yg;rw[h2]at bO;rw[VS yg]at qO;rw[Kk bO]at hdd;obtain⟨i0,ku,jF,_⟩:=(hT.at eH).info;have eu:=Zb6 eu;simp only[av.run,Dh]at hr;split at hr<;>first|(cases hr;done)|skip
   .simp only[H0]at hr;subst hr;refine .pure (x:= .pointer none) ?_ .gH;simp[execOp,ho,hv.nO,convert,aJ qO,aJ hdd,Conv.unsafePointer]
   .rename_i bb;(split at hr<;>first|(cases hr;done)|skip);rename_i t0 cs jq;(split at hr<;>first|(cases hr;done)|skip);rename_i ht hle;have ht:=Za1 ht;have hle:=Za3 hle;subst ht;simp only[H0]at hr;subst hr;obtain⟨_,he⟩:=hv.ei;obtain⟨_,_,c,fr,g1,g2,g3,g4,g5,g6⟩:=hW.live _ _ jq;have Ko:w.shape? (ρ bb).au=some (t0,c.size):=(by simp[World.shape?,g1]);have AT:P.cellsOf t0=te.size:=(by simp[Program.cellsOf,ku,jF]);have hone:1<=c.size / P.cellsOf t0:=(by rw[AT,Nat.le_div_iff_mul_le (by omega)];omega);rw[Zg7]at he;have:=Lib.run_from_unsafe (P:=P) (w:=w) (j:=i0) ⟨(ρ bb).au,(ρ bb).base,none⟩ qO hdd ku Ko (by show liesAt P P.depth t0 _ (ρ bb).base t0 1=true;rw[g6];exact Sj (by rw[AT];exact eu) _ hone);exact .pure (x:= .pointer (some ⟨(ρ bb).au,(ρ bb).base,none⟩)) (by simp[execOp,ho,he,this]) (he ▸hv)
theorem Ck{t:TypeId}{d:TypeDesc}(hd:P.underlying t=some d){pk:PK}(hk:pk.fits d=true)(e:Bool)(m:Nat)(x:Value)(w:World):
  (Instr.checkKey e (m+1) t x).run P w= .ok () w:=by
 unfold Instr.checkKey;rw[Sem.run_bind,aJ hd,Result.andThen_ok];cases pk<;>cases d<;>simp[PK.fits]at hk<;>rfl
theorem Ip{ρ:Pos->Loc}{n:Nat}{C:Cells}{pk:PK}{d:TypeDesc}(hk:pk.fits d=true){u v:AV}{x y:Value}{r:Bool}
   (h1:aj ρ n C u x) (h2:aj ρ n C v y) (h:vQ pk u v=some r):Instr.sameNow d x y=some r:=by
 unfold vQ at h;split at h<;>first|(cases h;done)|skip
 .simp only[H0]at h;subst h;cases d<;>simp[PK.fits]at hk;rw[h1.fM,h2.fM];rfl
 . (split at h<;>first|(cases h;done)|skip);rename_i ye;have:=tE ye;subst this;simp only[H0]at h;subst h;cases d<;>simp[PK.fits]at hk;rw[h1.gD,h2.gD];simp[Instr.sameNow,jB]
 .simp only[H0]at h;subst h;cases d<;>simp[PK.fits]at hk;obtain⟨bx,rfl,e1⟩:=h1.dO;obtain⟨bz,rfl,e2⟩:=h2.dO;simp only[Instr.sameNow];rw[beq_toListBytes,Ci e1 e2]
def AZ(ρ:Pos->Loc)(n:Nat)(C:Cells)(es:List (AV×AV×Nat))(es':List MapEntry):Prop:=
 es.length=es'.length/\∀(i:Nat)(e:AV×AV×Nat)(e':MapEntry),es[i]? =some e->es'[i]? =some e'->aj ρ n C e.1 e'.key/\aj ρ n C e.2.1 e'.val/\e.2.2=e'.born
theorem wY{ρ:Pos->Loc}{n:Nat}{C:Cells}{pk:PK}{d:TypeDesc}(hk:pk.fits d=true){u:AV}{x:Value}(hu:aj ρ n C u x):
  ∀{es:List (AV×AV×Nat)}{es':List MapEntry}{i:Nat}{r:Option (Nat×AV)},AZ ρ n C es es'->iE pk u es i=some r->
  ∃r',Instr.findNow d x es' i=some r'/\((r=none/\r'=none)\/∃j v y,r=some (j,v)/\r'=some (j,y)/\aj ρ n C v y/\i<=j/\j<i+es.length)
 |[],es',i,r,he,h=>by
  simp[iE]at h;subst h;cases es' with
  |nil=>exact⟨none,rfl,.inl ⟨rfl,rfl⟩⟩
  |cons e es'=>have:=he.1;simp at this
 |(k',v,born)::es,es',i,r,he,h=>by
  cases es' with
  |nil=>have:=he.1;simp at this
  |cons e' es'=>
   have h0:=he.2 0 (k',v,born) e' rfl rfl;have jE:AZ ρ n C es es':=⟨by have:=he.1;simpa using this,λj e e' h1 h2=>he.2 (j+1) e e' (by simpa using h1) (by simpa using h2)⟩
   unfold iE at h;split at h<;>first|(cases h;done)|skip
   .    rename_i hq;simp only[H0]at h;subst h;refine⟨some (i,e'.val),by simp[Instr.findNow,Ip hk hu h0.1 hq],.inr ⟨i,v,e'.val,rfl,rfl,h0.2.1,Za4 _,by simp⟩⟩
   .    rename_i hq;obtain⟨r',h1,h2⟩:=wY hk hu jE h;refine⟨r',by simp[Instr.findNow,Ip hk hu h0.1 hq,h1],?_⟩;rcases h2 with h2|⟨j,v',y,e1,e2,e3,e4,e5⟩
        .exact .inl h2
        .exact .inr ⟨j,v',y,e1,e2,e3,by omega,by simp;omega⟩
theorem run_findKey{t:TypeId}{d:TypeDesc}(hd:P.underlying t=some d){x:Value}{es:List MapEntry}{r:Option (Nat×Value)}(h:Instr.findNow d x es 0=some r)(w:World):
  (Instr.findKey t x es).run P w= .ok r w:=by
 simp[Instr.findKey,aJ hd,h]
theorem run_getObj_map{r:Nat}{es:Array MapEntry}{c:Nat}{w:World}(h:w.heap[r]? =some (.map es c)):(getObj r).run P w= .ok (.map es c) w:=by
 simp[getObj,Sem.run,h]
theorem aaI(k:TK){d:TypeDesc}(h:bu k d=true){pk:PK}(hp:(k= .bool/\pk= .b)\/((∃i,k= .int i)/\pk= .i)\/(k= .string/\pk= .s)):pk.fits d=true:=by
 rcases hp with⟨rfl,rfl⟩|⟨⟨i,rfl⟩,rfl⟩|⟨rfl,rfl⟩
 .rw[L4 h];rfl
 .rw[Cd h];rfl
 .rw[kq h];rfl
theorem pW(hT:bH P tt){t:Nat}{ti:TI}(ht:tt.get (key t)=some ti){z:List AV}(hz:ti.zero=some z){ρ:Pos->Loc}{n:Nat}{C:Cells}(w:World):
   ∃v,(zeroValue t).run P w= .ok v w/\aj ρ n C (fo.Ca ti z) v/\aq ρ n C z v.cells.toList:=by
 obtain⟨i,hi,jF,_,vD⟩:=(hT.at ht).info;obtain⟨v,hv,hs,hlen,h1,h2⟩:=vD z hz;refine⟨v,YJ hi hv w,?_,oF hs⟩;unfold fo.Ca;split
 .rename_i ha;obtain⟨cs,rfl⟩:=h1 ha;exact .zl (oF hs)
 .rename_i ha;have hc:=h2 ha;rw[hc]at hs;simp only[lM]at hs;(split at hs<;>first|(cases hs;done)|skip);rename_i a as e1 e2;simp only[H0]at hs e2;subst hs;subst e2;simp only;exact zm e1
theorem Us(hT:bH P tt)(t:TypeId)(x ix:Operand)(ok:Bool):cr P tt (.lookup t x ix ok):=by
 intro ρ C st w k xs cls fr a o vs res ho hc hW hF hx hr;simp only[fo]at hc;split at hc<;>first|(cases hc;done)|skip
 rename_i ti l b9 hl;split at hc<;>first|(cases hc;done)|skip
 rename_i kt et hk;split at hc<;>first|(cases hc;done)|skip
 rename_i tk te EI eH;obtain⟨d,hd,bO⟩:=(hT.at b9).und;rw[hk]at bO;rw[FG bO]at hd;obtain⟨dk,Nt,ye⟩:=(hT.at EI).und;have key:∃pk z,te.zero=some z/\k= .lookup pk (fo.Ca te z) ok/\xs=l/\cls= .read/\pk.fits dk=true:=by
  split at hc<;>first|(cases hc;done)|skip
  all_goals
    rename_i z h1 h2;cases hc;refine⟨_,z,h2,rfl,rfl,rfl,aaI tk.k ye ?_⟩
  .exact .inr (.inl ⟨⟨_,h1⟩,rfl⟩)
  .exact .inr (.inr ⟨h1,rfl⟩)
  .exact .inl ⟨h1,rfl⟩
 obtain⟨pk,z,hz,rfl,rfl,rfl,Bz⟩:=key;obtain⟨m,kk,rfl,h1,h2⟩:=L5 hl hF hx;obtain⟨zv,vE,Kp,_⟩:=pW hT eH hz (ρ:=ρ) (n:=st.next.toNat) (C:=C) w;have EJ:∀e,(Instr.checkKey e 10000 kt (a.eval ix)).run P w= .ok () w:=λe=>Ck Nt Bz e 9999 _ w
 simp only[av.run,tr]at hr;split at hr<;>first|(cases hr;done)|skip
 ·
  rename_i j v hm;simp only[H0]at hr;subst hr;split at hm<;>first|(cases hm;done)|skip
  .split at hm<;>first|(cases hm;done)|(simp at hm;done)
  . rename_i b;(split at hm<;>first|(cases hm;done)|skip);rename_i es c hb;obtain⟨_,he⟩:=h1.tF;obtain⟨_,_,es',cW,hlen,fN⟩:=hW.live _ _ hb;have hE:AZ ρ st.next.toNat C es es'.toList:=⟨by simpa using hlen,λi e e' h1 h2=>fN i e e' h1 (by simpa using h2)⟩
    obtain⟨r',hf,oG⟩:=wY Bz h2 hE hm;rcases oG with⟨e1,_⟩|⟨j',v',y,e1,e2,e3,_⟩
    .   cases e1
    .   cases e1;subst e2;have bP:(execOp a.eval o).run P w= .ok (.value (if ok then .tuple #[y,.bool true]else y)) w:=by
          simp only[execOp,ho,Instr.lookup,Sem.run_bind,aJ hd,Result.andThen_ok,he,run_getObj_map cW,EJ,run_findKey Nt hf,Sem.run_pure]
        refine .pure bP ?_;cases ok
        .exact e3
        .exact .pT (aq.cons e3 (aq.cons (.bool true) aq.nil))
 ·
  rename_i hm;simp only[H0]at hr;subst hr;have bP:(execOp a.eval o).run P w= .ok (.value (if ok then .tuple #[zv,.bool false]else zv)) w:=by
    split at hm<;>first|(cases hm;done)|skip
    .   (split at hm<;>first|(cases hm;done)|skip);have he:=h1.vX;have hf:(Instr.findKey kt (a.eval ix) []).run P w= .ok none w:=run_findKey Nt rfl w;simp only[execOp,ho,Instr.lookup,Sem.run_bind,aJ hd,Result.andThen_ok,he,EJ,hf,vE,Sem.run_pure]
    .   rename_i b;(split at hm<;>first|(cases hm;done)|skip);rename_i es c hb;obtain⟨_,he⟩:=h1.tF;obtain⟨_,_,es',cW,hlen,fN⟩:=hW.live _ _ hb;have hE:AZ ρ st.next.toNat C es es'.toList:=⟨by simpa using hlen,λi e e' h1 h2=>fN i e e' h1 (by simpa using h2)⟩
        obtain⟨r',hf,oG⟩:=wY Bz h2 hE hm;rcases oG with⟨_,e2⟩|⟨j',v',y,e1,_⟩
        .subst e2;simp only[execOp,ho,Instr.lookup,Sem.run_bind,aJ hd,Result.andThen_ok,he,run_getObj_map cW,EJ,run_findKey Nt hf,vE,Sem.run_pure]
        .cases e1
  refine .pure bP ?_;cases ok
  .exact Kp
  .exact .pT (aq.cons Kp (aq.cons (.bool false) aq.nil))
end
section
variable{P:Program}{tt:TT}
theorem zu:∀(l:List Value)(off k:Nat)(cs:Array Value),off+k+l.length<=cs.size->
  ((l.zipIdx k).foldl (λcs (c,j)=>cs.setIfInBounds (off+j) c) cs).toList=aG cs.toList (off+k) l
 |[],off,k,cs,_=>by simp[aG,Zk0]
 |v::l,off,k,cs,h=>by
  simp only[Ze6]at h;simp only[List.zipIdx_cons,Zo7];rw[zu l off (k+1) _ (by simp;omega)];simp only[aG,Ze6,Zn1];rw[List.drop_set_of_lt (by omega)];have:off+(k+1)=(off+k)+1:=by omega
  rw[this,List.take_set,Zo0];have aV:off+k<cs.toList.length:=by simp;omega
  rw[H4 aV];simp only[Option.toList_some,List.set_append,Zi7];have hm:min (off+k) cs.toList.length=off+k:=Zj6 (Nat.le_of_lt aV);rw[hm,Za5 (Zm6 _),Zn0];simp;rw[show off+k+1+l.length=off+k+(l.length+1)from by omega]
theorem Jl{ρ:Pos->Loc}{n:Nat}{C:Cells}(pl:Nat->Option (Nat×Nat)):∀{pp:List (Nat×Nat)}{vs cells r:List AV}{ps:List (Nat×Value)}{cs:Array Value},
  bW cells pp vs=some r->aq ρ n C cells cs.toList->aq ρ n C vs (ps.map (·.2))->ps.map (λx=>pl x.1)=pp.map some->
  ∃kz,Instr.fill pl cs ps=some kz/\aq ρ n C r kz.toList
 |[],vs,cells,r,ps,cs,h,hc,hv,hp=>by
  unfold bW at h;split at h<;>first|(cases h;done)|skip
  .simp only[H0]at h;subst h;have:ps=[]:=(by simpa using hv.lC);subst this;exact⟨cs,rfl,hc⟩
  .rename_i hh;cases hh
 |(off  ,size)::pp,vs,cells,r,ps,cs,h,hc,hv,hp=>by
  unfold bW at h;split at h<;>first|(cases h;done)|skip
  .rename_i hh;cases hh
  . rename_i off' size' pp' v vs' hh;simp only[Zf4,Zb2]at hh;obtain⟨⟨rfl,rfl⟩,rfl⟩:=hh;(split at h<;>first|(cases h;done)|skip);rename_i h1 h2;have h1:=Za1 h1;have h2:=Za3 h2;cases ps with
    |nil=>have:=hv.1;simp at this
    |   cons p ps=>
        obtain⟨i,x⟩:=p;simp only[Zd4,Zf4]at hp hv;obtain⟨gR,vF⟩:=hp;obtain⟨y,ys,zk,hx,gI⟩:=hv.cons_inv;simp only[Zf4]at zk;obtain⟨rfl,rfl⟩:=zk;have hxc:=hx.cells;have hlen:x.cells.size=size:=(by rw[<-h1,hxc.1];simp);have eu:off+size<=cs.size:=(by have:=hc.1;simp at this;omega);have acF:(x.cells.zipIdx.foldl (λcs (c,j)=>cs.setIfInBounds (off+j) c) cs).toList=aG cs.toList off x.cells.toList:=(by rw[<-Array.foldl_toList,Array.toList_zipIdx];have:=zu x.cells.toList off 0 cs (by simp;omega);simpa using this);obtain⟨kz,e1,e2⟩:=Jl pl h (cs:=x.cells.zipIdx.foldl (λcs (c,j)=>cs.setIfInBounds (off+j) c) cs) (by rw[acF];exact hc.aG hxc off) gI vF;refine⟨kz,?_,e2⟩;simp only[Instr.fill,gR];rw[Za5 (by simp[hlen];omega)];exact e1
theorem EK(hT:bH P tt){gs:Array Field}(w:World):∀{fs:List (Nat×Nat×Bool)}(_hm:bu.dc fs gs.toList=true){is:List Nat}{pp:List (Nat×Nat)}
  (_h:fo.places tt fs is=some pp) {FI:List (Nat×Nat)} (_hpl:∀(i:Nat)(f:Field)(inf:TypeInfo),gs.toList[i]? =some f->P.info? f.type=some inf->FI[i]? =some (f.offset,inf.size)),
  is.map (λi=>FI[i]?)=pp.map some
 |fs,hm,[],pp,h,FI,qP=>by simp[fo.places]at h;subst h;rfl
 |fs,hm,i::is,pp,h,FI,qP=>by
  unfold fo.places at h;split at h<;>first|(cases h;done)|skip
  rename_i off t nm l h1 h2;split at h<;>first|(cases h;done)|skip
  rename_i ti V9;simp only[H0]at h;subst h;obtain⟨f,hf,e1,e2,_⟩:=Dp hm h1;obtain⟨inf,PU,eu,_⟩:=(hT.at V9).info;simp only at e1 e2;have:=qP i f inf hf (by rw[e2];exact PU);simp only[Zd4,this,e1,eu];rw[EK hT w hm h2 qP]
theorem Kq(hT:bH P tt):∀{fs:List (Nat×Nat×Bool)}{gs:List Field}(_hm:bu.dc fs gs=true)(_ha:fo.O9 tt fs=true),
  ∃FI:List (Nat×Nat),gs.mapM (λf=>(P.info? f.type).map λi=>(f.offset,i.size))=some FI/\
   ∀(i:Nat)(f:Field)(inf:TypeInfo),gs[i]? =some f->P.info? f.type=some inf->FI[i]? =some (f.offset,inf.size)
 |[],gs,hm,ha=>by
  cases gs with
  |cons g gs=>simp[bu.dc]at hm
  |nil=>exact⟨[],rfl,λi f inf h=>by simp at h⟩
 |(off,t,nm)::fs,gs,hm,ha=>by
  cases gs with
  |nil=>simp[bu.dc]at hm
  |cons g gs=>
   simp[bu.dc]at hm;unfold fo.O9 at ha;(split at ha<;>first|(cases ha;done)|skip);rename_i ti V9;obtain⟨inf,PU,_⟩:=(hT.at V9).info;obtain⟨FI,h1,h2⟩:=Kq hT hm.2 ha;rw[hm.1.1.2]at PU;refine⟨(g.offset,inf.size)::FI,by simp[PU,h1],λi f inf' hi hf=> ?_⟩;cases i with
   |zero=>simp at hi;subst hi;rw[PU]at hf;cases hf;rfl
   |succ i=>simp at hi ⊢; exact h2 i f inf' hi hf
theorem Wa(hT:bH P tt)(t:TypeId)(ps:Array (Nat×Operand)):cr P tt (.build t ps):=by
 intro ρ C st w k xs cls fr a o vs res ho hc hW hF hx hr;simp only[fo]at hc;split at hc<;>first|(cases hc;done)|skip
 rename_i ti l b9 hl;obtain⟨d,hd,bO⟩:=(hT.at b9).und;obtain⟨it,Nu,_,_,vD⟩:=(hT.at b9).info
 have lQ:∀(pp:List (Nat×Nat))(z:List AV)(pl:Nat->Option (Nat×Nat)),ti.zero=some z->k= .build z pp->xs=l->ps.toList.map (λx=>pl x.1)=pp.map some->
    (∀(v:Value)(parts:List (Nat×Value))(cells:Array Value),it.zero=some v->Instr.fill pl v.cells parts=some cells->P.built t parts=some cells)->
    qz P ρ C st w ((execOp a.eval o).run P w) res:=by
   rintro pp z pl hz rfl rfl hpp abV;have hv:=dB hl hF hx;obtain⟨v,Cl,hs,_⟩:=vD z hz;simp only[av.run,Dd]at hr;(split at hr<;>first|(cases hr;done)|skip);rename_i cs yK;simp only[H0]at hr;subst hr;have Kp:aq ρ st.next.toNat C z v.cells.toList:=oF hs;have SS:(ps.map λ(i,x)=>(i,a.eval x)).toList=ps.toList.map λx=>(x.1,a.eval x.2):=(by simp);obtain⟨kz,e1,e2⟩:=Jl pl yK Kp (ps:=ps.toList.map λx=>(x.1,a.eval x.2)) (by simpa [Zf7,Zj1]using hv) (by simpa [Zf7,Zj1]using hpp);refine .pure (x:= .agg kz) ?_ (.zl e2);have bP:=run_build w t (ps.map λ(i,x)=>(i,a.eval x)) kz (abV v _ _ Cl (by rw[SS];exact e1));simp only[execOp,ho,Sem.run_bind];rw[bP];rfl
 split at hc<;>first|(cases hc;done)|skip
 .rename_i fs z hk hz;rw[hk]at bO;obtain⟨gs,rfl,hm⟩:=AS bO;(split at hc<;>first|(cases hc;done)|skip);rename_i pp qP fN;cases hc;obtain⟨FI,h1,h2⟩:=Kq hT hm fN;have hpp:=EK hT w hm qP h2;(refine lQ pp z (λi=>FI.toArray[i]?) hz rfl rfl (by simpa [Zf7,Zj1]using hpp) λv parts cells hv hf=> ?_);unfold Program.built;rw[Nu,hd];simp only[hv,h1];exact hf
 .rename_i e z hk hz;rw[hk]at bO;rw[PJ bO]at hd;(split at hc<;>first|(cases hc;done)|skip);rename_i te eH;cases hc;obtain⟨ie,hie,eu,_⟩:=(hT.at eH).info;(refine lQ _ z (λi=>some (i*te.size,te.size)) hz rfl rfl (by simp[Zf7,Zj1]) λv parts cells hv hf=> ?_);unfold Program.built;rw[Nu,hd];simp only[hv,hie,eu];exact hf
end
end
end Go.Ai
