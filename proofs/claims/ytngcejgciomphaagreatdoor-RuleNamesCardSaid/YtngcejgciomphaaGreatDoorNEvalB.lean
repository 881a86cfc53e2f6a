/- Its operations answer as the model does. -/
import Derived.Test.YtngcejgciomphaaGreatDoorNEvalA
import Derived.Laws.StructEq
import Derived.Lib.Builder
import Derived.Laws.BytesString
set_option linter.all false
namespace Go.Ai
section
def b9:TK->TypeDesc->Bool
 |.bool,.bool=>true
 |.int k,.int k'=>HU k k'
 |.string,.string=>true
 |.ptr e,.pointer e'=>Nat.beq e e'
 |.slice e,.slice e'=>Nat.beq e e'
 |.array n e,.array n' e'=>Nat.beq n n'&&Nat.beq e e'
 |.map k e,.map k' e'=>Nat.beq k k'&&Nat.beq e e'
 |.struct fs,.struct fs'=>eO fs fs'.toList
 |.func,.func _ _ _=>true
 |.iface,.interface _=>true
 |.upt,.unsafePointer=>true
 |.other,.interface _=>false
 |.other,.int _=>false
 |.other,.array _ _=>false
 |.other,.struct _=>false
 |.other,_=>true
 |_,_=>false
where
 eO:List (Nat×Nat×Bool)->List Field->Bool
  |[],[]=>true
  |(off,t,named)::l,f::l'=>Nat.beq off f.offset&&Nat.beq t f.type&&(named==(f.name != "_"))&&eO l l'
  |_,_=>false
structure ae1(P:Program)(t:TypeId)(ti:TI):Prop where
 und:∃d,P.underlying t=some d/\b9 ti.k d=true
 info:∃i,P.info? t=some i/\i.size=ti.size/\i.bytes=ti.bytes/\
  ∀z,ti.zero=some z->∃v,i.zero=some v/\qJ v.cells.toList=some z/\z.length=ti.size/\(ti.k.isAgg=true->∃cs,v= .agg cs)/\(ti.k.isAgg=false->v.cells= #[v])
 elem:∀e,ti.k= .ptr e->∃j,P.info? e=some j
 eqs:ti.AO=true->P.stoodInHeld t=false/\P.eqGuardType P.depth t=false
def cQ(P:Program)(tt:TT):Prop:=∀p ti,tt.get p=some ti->ae1 P (p.toNat - 1) ti
theorem cQ.at{P:Program}{tt:TT}(h:cQ P tt){t:Nat}{ti:TI}(ht:tt.get (key t)=some ti):ae1 P t ti:=by
 have:=h _ _ ht
 rwa [iB,Zg6]at this
section
variable{P:Program}{tt:TT}{ρ:Pos->Loc}{n:Nat}{C:Cells}
theorem bB{t:TypeId}{d:TypeDesc}(h:P.underlying t=some d)(w:World):(underlying t).run P w= .ok d w:=run_underlying h w
theorem abv{t:TypeId}{i:TypeInfo}(h:P.info? t=some i)(w:World):(typeInfo t).run P w= .ok i w:=by simp[typeInfo,h]
theorem lN{t:TypeId}{i:TypeInfo}(h:P.info? t=some i)(w:World):(sizeOf t).run P w= .ok i.size w:=by simp[sizeOf,typeInfo,h]
theorem aii{t:TypeId}{i:TypeInfo}{v:Value}(h:P.info? t=some i)(hz:i.zero=some v)(w:World):(zeroValue t).run P w= .ok v w:=by simp[zeroValue,typeInfo,h,hz]
theorem VI{k:TK}{d:TypeDesc}(h:b9 k d=true)(w:World){t:TypeId}(ht:P.underlying t=some d):(isAgg t).run P w= .ok k.isAgg w:=by
 cases k<;>cases d<;>first|(simp[b9]at h;done)|simp[isAgg,bB ht,TK.isAgg]
theorem rj{e:Nat}{d:TypeDesc}(h:b9 (.slice e) d=true):d= .slice e:=by
 cases d<;>simp[b9]at h;rw[h]
theorem amj{e:Nat}{d:TypeDesc}(h:b9 (.ptr e) d=true):d= .pointer e:=by
 cases d<;>simp[b9]at h;rw[h]
theorem abw{m e:Nat}{d:TypeDesc}(h:b9 (.array m e) d=true):d= .array m e:=by
 cases d<;>simp[b9]at h;rw[h.1,h.2]
theorem Ro{k e:Nat}{d:TypeDesc}(h:b9 (.map k e) d=true):d= .map k e:=by
 cases d<;>simp[b9]at h;rw[h.1,h.2]
theorem Yx{d:TypeDesc}(h:b9 .bool d=true):d= .bool:=by cases d<;>simp[b9]at h;rfl
theorem Bm{a b:IntKind}(h:HU a b=true):a=b:=by
 unfold HU at h;split at h
 .assumption
 .cases h
theorem Rp{k:IntKind}{d:TypeDesc}(h:b9 (.int k) d=true):d= .int k:=by
 cases d<;>simp[b9]at h;rw[Bm h]
theorem tT{d:TypeDesc}(h:b9 .string d=true):d= .string:=by cases d<;>simp[b9]at h;rfl
theorem J7{fs:List (Nat×Nat×Bool)}{d:TypeDesc}(h:b9 (.struct fs) d=true):∃gs,d= .struct gs/\b9.eO fs gs.toList=true:=by
 cases d<;>simp[b9]at h;exact⟨_,rfl,h⟩
theorem akN{d:TypeDesc}(h:b9 .func d=true):∃a b c,d= .func a b c:=by
 cases d<;>simp[b9]at h;exact⟨_,_,_,rfl⟩
theorem aij{d:TypeDesc}(h:b9 .iface d=true):∃a,d= .interface a:=by
 cases d<;>simp[b9]at h;exact⟨_,rfl⟩
theorem qL{α:Type}:∀(l:List α)(i:Nat),nth l i=l[i]?
 |[],_=>by simp[nth]
 |_::_,0=>rfl
 |_::l,i+1=>by simp[nth,qL l i]
theorem NY:∀{fs:List (Nat×Nat×Bool)}{gs:List Field}{i:Nat}{x:Nat×Nat×Bool},b9.eO fs gs=true->nth fs i=some x->
  ∃f,gs[i]? =some f/\f.offset=x.1/\f.type=x.2.1/\(f.name != "_")=x.2.2
 |[],_,i,_,_,h=>by simp[nth]at h
 |(off,t,named)::l,[],i,_,h,_=>by simp[b9.eO]at h
 |(off,t,named)::l,f::l',0,x,h,hx=>by
  simp[b9.eO]at h;simp[nth]at hx;subst hx;exact⟨f,rfl,h.1.1.1.symm,h.1.1.2.symm,h.1.2.symm⟩
 |(off,t,named)::l,f::l',i+1,x,h,hx=>by
  simp[b9.eO]at h;simp[nth]at hx;obtain⟨f',h1,h2⟩:=NY h.2 hx;exact⟨f',by simpa using h1,h2⟩
theorem HZ{v:Value}{a:AV}(h:NS v=some a):aC ρ n C a v:=by
 unfold NS at h
 split at h<;>first
   |(cases h;done)
   |(simp only[H0]at h;subst h)
 .exact .bool _
 .exact .int _ _
 .exact .str _ _ rfl
 .exact .pz
 .exact .af
 .exact .sF
 .exact .func _ _ _ _ _ rfl rfl (λ_ _ _ h=>by simp at h) (λ_ _ _ h=>by simp at h)
 .exact .lf
 .exact .AU
theorem vu:∀{l:List Value}{as:List AV},qJ l=some as->aI ρ n C as l
 |[],as,h=>by simp[qJ]at h;subst h;exact aI.nil
 |v ::l,as,h=>by
  unfold qJ at h;split at h
  .rename_i a as' h1 h2;simp only[H0]at h;subst h;exact aI.cons (HZ h1) (vu h2)
  .cases h
theorem adC{v:Value}{a:AV}(h:Yu v=some a):aC ρ n C a v:=by
 unfold Yu at h;split at h
 . split at h
   .rename_i l hl;simp only[H0]at h;subst h;exact .Mp (vu hl)
   .cases h
 .exact HZ h
theorem AY{x:Operand}{o:gO}{fr:Fr}{a:Act}{v:AV}(h:sG x=some o)(hF:kC ρ n C fr a.tmps)(hv:ET fr o=some v):aC ρ n C v (a.eval x):=by
 unfold sG at h;split at h
 .rename_i t;simp only[H0]at h;subst h;obtain⟨y,hy,hr⟩:=hF _ _ hv;rw[iB,Zg6]at hy;simp only[Act.eval,Zl5,hy,Zj8];exact hr
 . split at h
   .rename_i c hc;simp only[H0]at h;subst h;simp only[ET,H0]at hv;subst hv;exact adC hc
   .cases h
 .rename_i f;simp only[H0]at h;subst h;simp only[ET,H0]at hv;subst hv;exact .func _ _ _ _ _ rfl rfl (λ_ _ _ h=>by simp at h) (λ_ _ _ h=>by simp at h)
 .cases h
theorem iC:∀{xs:List Operand}{os:List gO}{fr:Fr}{a:Act}{vs:List AV},lM xs=some os->kC ρ n C fr a.tmps->fE fr os=some vs->aI ρ n C vs (xs.map a.eval)
 |[],os,fr,a,vs,h,_,hv=>by simp[lM]at h;subst h;simp[fE]at hv;subst hv;exact aI.nil
 |x ::xs,os,fr,a,vs,h,hF,hv=>by
  unfold lM at h;split at h
  . rename_i o os' h1 h2;simp only[H0]at h;subst h;unfold fE at hv;split at hv
    .   rename_i v hv1;split at hv
        .rename_i vs' Rq;simp only[H0]at hv;subst hv;exact aI.cons (AY h1 hF hv1) (iC h2 hF Rq)
        .cases hv
    .   cases hv
  .cases h
theorem kM{x:Operand}{o:gO}{fr:Fr}{a:Act}{vs:List AV}(h:sG x=some o)(hF:kC ρ n C fr a.tmps)(hv:fE fr [o]=some vs):
   ∃v,vs=[v]/\aC ρ n C v (a.eval x):=by
 unfold fE at hv;split at hv
 .rename_i v hv1;simp only[fE,H0]at hv;subst hv;exact⟨v,rfl,AY h hF hv1⟩
 .cases hv
end
def Yields(N:Next)(x:Value):Prop:=N= .value x\/(N= .skip/\x=undef)
def EN(P:Program)(ρ:Pos->Loc)(C:Cells)(st:St)(w:World)(r:Result Next):eH->Prop
 |.val v=>∃N x,r= .ok N w/\Yields N x/\aC ρ st.next.toNat C v x
 |.br v del set new=>∃N x w' ρ',r= .ok N w'/\Yields N x/\(∀b:Pos,b.toNat<st.next.toNat->ρ' b=ρ b)/\bS ρ' C (st.br del set new) w'/\
  aC ρ' (st.br del set new).next.toNat C v x/\nh ρ st w ρ' (st.br del set new) w'
 |.call f args=>∃bV:List Value,r=(callFunc f bV.toArray).run P w/\aI ρ st.next.toNat C args bV
end
section
open Go Go.RowKit
theorem sI(b o i:Nat):(⟨b,o,none⟩:Addr).add i=⟨b,o+i,none⟩:=by
 unfold Addr.add;split
 .rename_i h;subst h;rfl
 .rfl
section
variable{P:Program}{ρ ρ':Pos->Loc}{C:Cells}{st:St}{w w':World}
theorem bS.ae2(hW:bS ρ C st w){ae3:T AB}{next' b0:Pos}{x0:AB}
  (hn:st.next.toNat<=next'.toNat) (xM:b0.toNat<next'.toNat) (am3:ae3.get b0=some x0)
  (N3:∀b x,b≠b0->ae3.get b=some x->st.heap.get b=some x/\(ρ b).aQ≠(ρ' b0).aQ)
  (bG:∀b:Pos,b.toNat<st.next.toNat->ρ' b=ρ b)
  (hB:ri ρ' next'.toNat C (ρ' b0) w' x0)
  (PM:∀a v,C a=some v->a.block≠(ρ' b0).aQ)
  (aW:(ρ' b0).aQ<w'.heap.size) (ae4:w.heap.size<=w'.heap.size)
  (Cq:∀k,k<w.heap.size->k≠(ρ' b0).aQ->w'.heap[k]? =w.heap[k]?):
  bS ρ' C ⟨ae3,next'⟩ w' where
 live b x hb:=by
  by_cases h:b=b0
  .  subst h;rw[am3]at hb;cases hb;exact⟨xM,aW,hB⟩
  .  obtain⟨h1,h2⟩:=N3 b x h hb;obtain⟨h3,h4,h5⟩:=hW.live b x h1;rw[bG b h3];exact⟨Zc5 h3 hn,Zc5 h4 ae4,(h5.mono bG hn).of_heap (Cq _ h4 h2)⟩
 inj b  b' x x' hb gK he:=by
  by_cases h:b=b0
  .  subst h;by_cases h':b'=b
     .  exact h'.symm
     .  obtain⟨h1,h2⟩:=N3 b' x' h' gK;rw[bG b' (hW.live b' x' h1).1]at he;exact absurd he.symm h2
  .  obtain⟨h1,h2⟩:=N3 b x h hb;rw[bG b (hW.live b x h1).1]at he;by_cases h':b'=b0
     .  subst h';exact absurd he h2
     .  obtain⟨h1',h2'⟩:=N3 b' x' h' gK;rw[bG b' (hW.live b' x' h1').1]at he;exact hW.inj b b' x x' h1 h1' he
 dH a v ha:=by
  obtain⟨h1,h2⟩:=hW.dH a v ha;have aik:a.block<w.heap.size:=World.block_lt_of_cell? _ _ h1;refine⟨?_,λb x hb=> ?_⟩
  .  rw[World.cell?_of_block (w:=w) (Cq _ aik (PM a v ha))];exact h1
  .  by_cases h:b=b0
     .  subst h;exact λe=>PM a v ha e.symm
     .  obtain⟨h3,_⟩:=N3 b x h hb;rw[bG b (hW.live b x h3).1];exact h2 b x h3
 whole a v ha o ho:=by have gx:a.block<w.heap.size:=World.block_lt_of_cell? _ _ (hW.dH a v ha).1;rw[World.cell?_of_block (w:=w) (a:=⟨a.block,o,none⟩) (Cq _ gx (PM a v ha))];exact hW.whole a v ha o ho
theorem bS.cell(hW:bS ρ C st w){b:Pos}{cs:List AV}{fz:Nat}(hb:st.heap.get b=some (.cells cs fz)){i:Nat}{v:AV}(hv:cs[i]? =some v):
  ∃x,w.cell? ⟨(ρ b).aQ,(ρ b).base+i,none⟩=some x/\aC ρ st.next.toNat C v x:=by
 obtain⟨_,_,c,e,fr,h1,h2,h3,h4,_⟩:=hW.live b _ hb;obtain⟨x,hx,hr⟩:=h4.get hv;have hi:i<cs.length:=(Za4.1 hv).1;rw[Zd7,Zb5 hi,Zf5]at hx;exact⟨x,by simp[World.cell?,h1, <-hx],hr⟩
theorem WJ{α:Type}{l l':List α}{i n:Nat}(h:cut l i n=some l'):l'=(l.drop i).take n/\i+n<=l.length:=by
 unfold cut at h;split at h
 .rename_i hb;cases h;exact⟨rfl,Za9 hb⟩
 .cases h
theorem N4{α:Type}{l l':List α}{i n:Nat}(h:cut l i n=some l'):l'.length=n:=by obtain⟨rfl,h2⟩:=WJ h;simp;omega
theorem bS.loadCells(hW:bS ρ C st w){b:Pos}{cs vs:List AV}{fz off n:Nat}(hb:st.heap.get b=some (.cells cs fz))(hc:cut cs off n=some vs):
  ∃ys:List Value,(Go.loadCells ⟨(ρ b).aQ,(ρ b).base+off,none⟩ n).run P w= .ok ys.toArray w/\aI ρ st.next.toNat C vs ys:=by
 obtain⟨_,_,c,e,fr,h1,h2,h3,h4,_⟩:=hW.live b _ hb;obtain⟨Cr,hle⟩:=WJ hc;have hr:=(h4.drop off).take n;rw[<-Cr]at hr;refine⟨_,?_,hr⟩;have hlen:(List.take n (List.drop off (List.take cs.length (List.drop (ρ b).base c.toList)))).length=n:=by rw[<-hr.1];exact N4 hc
 conv=>lhs;rw[<-hlen]
 refine run_loadCells_list w _ _ λj v hj=> ?_
 have J8:j<n:=by rw[<-hlen];exact(Za4.1 hj).1
 rw[Zd7,Zb5 J8,Zf5,Zd7,Zb5 (by omega),Zf5]at hj;rw[sI];simp[World.cell?,h1, <-hj,Zk0]
theorem vT(g e:Nat)(fr:Nat×Nat):∀(vs:List Value)(i o:Nat)(cur:Array Value)(w:World),w.heap[g]? =some (.cells cur e fr)->o+i+vs.length<=cur.size->
  (∀v∈vs,v.oneCell'=true)->(∀k,o+i<=k->k<cur.size->¬(fr.1<=k/\k<fr.2))->
  ∃ w',(storeCells ⟨g,o,none⟩ vs i).run P w= .ok () w'/\w'.heap[g]? =some (.cells (aZ cur.toList (o+i) vs).toArray e fr)/\
    w'.heap.size=w.heap.size/\(∀k,k≠g->w'.heap[k]? =w.heap[k]?)/\w'.os=w.os/\w'.tape=w.tape/\w'.output=w.output
 |[],i,o,cur,w,hg,_,_,_=>⟨w,by simp[storeCells],by rw[hg];simp[aZ,Zn8],rfl,λ_ _=>rfl,rfl,rfl,rfl⟩
 |v ::vs,i,o,cur,w,hg,hle,h1,hf=>by
  simp only[Zc2]at hle;have hv:v.oneCell'=true:=h1 v (by simp);have ae5:w.cell? ⟨g,o+i,none⟩=some (cur[o+i]'(by omega)):=by simp[World.cell?,hg]
  have hfz:w.frozen? ⟨g,o+i,none⟩=false:=by have:=hf (o+i) (Za6 _) (by omega);simp only[World.frozen?,hg];simpa using this
  have Cs:(w.setCell ⟨g,o+i,none⟩ v).heap[g]? =some (.cells (cur.setIfInBounds (o+i) v) e fr):=by
    simp[World.setCell,Zj2,hg]
  obtain⟨w',h2,h3,h4,h5,h6,h7,h8⟩:=vT g e fr vs (i+1) o _ _ Cs (by simp;omega) (λv hv=>h1 v (by simp[hv])) (by intro k hk qM;simp at qM;exact hf k (by omega) qM);refine⟨w',?_,?_,by simp[h4],λk hk=> ?_,h6,h7,h8⟩
  .simp only[storeCells,Sem.run_bind,sI,run_store P w _ _ _ hv,ae5,hfz];simpa using h2
  .rw[h3];congr 2;simp only[aZ,Zc2,Zp9];rw[List.drop_set_of_lt (by omega)];have:o+(i+1)=(o+i)+1:=(by omega);rw[this,List.take_set,List.take_add_one];have aW:o+i<cur.toList.length:=(by simp;omega);rw[Za0 aW];simp only[Option.toList_some,List.set_append,Ze0];have hm:min (o+i) cur.toList.length=o+i:=Zh5 (Zl9 aW);rw[hm,Zb2 (Zo5 _),Zk3];simp;rw[show o+i+1+vs.length=o+i+(vs.length+1)from by omega]
  .rw[h5 k hk,Below.heap_setCell _ _ _ _ (by simpa using hk)]
end
section
variable{P:Program}{tt:TT}{ρ:Pos->Loc}{C:Cells}{st:St}{w:World}{n:Nat}
theorem Yields.value(x:Value):Yields (.value x) x:= .inl rfl
theorem EN.pure{v:AV}{x:Value}{r:Result Next}(h:r= .ok (.value x) w)(hv:aC ρ st.next.toNat C v x):EN P ρ C st w r (.val v):=
 ⟨_,x,h,Yields.value x,hv⟩
theorem aC.gX{k:IntKind}{i:Int}{x:Value}(h:aC ρ n C (.int k i) x):x= .int k i:=by cases h;rfl
theorem aC.kD{b:Bool}{x:Value}(h:aC ρ n C (.bool b) x):x= .bool b:=by cases h;rfl
theorem aC.eR{s:List Nat}{x:Value}(h:aC ρ n C (.str s) x):∃bs:ByteArray,x= .string bs/\bs.data.toList.map UInt8.toNat=s:=by
 cases h with|str _ bs h=>exact⟨bs,rfl,h⟩
theorem aC.Ei{x:Value}(h:aC ρ n C .pz x):x= .pointer none:=by cases h;rfl
theorem aC.gZ{x:Value}(h:aC ρ n C .af x):x= .slice none 0 0:=by cases h;rfl
theorem aC.Ej{x:Value}(h:aC ρ n C .sF x):x= .map none:=by cases h;rfl
theorem aC.N5{x:Value}(h:aC ρ n C .lf x):x= .nilFunc:=by cases h;rfl
theorem aC.abx{x:Value}(h:aC ρ n C .AU x):x= .nilIface:=by cases h;rfl
theorem aC.o9{b:Pos}{off:Nat}{x:Value}(h:aC ρ n C (.ptr b off) x):b.toNat<n/\x= .pointer (some ⟨(ρ b).aQ,(ρ b).base+off,none⟩):=by
 cases h with|ptr _ _ h=>exact⟨h,rfl⟩
theorem aC.Bn{b:Pos}{x:Value}(h:aC ρ n C (.map b) x):b.toNat<n/\x= .map (some (ρ b).aQ):=by
 cases h with|map _ h=>exact⟨h,rfl⟩
theorem aC.Zy{t:TypeId}{v:AV}{x:Value}(h:aC ρ n C (.iface t v) x):∃y,x= .iface t y/\aC ρ n C v y:=by
 cases h with|iface _ _ y h=>exact⟨y,rfl,h⟩
theorem aC.ff{b:Pos}{off len es:Nat}{cap:Option Nat}{x:Value}(h:aC ρ n C (.slice b off len cap es) x):
  ∃(a:Addr) (bA:Nat),x= .slice (some a) len bA/\len<=bA/\(∀c,cap=some c->c=bA)/\
   (bA≠0->b.toNat<n/\a=⟨(ρ b).aQ,(ρ b).base+off,none⟩/\(ρ b).base+off+bA*es<=(ρ b).size):=by
 cases h with|slice _ _ _ _ _ bA a hl hc ha _=>exact⟨a,bA,rfl,hl,hc,ha⟩
theorem aC.Rr{b:Pos}{off len es:Nat}{cap:Option Nat}{x:Value}(h:aC ρ n C (.slice b off len cap es) x):cap=none->b.toNat<n:=by
 cases h with|slice _ _ _ _ _ _ _ _ _ _ hk=>exact hk
theorem aC.xN{xs:List (List AV)}{es:Nat}{x:Value}(h:aC ρ n C (.fl xs es) x):
  ∃(a:Addr) (bA:Nat) (cell:Nat->Nat->Value),x= .slice (some a) xs.length bA/\xs.length<=bA/\(xs≠[]->a.spot=none)/\
   (∀(i:Nat)(cs:List AV),xs[i]? =some cs->cs.length=es)/\
   (∀(i j:Nat)(cs:List AV)(v:AV),xs[i]? =some cs->cs[j]? =some v->C ⟨a.block,a.off+i*es+j,none⟩=some (cell i j))/\
   (∀(i j:Nat)(cs:List AV)(v:AV),xs[i]? =some cs->cs[j]? =some v->aC ρ n C v (cell i j)):=by
 cases h with|fl _ _ bA a cell hl hs dB hc hv=>exact⟨a,bA,cell,rfl,hl,hs,dB,hc,hv⟩
theorem aC.Mr{xs:List (List AV)}{i j:Nat}{x:Value}(h:aC ρ n C (.fp xs i j) x):
  ∃(es aQ base:Nat) (cell:Nat->Nat->Value),x= .pointer (some ⟨aQ,base+i*es+j,none⟩)/\
   (∀(i:Nat)(cs:List AV),xs[i]? =some cs->cs.length=es)/\
   (∀(i j:Nat)(cs:List AV)(v:AV),xs[i]? =some cs->cs[j]? =some v->C ⟨aQ,base+i*es+j,none⟩=some (cell i j))/\
   (∀(i j:Nat)(cs:List AV)(v:AV),xs[i]? =some cs->cs[j]? =some v->aC ρ n C v (cell i j)):=by
 cases h with|fp _ _ _ es aQ base cell hl hc hv=>exact⟨es,aQ,base,cell,rfl,hl,hc,hv⟩
theorem xO(k:IntKind)(i:Int):az k i=k.wrap i:=by
 unfold az;split
 . rename_i h1 _;split
   .rename_i h2 _;cases k<;>simp only[loI,hiI]at h1 h2<;>simp only[IntKind.wrap,IntKind.bits,IntKind.signed]<;>simp<;>omega
   .rfl
 .rfl
theorem pI(a b:Int):EL a b=(a==b):=by
 unfold EL;split
 .rename_i h _;subst h;simp
 .rename_i h _;simp[h]
theorem eW(a b:Int):EM a b=decide (a<b):=by
 unfold EM;split<;>(rename_i h _;simp[h])
theorem jP(a b:Int):abb a b=decide (a<=b):=by
 unfold abb;split<;>(rename_i h _;simp[h])
theorem qN:∀{a b:List Nat},kL a b=true↔a=b
 |[],[]=>by simp[kL]
 |[],_::_=>by simp[kL]
 |_::_,[]=>by simp[kL]
 |a::x,b::y=>by
  unfold kL;split
  .rename_i h;have:=Za7 h;subst this;simp[qN (a:=x) (b:=y)]
  .rename_i h;have:=Ze6 h;simp[this]
theorem Ms:∀{a b:List UInt8},a.map UInt8.toNat=b.map UInt8.toNat->a=b
 |[],[],_=>rfl
 |[],_::_,h=>by simp at h
 |_::_,[],h=>by simp at h
 |a::x,b::y,h=>by
  simp at h;rw[Zr1.1 h.1,Ms h.2]
theorem toList_data(b:ByteArray):b.toList=b.data.toList:=ByteArray.toList_eq b
theorem vO:∀(x y:List UInt8),aL (x.map UInt8.toNat) (y.map UInt8.toNat)=Op.bytesLess x y
 |[],[]=>by simp[aL,Op.bytesLess]
 |_::_,[]=>by simp[aL,Op.bytesLess]
 |[],_::_=>by simp[aL,Op.bytesLess]
 |a ::x,b::y=>by
  simp only[Zb1,aL,Op.bytesLess];split
  .rename_i h;have:a<b:=(by rw[Zn9];simpa using h);simp[this]
  . (rename_i h;have h1:¬a<b:=by rw[Zn9];intro h';have h2:Nat.blt a.toNat b.toNat=true:=(by simpa using h');rw[h2]at h;cases h);split
    .   rename_i h2;have:a=b:=Zr1.1 (Za7 h2);subst this;simp only[h1,Zf6,Zl1,beq_self_eq_true,Zf7];exact vO x y
    .   (rename_i h2;have:a≠b:=λe=>Ze6 h2 (by rw[e]));simp[h1,this]
theorem Mt{a b:List Nat}{x y:ByteArray}(hx:x.data.toList.map UInt8.toNat=a)(hy:y.data.toList.map UInt8.toNat=b):(x.toList==y.toList)=kL a b:=by
 rw[toList_data,toList_data,Zk7,qN,beq_iff_eq, <-hx, <-hy];exact⟨λh=>by rw[h],λh=>Ms h⟩
theorem VJ{a b:List Nat}{x y:ByteArray}(hx:x.data.toList.map UInt8.toNat=a)(hy:y.data.toList.map UInt8.toNat=b):Op.bytesLess x.toList y.toList=aL a b:=by
 rw[toList_data,toList_data, <-hx, <-hy,vO]
theorem H8{a:List Nat}{x:ByteArray}(hx:x.data.toList.map UInt8.toNat=a):x.size=a.length:=by rw[<-hx,Zb9,Zh7];rfl
def PK.fits:PK->TypeDesc->Bool
 |.b,.bool=>true
 |.i,.int _=>true
 |.s,.string=>true
 |_,_=>false
theorem aby{t:TypeId}{d:TypeDesc}(hd:P.underlying t=some d){pk:PK}(hk:pk.fits d=true){a b:AV}{x y:Value}{r:Bool}{m:Nat}
   (ha:aC ρ n C a x) (hb:aC ρ n C b y) (h:zG pk a b=some r) (w:World):(Op.equalIn (m+1) t x y).run P w= .ok r w:=by
 unfold zG at h;split at h
 .simp only[H0]at h;subst h;rw[ha.kD,hb.kD];cases d<;>simp[PK.fits]at hk;rw[run_equalIn_bool' w m t _ _ hd]
 . split at h
   .rename_i qM;have:=Bm qM;subst this;simp only[H0]at h;subst h;rw[ha.gX,hb.gX];cases d<;>simp[PK.fits]at hk;rw[run_equalIn_int w m t _ _ _ _ hd,pI]
   .cases h
 .simp only[H0]at h;subst h;obtain⟨bx,rfl,h1⟩:=ha.eR;obtain⟨bz,rfl,h2⟩:=hb.eR;cases d<;>simp[PK.fits]at hk;rw[run_equalIn_string w m t _ _ hd,Mt h1 h2]
 .cases h
theorem Rs:∀{fs:List (Nat×Nat×Bool)}{l:List (Nat×PK)}{gs:List Field}{xs ys:List AV}{cx cy:Array Value}{r:Bool}{m:Nat}(_hT:cQ P tt)
  (_hm:b9.eO fs gs=true) (_hf:Cn.fields tt fs=some l) (_hx:aI ρ n C xs cx.toList) (_hy:aI ρ n C ys cy.toList) (_h:eqFields xs ys l=some r) (w:World),
  (Op.eqFields (m+1) cx cy gs).run P w= .ok r w
 |[],l,gs,xs,ys,cx,cy,r,m,hT,hm,hf,hx,hy,h,w=>by
  cases gs with
  |cons f gs=>simp[b9.eO]at hm
  | nil=>
    simp[Cn.fields]at hf;subst hf;simp[eqFields]at h;subst h;simp[Op.eqFields]
 |(off  , t,named)::fs,l,gs,xs,ys,cx,cy,r,m,hT,hm,hf,hx,hy,h,w=>by
  cases gs with
  |nil=>simp[b9.eO]at hm
  | cons f gs=>
    simp[b9.eO]at hm;obtain⟨⟨⟨ho,ht⟩,hn⟩,hm'⟩:=hm;unfold Cn.fields at hf;(split at hf<;>first|(cases hf;done)|skip);rename_i ti l' fA hl';obtain⟨d,hd,dD⟩:=(hT.at fA).und;have key:∃pk,l=(off,pk)::l'/\pk.fits d=true/\(isAgg t).run P w= .ok false w:=by
        have wM:=VI dD w hd;split at hf<;>first|(cases hf;done)|skip
        all_goals
          rename_i hk;simp only[H0]at hf;rw[hk]at dD wM;refine⟨_,hf.symm,?_,wM⟩
        .rw[Yx dD];rfl
        .rw[Rp dD];rfl
        .rw[tT dD];rfl
    obtain⟨pk,rfl,Lh,wM⟩:=key;have cA:f.name≠ "_" :=(by intro e;rw[e]at hn;simp at hn);unfold eqFields at h;(split at h<;>first|(cases h;done)|skip);rename_i a b ha hb;rw[qL]at ha hb;obtain⟨x,hx1,Zz⟩:=hx.get ha;obtain⟨y,Rt,WL⟩:=hy.get hb;have px:(part f.type cx f.offset).run P w= .ok x w:=by
        rw[<-ht, <-ho];simp at hx1;simp[part,wM,hx1]
    have py:(part f.type cy f.offset).run P w= .ok y w:=by
        rw[<-ht, <-ho];simp at Rt;simp[part,wM,Rt]
    simp only[Op.eqFields,Sem.run_bind,Sem.run_ite,cA,px,py,Result.andThen_ok,ne_eq,Zm9,Zg7];split at h
    .   rename_i he;rw[<-ht,aby hd Lh Zz WL he w];simpa using Rs (m:=m) hT hm' hl' hx hy h w
    .   rename_i he;simp only[H0]at h;subst h;rw[<-ht,aby hd Lh Zz WL he w];simp
    .   cases h
def ako(tt:TT)(op:BinOp)(q:fM)(t:TypeId):Prop:=Cn tt t=some q\/(q= .num/\op≠ .eql/\op≠ .neq)
def am4(P:Program)(tt:TT)(t:TypeId):fM->Prop
 |.num=>True
 |.bool=>P.underlying t=some .bool
 |.ptr=>∃e,P.underlying t=some (.pointer e)/\∃j,P.info? e=some j
 |.slice=>∃e,P.underlying t=some (.slice e)
 |.map=>∃k e,P.underlying t=some (.map k e)
 |.func=>∃a b c,P.underlying t=some (.func a b c)
 |.iface=>∃a,P.underlying t=some (.interface a)
 |.struct l=>∃fs gs,P.underlying t=some (.struct gs)/\b9.eO fs gs.toList=true/\Cn.fields tt fs=some l/\P.stoodInHeld t=false/\P.eqGuardType P.depth t=false
theorem aei(hT:cQ P tt){t:TypeId}{q:fM}(hq:Cn tt t=some q):am4 P tt t q:=by
 unfold Cn at hq;split at hq<;>first|(cases hq;done)|skip
 rename_i ti fA;obtain⟨d,hd,dD⟩:=(hT.at fA).und;split at hq<;>first|(cases hq;done)|skip
 all_goals rename_i hk
 all_goals rw[hk]at dD
 .simp only[H0]at hq;subst hq;rw[Yx dD]at hd;exact hd
 .simp only[H0]at hq;subst hq;trivial
 .simp only[H0]at hq;subst hq;trivial
 .simp only[H0]at hq;subst hq;rw[amj dD]at hd;exact⟨_,hd,(hT.at fA).elem _ hk⟩
 .simp only[H0]at hq;subst hq;rw[rj dD]at hd;exact⟨_,hd⟩
 .simp only[H0]at hq;subst hq;rw[Ro dD]at hd;exact⟨_,_,hd⟩
 .simp only[H0]at hq;subst hq;obtain⟨_,_,_,rfl⟩:=akN dD;exact⟨_,_,_,hd⟩
 .simp only[H0]at hq;subst hq;obtain⟨_,rfl⟩:=aij dD;exact⟨_,hd⟩
 . (split at hq<;>first|(cases hq;done)|skip);rename_i fs _ _ l hp hl;simp only[H0]at hq;subst hq;obtain⟨gs,rfl,hm⟩:=J7 dD;exact⟨fs,gs,hd,hm,hl,(hT.at fA).eqs hp⟩
theorem ae6(m:Nat)(hT:cQ P tt){t:TypeId}{q:fM}(hq:Cn tt t=some q){a b:AV}{x y:Value}{r:Bool}(ha:aC ρ n C a x)(hb:aC ρ n C b y)(h:Le q a b=some r)(w:World):
   (Op.equalIn (m+1+1) t x y).run P w= .ok r w:=by
 have hi:=aei hT hq;clear hq;unfold Le at h;split at h<;>first|(cases h;done)|skip
 .simp only[H0]at h;subst h;rw[ha.kD,hb.kD,run_equalIn_bool' w _ t _ _ hi]
 all_goals first
   |(simp only[H0]at h;subst h)
   |skip
 .obtain⟨e,hd,_⟩:=hi;rw[ha.Ei,hb.Ei];(unfold Op.equalIn;rw[Sem.run_bind,bB hd];rfl)
 .obtain⟨e,hd,_⟩:=hi;obtain⟨_,hb⟩:=hb.o9;rw[ha.Ei,hb];(unfold Op.equalIn;rw[Sem.run_bind,bB hd];rfl)
 .obtain⟨e,hd,_⟩:=hi;obtain⟨_,ha⟩:=ha.o9;rw[hb.Ei,ha];(unfold Op.equalIn;rw[Sem.run_bind,bB hd];rfl)
 .obtain⟨e,hd,_⟩:=hi;obtain⟨_,_,_,_,hb,_⟩:=hb.Mr;rw[ha.Ei,hb];(unfold Op.equalIn;rw[Sem.run_bind,bB hd];rfl)
 .obtain⟨e,hd,_⟩:=hi;obtain⟨_,_,_,_,ha,_⟩:=ha.Mr;rw[hb.Ei,ha];(unfold Op.equalIn;rw[Sem.run_bind,bB hd];rfl)
 .obtain⟨e,hd,j,hj⟩:=hi;(split at h<;>first|(cases h;done)|skip);rename_i e1 e2;have e1:=Pos.beq_eq.1 e1;have e2:=Za7 e2;subst e1;subst e2;simp only[H0]at h;subst h;obtain⟨_,ha⟩:=ha.o9;obtain⟨_,hb⟩:=hb.o9;rw[ha,hb];simp[Op.equalIn,bB hd,sizeOf,typeInfo,hj,run_sameAddr_same]
 .obtain⟨e,hd⟩:=hi;rw[ha.gZ,hb.gZ];(unfold Op.equalIn;rw[Sem.run_bind,bB hd];rfl)
 .obtain⟨e,hd⟩:=hi;obtain⟨_,_,hb,_⟩:=hb.ff;rw[ha.gZ,hb];(unfold Op.equalIn;rw[Sem.run_bind,bB hd];rfl)
 .obtain⟨e,hd⟩:=hi;obtain⟨_,_,ha,_⟩:=ha.ff;rw[hb.gZ,ha];(unfold Op.equalIn;rw[Sem.run_bind,bB hd];rfl)
 .obtain⟨e,hd⟩:=hi;obtain⟨_,_,_,hb,_⟩:=hb.xN;rw[ha.gZ,hb];(unfold Op.equalIn;rw[Sem.run_bind,bB hd];rfl)
 .obtain⟨e,hd⟩:=hi;obtain⟨_,_,_,ha,_⟩:=ha.xN;rw[hb.gZ,ha];(unfold Op.equalIn;rw[Sem.run_bind,bB hd];rfl)
 .obtain⟨k,e,hd⟩:=hi;rw[ha.Ej,hb.Ej];(unfold Op.equalIn;rw[Sem.run_bind,bB hd];rfl)
 .obtain⟨k,e,hd⟩:=hi;obtain⟨_,hb⟩:=hb.Bn;rw[ha.Ej,hb];(unfold Op.equalIn;rw[Sem.run_bind,bB hd];rfl)
 .obtain⟨k,e,hd⟩:=hi;obtain⟨_,ha⟩:=ha.Bn;rw[hb.Ej,ha];(unfold Op.equalIn;rw[Sem.run_bind,bB hd];rfl)
 .obtain⟨_,_,_,hd⟩:=hi;rw[ha.N5,hb.N5];(unfold Op.equalIn;rw[Sem.run_bind,bB hd];rfl)
 .obtain⟨_,_,_,hd⟩:=hi;obtain⟨_,_,hb,_⟩:=hb.NT;rw[ha.N5,hb];(unfold Op.equalIn;rw[Sem.run_bind,bB hd];rfl)
 .obtain⟨_,_,_,hd⟩:=hi;obtain⟨_,_,ha,_⟩:=ha.NT;rw[hb.N5,ha];(unfold Op.equalIn;rw[Sem.run_bind,bB hd];rfl)
 .obtain⟨_,hd⟩:=hi;obtain⟨_,hb,_⟩:=hb.Zy;rw[ha.abx,hb];(unfold Op.equalIn;rw[Sem.run_bind,bB hd];rfl)
 .obtain⟨_,hd⟩:=hi;obtain⟨_,ha,_⟩:=ha.Zy;rw[hb.abx,ha];(unfold Op.equalIn;rw[Sem.run_bind,bB hd];rfl)
 .obtain⟨fs,gs,hd,hm,hl,hp,_⟩:=hi;obtain⟨cx,rfl,hx⟩:=ha.Eg;obtain⟨cy,rfl,hy⟩:=hb.Eg;have hfo:P.fieldsOf t=gs:=(by simp[Program.fieldsOf,hd]);rw[run_equalIn_agg w (m+1) t cx cy (by rw[hfo,hd]) hp,hfo];exact Rs (m:=m) hT hm hl hx hy h w
theorem abz(hT:cQ P tt){t:TypeId}{q:fM}(hq:Cn tt t=some q){a b:AV}{x y:Value}{r:Bool}(ha:aC ρ n C a x)(hb:aC ρ n C b y)(h:Le q a b=some r)(w:World):
 (Op.equal t x y).run P w= .ok r w:=ae6 9998 hT hq ha hb h w
theorem WM(hT:cQ P tt){t:TypeId}{q:fM}(hq:Cn tt t=some q){a b:AV}{x y:Value}{r:Bool}(ha:aC ρ n C a x)(hb:aC ρ n C b y)(h:Le q a b=some r)(op:BinOp)(ox oy:Operand)(w:World):
  (eqGuard op t ox oy x y).run P w= .ok () w:=by
 have hi:=aei hT hq;clear hq;unfold Le at h;split at h<;>first|(cases h;done)|skip
 all_goals first
  |(obtain⟨fs,gs,hd,hm,hl,hp,hg⟩:=hi
    obtain⟨cx,rfl,hx⟩:=ha.Eg;obtain⟨cy,rfl,hy⟩:=hb.Eg;exact run_eqGuard_agg w op t ox oy cx cy hg)
  |(cases ha<;>cases hb<;>cases op<;>rfl)
end
section
variable{P:Program}{tt:TT}{ρ:Pos->Loc}{C:Cells}{st:St}{w:World}{n:Nat}
theorem aaw(op:BinOp)(t:TypeId)(k:IntKind)(i j:Int)(hs:op≠ .shl)(hr:op≠ .shr):(binOp op t (.int k i) (.int k j)).run P w=
  (match op with
   |.add|.sub|.mul=>Op.intArith op k i j
   |.quo|.rem=>Op.intDiv op k i j
   |.and|.or|.xor|.andNot=>Op.intBits op k i j
   |_=>Op.intCmp op i j).run P w:=by
 cases op<;>first|(exact absurd rfl hs)|(exact absurd rfl hr)|simp[binOp]
theorem ail(hT:cQ P tt){op:BinOp}{t:TypeId}{q:fM}(hq:ako tt op q t){a b v:AV}{x y:Value}(ha:aC ρ n C a x)(hb:aC ρ n C b y)(h:pE op q a b=some v)(ox oy:Operand):
  ∃z,(do eqGuard op t ox oy x y;binOp op t x y:Sem Value).run P w= .ok z w/\aC ρ n C v z:=by
 unfold pE at h;split at h
 ·
  rename_i k i k' j;rw[ha.gX,hb.gX];have hg:∀op,(eqGuard op t ox oy (.int k i) (.int k' j)).run P w= .ok () w:=by intro op;cases op<;>rfl
  rw[Sem.run_bind,hg,Result.andThen_ok];split at h
  . split at h
    .   cases h
    .   rename_i aW;rw[eW]at aW;have aW:=Zm5 aW;simp only[H0]at h;subst h;exact⟨_,by simp[binOp,Op.shift,aW,xO],.int _ _⟩
  . split at h
    .   cases h
    .   rename_i aW;rw[eW]at aW;have aW:=Zm5 aW;simp only[H0]at h;subst h;exact⟨_,by simp[binOp,Op.shift,aW],.int _ _⟩
  . rename_i hs hr;split at h
    .   cases h
    .   rename_i hk;have:=Bm hk;subst this;rw[aaw op t k i j (λe=>hs e) (λe=>hr e)];split at h
        .simp only[H0]at h;subst h;exact⟨_,by simp[Op.intArith,xO],.int _ _⟩
        .simp only[H0]at h;subst h;exact⟨_,by simp[Op.intArith,xO],.int _ _⟩
        .simp only[H0]at h;subst h;exact⟨_,by simp[Op.intArith,xO],.int _ _⟩
        . split at h
          .cases h
          . (rename_i h0;rw[pI]at h0;have h0':¬j=0:=by simpa using h0);simp only[H0]at h;subst h;exact⟨_,by simp[Op.intDiv,h0',xO],.int _ _⟩
        . split at h
          .cases h
          . (rename_i h0;rw[pI]at h0;have h0':¬j=0:=by simpa using h0);simp only[H0]at h;subst h;exact⟨_,by simp[Op.intDiv,h0'],.int _ _⟩
        .simp only[H0]at h;subst h;exact⟨_,by simp[Op.intBits],.int _ _⟩
        .simp only[H0]at h;subst h;exact⟨_,by simp[Op.intBits],.int _ _⟩
        .simp only[H0]at h;subst h;exact⟨_,by simp[Op.intBits],.int _ _⟩
        .simp only[H0]at h;subst h;exact⟨_,by simp[Op.intBits],.int _ _⟩
        .simp only[H0]at h;subst h;exact⟨_,by simp[Op.intCmp,pI],.bool _⟩
        .simp only[H0]at h;subst h;refine⟨_,rfl,?_⟩;rw[pI];exact .bool _
        .simp only[H0]at h;subst h;refine⟨_,rfl,?_⟩;rw[eW];exact .bool _
        .simp only[H0]at h;subst h;refine⟨_,rfl,?_⟩;rw[jP];exact .bool _
        .simp only[H0]at h;subst h;refine⟨_,rfl,?_⟩;rw[eW];exact .bool _
        .simp only[H0]at h;subst h;refine⟨_,rfl,?_⟩;rw[jP];exact .bool _
        .cases h
 ·
  rename_i s u;obtain⟨bx,rfl,h1⟩:=ha.eR;obtain⟨bz,rfl,h2⟩:=hb.eR;have hg:∀op,(eqGuard op t ox oy (.string bx) (.string bz)).run P w= .ok () w:=by intro op;cases op<;>rfl
  rw[Sem.run_bind,hg,Result.andThen_ok];have hs:(binOp op t (.string bx) (.string bz)).run P w=(Op.stringOp op bx bz).run P w:=by cases op<;>rfl
  rw[hs];have e1:=Mt h1 h2;have e2:=VJ h1 h2;split at h
  . split at h
    .   rename_i hb;have hb:=Za9 hb;simp only[H0]at h;subst h;have oY:¬(((bx.size+bz.size:Nat):Int)>IntKind.i64.max):=(by rw[H8 h1,H8 h2];simp[IntKind.max,IntKind.signed,IntKind.bits];omega);refine⟨.string (bx++bz),?_,.str _ _ ?_⟩
        .simp only[Op.stringOp];rw[Zb2 oY];rfl
        .rw[ByteArray.data_append,Array.toList_append,Ze2,h1,h2]
    .   cases h
  all_goals first|(cases h;done)|skip
  all_goals
    simp only[H0]at h;subst h;refine⟨_,rfl,?_⟩
    first|rw[e1,e2]|rw[e1]|rw[e2]
    exact .bool _
 ·
  rename_i hni hns;have abe:∀op,(op= .eql\/op= .neq)->(binOp op t x y).run P w=((Op.equal t x y).run P w).andThen λr w'=>.ok (.bool (if op= .eql then r else !r)) w':=by
    rintro op (rfl|rfl)
    all_goals
        cases ha<;>cases hb<;>first
          |(exact(hni _ _ _ _ rfl rfl).elim)
          |(exact(hns _ _ rfl rfl).elim)
          |simp[binOp]
  split at h
  . split at h
    .   rename_i r hr;simp only[H0]at h;subst h;rcases hq with hq|⟨_,hq,_⟩
        .refine⟨.bool r,?_,.bool r⟩;rw[Sem.run_bind,WM hT hq ha hb hr,Result.andThen_ok,abe _ (.inl rfl),abz hT hq ha hb hr];rfl
        .exact absurd rfl hq
    .   cases h
  . split at h
    .   rename_i r hr;simp only[H0]at h;subst h;rcases hq with hq|⟨_,_,hq⟩
        .refine⟨.bool (!r),?_,.bool _⟩;rw[Sem.run_bind,WM hT hq ha hb hr,Result.andThen_ok,abe _ (.inr rfl),abz hT hq ha hb hr];rfl
        .exact absurd rfl hq
    .   cases h
  .cases h
end
def eS(P:Program)(tt:TT)(op:Op):Prop:=
 ∀  (ρ:Pos->Loc)(C:Cells)(st:St)(w:World)(k:aJ)(xs:List gO)(cls:Cls)(fr:Fr)(a:Act)(o:Oper)(vs:List AV)(res:eH),
    o.op=op->jV tt op=some (k,xs,cls)->bS ρ C st w->kC ρ st.next.toNat C fr a.tmps->fE fr xs=some vs->
    k.run (λb=>st.heap.get b) st.next vs=some res->EN P ρ C st w ((execOp a.eval o).run P w) res
section
variable{P:Program}{tt:TT}
theorem Yy{ρ:Pos->Loc}{n:Nat}{C:Cells}{x y:Operand}{os:List gO}{fr:Fr}{a:Act}{vs:List AV}(h:lM [x,y]=some os)(hF:kC ρ n C fr a.tmps)(hv:fE fr os=some vs):
  ∃u v,vs=[u,v]/\aC ρ n C u (a.eval x)/\aC ρ n C v (a.eval y):=by
 have h1:=iC h hF hv;cases vs with
 |nil=>have:=h1.1;simp at this
 |cons u vs=>
  cases vs with
  |nil=>have:=h1.1;simp at this
  |cons v vs=>
   cases vs with
   |nil=>exact⟨u,v,rfl,h1.2 0 u _ rfl rfl,h1.2 1 v _ rfl rfl⟩
   |cons z vs=>have:=h1.1;simp at this
theorem evs3{ρ:Pos->Loc}{n:Nat}{C:Cells}{x y z:Operand}{os:List gO}{fr:Fr}{a:Act}{vs:List AV}(h:lM [x,y,z]=some os)(hF:kC ρ n C fr a.tmps)(hv:fE fr os=some vs):
  ∃u v q,vs=[u,v,q]/\aC ρ n C u (a.eval x)/\aC ρ n C v (a.eval y)/\aC ρ n C q (a.eval z):=by
 have h1:=iC h hF hv
 match vs,h1 with
 |[u,v,q],h1=>exact⟨u,v,q,rfl,h1.2 0 u _ rfl rfl,h1.2 1 v _ rfl rfl,h1.2 2 q _ rfl rfl⟩
 |[],h1=>have:=h1.1;simp at this
 |[_],h1=>have:=h1.1;simp at this
 |[_,_],h1=>have:=h1.1;simp at this
 |_::_::_::_::_,h1=>have:=h1.1;simp at this
theorem aim(x:Operand):eS P tt (.move x):=by
 intro ρ C st w k xs cls fr a o vs res ho hc hW hF hx hr;simp only[jV]at hc;split at hc<;>first|(cases hc;done)|skip
 rename_i b hb;cases hc;obtain⟨v,rfl,hv⟩:=kM hb hF hx;simp only[aJ.run,TD,H0]at hr;subst hr;exact .pure (by simp[execOp,ho]) hv
theorem ae7(x:Operand):eS P tt (.assign x):=by
 intro ρ C st w k xs cls fr a o vs res ho hc hW hF hx hr;simp only[jV]at hc;split at hc<;>first|(cases hc;done)|skip
 rename_i b hb;cases hc;obtain⟨v,rfl,hv⟩:=kM hb hF hx;simp only[aJ.run,TD,H0]at hr;subst hr;exact .pure (by simp[execOp,ho]) hv
theorem ain(c x y:Operand):eS P tt (.pick c x y):=by
 intro ρ C st w k xs cls fr a o vs res ho hc hW hF hx hr;simp only[jV]at hc;split at hc<;>first|(cases hc;done)|skip
 rename_i l hl;cases hc;obtain⟨u,v,q,rfl,h1,h2,h3⟩:=evs3 hl hF hx;simp only[aJ.run,Yt]at hr;split at hr<;>first|(cases hr;done)|skip
 all_goals
   simp only[H0]at hr;subst hr;have h1:=h1.kD
 .exact .pure (by simp[execOp,ho,h1,asBool]) h2
 .exact .pure (by simp[execOp,ho,h1,asBool]) h3
theorem agA(hT:cQ P tt)(op:BinOp)(t:TypeId)(x y:Operand)(yt:TypeId):eS P tt (.binOp op t x y yt):=by
 intro ρ C st w k xs cls fr a o vs res ho hc hW hF hx hr;have key:∃q,ako tt op q t/\k= .bin op q/\lM [x,y]=some xs:=by
  simp only[jV]at hc;split at hc
  .rename_i q l hq hl;cases hc;exact⟨q,.inl hq,rfl,hl⟩
  .rename_i l hq hl;(split at hc<;>first|(cases hc;done)|skip);rename_i h1 h2;cases hc;exact⟨.num,.inr ⟨rfl,λe=>h1 e,λe=>h2 e⟩,rfl,hl⟩
  .cases hc
 obtain⟨q,hq,rfl,hl⟩:=key;obtain⟨u,v,rfl,h1,h2⟩:=Yy hl hF hx;simp only[aJ.run,jg]at hr;split at hr<;>first|(cases hr;done)|skip
 rename_i r hb;simp only[H0]at hr;subst hr;obtain⟨z,hz,hv⟩:=ail hT hq h1 h2 hb x y (w:=w);refine .pure ?_ hv;simp only[execOp,ho];rw[Sem.run_bind,hz];rfl
theorem aio(op:UnOp)(t:TypeId)(x:Operand):eS P tt (.unOp op t x):=by
 intro ρ C st w k xs cls fr a o vs res ho hc hW hF hx hr;simp only[jV]at hc;split at hc<;>first|(cases hc;done)|skip
 rename_i b hb;cases hc;obtain⟨v,rfl,hv⟩:=kM hb hF hx;simp only[aJ.run,aeY]at hr;split at hr<;>first|(cases hr;done)|skip
 rename_i r hu;simp only[H0]at hr;subst hr;unfold unA at hu;split at hu
 . (split at hu<;>first|(cases hu;done)|skip);simp only[H0]at hu;subst hu;exact .pure (by simp[execOp,ho,hv.kD,Op.unary]) (.bool _)
 . (split at hu<;>first|(cases hu;done)|skip);simp only[H0]at hu;subst hu;exact .pure (by simp[execOp,ho,hv.gX,Op.unary,Op.intArith];rfl) (by rw[xO];simpa using aC.int _ _)
 .cases hu
theorem abA(x:Operand):eS P tt (.nilCheck x):=by
 intro ρ C st w k xs cls fr a o vs res ho hc hW hF hx hr;simp only[jV]at hc;split at hc<;>first|(cases hc;done)|skip
 rename_i b hb;cases hc;obtain⟨v,rfl,hv⟩:=kM hb hF hx;simp only[aJ.run,Lf]at hr;split at hr<;>first|(cases hr;done)|skip
 all_goals simp only[H0]at hr;subst hr
 .obtain⟨_,he⟩:=hv.o9;exact .pure (by simp[execOp,ho,he]) hv
 .obtain⟨_,_,_,_,he,_⟩:=hv.Mr;exact .pure (by simp[execOp,ho,he]) hv
 .obtain⟨_,_,he,_⟩:=hv.NT;exact .pure (by simp[execOp,ho,he]) hv
theorem adD(x:Operand)(i:Nat):eS P tt (.extract x i):=by
 intro ρ C st w k xs cls fr a o vs res ho hc hW hF hx hr;simp only[jV]at hc;split at hc<;>first|(cases hc;done)|skip
 rename_i b hb;cases hc;obtain⟨v,rfl,hv⟩:=kM hb hF hx;simp only[aJ.run,G4]at hr;split at hr<;>first|(cases hr;done)|skip
 split at hr<;>first|(cases hr;done)|skip
 rename_i u hu;simp only[H0]at hr;subst hr;obtain⟨cs,he,hs⟩:=hv.Rm;rw[qL]at hu;obtain⟨y,hy,Ru⟩:=hs.get hu;exact .pure (by simp at hy;simp[execOp,ho,he,Instr.extract,hy]) Ru
theorem adE(hT:cQ P tt)(t:TypeId)(x:Operand):eS P tt (.makeInterface t x):=by
 intro ρ C st w k xs cls fr a o vs res ho hc hW hF hx hr;simp only[jV]at hc;split at hc<;>first|(cases hc;done)|skip
 rename_i ti b fA hb;split at hc<;>first|(cases hc;done)|skip
 rename_i h1 h2;cases hc;obtain⟨v,rfl,hv⟩:=kM hb hF hx;simp only[aJ.run,NQ,H0]at hr;subst hr;obtain⟨d,hd,hk⟩:=(hT.at fA).und;refine .pure (x:= .iface t (a.eval x)) ?_ (.iface _ _ _ hv);have hni:∀ms,d≠ .interface ms:=by
  rintro ms rfl;cases J9:ti.k<;>rw[J9]at hk<;>first|(simp[b9]at hk;done)|(exact h1 J9)|(exact h2 J9)
 simp only[execOp,ho,Instr.makeInterface,Sem.run_bind,bB hd,Result.andThen_ok];cases d<;>first|rfl|(exact absurd rfl (hni _))
theorem ae8(fn:Fn)(first captured:Array Operand):eS P tt (.makeFunc fn first captured):=by
 intro ρ C st w k xs cls fr a o vs res ho hc hW hF hx hr;simp only[jV]at hc;split at hc<;>first|(cases hc;done)|skip
 rename_i f l hl;cases hc;have h:=iC hl hF hx;simp only[aJ.run,JZ,H0]at hr;subst hr;have e1:vs.take first.size=vs.take first.size:=rfl
 have h1:=h.take first.size
 have h2:=h.drop first.size
 simp only[Ze2]at h1 h2;rw[Zr2 (by simp)]at h1;rw[List.drop_left' (by simp)]at h2;refine .pure (x:= .func (.func f) (first.map a.eval) (captured.map a.eval)) (by simp[execOp,ho,Instr.makeFunc]) ?_;exact .func _ _ _ _ _ (by simpa using h1.1) (by simpa using h2.1) (λi v v' hv Gd=>h1.2 i v v' hv (by simpa using Gd)) (λi v v' hv Gd=>h2.2 i v v' hv (by simpa using Gd))
theorem aax(hT:cQ P tt)(t:TypeId)(x:Operand)(f:Nat):eS P tt (.fieldAddr t x f):=by
 intro ρ C st w k xs cls fr a o vs res ho hc hW hF hx hr;simp only[jV]at hc;split at hc<;>first|(cases hc;done)|skip
 rename_i ti b fA hb;split at hc<;>first|(cases hc;done)|skip
 rename_i fs hk;split at hc<;>first|(cases hc;done)|skip
 rename_i off ft nm hf;split at hc<;>first|(cases hc;done)|skip
 rename_i fi hfi;split at hc<;>first|(cases hc;done)|skip
 rename_i fC;cases hc;obtain⟨v,rfl,hv⟩:=kM hb hF hx;obtain⟨d,hd,dD⟩:=(hT.at fA).und;rw[hk]at dD;obtain⟨gs,rfl,hm⟩:=J7 dD;obtain⟨g,hg,tU,DS,_⟩:=NY hm hf;simp only at tU DS;obtain⟨i,hi,tV,_⟩:=(hT.at hfi).info;have hs0:¬i.size=0:=by rw[tV];exact Ze6 fC
 simp only[aJ.run,Rj]at hr;split at hr<;>first|(cases hr;done)|skip
 .simp only[H0]at hr;subst hr;obtain⟨aW,he⟩:=hv.o9;refine .pure (x:= .pointer (some ⟨(ρ _).aQ,(ρ _).base+(_+off),none⟩)) ?_ (.ptr _ _ aW);simp at hg;simp[execOp,ho,he,Instr.fieldAt,bB hd,hg,Instr.sureAddr,fieldPlace,DS,lN hi,hs0,sI,tU,Zk0]
 .simp only[H0]at hr;subst hr;obtain⟨es,aQ,base,cell,he,h1,h2,h3⟩:=hv.Mr;rename_i zY i' j';refine .pure (x:= .pointer (some ⟨aQ,base+i'*es+(j'+off),none⟩)) ?_ (.fp _ _ _ es aQ base cell h1 h2 h3);simp at hg;simp[execOp,ho,he,Instr.fieldAt,bB hd,hg,Instr.sureAddr,fieldPlace,DS,lN hi,hs0,sI,tU,Zk0]
theorem lQ{ρ:Pos->Loc}{n:Nat}{C:Cells}{v:AV}{x:Value}{i:Nat}(h:aC ρ n C v x)(hi:zH v=some i):∃k,x= .int k (i:Int):=by
 unfold zH at hi;split at hi<;>first|(cases hi;done)|skip
 split at hi<;>first|(cases hi;done)|skip
 simp only[H0]at hi;subst hi;exact⟨_,h.gX⟩
theorem aay(hT:cQ P tt)(t:TypeId)(x ix:Operand):eS P tt (.indexAddr t x ix):=by
 intro ρ C st w k xs cls fr a o vs res ho hc hW hF hx hr;simp only[jV]at hc;split at hc<;>first|(cases hc;done)|skip
 rename_i ti l fA hl;obtain⟨d,hd,dD⟩:=(hT.at fA).und;obtain⟨u,v,rfl,h1,h2⟩:=Yy hl hF (by
   split at hc<;>first|(cases hc;done)|skip
   all_goals
     (split at hc<;>first|(cases hc;done)|skip);cases hc;exact hx)
 split at hc<;>first|(cases hc;done)|skip
 . rename_i e hk;rw[hk]at dD;rw[rj dD]at hd;(split at hc<;>first|(cases hc;done)|skip);rename_i te nH;cases hc;obtain⟨i0,xP,tV,_⟩:=(hT.at nH).info;simp only[aJ.run,qC]at hr;(split at hr<;>first|(cases hr;done)|skip);rename_i i hi;obtain⟨kk,Ka⟩:=lQ h2 hi;split at hr<;>first|(cases hr;done)|skip
   .rename_i b off len cap es' _;(split at hr<;>first|(cases hr;done)|skip);rename_i aW;have aW:i<len:=(by simpa using aW);simp only[H0]at hr;subst hr;obtain⟨aa,bA,he,hle,_,ha⟩:=h1.ff;obtain⟨hb,rfl,_⟩:=ha (by omega);refine .pure (x:= .pointer (some ⟨(ρ b).aQ,(ρ b).base+(off+i*te.size),none⟩)) ?_ (.ptr _ _ hb);simp[execOp,ho,he,Ka,Instr.indexAt,bB hd,asIntOf,aW,lN xP,sI,tV,Zk0]
   .rename_i zY es' _;(split at hr<;>first|(cases hr;done)|skip);rename_i aW dB;have aW:i<zY.length:=(by simpa using aW);have dB:te.size=es':=Za7 dB;simp only[H0]at hr;subst hr;obtain⟨aa,bA,cell,he,hle,zc,g1,g2,g3⟩:=h1.xN;have zc:=zc (by intro e;rw[e]at aW;simp at aW);obtain⟨ab,ao,asp⟩:=aa;simp only at zc;subst zc;refine .pure (x:= .pointer (some ⟨ab,ao+i*es'+0,none⟩)) ?_ (.fp _ _ _ es' ab ao cell g1 g2 g3);simp[execOp,ho,he,Ka,Instr.indexAt,bB hd,asIntOf,aW,lN xP,sI,tV,dB]
   .rename_i hh;cases hh
 . rename_i m e hk;rw[hk]at dD;rw[abw dD]at hd;(split at hc<;>first|(cases hc;done)|skip);rename_i te nH;cases hc;obtain⟨i0,xP,tV,_⟩:=(hT.at nH).info;simp only[aJ.run,qC]at hr;(split at hr<;>first|(cases hr;done)|skip);rename_i i hi;obtain⟨kk,Ka⟩:=lQ h2 hi;split at hr<;>first|(cases hr;done)|skip
   .rename_i hh;cases hh
   .rename_i hh;cases hh
   .rename_i m' b off hh;cases hh;(split at hr<;>first|(cases hr;done)|skip);rename_i aW;have aW:i<m:=(by simpa using aW);simp only[H0]at hr;subst hr;obtain⟨hb,he⟩:=h1.o9;refine .pure (x:= .pointer (some ⟨(ρ b).aQ,(ρ b).base+(off+i*te.size),none⟩)) ?_ (.ptr _ _ hb);simp[execOp,ho,he,Ka,Instr.indexAt,bB hd,asIntOf,aW,lN xP,sI,tV,Zk0,Instr.sureAddr]
end
section
variable{P:Program}{tt:TT}
theorem agB(hT:cQ P tt)(t:TypeId)(x:Operand)(f:Nat):eS P tt (.field t x f):=by
 intro ρ C st w k xs cls fr a o vs res ho hc hW hF hx hr;simp only[jV]at hc;split at hc<;>first|(cases hc;done)|skip
 rename_i ti b fA hb;split at hc<;>first|(cases hc;done)|skip
 rename_i fs hk;split at hc<;>first|(cases hc;done)|skip
 rename_i off ft nm hf;split at hc<;>first|(cases hc;done)|skip
 rename_i fi hfi;cases hc;obtain⟨v,rfl,hv⟩:=kM hb hF hx;obtain⟨d,hd,dD⟩:=(hT.at fA).und;rw[hk]at dD;obtain⟨gs,rfl,hm⟩:=J7 dD;obtain⟨g,hg,tU,DS,_⟩:=NY hm hf;simp only at tU DS;obtain⟨i,hi,tV,_⟩:=(hT.at hfi).info;obtain⟨fd,hfd,hfk⟩:=(hT.at hfi).und;have wM:=VI hfk w hfd;simp only[aJ.run,VE]at hr;split at hr<;>first|(cases hr;done)|skip
 rename_i cs;obtain⟨cx,he,hs⟩:=hv.Eg;simp at hg;split at hr
 . rename_i hn;(split at hr<;>first|(cases hr;done)|skip);rename_i u hu;simp only[H0]at hr;subst hr;rw[qL]at hu;obtain⟨y,hy,Ru⟩:=hs.get hu;have ae9:fi.k.isAgg=false:=by
     unfold Co at hn;split at hn
     .cases hn
     .assumption
   rw[ae9]at wM;refine .pure (x:=y) ?_ Ru;simp at hy;simp[execOp,ho,he,Instr.field,bB hd,hg,part,DS,wM,asAgg,tU,hy]
 . rename_i m hn;simp only[H0]at hr;subst hr;have ae9:fi.k.isAgg=true/\m=fi.size:=by
     unfold Co at hn;split at hn
     .cases hn;exact⟨by assumption,rfl⟩
     .cases hn
   rw[ae9.1]at wM;refine .pure (x:= .agg (cx.extract off (off+m))) ?_ (.Mp ?_)
   .simp[execOp,ho,he,Instr.field,bB hd,hg,part,DS,wM,asAgg,tU,lN hi,tV,ae9.2]
   .have:=(hs.drop off).take m;simpa [Zo9,List.extract]using this
theorem agC(hT:cQ P tt)(t:TypeId)(x ix:Operand):eS P tt (.index t x ix):=by
 intro ρ C st w k xs cls fr a o vs res ho hc hW hF hx hr;simp only[jV]at hc;split at hc<;>first|(cases hc;done)|skip
 rename_i ti l fA hl;split at hc<;>first|(cases hc;done)|skip
 rename_i hk;cases hc;obtain⟨u,v,rfl,h1,h2⟩:=Yy hl hF hx;obtain⟨d,hd,dD⟩:=(hT.at fA).und;rw[hk]at dD;rw[tT dD]at hd;simp only[aJ.run,TE]at hr;split at hr<;>first|(cases hr;done)|skip
 rename_i s i hi;split at hr<;>first|(cases hr;done)|skip
 rename_i c hcx;simp only[H0]at hr;subst hr;obtain⟨bs,he,hs⟩:=h1.eR;obtain⟨kk,Ka⟩:=lQ h2 hi;rw[qL, <-hs,Zc3]at hcx;obtain⟨b,hb,hbc⟩:=Zi7.1 hcx;have gK:bs[i]? =some b:=by
  obtain⟨aW,tW⟩:=Za4.1 hb;have aik:i<bs.size:=by rw[Zh7]at aW;exact aW
  rw[getElem?_pos bs i aik];congr 1
 refine .pure (x:= .int .u8 (.ofNat c)) ?_ (.int _ _);simp[execOp,ho,he,Ka,Instr.index,bB hd,asIntOf,gK, <-hbc]
theorem aip(hT:cQ P tt)(t:TypeId)(x:Operand):eS P tt (.load t x):=by
 intro ρ C st w k xs cls fr a o vs res ho hc hW hF hx hr;simp only[jV]at hc;split at hc<;>first|(cases hc;done)|skip
 rename_i ti b fA hb;cases hc;obtain⟨v,rfl,hv⟩:=kM hb hF hx;obtain⟨d,hd,dD⟩:=(hT.at fA).und;obtain⟨i,hi,tV,_⟩:=(hT.at fA).info;have wM:=VI dD w hd;have hn:(Co ti=none/\ti.k.isAgg=false)\/(Co ti=some ti.size/\ti.k.isAgg=true):=by unfold Co;split<;>simp_all
 simp only[aJ.run,yX]at hr;split at hr<;>first|(cases hr;done)|skip
 . rename_i bb off;(split at hr<;>first|(cases hr;done)|skip);rename_i cs fz tW;obtain⟨_,he⟩:=hv.o9;rcases hn with⟨hn,hf⟩|⟨hn,hf⟩
   .rw[hn]at hr;rw[hf]at wM;simp only at hr;(split at hr<;>first|(cases hr;done)|skip);rename_i u hu;simp only[H0]at hr;subst hr;rw[qL]at hu;obtain⟨y,hy,Ru⟩:=hW.cell tW hu;refine .pure (x:=y) ?_ Ru;simp[execOp,ho,he,Instr.loadAt,Instr.sureAddr,loadVar,wM,hy]
   .rw[hn]at hr;rw[hf]at wM;simp only at hr;(split at hr<;>first|(cases hr;done)|skip);rename_i us hu;simp only[H0]at hr;subst hr;obtain⟨ys,hy,Ru⟩:=hW.loadCells (P:=P) tW hu;refine .pure (x:= .agg ys.toArray) ?_ (.Mp (by simpa using Ru));simp[execOp,ho,he,Instr.loadAt,Instr.sureAddr,loadVar,wM,lN hi,tV,hy]
 . rename_i zY i' j';(split at hr<;>first|(cases hr;done)|skip);rename_i cs gM;rw[qL]at gM;obtain⟨es,aQ,base,cell,he,g1,g2,g3⟩:=hv.Mr;rcases hn with⟨hn,hf⟩|⟨hn,hf⟩
   .rw[hn]at hr;rw[hf]at wM;simp only at hr;(split at hr<;>first|(cases hr;done)|skip);rename_i u hu;simp only[H0]at hr;subst hr;rw[qL]at hu;have ae5:=(hW.dH _ _ (g2 _ _ _ _ gM hu)).1;refine .pure (x:=cell i' j') ?_ (g3 _ _ _ _ gM hu);simp[execOp,ho,he,Instr.loadAt,Instr.sureAddr,loadVar,wM,ae5]
   . rw[hn]at hr;rw[hf]at wM;simp only at hr;(split at hr<;>first|(cases hr;done)|skip);rename_i us hu;simp only[H0]at hr;subst hr;obtain⟨hus,hle⟩:=WJ hu;have hlen:=N4 hu;have dy:(loadCells ⟨aQ,base+i'*es+j',none⟩ ti.size).run P w= .ok ((List.range ti.size).map λq=>cell i' (j'+q)).toArray w:=by
        (refine run_loadCells w _ _ _ λq hq=> ?_);rw[sI];have:cs[j'+q]? =some (cs[j'+q]'(by omega)):=Za0 (by omega);rw[Zk0];exact(hW.dH _ _ (g2 _ _ _ _ gM this)).1
     refine .pure (x:= .agg ((List.range ti.size).map λq=>cell i' (j'+q)).toArray) ?_ (.Mp ⟨by simp[hlen],λq u y hu' hy=> ?_⟩)
     .  simp[execOp,ho,he,Instr.loadAt,Instr.sureAddr,loadVar,wM,lN hi,tV,dy]
     .  have hq:q<ti.size:=(by rw[<-hlen];exact(Za4.1 hu').1);rw[hus,Zd7,Zb5 hq,Zf5]at hu';simp[hq]at hy;subst hy;exact g3 _ _ _ _ gM hu'
theorem aiq{x y:Value}{ρ:Pos->Loc}{n:Nat}{C:Cells}{u v r:AV}{w:World}{st:St}(h1:aC ρ n C u x)(h2:aC ρ n C v y)(hr:HA (λb=>st.heap.get b) st.next [u,v]=some (.val r)):
   ∃z,(Builtin.min2 x y).run P w= .ok z w/\aC ρ n C r z:=by
 simp only[HA]at hr;split at hr<;>first|(cases hr;done)|skip
 . simp only[H0,eH.val.injEq]at hr;subst hr;rw[h1.gX,h2.gX];refine⟨_,rfl,?_⟩;rw[eW];split
   .rename_i h;rw[Zb5 (Zi1 h)];exact .int _ _
   .rename_i h;rw[Zb2 (Zm5 h)];exact .int _ _
 . simp only[H0,eH.val.injEq]at hr;subst hr;rename_i sa sb;obtain⟨bx,rfl,e1⟩:=h1.eR;obtain⟨bz,rfl,e2⟩:=h2.eR;have hh:(Op.stringOp .leq bx bz).run P w= .ok (.bool (aL sa sb||kL sa sb)) w:=by
     simp only[Op.stringOp,Sem.run_pure];rw[VJ e1 e2,Mt e1 e2]
   refine⟨_,by simp only[Builtin.min2,Sem.run_bind,hh,Result.andThen_ok,asBool,Sem.run_pure];rfl,?_⟩;split
   .rename_i h;rw[Zb5 h];exact .str _ _ e1
   .rename_i h;rw[Zb2 (by rw[h];simp)];exact .str _ _ e2
theorem air{x y:Value}{ρ:Pos->Loc}{n:Nat}{C:Cells}{u v r:AV}{w:World}{st:St}(h1:aC ρ n C u x)(h2:aC ρ n C v y)(hr:HC (λb=>st.heap.get b) st.next [u,v]=some (.val r)):
   ∃z,(Builtin.max2 x y).run P w= .ok z w/\aC ρ n C r z:=by
 simp only[HC]at hr;split at hr<;>first|(cases hr;done)|skip
 . simp only[H0,eH.val.injEq]at hr;subst hr;rw[h1.gX,h2.gX];refine⟨_,rfl,?_⟩;rw[eW];split
   .rename_i h;rw[Zb5 (Zi1 h)];exact .int _ _
   .rename_i h;rw[Zb2 (Zm5 h)];exact .int _ _
 . simp only[H0,eH.val.injEq]at hr;subst hr;rename_i sa sb;obtain⟨bx,rfl,e1⟩:=h1.eR;obtain⟨bz,rfl,e2⟩:=h2.eR;have hh:(Op.stringOp .geq bx bz).run P w= .ok (.bool (!aL sa sb)) w:=by
     simp only[Op.stringOp,Sem.run_pure];rw[VJ e1 e2]
   refine⟨_,by simp only[Builtin.max2,Sem.run_bind,hh,Result.andThen_ok,asBool,Sem.run_pure];rfl,?_⟩;split
   .rename_i h;rw[Zb2 (by rw[h];simp)];exact .str _ _ e2
   .rename_i h;rw[Zb5 (by rw[h];rfl)];exact .str _ _ e1
theorem nI(xs:Array Operand)(a:Act):xs.toList.map a.eval=(xs.map a.eval).toList:=by simp
end
section
variable{P:Program}{tt:TT}
theorem vs1{ρ:Pos->Loc}{n:Nat}{C:Cells}{bs:List AV}{x:Value}(h:aI ρ n C bs [x]):∃b,bs=[b]/\aC ρ n C b x:=by
 match bs,h with
 |[b],h=>exact⟨b,rfl,h.2 0 b x rfl rfl⟩
 |[],h=>have:=h.1;simp at this
 |_::_::_,h=>have:=h.1;simp at this
theorem vs2{ρ:Pos->Loc}{n:Nat}{C:Cells}{bs:List AV}{x y:Value}(h:aI ρ n C bs [x,y]):∃b c,bs=[b,c]/\aC ρ n C b x/\aC ρ n C c y:=by
 match bs,h with
 |[b,c],h=>exact⟨b,c,rfl,h.2 0 b x rfl rfl,h.2 1 c y rfl rfl⟩
 |[],h=>have:=h.1;simp at this
 |[_],h=>have:=h.1;simp at this
 |_::_::_::_,h=>have:=h.1;simp at this
theorem vs3{ρ:Pos->Loc}{n:Nat}{C:Cells}{bs:List AV}{x y z:Value}(h:aI ρ n C bs [x,y,z]):∃b c d,bs=[b,c,d]/\aC ρ n C b x/\aC ρ n C c y/\aC ρ n C d z:=by
 match bs,h with
 |[b,c,d],h=>exact⟨b,c,d,rfl,h.2 0 b x rfl rfl,h.2 1 c y rfl rfl,h.2 2 d z rfl rfl⟩
 |[],h=>have:=h.1;simp at this
 |[_],h=>have:=h.1;simp at this
 |[_,_],h=>have:=h.1;simp at this
 |_::_::_::_::_,h=>have:=h.1;simp at this
def H9(x:Option Value)(i:Option Nat):Prop:=(x=none/\i=none)\/∃j k,i=some j/\x=some (.int k (j:Int))
theorem WN{ρ:Pos->Loc}{n:Nat}{C:Cells}{lo hi mx:Option Operand}{bs:List AV}{a:Act}{l h m:Option Nat}
   (hb:aI ρ n C bs ((Cp lo++Cp hi++Cp mx).map a.eval)) (hr:bounds lo.isSome hi.isSome mx.isSome bs=some (l,h,m)):
   H9 (lo.map a.eval) l/\H9 (hi.map a.eval) h/\H9 (mx.map a.eval) m/\(m.isSome=true->h.isSome=true):=by
 unfold bounds at hr
 cases lo<;>cases hi<;>cases mx<;>simp only[Option.isSome_some,Option.isSome_none,Cp,Zg3,Zd4,Ze3,Zb1,Zd5]at hb hr<;>
   first|(cases hr;done)|skip
 . cases bs with
   |cons b bs=>have:=hb.1;simp at this
   |nil=>simp at hr;obtain⟨rfl,rfl,rfl⟩:=hr;exact⟨.inl ⟨rfl,rfl⟩,.inl ⟨rfl,rfl⟩,.inl ⟨rfl,rfl⟩,λh=>by cases h⟩
 .obtain⟨b,rfl,h1⟩:=vs1 hb;simp only at hr;(split at hr<;>first|(cases hr;done)|skip);rename_i j hj;obtain⟨k,hk⟩:=lQ h1 hj;simp at hr;obtain⟨rfl,rfl,rfl⟩:=hr;exact⟨.inl ⟨rfl,rfl⟩,.inr ⟨j,k,rfl,by simp[hk]⟩,.inl ⟨rfl,rfl⟩,λh=>by cases h⟩
 .obtain⟨b,c,rfl,h1,h2⟩:=vs2 hb;simp only at hr;(split at hr<;>first|(cases hr;done)|skip);rename_i j j' hj J8;obtain⟨k,hk⟩:=lQ h1 hj;obtain⟨k',qM⟩:=lQ h2 J8;simp at hr;obtain⟨rfl,rfl,rfl⟩:=hr;exact⟨.inl ⟨rfl,rfl⟩,.inr ⟨j,k,rfl,by simp[hk]⟩,.inr ⟨j',k',rfl,by simp[qM]⟩,λ_=>rfl⟩
 .obtain⟨b,rfl,h1⟩:=vs1 hb;simp only at hr;(split at hr<;>first|(cases hr;done)|skip);rename_i j hj;obtain⟨k,hk⟩:=lQ h1 hj;simp at hr;obtain⟨rfl,rfl,rfl⟩:=hr;exact⟨.inr ⟨j,k,rfl,by simp[hk]⟩,.inl ⟨rfl,rfl⟩,.inl ⟨rfl,rfl⟩,λh=>by cases h⟩
 .obtain⟨b,c,rfl,h1,h2⟩:=vs2 hb;simp only at hr;(split at hr<;>first|(cases hr;done)|skip);rename_i j j' hj J8;obtain⟨k,hk⟩:=lQ h1 hj;obtain⟨k',qM⟩:=lQ h2 J8;simp at hr;obtain⟨rfl,rfl,rfl⟩:=hr;exact⟨.inr ⟨j,k,rfl,by simp[hk]⟩,.inr ⟨j',k',rfl,by simp[qM]⟩,.inl ⟨rfl,rfl⟩,λh=>by cases h⟩
 .obtain⟨b,c,d,rfl,h1,h2,h3⟩:=vs3 hb;simp only at hr;(split at hr<;>first|(cases hr;done)|skip);rename_i j j' j'' hj J8 hj'';obtain⟨k,hk⟩:=lQ h1 hj;obtain⟨k',qM⟩:=lQ h2 J8;obtain⟨k'',hk''⟩:=lQ h3 hj'';simp at hr;obtain⟨rfl,rfl,rfl⟩:=hr;exact⟨.inr ⟨j,k,rfl,by simp[hk]⟩,.inr ⟨j',k',rfl,by simp[qM]⟩,.inr ⟨j'',k'',rfl,by simp[hk'']⟩,λ_=>rfl⟩
theorem DT(isS:Bool){len cap:Nat}{xl xh xm:Option Value}{l h m:Option Nat}(h1:H9 xl l)(h2:H9 xh h)(h3:H9 xm m)(hmh:m.isSome=true->h.isSome=true)
  (Mu:l.getD 0<=h.getD len) (hhm:h.getD len<=m.getD cap) (hmc:m.getD cap<=cap) (w:World):
  (Instr.sliceBounds isS len cap xl xh xm).run P w= .ok (l.getD 0,h.getD len,m.getD cap) w:=by
 rcases h1 with⟨rfl,rfl⟩|⟨jl,kl,rfl,rfl⟩<;>rcases h2 with⟨rfl,rfl⟩|⟨jh,kh,rfl,rfl⟩<;>rcases h3 with⟨rfl,rfl⟩|⟨jm,km,rfl,rfl⟩<;>
  simp only[Zq6,Zj8,Option.isSome_some,Option.isSome_none]at Mu hhm hmc hmh ⊢ <;>
  first
   |(simp at hmh;done)
   |simp[Instr.sliceBounds,Instr.sliceBound,asIntOf,Mu,hhm,hmc,Int.ofNat_le]
theorem Kb{ρ:Pos->Loc}{n:Nat}{C:Cells}{b:Pos}{off es bA l h M:Nat}{aa:Addr}{ais:Option Nat}
   (ha:bA≠0->b.toNat<n/\aa=⟨(ρ b).aQ,(ρ b).base+off,none⟩/\(ρ b).base+off+bA*es<=(ρ b).size)
   (h1:l<=h) (h2:h<=M) (h3:M<=bA) (hc:∀c,ais=some c->c=M - l) (hk:ais=none->b.toNat<n):
   aC ρ n C (.slice b (off+l*es) (h - l) ais es) (.slice (if M=l then some aa else(some aa).map (·.add (l*es))) (h - l) (M - l)):=by
 by_cases hm:M=l
 .rw[Zb5 hm];exact .slice _ _ _ _ _ _ _ (by omega) hc (λh0=>absurd (by omega) h0) hk
 .rw[Zb2 hm];obtain⟨hb,rfl,hle⟩:=ha (by omega);refine .slice _ _ _ _ _ _ _ (by omega) hc (λ_=>⟨hb,by show Addr.add _ _=_;rw[sI,Zk0],?_⟩) hk;have e1:l*es+(M - l)*es=M*es:=(by rw[<-Zj0];congr 1;omega);have e2:M*es<=bA*es:=Zi3 _ h3;omega
theorem agD(hT:cQ P tt)(t:TypeId)(x:Operand)(lo hi mx:Option Operand):eS P tt (.slice t x lo hi mx):=by
 intro ρ C st w k xs cls fr a o vs res ho hc hW hF hx hr;simp only[jV]at hc;split at hc<;>first|(cases hc;done)|skip
 rename_i ti l0 fA hl;obtain⟨d,hd,dD⟩:=(hT.at fA).und;split at hc<;>first|(cases hc;done)|skip
 . rename_i hk;rw[hk]at dD;rw[tT dD]at hd;(split at hc<;>first|(cases hc;done)|skip);cases hc;have hv:=iC hl hF hx;simp only[Cp,Zd4,Ze3,Zg3,Zb1]at hv;simp only[aJ.run,Ri]at hr;(split at hr<;>first|(cases hr;done)|skip);rename_i u bs;(split at hr<;>first|(cases hr;done)|skip);rename_i s l h m' hb;(split at hr<;>first|(cases hr;done)|skip);rename_i h1 h2;have h1:=Za9 h1;have h2:=Za9 h2;simp only[H0]at hr;subst hr;obtain⟨y,ys,xK,hu,Ia⟩:=hv.cons_inv;simp only[Zh1]at xK;obtain⟨rfl,rfl⟩:=xK;have tW:=WN (lo:=lo) (hi:=hi) (mx:=none) (a:=a) (by simpa [Cp]using Ia) hb;obtain⟨bs',he,hs⟩:=hu.eR;have fC:=H8 hs
   have dy:=DT (P:=P) false (len:=bs'.size) (cap:=bs'.size) tW.1 tW.2.1 (.inl ⟨rfl,rfl⟩:H9 none none) (λh=>by cases h)
     (by rw[fC];exact h1) (by rw[fC];simpa using h2) (by simp) w
   refine .pure (x:= .string (bs'.extract (l.getD 0) (h.getD bs'.size))) ?_ (.str _ _ ?_)
   .simp only[execOp,ho,Instr.sliceAt,Sem.run_bind,bB hd,Result.andThen_ok,he,Instr.slice];simp[dy]
   .rw[fC,ByteArray.data_extract,Zo9, <-hs,List.extract,Zo6,List.map_drop];rw[Zq0]
 . rename_i e hk;rw[hk]at dD;rw[rj dD]at hd;(split at hc<;>first|(cases hc;done)|skip);rename_i te nH;cases hc;obtain⟨i0,xP,tV,_⟩:=(hT.at nH).info;have hv:=iC hl hF hx;simp only[Ze3,Zg3,Zg4,Zb1]at hv;simp only[aJ.run,qI]at hr;(split at hr<;>first|(cases hr;done)|skip);rename_i u bs;obtain⟨y,ys,xK,hu,Ia⟩:=hv.cons_inv;simp only[Zh1]at xK;obtain⟨rfl,rfl⟩:=xK
   have tU:∀(sa:Option Addr)(len cap:Nat)(l h m:Option Nat),a.eval x= .slice sa len cap->bounds lo.isSome hi.isSome mx.isSome bs=some (l,h,m)->
        l.getD 0<=h.getD len->h.getD len<=m.getD cap->m.getD cap<=cap->
        (execOp a.eval o).run P w= .ok (.value (.slice (if m.getD cap=l.getD 0 then sa else sa.map (·.add (l.getD 0*te.size))) (h.getD len - l.getD 0) (m.getD cap - l.getD 0))) w:=by
     intro sa len cap l h m he hb h1 h2 h3;have tW:=WN (lo:=lo) (hi:=hi) (mx:=mx) (a:=a) (by simpa [Zg4]using Ia) hb;have dy:=DT (P:=P) true (len:=len) (cap:=cap) tW.1 tW.2.1 tW.2.2.1 tW.2.2.2 h1 h2 h3 w;simp only[execOp,ho,Instr.sliceAt,Sem.run_bind,bB hd,Result.andThen_ok,he,Instr.slice,dy,lN xP,tV,Sem.run_pure]
   split at hr<;>first|(cases hr;done)|skip
   ·
     rename_i b off len cap es' l h m hb;(split at hr<;>first|(cases hr;done)|skip);rename_i dB Mu;have dB:te.size=es':=Za7 dB;subst dB;have Mu:=Za9 Mu;obtain⟨aa,bA,he,hle,VK,ha⟩:=hu.ff;split at hr
     .  rename_i c m';(split at hr<;>first|(cases hr;done)|skip);rename_i e1 e2;have e1:=Za9 e1;have e2:=Za9 e2;have:=VK c rfl;subst this;simp only[H0]at hr;subst hr;exact .pure (tU _ _ _ _ _ _ he hb Mu (by simpa using e1) (by simpa using e2)) (Kb ha Mu e1 e2 (λc hc=>by cases hc;rfl) (λh=>by cases h))
     .  rename_i c;(split at hr<;>first|(cases hr;done)|skip);rename_i e1;have e1:=Za9 e1;have:=VK c rfl;subst this;simp only[H0]at hr;subst hr;exact .pure (tU _ _ _ _ _ _ he hb Mu (by simpa using e1) (by simp)) (Kb ha Mu e1 (Za6 _) (λc hc=>by cases hc;rfl) (λh=>by cases h))
     .  rename_i m';(split at hr<;>first|(cases hr;done)|skip);rename_i e1 e2;have e1:=Za9 e1;have e2:=Za9 e2;simp only[H0]at hr;subst hr;exact .pure (tU _ _ _ _ _ _ he hb Mu (by simpa using e1) (by simp;omega)) (Kb ha Mu e1 (by simp;omega) (λc hc=>by cases hc;rfl) (λh=>by cases h))
     .  (split at hr<;>first|(cases hr;done)|skip);rename_i e1;have e1:=Za9 e1;simp only[H0]at hr;subst hr;exact .pure (tU _ _ _ _ _ _ he hb Mu (by simp;omega) (by simp)) (Kb ha Mu (by simp;omega) (Za6 _) (λc hc=>by cases hc) (λ_=>hu.Rr rfl))
   ·
     rename_i zY es' l h m hb;(split at hr<;>first|(cases hr;done)|skip);rename_i dB;have dB:te.size=es':=Za7 dB;subst dB;obtain⟨aa,bA,cell,he,hle,zc,g1,g2,g3⟩:=hu.xN;split at hr
     .  rename_i m';(split at hr<;>first|(cases hr;done)|skip);rename_i e0 e1 e2;have e0:=Za7 e0;have e1:=Za7 e1;have e2:=Za7 e2;subst e2;simp only[H0]at hr;subst hr;refine .pure (tU _ _ _ _ _ _ he hb (by omega) (by rw[e1];simp) (by simp)) ?_;simp only[e0,e1,Zj8,Zk3,Zg7];exact .slice _ _ _ _ _ _ _ (Za6 _) (λc hc=>by cases hc;rfl) (λh0=>absurd rfl h0) (λh=>by cases h)
     .  (split at hr<;>first|(cases hr;done)|skip);rename_i e0 e1;have e0:=Za9 e0;have e1:=Za9 e1;simp only[H0]at hr;subst hr;refine .pure (tU _ _ _ _ _ _ he hb e0 (by simp;omega) (by simp)) ?_;simp only[Zq6];have hlen:(List.drop (l.getD 0) (List.take (h.getD zY.length) zY)).length=h.getD zY.length - l.getD 0:=(by simp;omega);rw[<-hlen];have N3:∀i cs,(List.drop (l.getD 0) (List.take (h.getD zY.length) zY))[i]? =some cs->zY[l.getD 0+i]? =some cs:=by
          intro i cs hi;rw[Zf5,Zd7]at hi;split at hi
          .exact hi
          .cases hi
        by_cases hcl:bA=l.getD 0
        .rw[Zb5 hcl];have hemp:List.drop (l.getD 0) (List.take (h.getD zY.length) zY)=[]:=(by apply Zc1;rw[hlen];omega);rw[hemp];exact .fl _ _ _ _ (λ_ _=>undef) (by simp) (λh=>absurd rfl h) (λi cs hi=>by simp at hi) (λi j cs v hi=>by simp at hi) (λi j cs v hi=>by simp at hi)
        . rw[Zb2 hcl];by_cases cA:zY=[]
          .subst cA;simp only[List.take_nil,List.drop_nil];exact .fl _ _ _ _ (λ_ _=>undef) (by simp) (λh=>absurd rfl h) (λi cs hi=>by simp at hi) (λi j cs v hi=>by simp at hi) (λi j cs v hi=>by simp at hi)
          .have zc:=zc cA;obtain⟨ab,ao,asp⟩:=aa;simp only at zc;subst zc;simp only[Zd8,sI];refine .fl _ _ _ _ (λi j=>cell (l.getD 0+i) j) (by rw[hlen];omega) (λ_=>rfl) (λi cs hi=>g1 _ _ (N3 i cs hi)) (λi j cs v hi hj=> ?_) (λi j cs v hi hj=>g3 _ _ _ _ (N3 i cs hi) hj);have:=g2 _ _ _ _ (N3 i cs hi) hj;simp only at this ⊢;rw[<-this];congr 2;rw[Zj0];omega
   ·
     rename_i l h m hb;(split at hr<;>first|(cases hr;done)|skip);rename_i e0 e1 e2;have e0:=Za7 e0;have e1:=Za7 e1;have e2:=Za7 e2;simp only[H0]at hr;subst hr;have he:=hu.gZ;refine .pure (tU _ _ _ _ _ _ he hb (by omega) (by omega) (by omega)) ?_;simp only[e0,e1,e2,Zk3,Zg7];exact .af
end
section
variable{P:Program}{tt:TT}
theorem UF{ρ:Pos->Loc}{n:Nat}{C:Cells}:∀{l:List AV}{s:List Nat}{ys:List Value},bytesOf l=some s->aI ρ n C l ys->
  ys=(s.map Int.ofNat).map (Value.int .u8)/\∀c,c∈s->c<256
 |[],s,ys,h,hv=>by
  simp[bytesOf]at h;subst h;exact⟨by simpa using hv.j5,λc hc=>by simp at hc⟩
 |v ::l,s,ys,h,hv=>by
  unfold bytesOf at h;split at h<;>first|(cases h;done)|skip
  .rename_i h0;simp at h0
  . rename_i c l' he;simp only[Zh1]at he;obtain⟨rfl,rfl⟩:=he;(split at h<;>first|(cases h;done)|skip);rename_i s' aW pJ;simp only[H0]at h;subst h;obtain⟨y,ys',rfl,h1,h2⟩:=hv.cons_inv;obtain⟨e,nT⟩:=UF pJ h2;have aW:c<256:=(by simpa using aW);refine⟨by rw[h1.gX,e];rfl,λc' hc=> ?_⟩;simp at hc;rcases hc with rfl|hc
    .exact aW
    .exact nT _ hc
theorem Kc:∀(s:List Nat)(acc:ByteArray),((s.map Int.ofNat).foldl (λr n=>r.push (UInt8.ofNat n.toNat)) acc).data.toList=acc.data.toList++s.map UInt8.ofNat
 |[],acc=>by simp
 |c::s,acc=>by
  simp only[Zb1,Zr3];rw[Kc s];simp[ByteArray.push]
theorem adF(hT:cQ P tt)(src dst:TypeId)(x:Operand):eS P tt (.convert src dst x):=by
 intro ρ C st w k xs cls fr a o vs res ho hc hW hF hx hr;simp only[jV]at hc;split at hc<;>first|(cases hc;done)|skip
 rename_i s d b hs hd hb;obtain⟨ds,Mw,hks⟩:=(hT.at hs).und;obtain⟨dd,hdd,dD⟩:=(hT.at hd).und;split at hc<;>first|(cases hc;done)|skip
 . rename_i k1 k2 h1 h2;cases hc;obtain⟨v,rfl,hv⟩:=kM hb hF hx;rw[h1]at hks;rw[h2]at dD;rw[Rp hks]at Mw;rw[Rp dD]at hdd;simp only[aJ.run,Hz]at hr;split at hr<;>first|(cases hr;done)|(rename_i heq;cases heq;done)|(rename_i heq;cases heq)
   simp only[H0]at hr;subst hr;refine .pure ?_ (by rw[xO];exact .int _ _);simp[execOp,ho,hv.gX,convert,bB Mw,bB hdd,Conv.intToInt]
 . rename_i h1 h2;cases hc;obtain⟨v,rfl,hv⟩:=kM hb hF hx;rw[h1]at hks;rw[h2]at dD;rw[tT hks]at Mw;rw[tT dD]at hdd;simp only[aJ.run,Hz]at hr;split at hr<;>first|(cases hr;done)|(rename_i heq;cases heq;done)|(rename_i heq;cases heq)
   simp only[H0]at hr;subst hr;obtain⟨bs,he,hs⟩:=hv.eR;exact .pure (x:= .string bs) (by simp[execOp,ho,he,convert,bB Mw,bB hdd]) (.str _ _ hs)
 . rename_i e h1 h2;(split at hc<;>first|(cases hc;done)|skip);rename_i te nH;(split at hc<;>first|(cases hc;done)|skip);rename_i hk8;cases hc;obtain⟨v,rfl,hv⟩:=kM hb hF hx;rw[h1]at hks;rw[h2]at dD;rw[rj hks]at Mw;rw[tT dD]at hdd;obtain⟨de,hde,hke⟩:=(hT.at nH).und;rw[hk8]at hke;rw[Rp hke]at hde;have tU:∀y:Option Addr×Nat×Nat,a.eval x= .slice y.1 y.2.1 y.2.2->(execOp a.eval o).run P w=((Conv.bytesToString (a.eval x)).run P w).andThen λv w=>.ok (.value v) w:=by
     intro y he;simp[execOp,ho,he,convert,bB Mw,bB hdd,bB hde]
   simp only[aJ.run,Hz]at hr;split at hr<;>first|(cases hr;done)|(rename_i heq;cases heq;done)|(rename_i heq;cases heq)
   .simp only[H0]at hr;subst hr;have he:=hv.gZ;refine .pure (x:= .string .empty) ?_ (.str _ _ rfl);rw[tU (none,0,0) he,he];simp[Conv.bytesToString]
   . rename_i bb off m cap es;obtain⟨aa,bA,he,hle,_,ha⟩:=hv.ff;split at hr
     .  rename_i h0;have:=Za7 h0;subst this;simp only[H0]at hr;subst hr;refine .pure (x:= .string .empty) ?_ (.str _ _ rfl);rw[tU (some aa,0,bA) he,he];simp[Conv.bytesToString,loadCells,loadCellsFrom]
     .  (rename_i h0;have h0:=Ze6 h0;(split at hr<;>first|(cases hr;done)|skip);rename_i cs fz tW;(split at hr<;>first|(cases hr;done)|skip);rename_i l hcut;(split at hr<;>first|(cases hr;done)|skip);rename_i s' amk;simp only[H0]at hr;subst hr;obtain⟨aW,rfl,_⟩:=ha (by omega);obtain⟨ys,xK,Cr⟩:=hW.loadCells (P:=P) tW hcut;obtain⟨e1,e2⟩:=UF amk Cr;rw[e1]at xK;have dy:=run_bytesToString (P:=P) w ⟨(ρ bb).aQ,(ρ bb).base+off,none⟩ m bA (s'.map Int.ofNat) xK;refine .pure (x:= .string _) (by rw[tU (some _,m,bA) he,he,dy];rfl) (.str _ _ ?_);rw[Kc,Ze2];have e0:ByteArray.empty.data.toList=[]:=rfl;rw[e0,Zd5,Zg3,Zi0];have e3:s'.map (UInt8.toNat∘UInt8.ofNat)=s'.map id:=Zj5 λc hc=>by have:=e2 c hc;simp only[Function.comp,id,UInt8.toNat_ofNat'];omega);rw[e3,Zr4]
theorem Mx{t:TypeId}{d:TypeDesc}(hd:P.underlying t=some d){pk:PK}(hk:pk.fits d=true)(e:Bool)(m:Nat)(x:Value)(w:World):
  (Instr.checkKey e (m+1) t x).run P w= .ok () w:=by
 unfold Instr.checkKey;rw[Sem.run_bind,bB hd,Result.andThen_ok];cases pk<;>cases d<;>simp[PK.fits]at hk<;>rfl
theorem UG{ρ:Pos->Loc}{n:Nat}{C:Cells}{pk:PK}{d:TypeDesc}(hk:pk.fits d=true){u v:AV}{x y:Value}{r:Bool}
   (h1:aC ρ n C u x) (h2:aC ρ n C v y) (h:zG pk u v=some r):Instr.sameNow d x y=some r:=by
 unfold zG at h;split at h<;>first|(cases h;done)|skip
 .simp only[H0]at h;subst h;cases d<;>simp[PK.fits]at hk;rw[h1.kD,h2.kD];rfl
 . (split at h<;>first|(cases h;done)|skip);rename_i J9;have:=Bm J9;subst this;simp only[H0]at h;subst h;cases d<;>simp[PK.fits]at hk;rw[h1.gX,h2.gX];simp[Instr.sameNow,pI]
 .simp only[H0]at h;subst h;cases d<;>simp[PK.fits]at hk;obtain⟨bx,rfl,e1⟩:=h1.eR;obtain⟨bz,rfl,e2⟩:=h2.eR;simp only[Instr.sameNow];rw[beq_toListBytes,Mt e1 e2]
def Ke(ρ:Pos->Loc)(n:Nat)(C:Cells)(es:List (AV×AV×Nat))(es':List MapEntry):Prop:=
 es.length=es'.length/\∀(i:Nat)(e:AV×AV×Nat)(e':MapEntry),es[i]? =some e->es'[i]? =some e'->aC ρ n C e.1 e'.key/\aC ρ n C e.2.1 e'.val/\e.2.2=e'.born
theorem EV{ρ:Pos->Loc}{n:Nat}{C:Cells}{pk:PK}{d:TypeDesc}(hk:pk.fits d=true){u:AV}{x:Value}(hu:aC ρ n C u x):
  ∀{es:List (AV×AV×Nat)}{es':List MapEntry}{i:Nat}{r:Option (Nat×AV)},Ke ρ n C es es'->lJ pk u es i=some r->
  ∃r',Instr.findNow d x es' i=some r'/\((r=none/\r'=none)\/∃j v y,r=some (j,v)/\r'=some (j,y)/\aC ρ n C v y/\i<=j/\j<i+es.length)
 |[],es',i,r,he,h=>by
  simp[lJ]at h;subst h;cases es' with
  |nil=>exact⟨none,rfl,.inl ⟨rfl,rfl⟩⟩
  |cons e es'=>have:=he.1;simp at this
 |(k',v,born)::es,es',i,r,he,h=>by
  cases es' with
  |nil=>have:=he.1;simp at this
  |cons e' es'=>
   have h0:=he.2 0 (k',v,born) e' rfl rfl;have qf:Ke ρ n C es es':=⟨by have:=he.1;simpa using this,λj e e' h1 h2=>he.2 (j+1) e e' (by simpa using h1) (by simpa using h2)⟩
   unfold lJ at h;split at h<;>first|(cases h;done)|skip
   .    rename_i hq;simp only[H0]at h;subst h;refine⟨some (i,e'.val),by simp[Instr.findNow,UG hk hu h0.1 hq],.inr ⟨i,v,e'.val,rfl,rfl,h0.2.1,Za6 _,by simp⟩⟩
   .    rename_i hq;obtain⟨r',h1,h2⟩:=EV hk hu qf h;refine⟨r',by simp[Instr.findNow,UG hk hu h0.1 hq,h1],?_⟩;rcases h2 with h2|⟨j,v',y,e1,e2,e3,e4,e5⟩
        .exact .inl h2
        .exact .inr ⟨j,v',y,e1,e2,e3,by omega,by simp;omega⟩
theorem run_findKey{t:TypeId}{d:TypeDesc}(hd:P.underlying t=some d){x:Value}{es:List MapEntry}{r:Option (Nat×Value)}(h:Instr.findNow d x es 0=some r)(w:World):
  (Instr.findKey t x es).run P w= .ok r w:=by
 simp[Instr.findKey,bB hd,h]
theorem run_getObj_map{r:Nat}{es:Array MapEntry}{c:Nat}{w:World}(h:w.heap[r]? =some (.map es c)):(getObj r).run P w= .ok (.map es c) w:=by
 simp[getObj,Sem.run,h]
theorem akp(k:TK){d:TypeDesc}(h:b9 k d=true){pk:PK}(hp:(k= .bool/\pk= .b)\/((∃i,k= .int i)/\pk= .i)\/(k= .string/\pk= .s)):pk.fits d=true:=by
 rcases hp with⟨rfl,rfl⟩|⟨⟨i,rfl⟩,rfl⟩|⟨rfl,rfl⟩
 .rw[Yx h];rfl
 .rw[Rp h];rfl
 .rw[tT h];rfl
theorem Ek(hT:cQ P tt){t:Nat}{ti:TI}(ht:tt.get (key t)=some ti){z:List AV}(hz:ti.zero=some z){ρ:Pos->Loc}{n:Nat}{C:Cells}(w:World):
   ∃v,(zeroValue t).run P w= .ok v w/\aC ρ n C (jV.Mm ti z) v/\aI ρ n C z v.cells.toList:=by
 obtain⟨i,hi,tV,_,Kf⟩:=(hT.at ht).info;obtain⟨v,hv,hs,hlen,h1,h2⟩:=Kf z hz;refine⟨v,aii hi hv w,?_,vu hs⟩;unfold jV.Mm;split
 .rename_i ha;obtain⟨cs,rfl⟩:=h1 ha;exact .Mp (vu hs)
 .rename_i ha;have hc:=h2 ha;rw[hc]at hs;simp only[qJ]at hs;(split at hs<;>first|(cases hs;done)|skip);rename_i a as e1 e2;simp only[H0]at hs e2;subst hs;subst e2;simp only;exact HZ e1
theorem afa(hT:cQ P tt)(t:TypeId)(x ix:Operand)(ok:Bool):eS P tt (.lookup t x ix ok):=by
 intro ρ C st w k xs cls fr a o vs res ho hc hW hF hx hr;simp only[jV]at hc;split at hc<;>first|(cases hc;done)|skip
 rename_i ti l fA hl;split at hc<;>first|(cases hc;done)|skip
 rename_i kt et hk;split at hc<;>first|(cases hc;done)|skip
 rename_i tk te htk nH;obtain⟨d,hd,dD⟩:=(hT.at fA).und;rw[hk]at dD;rw[Ro dD]at hd;obtain⟨dk,ZA,J9⟩:=(hT.at htk).und;have key:∃pk z,te.zero=some z/\k= .lookup pk (jV.Mm te z) ok/\xs=l/\cls= .read/\pk.fits dk=true:=by
  split at hc<;>first|(cases hc;done)|skip
  all_goals
    rename_i z h1 h2;cases hc;refine⟨_,z,h2,rfl,rfl,rfl,akp tk.k J9 ?_⟩
  .exact .inr (.inl ⟨⟨_,h1⟩,rfl⟩)
  .exact .inr (.inr ⟨h1,rfl⟩)
  .exact .inl ⟨h1,rfl⟩
 obtain⟨pk,z,hz,rfl,rfl,rfl,Lh⟩:=key;obtain⟨m,kk,rfl,h1,h2⟩:=Yy hl hF hx;obtain⟨zv,PN,hzr,_⟩:=Ek hT nH hz (ρ:=ρ) (n:=st.next.toNat) (C:=C) w;have hck:∀e,(Instr.checkKey e 10000 kt (a.eval ix)).run P w= .ok () w:=λe=>Mx ZA Lh e 9999 _ w
 simp only[aJ.run,Bi]at hr;split at hr<;>first|(cases hr;done)|skip
 ·
  rename_i j v hm;simp only[H0]at hr;subst hr;split at hm<;>first|(cases hm;done)|skip
  .split at hm<;>first|(cases hm;done)|(simp at hm;done)
  . rename_i b;(split at hm<;>first|(cases hm;done)|skip);rename_i es c hb;obtain⟨_,he⟩:=h1.Bn;obtain⟨_,_,es',dB,hlen,nT⟩:=hW.live _ _ hb;have hE:Ke ρ st.next.toNat C es es'.toList:=⟨by simpa using hlen,λi e e' h1 h2=>nT i e e' h1 (by simpa using h2)⟩
    obtain⟨r',hf,ni⟩:=EV Lh h2 hE hm;rcases ni with⟨e1,_⟩|⟨j',v',y,e1,e2,e3,_⟩
    .   cases e1
    .   cases e1;subst e2;have dy:(execOp a.eval o).run P w= .ok (.value (if ok then .tuple #[y,.bool true]else y)) w:=by
          simp only[execOp,ho,Instr.lookup,Sem.run_bind,bB hd,Result.andThen_ok,he,run_getObj_map dB,hck,run_findKey ZA hf,Sem.run_pure]
        refine .pure dy ?_;cases ok
        .exact e3
        .exact .pH (aI.cons e3 (aI.cons (.bool true) aI.nil))
 ·
  rename_i hm;simp only[H0]at hr;subst hr;have dy:(execOp a.eval o).run P w= .ok (.value (if ok then .tuple #[zv,.bool false]else zv)) w:=by
    split at hm<;>first|(cases hm;done)|skip
    .   (split at hm<;>first|(cases hm;done)|skip);have he:=h1.Ej;have hf:(Instr.findKey kt (a.eval ix) []).run P w= .ok none w:=run_findKey ZA rfl w;simp only[execOp,ho,Instr.lookup,Sem.run_bind,bB hd,Result.andThen_ok,he,hck,hf,PN,Sem.run_pure]
    .   rename_i b;(split at hm<;>first|(cases hm;done)|skip);rename_i es c hb;obtain⟨_,he⟩:=h1.Bn;obtain⟨_,_,es',dB,hlen,nT⟩:=hW.live _ _ hb;have hE:Ke ρ st.next.toNat C es es'.toList:=⟨by simpa using hlen,λi e e' h1 h2=>nT i e e' h1 (by simpa using h2)⟩
        obtain⟨r',hf,ni⟩:=EV Lh h2 hE hm;rcases ni with⟨_,e2⟩|⟨j',v',y,e1,_⟩
        .subst e2;simp only[execOp,ho,Instr.lookup,Sem.run_bind,bB hd,Result.andThen_ok,he,run_getObj_map dB,hck,run_findKey ZA hf,PN,Sem.run_pure]
        .cases e1
  refine .pure dy ?_;cases ok
  .exact hzr
  .exact .pH (aI.cons hzr (aI.cons (.bool false) aI.nil))
end
section
variable{P:Program}{tt:TT}
theorem Ib:∀(l:List Value)(off k:Nat)(cs:Array Value),off+k+l.length<=cs.size->
  ((l.zipIdx k).foldl (λcs (c,j)=>cs.setIfInBounds (off+j) c) cs).toList=aZ cs.toList (off+k) l
 |[],off,k,cs,_=>by simp[aZ,Zn8]
 |v::l,off,k,cs,h=>by
  simp only[Zc2]at h;simp only[List.zipIdx_cons,Zr3];rw[Ib l off (k+1) _ (by simp;omega)];simp only[aZ,Zc2,Zp9];rw[List.drop_set_of_lt (by omega)];have:off+(k+1)=(off+k)+1:=by omega
  rw[this,List.take_set,List.take_add_one];have aW:off+k<cs.toList.length:=by simp;omega
  rw[Za0 aW];simp only[Option.toList_some,List.set_append,Ze0];have hm:min (off+k) cs.toList.length=off+k:=Zh5 (Zl9 aW);rw[hm,Zb2 (Zo5 _),Zk3];simp;rw[show off+k+1+l.length=off+k+(l.length+1)from by omega]
theorem VL{ρ:Pos->Loc}{n:Nat}{C:Cells}(pl:Nat->Option (Nat×Nat)):∀{pp:List (Nat×Nat)}{vs cells r:List AV}{ps:List (Nat×Value)}{cs:Array Value},
  cH cells pp vs=some r->aI ρ n C cells cs.toList->aI ρ n C vs (ps.map (·.2))->ps.map (λx=>pl x.1)=pp.map some->
  ∃cs',Instr.fill pl cs ps=some cs'/\aI ρ n C r cs'.toList
 |[],vs,cells,r,ps,cs,h,hc,hv,hp=>by
  unfold cH at h;split at h<;>first|(cases h;done)|skip
  .simp only[H0]at h;subst h;have:ps=[]:=(by simpa using hv.j5);subst this;exact⟨cs,rfl,hc⟩
  .rename_i hh;cases hh
 |(off  ,size)::pp,vs,cells,r,ps,cs,h,hc,hv,hp=>by
  unfold cH at h;split at h<;>first|(cases h;done)|skip
  .rename_i hh;cases hh
  . rename_i off' size' pp' v vs' hh;simp only[Zh1,Zc7]at hh;obtain⟨⟨rfl,rfl⟩,rfl⟩:=hh;(split at h<;>first|(cases h;done)|skip);rename_i h1 h2;have h1:=Za7 h1;have h2:=Za9 h2;cases ps with
    |nil=>have:=hv.1;simp at this
    |   cons p ps=>
        obtain⟨i,x⟩:=p;simp only[Zb1,Zh1]at hp hv;obtain⟨fD,My⟩:=hp;obtain⟨y,ys,xK,hx,Cr⟩:=hv.cons_inv;simp only[Zh1]at xK;obtain⟨rfl,rfl⟩:=xK;have hxc:=hx.cells;have hlen:x.cells.size=size:=(by rw[<-h1,hxc.1];simp);have fC:off+size<=cs.size:=(by have:=hc.1;simp at this;omega);have am5:(x.cells.zipIdx.foldl (λcs (c,j)=>cs.setIfInBounds (off+j) c) cs).toList=aZ cs.toList off x.cells.toList:=(by rw[<-Array.foldl_toList,Array.toList_zipIdx];have:=Ib x.cells.toList off 0 cs (by simp;omega);simpa using this);obtain⟨cs',e1,e2⟩:=VL pl h (cs:=x.cells.zipIdx.foldl (λcs (c,j)=>cs.setIfInBounds (off+j) c) cs) (by rw[am5];exact hc.aZ hxc off) Cr My;refine⟨cs',?_,e2⟩;simp only[Instr.fill,fD];rw[Zb2 (by simp[hlen];omega)];exact e1
theorem PT(hT:cQ P tt){gs:Array Field}(w:World):∀{fs:List (Nat×Nat×Bool)}(_hm:b9.eO fs gs.toList=true){is:List Nat}{pp:List (Nat×Nat)}
  (_h:jV.places tt fs is=some pp) {Rv:List (Nat×Nat)} (_hpl:∀(i:Nat)(f:Field)(inf:TypeInfo),gs.toList[i]? =some f->P.info? f.type=some inf->Rv[i]? =some (f.offset,inf.size)),
  is.map (λi=>Rv[i]?)=pp.map some
 |fs,hm,[],pp,h,Rv,oZ=>by simp[jV.places]at h;subst h;rfl
 |fs,hm,i::is,pp,h,Rv,oZ=>by
  unfold jV.places at h;split at h<;>first|(cases h;done)|skip
  rename_i off t nm l h1 h2;split at h<;>first|(cases h;done)|skip
  rename_i ti ZB;simp only[H0]at h;subst h;obtain⟨f,hf,e1,e2,_⟩:=NY hm h1;obtain⟨inf,abB,fC,_⟩:=(hT.at ZB).info;simp only at e1 e2;have:=oZ i f inf hf (by rw[e2];exact abB);simp only[Zb1,this,e1,fC];rw[PT hT w hm h2 oZ]
theorem WO(hT:cQ P tt):∀{fs:List (Nat×Nat×Bool)}{gs:List Field}(_hm:b9.eO fs gs=true)(_ha:jV.abc tt fs=true),
  ∃Rv:List (Nat×Nat),gs.mapM (λf=>(P.info? f.type).map λi=>(f.offset,i.size))=some Rv/\
   ∀(i:Nat)(f:Field)(inf:TypeInfo),gs[i]? =some f->P.info? f.type=some inf->Rv[i]? =some (f.offset,inf.size)
 |[],gs,hm,ha=>by
  cases gs with
  |cons g gs=>simp[b9.eO]at hm
  |nil=>exact⟨[],rfl,λi f inf h=>by simp at h⟩
 |(off,t,nm)::fs,gs,hm,ha=>by
  cases gs with
  |nil=>simp[b9.eO]at hm
  |cons g gs=>
   simp[b9.eO]at hm;unfold jV.abc at ha;(split at ha<;>first|(cases ha;done)|skip);rename_i ti ZB;obtain⟨inf,abB,_⟩:=(hT.at ZB).info;obtain⟨Rv,h1,h2⟩:=WO hT hm.2 ha;rw[hm.1.1.2]at abB;refine⟨(g.offset,inf.size)::Rv,by simp[abB,h1],λi f inf' hi hf=> ?_⟩;cases i with
   |zero=>simp at hi;subst hi;rw[abB]at hf;cases hf;rfl
   |succ i=>simp at hi ⊢; exact h2 i f inf' hi hf
theorem agE(hT:cQ P tt)(t:TypeId)(ps:Array (Nat×Operand)):eS P tt (.build t ps):=by
 intro ρ C st w k xs cls fr a o vs res ho hc hW hF hx hr;simp only[jV]at hc;split at hc<;>first|(cases hc;done)|skip
 rename_i ti l fA hl;obtain⟨d,hd,dD⟩:=(hT.at fA).und;obtain⟨it,hit,_,_,Kf⟩:=(hT.at fA).info
 have tU:∀(pp:List (Nat×Nat))(z:List AV)(pl:Nat->Option (Nat×Nat)),ti.zero=some z->k= .build z pp->xs=l->ps.toList.map (λx=>pl x.1)=pp.map some->
    (∀(v:Value)(parts:List (Nat×Value))(cells:Array Value),it.zero=some v->Instr.fill pl v.cells parts=some cells->P.built t parts=some cells)->
    EN P ρ C st w ((execOp a.eval o).run P w) res:=by
   rintro pp z pl hz rfl rfl UH aml;have hv:=iC hl hF hx;obtain⟨v,hv0,hs,_⟩:=Kf z hz;simp only[aJ.run,NP]at hr;(split at hr<;>first|(cases hr;done)|skip);rename_i cs Ct;simp only[H0]at hr;subst hr;have hzr:aI ρ st.next.toNat C z v.cells.toList:=vu hs;have hps:(ps.map λ(i,x)=>(i,a.eval x)).toList=ps.toList.map λx=>(x.1,a.eval x.2):=(by simp);obtain⟨cs',e1,e2⟩:=VL pl Ct hzr (ps:=ps.toList.map λx=>(x.1,a.eval x.2)) (by simpa [Zi0,Zk8]using hv) (by simpa [Zi0,Zk8]using UH);refine .pure (x:= .agg cs') ?_ (.Mp e2);have dy:=run_build w t (ps.map λ(i,x)=>(i,a.eval x)) cs' (aml v _ _ hv0 (by rw[hps];exact e1));simp only[execOp,ho,Sem.run_bind];rw[dy];rfl
 split at hc<;>first|(cases hc;done)|skip
 .rename_i fs z hk hz;rw[hk]at dD;obtain⟨gs,rfl,hm⟩:=J7 dD;(split at hc<;>first|(cases hc;done)|skip);rename_i pp oZ nT;cases hc;obtain⟨Rv,h1,h2⟩:=WO hT hm nT;have UH:=PT hT w hm oZ h2;(refine tU pp z (λi=>Rv.toArray[i]?) hz rfl rfl (by simpa [Zi0,Zk8]using UH) λv parts cells hv hf=> ?_);unfold Program.built;rw[hit,hd];simp only[hv,h1];exact hf
 .rename_i e z hk hz;rw[hk]at dD;rw[abw dD]at hd;(split at hc<;>first|(cases hc;done)|skip);rename_i te nH;cases hc;obtain⟨ie,hie,fC,_⟩:=(hT.at nH).info;(refine tU _ z (λi=>some (i*te.size,te.size)) hz rfl rfl (by simp[Zi0,Zk8]) λv parts cells hv hf=> ?_);unfold Program.built;rw[hit,hd];simp only[hv,hie,fC];exact hf
end
end
end Go.Ai
