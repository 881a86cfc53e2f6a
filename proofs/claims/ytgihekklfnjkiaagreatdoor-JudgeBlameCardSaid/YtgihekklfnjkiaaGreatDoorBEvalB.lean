/- Its operations answer as the model does. -/
import Derived.Test.YtgihekklfnjkiaaGreatDoorBEvalA
import Derived.Laws.StructEq
import Derived.Lib.Builder
import Derived.Laws.BytesString
set_option linter.all false
namespace Go.Ai
section
def cm:TK->TypeDesc->Bool
 |.bool,.bool=>true
 |.int k,.int k'=>Ky k k'
 |.string,.string=>true
 |.ptr e,.pointer e'=>Nat.beq e e'
 |.slice e,.slice e'=>Nat.beq e e'
 |.array n e,.array n' e'=>Nat.beq n n'&&Nat.beq e e'
 |.map k e,.map k' e'=>Nat.beq k k'&&Nat.beq e e'
 |.struct fs,.struct fs'=>e9 fs fs'.toList
 |.func,.func _ _ _=>true
 |.iface,.interface _=>true
 |.upt,.unsafePointer=>true
 |.other,.interface _=>false
 |.other,.int _=>false
 |.other,.array _ _=>false
 |.other,.struct _=>false
 |.other,_=>true
 |_,_=>false
where
 e9:List (Nat×Nat×Bool)->List Field->Bool
  |[],[]=>true
  |(off,t,named)::l,f::l'=>Nat.beq off f.offset&&Nat.beq t f.type&&(named==(f.name != "_"))&&e9 l l'
  |_,_=>false
structure akt(P:Program)(t:TypeId)(ti:TI):Prop where
 und:∃d,P.underlying t=some d/\cm ti.k d=true
 info:∃i,P.info? t=some i/\i.size=ti.size/\i.bytes=ti.bytes/\
  ∀z,ti.zero=some z->∃v,i.zero=some v/\sx v.cells.toList=some z/\z.length=ti.size/\(ti.k.isAgg=true->∃cs,v= .agg cs)/\(ti.k.isAgg=false->v.cells= #[v])
 elem:∀e,ti.k= .ptr e->∃j,P.info? e=some j
 eqs:ti.A3=true->P.stoodInHeld t=false/\P.eqGuardType P.depth t=false
def dh(P:Program)(tt:TT):Prop:=∀p ti,tt.get p=some ti->akt P (p.toNat - 1) ti
theorem dh.at{P:Program}{tt:TT}(h:dh P tt){t:Nat}{ti:TI}(ht:tt.get (key t)=some ti):akt P t ti:=by
 have:=h _ _ ht
 rwa [iM,Zh5]at this
section
variable{P:Program}{tt:TT}{ρ:Pos->Loc}{n:Nat}{C:Cells}
theorem bt{t:TypeId}{d:TypeDesc}(h:P.underlying t=some d)(w:World):(underlying t).run P w= .ok d w:=run_underlying h w
theorem agc{t:TypeId}{i:TypeInfo}(h:P.info? t=some i)(w:World):(typeInfo t).run P w= .ok i w:=by simp[typeInfo,h]
theorem mG{t:TypeId}{i:TypeInfo}(h:P.info? t=some i)(w:World):(sizeOf t).run P w= .ok i.size w:=by simp[sizeOf,typeInfo,h]
theorem ao6{t:TypeId}{i:TypeInfo}{v:Value}(h:P.info? t=some i)(hz:i.zero=some v)(w:World):(zeroValue t).run P w= .ok v w:=by simp[zeroValue,typeInfo,h,hz]
theorem aaq{k:TK}{d:TypeDesc}(h:cm k d=true)(w:World){t:TypeId}(ht:P.underlying t=some d):(isAgg t).run P w= .ok k.isAgg w:=by
 cases k<;>cases d<;>first|(simp[cm]at h;done)|simp[isAgg,bt ht,TK.isAgg]
theorem tE{e:Nat}{d:TypeDesc}(h:cm (.slice e) d=true):d= .slice e:=by
 cases d<;>simp[cm]at h;rw[h]
theorem atO{e:Nat}{d:TypeDesc}(h:cm (.ptr e) d=true):d= .pointer e:=by
 cases d<;>simp[cm]at h;rw[h]
theorem agd{m e:Nat}{d:TypeDesc}(h:cm (.array m e) d=true):d= .array m e:=by
 cases d<;>simp[cm]at h;rw[h.1,h.2]
theorem Vg{k e:Nat}{d:TypeDesc}(h:cm (.map k e) d=true):d= .map k e:=by
 cases d<;>simp[cm]at h;rw[h.1,h.2]
theorem ac4{d:TypeDesc}(h:cm .bool d=true):d= .bool:=by cases d<;>simp[cm]at h;rfl
theorem BO{a b:IntKind}(h:Ky a b=true):a=b:=by
 unfold Ky at h;split at h
 .assumption
 .cases h
theorem Vh{k:IntKind}{d:TypeDesc}(h:cm (.int k) d=true):d= .int k:=by
 cases d<;>simp[cm]at h;rw[BO h]
theorem uZ{d:TypeDesc}(h:cm .string d=true):d= .string:=by cases d<;>simp[cm]at h;rfl
theorem MG{fs:List (Nat×Nat×Bool)}{d:TypeDesc}(h:cm (.struct fs) d=true):∃gs,d= .struct gs/\cm.e9 fs gs.toList=true:=by
 cases d<;>simp[cm]at h;exact⟨_,rfl,h⟩
theorem ar5{d:TypeDesc}(h:cm .func d=true):∃a b c,d= .func a b c:=by
 cases d<;>simp[cm]at h;exact⟨_,_,_,rfl⟩
theorem ao7{d:TypeDesc}(h:cm .iface d=true):∃a,d= .interface a:=by
 cases d<;>simp[cm]at h;exact⟨_,rfl⟩
theorem qu{α:Type}:∀(l:List α)(i:Nat),nth l i=l[i]?
 |[],_=>by simp[nth]
 |_::_,0=>rfl
 |_::l,i+1=>by simp[nth,qu l i]
theorem Q0:∀{fs:List (Nat×Nat×Bool)}{gs:List Field}{i:Nat}{x:Nat×Nat×Bool},cm.e9 fs gs=true->nth fs i=some x->
  ∃f,gs[i]? =some f/\f.offset=x.1/\f.type=x.2.1/\(f.name != "_")=x.2.2
 |[],_,i,_,_,h=>by simp[nth]at h
 |(off,t,named)::l,[],i,_,h,_=>by simp[cm.e9]at h
 |(off,t,named)::l,f::l',0,x,h,hx=>by
  simp[cm.e9]at h;simp[nth]at hx;subst hx;exact⟨f,rfl,h.1.1.1.symm,h.1.1.2.symm,h.1.2.symm⟩
 |(off,t,named)::l,f::l',i+1,x,h,hx=>by
  simp[cm.e9]at h;simp[nth]at hx;obtain⟨f',h1,h2⟩:=Q0 h.2 hx;exact⟨f',by simpa using h1,h2⟩
theorem KD{v:Value}{a:AV}(h:QU v=some a):aC ρ n C a v:=by
 unfold QU at h
 split at h<;>first
   |(cases h;done)
   |(simp only[H5]at h;subst h)
 .exact .bool _
 .exact .int _ _
 .exact .str _ _ rfl
 .exact .jf
 .exact .af
 .exact .qp
 .exact .func _ _ _ _ _ rfl rfl (λ_ _ _ h=>by simp at h) (λ_ _ _ h=>by simp at h)
 .exact .jM
 .exact .Bh
theorem wz:∀{l:List Value}{as:List AV},sx l=some as->aJ ρ n C as l
 |[],as,h=>by simp[sx]at h;subst h;exact aJ.nil
 |v ::l,as,h=>by
  unfold sx at h;split at h
  .rename_i a as' h1 h2;simp only[H5]at h;subst h;exact aJ.cons (KD h1) (wz h2)
  .cases h
theorem aiN{v:Value}{a:AV}(h:ac1 v=some a):aC ρ n C a v:=by
 unfold ac1 at h;split at h
 . split at h
   .rename_i l hl;simp only[H5]at h;subst h;exact .OH (wz hl)
   .cases h
 .exact KD h
theorem Bk{x:Operand}{o:gX}{fr:Fr}{a:Act}{v:AV}(h:uh x=some o)(hF:kQ ρ n C fr a.tmps)(hv:Gg fr o=some v):aC ρ n C v (a.eval x):=by
 unfold uh at h;split at h
 .rename_i t;simp only[H5]at h;subst h;obtain⟨y,hy,hr⟩:=hF _ _ hv;rw[iM,Zh5]at hy;simp only[Act.eval,Zm4,hy,Ze8];exact hr
 . split at h
   .rename_i c hc;simp only[H5]at h;subst h;simp only[Gg,H5]at hv;subst hv;exact aiN hc
   .cases h
 .rename_i f;simp only[H5]at h;subst h;simp only[Gg,H5]at hv;subst hv;exact .func _ _ _ _ _ rfl rfl (λ_ _ _ h=>by simp at h) (λ_ _ _ h=>by simp at h)
 .cases h
theorem iN:∀{xs:List Operand}{os:List gX}{fr:Fr}{a:Act}{vs:List AV},mF xs=some os->kQ ρ n C fr a.tmps->fP fr os=some vs->aJ ρ n C vs (xs.map a.eval)
 |[],os,fr,a,vs,h,_,hv=>by simp[mF]at h;subst h;simp[fP]at hv;subst hv;exact aJ.nil
 |x ::xs,os,fr,a,vs,h,hF,hv=>by
  unfold mF at h;split at h
  . rename_i o os' h1 h2;simp only[H5]at h;subst h;unfold fP at hv;split at hv
    .   rename_i v hv1;split at hv
        .rename_i vs' OJ;simp only[H5]at hv;subst hv;exact aJ.cons (Bk h1 hF hv1) (iN h2 hF OJ)
        .cases hv
    .   cases hv
  .cases h
theorem lC{x:Operand}{o:gX}{fr:Fr}{a:Act}{vs:List AV}(h:uh x=some o)(hF:kQ ρ n C fr a.tmps)(hv:fP fr [o]=some vs):
   ∃v,vs=[v]/\aC ρ n C v (a.eval x):=by
 unfold fP at hv;split at hv
 .rename_i v hv1;simp only[fP,H5]at hv;subst hv;exact⟨v,rfl,Bk h hF hv1⟩
 .cases hv
end
def Yields(N:Next)(x:Value):Prop:=N= .value x\/(N= .skip/\x=undef)
def F6(P:Program)(ρ:Pos->Loc)(C:Cells)(st:St)(w:World)(r:Result Next):eG->Prop
 |.val v=>∃N x,r= .ok N w/\Yields N x/\aC ρ st.next.toNat C v x
 |.bh v del set new=>∃N x w' ρ',r= .ok N w'/\Yields N x/\(∀b:Pos,b.toNat<st.next.toNat->ρ' b=ρ b)/\bV ρ' C (st.bh del set new) w'/\
  aC ρ' (st.bh del set new).next.toNat C v x/\oJ ρ st w ρ' (st.bh del set new) w'
 |.call f args=>∃bZ:List Value,r=(callFunc f bZ.toArray).run P w/\aJ ρ st.next.toNat C args bZ
end
section
open Go Go.RowKit
theorem uk(b o i:Nat):(⟨b,o,none⟩:Addr).add i=⟨b,o+i,none⟩:=by
 unfold Addr.add;split
 .rename_i h;subst h;rfl
 .rfl
section
variable{P:Program}{ρ ρ':Pos->Loc}{C:Cells}{st:St}{w w':World}
theorem bV.aku(hW:bV ρ C st w){akv:T AB}{next' b0:Pos}{x0:AB}
  (hn:st.next.toNat<=next'.toNat) (yg:b0.toNat<next'.toNat) (auM:akv.get b0=some x0)
  (Q3:∀b x,b≠b0->akv.get b=some x->st.heap.get b=some x/\(ρ b).aM≠(ρ' b0).aM)
  (bE:∀b:Pos,b.toNat<st.next.toNat->ρ' b=ρ b)
  (hB:tD ρ' next'.toNat C (ρ' b0) w' x0)
  (EF:∀a v,C a=some v->a.block≠(ρ' b0).aM)
  (aV:(ρ' b0).aM<w'.heap.size) (akw:w.heap.size<=w'.heap.size)
  (Cv:∀k,k<w.heap.size->k≠(ρ' b0).aM->w'.heap[k]? =w.heap[k]?):
  bV ρ' C ⟨akv,next'⟩ w' where
 live b x hb:=by
  by_cases h:b=b0
  .  subst h;rw[auM]at hb;cases hb;exact⟨yg,aV,hB⟩
  .  obtain⟨h1,h2⟩:=Q3 b x h hb;obtain⟨h3,h4,h5⟩:=hW.live b x h1;rw[bE b h3];exact⟨Zd1 h3 hn,Zd1 h4 akw,(h5.mono bE hn).of_heap (Cv _ h4 h2)⟩
 inj b  b' x x' hb dO he:=by
  by_cases h:b=b0
  .  subst h;by_cases h':b'=b
     .  exact h'.symm
     .  obtain⟨h1,h2⟩:=Q3 b' x' h' dO;rw[bE b' (hW.live b' x' h1).1]at he;exact absurd he.symm h2
  .  obtain⟨h1,h2⟩:=Q3 b x h hb;rw[bE b (hW.live b x h1).1]at he;by_cases h':b'=b0
     .  subst h';exact absurd he h2
     .  obtain⟨h1',h2'⟩:=Q3 b' x' h' dO;rw[bE b' (hW.live b' x' h1').1]at he;exact hW.inj b b' x x' h1 h1' he
 dS a v ha:=by
  obtain⟨h1,h2⟩:=hW.dS a v ha;have ao8:a.block<w.heap.size:=World.block_lt_of_cell? _ _ h1;refine⟨?_,λb x hb=> ?_⟩
  .  rw[World.cell?_of_block (w:=w) (Cv _ ao8 (EF a v ha))];exact h1
  .  by_cases h:b=b0
     .  subst h;exact λe=>EF a v ha e.symm
     .  obtain⟨h3,_⟩:=Q3 b x h hb;rw[bE b (hW.live b x h3).1];exact h2 b x h3
 whole a v ha o ho:=by have ri:a.block<w.heap.size:=World.block_lt_of_cell? _ _ (hW.dS a v ha).1;rw[World.cell?_of_block (w:=w) (a:=⟨a.block,o,none⟩) (Cv _ ri (EF a v ha))];exact hW.whole a v ha o ho
theorem bV.cell(hW:bV ρ C st w){b:Pos}{cs:List AV}{fz:Nat}(hb:st.heap.get b=some (.cells cs fz)){i:Nat}{v:AV}(hv:cs[i]? =some v):
  ∃x,w.cell? ⟨(ρ b).aM,(ρ b).base+i,none⟩=some x/\aC ρ st.next.toNat C v x:=by
 obtain⟨_,_,c,e,fr,h1,h2,h3,h4,_⟩:=hW.live b _ hb;obtain⟨x,hx,hr⟩:=h4.get hv;have hi:i<cs.length:=(Za1.1 hv).1;rw[Ze3,Zb4 hi,Ze5]at hx;exact⟨x,by simp[World.cell?,h1, <-hx],hr⟩
theorem abu{α:Type}{l l':List α}{i n:Nat}(h:cut l i n=some l'):l'=(l.drop i).take n/\i+n<=l.length:=by
 unfold cut at h;split at h
 .rename_i hb;cases h;exact⟨rfl,Zb5 hb⟩
 .cases h
theorem Q4{α:Type}{l l':List α}{i n:Nat}(h:cut l i n=some l'):l'.length=n:=by obtain⟨rfl,h2⟩:=abu h;simp;omega
theorem bV.loadCells(hW:bV ρ C st w){b:Pos}{cs vs:List AV}{fz off n:Nat}(hb:st.heap.get b=some (.cells cs fz))(hc:cut cs off n=some vs):
  ∃ys:List Value,(Go.loadCells ⟨(ρ b).aM,(ρ b).base+off,none⟩ n).run P w= .ok ys.toArray w/\aJ ρ st.next.toNat C vs ys:=by
 obtain⟨_,_,c,e,fr,h1,h2,h3,h4,_⟩:=hW.live b _ hb;obtain⟨Cw,hle⟩:=abu hc;have hr:=(h4.drop off).take n;rw[<-Cw]at hr;refine⟨_,?_,hr⟩;have hlen:(List.take n (List.drop off (List.take cs.length (List.drop (ρ b).base c.toList)))).length=n:=by rw[<-hr.1];exact Q4 hc
 conv=>lhs;rw[<-hlen]
 refine run_loadCells_list w _ _ λj v hj=> ?_
 have KE:j<n:=by rw[<-hlen];exact(Za1.1 hj).1
 rw[Ze3,Zb4 KE,Ze5,Ze3,Zb4 (by omega),Ze5]at hj;rw[uk];simp[World.cell?,h1, <-hj,Zk5]
theorem wU(g e:Nat)(fr:Nat×Nat):∀(vs:List Value)(i o:Nat)(cur:Array Value)(w:World),w.heap[g]? =some (.cells cur e fr)->o+i+vs.length<=cur.size->
  (∀v∈vs,v.oneCell'=true)->(∀k,o+i<=k->k<cur.size->¬(fr.1<=k/\k<fr.2))->
  ∃ w',(storeCells ⟨g,o,none⟩ vs i).run P w= .ok () w'/\w'.heap[g]? =some (.cells (aQ cur.toList (o+i) vs).toArray e fr)/\
    w'.heap.size=w.heap.size/\(∀k,k≠g->w'.heap[k]? =w.heap[k]?)/\w'.os=w.os/\w'.tape=w.tape/\w'.output=w.output
 |[],i,o,cur,w,hg,_,_,_=>⟨w,by simp[storeCells],by rw[hg];simp[aQ,Zm3],rfl,λ_ _=>rfl,rfl,rfl,rfl⟩
 |v ::vs,i,o,cur,w,hg,hle,h1,hf=>by
  simp only[Zc9]at hle;have hv:v.oneCell'=true:=h1 v (by simp);have Cx:w.cell? ⟨g,o+i,none⟩=some (cur[o+i]'(by omega)):=by simp[World.cell?,hg]
  have hfz:w.frozen? ⟨g,o+i,none⟩=false:=by have:=hf (o+i) (Za3 _) (by omega);simp only[World.frozen?,hg];simpa using this
  have tR:(w.setCell ⟨g,o+i,none⟩ v).heap[g]? =some (.cells (cur.setIfInBounds (o+i) v) e fr):=by
    simp[World.setCell,Zj1,hg]
  obtain⟨w',h2,h3,h4,h5,h6,h7,h8⟩:=wU g e fr vs (i+1) o _ _ tR (by simp;omega) (λv hv=>h1 v (by simp[hv])) (by intro k hk pF;simp at pF;exact hf k (by omega) pF);refine⟨w',?_,?_,by simp[h4],λk hk=> ?_,h6,h7,h8⟩
  .simp only[storeCells,Sem.run_bind,uk,run_store P w _ _ _ hv,Cx,hfz];simpa using h2
  .rw[h3];congr 2;simp only[aQ,Zc9,Zq3];rw[Zp9 (by omega)];have:o+(i+1)=(o+i)+1:=(by omega);rw[this,List.take_set,List.take_add_one];have aV:o+i<cur.toList.length:=(by simp;omega);rw[H0 aV];simp only[Option.toList_some,List.set_append,Zg7];have hm:min (o+i) cur.toList.length=o+i:=Zl6 (Zo1 aV);rw[hm,Za6 (Zp4 _),Zl0];simp;rw[show o+i+1+vs.length=o+i+(vs.length+1)from by omega]
  .rw[h5 k hk,Below.heap_setCell _ _ _ _ (by simpa using hk)]
end
section
variable{P:Program}{tt:TT}{ρ:Pos->Loc}{C:Cells}{st:St}{w:World}{n:Nat}
theorem Yields.value(x:Value):Yields (.value x) x:= .inl rfl
theorem F6.pure{v:AV}{x:Value}{r:Result Next}(h:r= .ok (.value x) w)(hv:aC ρ st.next.toNat C v x):F6 P ρ C st w r (.val v):=
 ⟨_,x,h,Yields.value x,hv⟩
theorem aC.iq{k:IntKind}{i:Int}{x:Value}(h:aC ρ n C (.int k i) x):x= .int k i:=by cases h;rfl
theorem aC.kR{b:Bool}{x:Value}(h:aC ρ n C (.bool b) x):x= .bool b:=by cases h;rfl
theorem aC.ff{s:List Nat}{x:Value}(h:aC ρ n C (.str s) x):∃bs:ByteArray,x= .string bs/\bs.data.toList.map UInt8.toNat=s:=by
 cases h with|str _ bs h=>exact⟨bs,rfl,h⟩
theorem aC.Fm{x:Value}(h:aC ρ n C .jf x):x= .pointer none:=by cases h;rfl
theorem aC.ir{x:Value}(h:aC ρ n C .af x):x= .slice none 0 0:=by cases h;rfl
theorem aC.Fo{x:Value}(h:aC ρ n C .qp x):x= .map none:=by cases h;rfl
theorem aC.Q5{x:Value}(h:aC ρ n C .jM x):x= .nilFunc:=by cases h;rfl
theorem aC.age{x:Value}(h:aC ρ n C .Bh x):x= .nilIface:=by cases h;rfl
theorem aC.qj{b:Pos}{off:Nat}{x:Value}(h:aC ρ n C (.ptr b off) x):b.toNat<n/\x= .pointer (some ⟨(ρ b).aM,(ρ b).base+off,none⟩):=by
 cases h with|ptr _ _ h=>exact⟨h,rfl⟩
theorem aC.BP{b:Pos}{x:Value}(h:aC ρ n C (.map b) x):b.toNat<n/\x= .map (some (ρ b).aM):=by
 cases h with|map _ h=>exact⟨h,rfl⟩
theorem aC.aec{t:TypeId}{v:AV}{x:Value}(h:aC ρ n C (.iface t v) x):∃y,x= .iface t y/\aC ρ n C v y:=by
 cases h with|iface _ _ y h=>exact⟨y,rfl,h⟩
theorem aC.fA{b:Pos}{off len es:Nat}{cap:Option Nat}{x:Value}(h:aC ρ n C (.slice b off len cap es) x):
  ∃(a:Addr) (bn:Nat),x= .slice (some a) len bn/\len<=bn/\(∀c,cap=some c->c=bn)/\
   (bn≠0->b.toNat<n/\a=⟨(ρ b).aM,(ρ b).base+off,none⟩/\(ρ b).base+off+bn*es<=(ρ b).size):=by
 cases h with|slice _ _ _ _ _ bn a hl hc ha _=>exact⟨a,bn,rfl,hl,hc,ha⟩
theorem aC.Vi{b:Pos}{off len es:Nat}{cap:Option Nat}{x:Value}(h:aC ρ n C (.slice b off len cap es) x):cap=none->b.toNat<n:=by
 cases h with|slice _ _ _ _ _ _ _ _ _ _ hk=>exact hk
theorem aC.yh{xs:List (List AV)}{es:Nat}{x:Value}(h:aC ρ n C (.fl xs es) x):
  ∃(a:Addr) (bn:Nat) (cell:Nat->Nat->Value),x= .slice (some a) xs.length bn/\xs.length<=bn/\(xs≠[]->a.spot=none)/\
   (∀(i:Nat)(cs:List AV),xs[i]? =some cs->cs.length=es)/\
   (∀(i j:Nat)(cs:List AV)(v:AV),xs[i]? =some cs->cs[j]? =some v->C ⟨a.block,a.off+i*es+j,none⟩=some (cell i j))/\
   (∀(i j:Nat)(cs:List AV)(v:AV),xs[i]? =some cs->cs[j]? =some v->aC ρ n C v (cell i j)):=by
 cases h with|fl _ _ bn a cell hl hs dW hc hv=>exact⟨a,bn,cell,rfl,hl,hs,dW,hc,hv⟩
theorem aC.OK{xs:List (List AV)}{i j:Nat}{x:Value}(h:aC ρ n C (.fp xs i j) x):
  ∃(es aM base:Nat) (cell:Nat->Nat->Value),x= .pointer (some ⟨aM,base+i*es+j,none⟩)/\
   (∀(i:Nat)(cs:List AV),xs[i]? =some cs->cs.length=es)/\
   (∀(i j:Nat)(cs:List AV)(v:AV),xs[i]? =some cs->cs[j]? =some v->C ⟨aM,base+i*es+j,none⟩=some (cell i j))/\
   (∀(i j:Nat)(cs:List AV)(v:AV),xs[i]? =some cs->cs[j]? =some v->aC ρ n C v (cell i j)):=by
 cases h with|fp _ _ _ es aM base cell hl hc hv=>exact⟨es,aM,base,cell,rfl,hl,hc,hv⟩
theorem yj(k:IntKind)(i:Int):ax k i=k.wrap i:=by
 unfold ax;split
 . rename_i h1 _;split
   .rename_i h2 _;cases k<;>simp only[loI,hiI]at h1 h2<;>simp only[IntKind.wrap,IntKind.bits,IntKind.signed]<;>simp<;>omega
   .rfl
 .rfl
theorem n9(a b:Int):AZ a b=(a==b):=by
 unfold AZ;split
 .rename_i h _;subst h;simp
 .rename_i h _;simp[h]
theorem e8(a b:Int):A0 a b=decide (a<b):=by
 unfold A0;split<;>(rename_i h _;simp[h])
theorem kT(a b:Int):afL a b=decide (a<=b):=by
 unfold afL;split<;>(rename_i h _;simp[h])
theorem mH:∀{a b:List Nat},kq a b=true↔a=b
 |[],[]=>by simp[kq]
 |[],_::_=>by simp[kq]
 |_::_,[]=>by simp[kq]
 |a::x,b::y=>by
  unfold kq;split
  .rename_i h;have:=Za7 h;subst this;simp[mH (a:=x) (b:=y)]
  .rename_i h;have:=Zf2 h;simp[this]
theorem OL:∀{a b:List UInt8},a.map UInt8.toNat=b.map UInt8.toNat->a=b
 |[],[],_=>rfl
 |[],_::_,h=>by simp at h
 |_::_,[],h=>by simp at h
 |a::x,b::y,h=>by
  simp at h;rw[Zr7.1 h.1,OL h.2]
theorem toList_data(b:ByteArray):b.toList=b.data.toList:=ByteArray.toList_eq b
theorem wM:∀(x y:List UInt8),aO (x.map UInt8.toNat) (y.map UInt8.toNat)=Op.bytesLess x y
 |[],[]=>by simp[aO,Op.bytesLess]
 |_::_,[]=>by simp[aO,Op.bytesLess]
 |[],_::_=>by simp[aO,Op.bytesLess]
 |a ::x,b::y=>by
  simp only[Zd3,aO,Op.bytesLess];split
  .rename_i h;have:a<b:=(by rw[Zo8];simpa using h);simp[this]
  . (rename_i h;have h1:¬a<b:=by rw[Zo8];intro h';have h2:Nat.blt a.toNat b.toNat=true:=(by simpa using h');rw[h2]at h;cases h);split
    .   rename_i h2;have:a=b:=Zr7.1 (Za7 h2);subst this;simp only[h1,decide_false,Zn3,beq_self_eq_true,Zg5];exact wM x y
    .   (rename_i h2;have:a≠b:=λe=>Zf2 h2 (by rw[e]));simp[h1,this]
theorem OM{a b:List Nat}{x y:ByteArray}(hx:x.data.toList.map UInt8.toNat=a)(hy:y.data.toList.map UInt8.toNat=b):(x.toList==y.toList)=kq a b:=by
 rw[toList_data,toList_data,Zn6,mH,beq_iff_eq, <-hx, <-hy];exact⟨λh=>by rw[h],λh=>OL h⟩
theorem aar{a b:List Nat}{x y:ByteArray}(hx:x.data.toList.map UInt8.toNat=a)(hy:y.data.toList.map UInt8.toNat=b):Op.bytesLess x.toList y.toList=aO a b:=by
 rw[toList_data,toList_data, <-hx, <-hy,wM]
theorem KF{a:List Nat}{x:ByteArray}(hx:x.data.toList.map UInt8.toNat=a):x.size=a.length:=by rw[<-hx,Za5,Zi0];rfl
def PK.fits:PK->TypeDesc->Bool
 |.b,.bool=>true
 |.i,.int _=>true
 |.s,.string=>true
 |_,_=>false
theorem agf{t:TypeId}{d:TypeDesc}(hd:P.underlying t=some d){pk:PK}(hk:pk.fits d=true){a b:AV}{x y:Value}{r:Bool}{m:Nat}
   (ha:aC ρ n C a x) (hb:aC ρ n C b y) (h:yd pk a b=some r) (w:World):(Op.equalIn (m+1) t x y).run P w= .ok r w:=by
 unfold yd at h;split at h
 .simp only[H5]at h;subst h;rw[ha.kR,hb.kR];cases d<;>simp[PK.fits]at hk;rw[run_equalIn_bool' w m t _ _ hd]
 . split at h
   .rename_i pF;have:=BO pF;subst this;simp only[H5]at h;subst h;rw[ha.iq,hb.iq];cases d<;>simp[PK.fits]at hk;rw[run_equalIn_int w m t _ _ _ _ hd,n9]
   .cases h
 .simp only[H5]at h;subst h;obtain⟨bx,rfl,h1⟩:=ha.ff;obtain⟨bz,rfl,h2⟩:=hb.ff;cases d<;>simp[PK.fits]at hk;rw[run_equalIn_string w m t _ _ hd,OM h1 h2]
 .cases h
theorem Vj:∀{fs:List (Nat×Nat×Bool)}{l:List (Nat×PK)}{gs:List Field}{xs ys:List AV}{cx cy:Array Value}{r:Bool}{m:Nat}(_hT:dh P tt)
  (_hm:cm.e9 fs gs=true) (_hf:Cs.fields tt fs=some l) (_hx:aJ ρ n C xs cx.toList) (_hy:aJ ρ n C ys cy.toList) (_h:eqFields xs ys l=some r) (w:World),
  (Op.eqFields (m+1) cx cy gs).run P w= .ok r w
 |[],l,gs,xs,ys,cx,cy,r,m,hT,hm,hf,hx,hy,h,w=>by
  cases gs with
  |cons f gs=>simp[cm.e9]at hm
  | nil=>
    simp[Cs.fields]at hf;subst hf;simp[eqFields]at h;subst h;simp[Op.eqFields]
 |(off  , t,named)::fs,l,gs,xs,ys,cx,cy,r,m,hT,hm,hf,hx,hy,h,w=>by
  cases gs with
  |nil=>simp[cm.e9]at hm
  | cons f gs=>
    simp[cm.e9]at hm;obtain⟨⟨⟨ho,ht⟩,hn⟩,hm'⟩:=hm;unfold Cs.fields at hf;(split at hf<;>first|(cases hf;done)|skip);rename_i ti l' fB hl';obtain⟨d,hd,dK⟩:=(hT.at fB).und;have key:∃pk,l=(off,pk)::l'/\pk.fits d=true/\(isAgg t).run P w= .ok false w:=by
        have xG:=aaq dK w hd;split at hf<;>first|(cases hf;done)|skip
        all_goals
          rename_i hk;simp only[H5]at hf;rw[hk]at dK xG;refine⟨_,hf.symm,?_,xG⟩
        .rw[ac4 dK];rfl
        .rw[Vh dK];rfl
        .rw[uZ dK];rfl
    obtain⟨pk,rfl,NJ,xG⟩:=key;have cN:f.name≠ "_" :=(by intro e;rw[e]at hn;simp at hn);unfold eqFields at h;(split at h<;>first|(cases h;done)|skip);rename_i a b ha hb;rw[qu]at ha hb;obtain⟨x,hx1,Zl⟩:=hx.get ha;obtain⟨y,Vk,hy2⟩:=hy.get hb;have px:(part f.type cx f.offset).run P w= .ok x w:=by
        rw[<-ht, <-ho];simp at hx1;simp[part,xG,hx1]
    have py:(part f.type cy f.offset).run P w= .ok y w:=by
        rw[<-ht, <-ho];simp at Vk;simp[part,xG,Vk]
    simp only[Op.eqFields,Sem.run_bind,Sem.run_ite,cN,px,py,Result.andThen_ok,ne_eq,not_false_eq_true,Zh1];split at h
    .   rename_i he;rw[<-ht,agf hd NJ Zl hy2 he w];simpa using Vj (m:=m) hT hm' hl' hx hy h w
    .   rename_i he;simp only[H5]at h;subst h;rw[<-ht,agf hd NJ Zl hy2 he w];simp
    .   cases h
def arz(tt:TT)(op:BinOp)(q:gU)(t:TypeId):Prop:=Cs tt t=some q\/(q= .num/\op≠ .eql/\op≠ .neq)
def auN(P:Program)(tt:TT)(t:TypeId):gU->Prop
 |.num=>True
 |.bool=>P.underlying t=some .bool
 |.ptr=>∃e,P.underlying t=some (.pointer e)/\∃j,P.info? e=some j
 |.slice=>∃e,P.underlying t=some (.slice e)
 |.map=>∃k e,P.underlying t=some (.map k e)
 |.func=>∃a b c,P.underlying t=some (.func a b c)
 |.iface=>∃a,P.underlying t=some (.interface a)
 |.struct l=>∃fs gs,P.underlying t=some (.struct gs)/\cm.e9 fs gs.toList=true/\Cs.fields tt fs=some l/\P.stoodInHeld t=false/\P.eqGuardType P.depth t=false
theorem ajv(hT:dh P tt){t:TypeId}{q:gU}(hq:Cs tt t=some q):auN P tt t q:=by
 unfold Cs at hq;split at hq<;>first|(cases hq;done)|skip
 rename_i ti fB;obtain⟨d,hd,dK⟩:=(hT.at fB).und;split at hq<;>first|(cases hq;done)|skip
 all_goals rename_i hk
 all_goals rw[hk]at dK
 .simp only[H5]at hq;subst hq;rw[ac4 dK]at hd;exact hd
 .simp only[H5]at hq;subst hq;trivial
 .simp only[H5]at hq;subst hq;trivial
 .simp only[H5]at hq;subst hq;rw[atO dK]at hd;exact⟨_,hd,(hT.at fB).elem _ hk⟩
 .simp only[H5]at hq;subst hq;rw[tE dK]at hd;exact⟨_,hd⟩
 .simp only[H5]at hq;subst hq;rw[Vg dK]at hd;exact⟨_,_,hd⟩
 .simp only[H5]at hq;subst hq;obtain⟨_,_,_,rfl⟩:=ar5 dK;exact⟨_,_,_,hd⟩
 .simp only[H5]at hq;subst hq;obtain⟨_,rfl⟩:=ao7 dK;exact⟨_,hd⟩
 . (split at hq<;>first|(cases hq;done)|skip);rename_i fs _ _ l hp hl;simp only[H5]at hq;subst hq;obtain⟨gs,rfl,hm⟩:=MG dK;exact⟨fs,gs,hd,hm,hl,(hT.at fB).eqs hp⟩
theorem akx(m:Nat)(hT:dh P tt){t:TypeId}{q:gU}(hq:Cs tt t=some q){a b:AV}{x y:Value}{r:Bool}(ha:aC ρ n C a x)(hb:aC ρ n C b y)(h:aam q a b=some r)(w:World):
   (Op.equalIn (m+1+1) t x y).run P w= .ok r w:=by
 have hi:=ajv hT hq;clear hq;unfold aam at h;split at h<;>first|(cases h;done)|skip
 .simp only[H5]at h;subst h;rw[ha.kR,hb.kR,run_equalIn_bool' w _ t _ _ hi]
 all_goals first
   |(simp only[H5]at h;subst h)
   |skip
 .obtain⟨e,hd,_⟩:=hi;rw[ha.Fm,hb.Fm];(unfold Op.equalIn;rw[Sem.run_bind,bt hd];rfl)
 .obtain⟨e,hd,_⟩:=hi;obtain⟨_,hb⟩:=hb.qj;rw[ha.Fm,hb];(unfold Op.equalIn;rw[Sem.run_bind,bt hd];rfl)
 .obtain⟨e,hd,_⟩:=hi;obtain⟨_,ha⟩:=ha.qj;rw[hb.Fm,ha];(unfold Op.equalIn;rw[Sem.run_bind,bt hd];rfl)
 .obtain⟨e,hd,_⟩:=hi;obtain⟨_,_,_,_,hb,_⟩:=hb.OK;rw[ha.Fm,hb];(unfold Op.equalIn;rw[Sem.run_bind,bt hd];rfl)
 .obtain⟨e,hd,_⟩:=hi;obtain⟨_,_,_,_,ha,_⟩:=ha.OK;rw[hb.Fm,ha];(unfold Op.equalIn;rw[Sem.run_bind,bt hd];rfl)
 .obtain⟨e,hd,j,hj⟩:=hi;(split at h<;>first|(cases h;done)|skip);rename_i e1 e2;have e1:=Pos.beq_eq.1 e1;have e2:=Za7 e2;subst e1;subst e2;simp only[H5]at h;subst h;obtain⟨_,ha⟩:=ha.qj;obtain⟨_,hb⟩:=hb.qj;rw[ha,hb];simp[Op.equalIn,bt hd,sizeOf,typeInfo,hj,run_sameAddr_same]
 .obtain⟨e,hd⟩:=hi;rw[ha.ir,hb.ir];(unfold Op.equalIn;rw[Sem.run_bind,bt hd];rfl)
 .obtain⟨e,hd⟩:=hi;obtain⟨_,_,hb,_⟩:=hb.fA;rw[ha.ir,hb];(unfold Op.equalIn;rw[Sem.run_bind,bt hd];rfl)
 .obtain⟨e,hd⟩:=hi;obtain⟨_,_,ha,_⟩:=ha.fA;rw[hb.ir,ha];(unfold Op.equalIn;rw[Sem.run_bind,bt hd];rfl)
 .obtain⟨e,hd⟩:=hi;obtain⟨_,_,_,hb,_⟩:=hb.yh;rw[ha.ir,hb];(unfold Op.equalIn;rw[Sem.run_bind,bt hd];rfl)
 .obtain⟨e,hd⟩:=hi;obtain⟨_,_,_,ha,_⟩:=ha.yh;rw[hb.ir,ha];(unfold Op.equalIn;rw[Sem.run_bind,bt hd];rfl)
 .obtain⟨k,e,hd⟩:=hi;rw[ha.Fo,hb.Fo];(unfold Op.equalIn;rw[Sem.run_bind,bt hd];rfl)
 .obtain⟨k,e,hd⟩:=hi;obtain⟨_,hb⟩:=hb.BP;rw[ha.Fo,hb];(unfold Op.equalIn;rw[Sem.run_bind,bt hd];rfl)
 .obtain⟨k,e,hd⟩:=hi;obtain⟨_,ha⟩:=ha.BP;rw[hb.Fo,ha];(unfold Op.equalIn;rw[Sem.run_bind,bt hd];rfl)
 .obtain⟨_,_,_,hd⟩:=hi;rw[ha.Q5,hb.Q5];(unfold Op.equalIn;rw[Sem.run_bind,bt hd];rfl)
 .obtain⟨_,_,_,hd⟩:=hi;obtain⟨_,_,hb,_⟩:=hb.QV;rw[ha.Q5,hb];(unfold Op.equalIn;rw[Sem.run_bind,bt hd];rfl)
 .obtain⟨_,_,_,hd⟩:=hi;obtain⟨_,_,ha,_⟩:=ha.QV;rw[hb.Q5,ha];(unfold Op.equalIn;rw[Sem.run_bind,bt hd];rfl)
 .obtain⟨_,hd⟩:=hi;obtain⟨_,hb,_⟩:=hb.aec;rw[ha.age,hb];(unfold Op.equalIn;rw[Sem.run_bind,bt hd];rfl)
 .obtain⟨_,hd⟩:=hi;obtain⟨_,ha,_⟩:=ha.aec;rw[hb.age,ha];(unfold Op.equalIn;rw[Sem.run_bind,bt hd];rfl)
 .obtain⟨fs,gs,hd,hm,hl,hp,_⟩:=hi;obtain⟨cx,rfl,hx⟩:=ha.Fk;obtain⟨cy,rfl,hy⟩:=hb.Fk;have hfo:P.fieldsOf t=gs:=(by simp[Program.fieldsOf,hd]);rw[run_equalIn_agg w (m+1) t cx cy (by rw[hfo,hd]) hp,hfo];exact Vj (m:=m) hT hm hl hx hy h w
theorem agh(hT:dh P tt){t:TypeId}{q:gU}(hq:Cs tt t=some q){a b:AV}{x y:Value}{r:Bool}(ha:aC ρ n C a x)(hb:aC ρ n C b y)(h:aam q a b=some r)(w:World):
 (Op.equal t x y).run P w= .ok r w:=akx 9998 hT hq ha hb h w
theorem abv(hT:dh P tt){t:TypeId}{q:gU}(hq:Cs tt t=some q){a b:AV}{x y:Value}{r:Bool}(ha:aC ρ n C a x)(hb:aC ρ n C b y)(h:aam q a b=some r)(op:BinOp)(ox oy:Operand)(w:World):
  (eqGuard op t ox oy x y).run P w= .ok () w:=by
 have hi:=ajv hT hq;clear hq;unfold aam at h;split at h<;>first|(cases h;done)|skip
 all_goals first
  |(obtain⟨fs,gs,hd,hm,hl,hp,hg⟩:=hi
    obtain⟨cx,rfl,hx⟩:=ha.Fk;obtain⟨cy,rfl,hy⟩:=hb.Fk;exact run_eqGuard_agg w op t ox oy cx cy hg)
  |(cases ha<;>cases hb<;>cases op<;>rfl)
end
section
variable{P:Program}{tt:TT}{ρ:Pos->Loc}{C:Cells}{st:St}{w:World}{n:Nat}
theorem ae8(op:BinOp)(t:TypeId)(k:IntKind)(i j:Int)(hs:op≠ .shl)(hr:op≠ .shr):(binOp op t (.int k i) (.int k j)).run P w=
  (match op with
   |.add|.sub|.mul=>Op.intArith op k i j
   |.quo|.rem=>Op.intDiv op k i j
   |.and|.or|.xor|.andNot=>Op.intBits op k i j
   |_=>Op.intCmp op i j).run P w:=by
 cases op<;>first|(exact absurd rfl hs)|(exact absurd rfl hr)|simp[binOp]
theorem ao9(hT:dh P tt){op:BinOp}{t:TypeId}{q:gU}(hq:arz tt op q t){a b v:AV}{x y:Value}(ha:aC ρ n C a x)(hb:aC ρ n C b y)(h:o6 op q a b=some v)(ox oy:Operand):
  ∃z,(do eqGuard op t ox oy x y;binOp op t x y:Sem Value).run P w= .ok z w/\aC ρ n C v z:=by
 unfold o6 at h;split at h
 ·
  rename_i k i k' j;rw[ha.iq,hb.iq];have hg:∀op,(eqGuard op t ox oy (.int k i) (.int k' j)).run P w= .ok () w:=by intro op;cases op<;>rfl
  rw[Sem.run_bind,hg,Result.andThen_ok];split at h
  . split at h
    .   cases h
    .   rename_i aV;rw[e8]at aV;have aV:=Zl2 aV;simp only[H5]at h;subst h;exact⟨_,by simp[binOp,Op.shift,aV,yj],.int _ _⟩
  . split at h
    .   cases h
    .   rename_i aV;rw[e8]at aV;have aV:=Zl2 aV;simp only[H5]at h;subst h;exact⟨_,by simp[binOp,Op.shift,aV],.int _ _⟩
  . rename_i hs hr;split at h
    .   cases h
    .   rename_i hk;have:=BO hk;subst this;rw[ae8 op t k i j (λe=>hs e) (λe=>hr e)];split at h
        .simp only[H5]at h;subst h;exact⟨_,by simp[Op.intArith,yj],.int _ _⟩
        .simp only[H5]at h;subst h;exact⟨_,by simp[Op.intArith,yj],.int _ _⟩
        .simp only[H5]at h;subst h;exact⟨_,by simp[Op.intArith,yj],.int _ _⟩
        . split at h
          .cases h
          . (rename_i h0;rw[n9]at h0;have h0':¬j=0:=by simpa using h0);simp only[H5]at h;subst h;exact⟨_,by simp[Op.intDiv,h0',yj],.int _ _⟩
        . split at h
          .cases h
          . (rename_i h0;rw[n9]at h0;have h0':¬j=0:=by simpa using h0);simp only[H5]at h;subst h;exact⟨_,by simp[Op.intDiv,h0'],.int _ _⟩
        .simp only[H5]at h;subst h;exact⟨_,by simp[Op.intBits],.int _ _⟩
        .simp only[H5]at h;subst h;exact⟨_,by simp[Op.intBits],.int _ _⟩
        .simp only[H5]at h;subst h;exact⟨_,by simp[Op.intBits],.int _ _⟩
        .simp only[H5]at h;subst h;exact⟨_,by simp[Op.intBits],.int _ _⟩
        .simp only[H5]at h;subst h;exact⟨_,by simp[Op.intCmp,n9],.bool _⟩
        .simp only[H5]at h;subst h;refine⟨_,rfl,?_⟩;rw[n9];exact .bool _
        .simp only[H5]at h;subst h;refine⟨_,rfl,?_⟩;rw[e8];exact .bool _
        .simp only[H5]at h;subst h;refine⟨_,rfl,?_⟩;rw[kT];exact .bool _
        .simp only[H5]at h;subst h;refine⟨_,rfl,?_⟩;rw[e8];exact .bool _
        .simp only[H5]at h;subst h;refine⟨_,rfl,?_⟩;rw[kT];exact .bool _
        .cases h
 ·
  rename_i s u;obtain⟨bx,rfl,h1⟩:=ha.ff;obtain⟨bz,rfl,h2⟩:=hb.ff;have hg:∀op,(eqGuard op t ox oy (.string bx) (.string bz)).run P w= .ok () w:=by intro op;cases op<;>rfl
  rw[Sem.run_bind,hg,Result.andThen_ok];have hs:(binOp op t (.string bx) (.string bz)).run P w=(Op.stringOp op bx bz).run P w:=by cases op<;>rfl
  rw[hs];have e1:=OM h1 h2;have e2:=aar h1 h2;split at h
  . split at h
    .   rename_i hb;have hb:=Zb5 hb;simp only[H5]at h;subst h;have lF:¬(((bx.size+bz.size:Nat):Int)>IntKind.i64.max):=(by rw[KF h1,KF h2];simp[IntKind.max,IntKind.signed,IntKind.bits];omega);refine⟨.string (bx++bz),?_,.str _ _ ?_⟩
        .simp only[Op.stringOp];rw[Za6 lF];rfl
        .rw[ByteArray.data_append,Array.toList_append,Zc8,h1,h2]
    .   cases h
  all_goals first|(cases h;done)|skip
  all_goals
    simp only[H5]at h;subst h;refine⟨_,rfl,?_⟩
    first|rw[e1,e2]|rw[e1]|rw[e2]
    exact .bool _
 ·
  rename_i hni hns;have afO:∀op,(op= .eql\/op= .neq)->(binOp op t x y).run P w=((Op.equal t x y).run P w).andThen λr w'=>.ok (.bool (if op= .eql then r else !r)) w':=by
    rintro op (rfl|rfl)
    all_goals
        cases ha<;>cases hb<;>first
          |(exact(hni _ _ _ _ rfl rfl).elim)
          |(exact(hns _ _ rfl rfl).elim)
          |simp[binOp]
  split at h
  . split at h
    .   rename_i r hr;simp only[H5]at h;subst h;rcases hq with hq|⟨_,hq,_⟩
        .refine⟨.bool r,?_,.bool r⟩;rw[Sem.run_bind,abv hT hq ha hb hr,Result.andThen_ok,afO _ (.inl rfl),agh hT hq ha hb hr];rfl
        .exact absurd rfl hq
    .   cases h
  . split at h
    .   rename_i r hr;simp only[H5]at h;subst h;rcases hq with hq|⟨_,_,hq⟩
        .refine⟨.bool (!r),?_,.bool _⟩;rw[Sem.run_bind,abv hT hq ha hb hr,Result.andThen_ok,afO _ (.inr rfl),agh hT hq ha hb hr];rfl
        .exact absurd rfl hq
    .   cases h
  .cases h
end
def fh(P:Program)(tt:TT)(op:Op):Prop:=
 ∀  (ρ:Pos->Loc)(C:Cells)(st:St)(w:World)(k:aE)(xs:List gX)(cls:Cls)(fr:Fr)(a:Act)(o:Oper)(vs:List AV)(res:eG),
    o.op=op->j9 tt op=some (k,xs,cls)->bV ρ C st w->kQ ρ st.next.toNat C fr a.tmps->fP fr xs=some vs->
    k.run (λb=>st.heap.get b) st.next vs=some res->F6 P ρ C st w ((execOp a.eval o).run P w) res
section
variable{P:Program}{tt:TT}
theorem ac5{ρ:Pos->Loc}{n:Nat}{C:Cells}{x y:Operand}{os:List gX}{fr:Fr}{a:Act}{vs:List AV}(h:mF [x,y]=some os)(hF:kQ ρ n C fr a.tmps)(hv:fP fr os=some vs):
  ∃u v,vs=[u,v]/\aC ρ n C u (a.eval x)/\aC ρ n C v (a.eval y):=by
 have h1:=iN h hF hv;cases vs with
 |nil=>have:=h1.1;simp at this
 |cons u vs=>
  cases vs with
  |nil=>have:=h1.1;simp at this
  |cons v vs=>
   cases vs with
   |nil=>exact⟨u,v,rfl,h1.2 0 u _ rfl rfl,h1.2 1 v _ rfl rfl⟩
   |cons z vs=>have:=h1.1;simp at this
theorem evs3{ρ:Pos->Loc}{n:Nat}{C:Cells}{x y z:Operand}{os:List gX}{fr:Fr}{a:Act}{vs:List AV}(h:mF [x,y,z]=some os)(hF:kQ ρ n C fr a.tmps)(hv:fP fr os=some vs):
  ∃u v q,vs=[u,v,q]/\aC ρ n C u (a.eval x)/\aC ρ n C v (a.eval y)/\aC ρ n C q (a.eval z):=by
 have h1:=iN h hF hv
 match vs,h1 with
 |[u,v,q],h1=>exact⟨u,v,q,rfl,h1.2 0 u _ rfl rfl,h1.2 1 v _ rfl rfl,h1.2 2 q _ rfl rfl⟩
 |[],h1=>have:=h1.1;simp at this
 |[_],h1=>have:=h1.1;simp at this
 |[_,_],h1=>have:=h1.1;simp at this
 |_::_::_::_::_,h1=>have:=h1.1;simp at this
theorem apa(x:Operand):fh P tt (.move x):=by
 intro ρ C st w k xs cls fr a o vs res ho hc hW hF hx hr;simp only[j9]at hc;split at hc<;>first|(cases hc;done)|skip
 rename_i b hb;cases hc;obtain⟨v,rfl,hv⟩:=lC hb hF hx;simp only[aE.run,X6,H5]at hr;subst hr;exact .pure (by simp[execOp,ho]) hv
theorem aky(x:Operand):fh P tt (.assign x):=by
 intro ρ C st w k xs cls fr a o vs res ho hc hW hF hx hr;simp only[j9]at hc;split at hc<;>first|(cases hc;done)|skip
 rename_i b hb;cases hc;obtain⟨v,rfl,hv⟩:=lC hb hF hx;simp only[aE.run,X6,H5]at hr;subst hr;exact .pure (by simp[execOp,ho]) hv
theorem apb(c x y:Operand):fh P tt (.pick c x y):=by
 intro ρ C st w k xs cls fr a o vs res ho hc hW hF hx hr;simp only[j9]at hc;split at hc<;>first|(cases hc;done)|skip
 rename_i l hl;cases hc;obtain⟨u,v,q,rfl,h1,h2,h3⟩:=evs3 hl hF hx;simp only[aE.run,ac0]at hr;split at hr<;>first|(cases hr;done)|skip
 all_goals
   simp only[H5]at hr;subst hr;have h1:=h1.kR
 .exact .pure (by simp[execOp,ho,h1,asBool]) h2
 .exact .pure (by simp[execOp,ho,h1,asBool]) h3
theorem amy(hT:dh P tt)(op:BinOp)(t:TypeId)(x y:Operand)(yt:TypeId):fh P tt (.binOp op t x y yt):=by
 intro ρ C st w k xs cls fr a o vs res ho hc hW hF hx hr;have key:∃q,arz tt op q t/\k= .bin op q/\mF [x,y]=some xs:=by
  simp only[j9]at hc;split at hc
  .rename_i q l hq hl;cases hc;exact⟨q,.inl hq,rfl,hl⟩
  .rename_i l hq hl;(split at hc<;>first|(cases hc;done)|skip);rename_i h1 h2;cases hc;exact⟨.num,.inr ⟨rfl,λe=>h1 e,λe=>h2 e⟩,rfl,hl⟩
  .cases hc
 obtain⟨q,hq,rfl,hl⟩:=key;obtain⟨u,v,rfl,h1,h2⟩:=ac5 hl hF hx;simp only[aE.run,js]at hr;split at hr<;>first|(cases hr;done)|skip
 rename_i r hb;simp only[H5]at hr;subst hr;obtain⟨z,hz,hv⟩:=ao9 hT hq h1 h2 hb x y (w:=w);refine .pure ?_ hv;simp only[execOp,ho];rw[Sem.run_bind,hz];rfl
theorem apc(op:UnOp)(t:TypeId)(x:Operand):fh P tt (.unOp op t x):=by
 intro ρ C st w k xs cls fr a o vs res ho hc hW hF hx hr;simp only[j9]at hc;split at hc<;>first|(cases hc;done)|skip
 rename_i b hb;cases hc;obtain⟨v,rfl,hv⟩:=lC hb hF hx;simp only[aE.run,akq]at hr;split at hr<;>first|(cases hr;done)|skip
 rename_i r hu;simp only[H5]at hr;subst hr;unfold unA at hu;split at hu
 . (split at hu<;>first|(cases hu;done)|skip);simp only[H5]at hu;subst hu;exact .pure (by simp[execOp,ho,hv.kR,Op.unary]) (.bool _)
 . (split at hu<;>first|(cases hu;done)|skip);simp only[H5]at hu;subst hu;exact .pure (by simp[execOp,ho,hv.iq,Op.unary,Op.intArith];rfl) (by rw[yj];simpa using aC.int _ _)
 .cases hu
theorem agi(x:Operand):fh P tt (.nilCheck x):=by
 intro ρ C st w k xs cls fr a o vs res ho hc hW hF hx hr;simp only[j9]at hc;split at hc<;>first|(cases hc;done)|skip
 rename_i b hb;cases hc;obtain⟨v,rfl,hv⟩:=lC hb hF hx;simp only[aE.run,NH]at hr;split at hr<;>first|(cases hr;done)|skip
 all_goals simp only[H5]at hr;subst hr
 .obtain⟨_,he⟩:=hv.qj;exact .pure (by simp[execOp,ho,he]) hv
 .obtain⟨_,_,_,_,he,_⟩:=hv.OK;exact .pure (by simp[execOp,ho,he]) hv
 .obtain⟨_,_,he,_⟩:=hv.QV;exact .pure (by simp[execOp,ho,he]) hv
theorem aiO(x:Operand)(i:Nat):fh P tt (.extract x i):=by
 intro ρ C st w k xs cls fr a o vs res ho hc hW hF hx hr;simp only[j9]at hc;split at hc<;>first|(cases hc;done)|skip
 rename_i b hb;cases hc;obtain⟨v,rfl,hv⟩:=lC hb hF hx;simp only[aE.run,JV]at hr;split at hr<;>first|(cases hr;done)|skip
 split at hr<;>first|(cases hr;done)|skip
 rename_i u hu;simp only[H5]at hr;subst hr;obtain⟨cs,he,hs⟩:=hv.Ve;rw[qu]at hu;obtain⟨y,hy,Vl⟩:=hs.get hu;exact .pure (by simp at hy;simp[execOp,ho,he,Instr.extract,hy]) Vl
theorem aiP(hT:dh P tt)(t:TypeId)(x:Operand):fh P tt (.makeInterface t x):=by
 intro ρ C st w k xs cls fr a o vs res ho hc hW hF hx hr;simp only[j9]at hc;split at hc<;>first|(cases hc;done)|skip
 rename_i ti b fB hb;split at hc<;>first|(cases hc;done)|skip
 rename_i h1 h2;cases hc;obtain⟨v,rfl,hv⟩:=lC hb hF hx;simp only[aE.run,QN,H5]at hr;subst hr;obtain⟨d,hd,hk⟩:=(hT.at fB).und;refine .pure (x:= .iface t (a.eval x)) ?_ (.iface _ _ _ hv);have hni:∀ms,d≠ .interface ms:=by
  rintro ms rfl;cases MH:ti.k<;>rw[MH]at hk<;>first|(simp[cm]at hk;done)|(exact h1 MH)|(exact h2 MH)
 simp only[execOp,ho,Instr.makeInterface,Sem.run_bind,bt hd,Result.andThen_ok];cases d<;>first|rfl|(exact absurd rfl (hni _))
theorem akz(fn:Fn)(first captured:Array Operand):fh P tt (.makeFunc fn first captured):=by
 intro ρ C st w k xs cls fr a o vs res ho hc hW hF hx hr;simp only[j9]at hc;split at hc<;>first|(cases hc;done)|skip
 rename_i f l hl;cases hc;have h:=iN hl hF hx;simp only[aE.run,Gf,H5]at hr;subst hr;have e1:vs.take first.size=vs.take first.size:=rfl
 have h1:=h.take first.size
 have h2:=h.drop first.size
 simp only[Zc8]at h1 h2;rw[Zr8 (by simp)]at h1;rw[List.drop_left' (by simp)]at h2;refine .pure (x:= .func (.func f) (first.map a.eval) (captured.map a.eval)) (by simp[execOp,ho,Instr.makeFunc]) ?_;exact .func _ _ _ _ _ (by simpa using h1.1) (by simpa using h2.1) (λi v v' hv ON=>h1.2 i v v' hv (by simpa using ON)) (λi v v' hv ON=>h2.2 i v v' hv (by simpa using ON))
theorem ae9(hT:dh P tt)(t:TypeId)(x:Operand)(f:Nat):fh P tt (.fieldAddr t x f):=by
 intro ρ C st w k xs cls fr a o vs res ho hc hW hF hx hr;simp only[j9]at hc;split at hc<;>first|(cases hc;done)|skip
 rename_i ti b fB hb;split at hc<;>first|(cases hc;done)|skip
 rename_i fs hk;split at hc<;>first|(cases hc;done)|skip
 rename_i off ft nm hf;split at hc<;>first|(cases hc;done)|skip
 rename_i fi hfi;split at hc<;>first|(cases hc;done)|skip
 rename_i fQ;cases hc;obtain⟨v,rfl,hv⟩:=lC hb hF hx;obtain⟨d,hd,dK⟩:=(hT.at fB).und;rw[hk]at dK;obtain⟨gs,rfl,hm⟩:=MG dK;obtain⟨g,hg,u0,EG,_⟩:=Q0 hm hf;simp only at u0 EG;obtain⟨i,hi,u6,_⟩:=(hT.at hfi).info;have hs0:¬i.size=0:=by rw[u6];exact Zf2 fQ
 simp only[aE.run,Vc]at hr;split at hr<;>first|(cases hr;done)|skip
 .simp only[H5]at hr;subst hr;obtain⟨aV,he⟩:=hv.qj;refine .pure (x:= .pointer (some ⟨(ρ _).aM,(ρ _).base+(_+off),none⟩)) ?_ (.ptr _ _ aV);simp at hg;simp[execOp,ho,he,Instr.fieldAt,bt hd,hg,Instr.sureAddr,fieldPlace,EG,mG hi,hs0,uk,u0,Zk5]
 .simp only[H5]at hr;subst hr;obtain⟨es,aM,base,cell,he,h1,h2,h3⟩:=hv.OK;rename_i Am i' j';refine .pure (x:= .pointer (some ⟨aM,base+i'*es+(j'+off),none⟩)) ?_ (.fp _ _ _ es aM base cell h1 h2 h3);simp at hg;simp[execOp,ho,he,Instr.fieldAt,bt hd,hg,Instr.sureAddr,fieldPlace,EG,mG hi,hs0,uk,u0,Zk5]
theorem mI{ρ:Pos->Loc}{n:Nat}{C:Cells}{v:AV}{x:Value}{i:Nat}(h:aC ρ n C v x)(hi:zN v=some i):∃k,x= .int k (i:Int):=by
 unfold zN at hi;split at hi<;>first|(cases hi;done)|skip
 split at hi<;>first|(cases hi;done)|skip
 simp only[H5]at hi;subst hi;exact⟨_,h.iq⟩
theorem afa(hT:dh P tt)(t:TypeId)(x ix:Operand):fh P tt (.indexAddr t x ix):=by
 intro ρ C st w k xs cls fr a o vs res ho hc hW hF hx hr;simp only[j9]at hc;split at hc<;>first|(cases hc;done)|skip
 rename_i ti l fB hl;obtain⟨d,hd,dK⟩:=(hT.at fB).und;obtain⟨u,v,rfl,h1,h2⟩:=ac5 hl hF (by
   split at hc<;>first|(cases hc;done)|skip
   all_goals
     (split at hc<;>first|(cases hc;done)|skip);cases hc;exact hx)
 split at hc<;>first|(cases hc;done)|skip
 . rename_i e hk;rw[hk]at dK;rw[tE dK]at hd;(split at hc<;>first|(cases hc;done)|skip);rename_i te oU;cases hc;obtain⟨i0,sF,u6,_⟩:=(hT.at oU).info;simp only[aE.run,rX]at hr;(split at hr<;>first|(cases hr;done)|skip);rename_i i hi;obtain⟨kk,EH⟩:=mI h2 hi;split at hr<;>first|(cases hr;done)|skip
   .rename_i b off len cap es' _;(split at hr<;>first|(cases hr;done)|skip);rename_i aV;have aV:i<len:=(by simpa using aV);simp only[H5]at hr;subst hr;obtain⟨aa,bn,he,hle,_,ha⟩:=h1.fA;obtain⟨hb,rfl,_⟩:=ha (by omega);refine .pure (x:= .pointer (some ⟨(ρ b).aM,(ρ b).base+(off+i*te.size),none⟩)) ?_ (.ptr _ _ hb);simp[execOp,ho,he,EH,Instr.indexAt,bt hd,asIntOf,aV,mG sF,uk,u6,Zk5]
   .rename_i Am es' _;(split at hr<;>first|(cases hr;done)|skip);rename_i aV dW;have aV:i<Am.length:=(by simpa using aV);have dW:te.size=es':=Za7 dW;simp only[H5]at hr;subst hr;obtain⟨aa,bn,cell,he,hle,Ao,g1,g2,g3⟩:=h1.yh;have Ao:=Ao (by intro e;rw[e]at aV;simp at aV);obtain⟨ab,ao,asp⟩:=aa;simp only at Ao;subst Ao;refine .pure (x:= .pointer (some ⟨ab,ao+i*es'+0,none⟩)) ?_ (.fp _ _ _ es' ab ao cell g1 g2 g3);simp[execOp,ho,he,EH,Instr.indexAt,bt hd,asIntOf,aV,mG sF,uk,u6,dW]
   .rename_i hh;cases hh
 . rename_i m e hk;rw[hk]at dK;rw[agd dK]at hd;(split at hc<;>first|(cases hc;done)|skip);rename_i te oU;cases hc;obtain⟨i0,sF,u6,_⟩:=(hT.at oU).info;simp only[aE.run,rX]at hr;(split at hr<;>first|(cases hr;done)|skip);rename_i i hi;obtain⟨kk,EH⟩:=mI h2 hi;split at hr<;>first|(cases hr;done)|skip
   .rename_i hh;cases hh
   .rename_i hh;cases hh
   .rename_i m' b off hh;cases hh;(split at hr<;>first|(cases hr;done)|skip);rename_i aV;have aV:i<m:=(by simpa using aV);simp only[H5]at hr;subst hr;obtain⟨hb,he⟩:=h1.qj;refine .pure (x:= .pointer (some ⟨(ρ b).aM,(ρ b).base+(off+i*te.size),none⟩)) ?_ (.ptr _ _ hb);simp[execOp,ho,he,EH,Instr.indexAt,bt hd,asIntOf,aV,mG sF,uk,u6,Zk5,Instr.sureAddr]
end
section
variable{P:Program}{tt:TT}
theorem amz(hT:dh P tt)(t:TypeId)(x:Operand)(f:Nat):fh P tt (.field t x f):=by
 intro ρ C st w k xs cls fr a o vs res ho hc hW hF hx hr;simp only[j9]at hc;split at hc<;>first|(cases hc;done)|skip
 rename_i ti b fB hb;split at hc<;>first|(cases hc;done)|skip
 rename_i fs hk;split at hc<;>first|(cases hc;done)|skip
 rename_i off ft nm hf;split at hc<;>first|(cases hc;done)|skip
 rename_i fi hfi;cases hc;obtain⟨v,rfl,hv⟩:=lC hb hF hx;obtain⟨d,hd,dK⟩:=(hT.at fB).und;rw[hk]at dK;obtain⟨gs,rfl,hm⟩:=MG dK;obtain⟨g,hg,u0,EG,_⟩:=Q0 hm hf;simp only at u0 EG;obtain⟨i,hi,u6,_⟩:=(hT.at hfi).info;obtain⟨fd,hfd,hfk⟩:=(hT.at hfi).und;have xG:=aaq hfk w hfd;simp only[aE.run,QT]at hr;split at hr<;>first|(cases hr;done)|skip
 rename_i cs;obtain⟨cx,he,hs⟩:=hv.Fk;simp at hg;split at hr
 . rename_i hn;(split at hr<;>first|(cases hr;done)|skip);rename_i u hu;simp only[H5]at hr;subst hr;rw[qu]at hu;obtain⟨y,hy,Vl⟩:=hs.get hu;have akA:fi.k.isAgg=false:=by
     unfold Ct at hn;split at hn
     .cases hn
     .assumption
   rw[akA]at xG;refine .pure (x:=y) ?_ Vl;simp at hy;simp[execOp,ho,he,Instr.field,bt hd,hg,part,EG,xG,asAgg,u0,hy]
 . rename_i m hn;simp only[H5]at hr;subst hr;have akA:fi.k.isAgg=true/\m=fi.size:=by
     unfold Ct at hn;split at hn
     .cases hn;exact⟨by assumption,rfl⟩
     .cases hn
   rw[akA.1]at xG;refine .pure (x:= .agg (cx.extract off (off+m))) ?_ (.OH ?_)
   .simp[execOp,ho,he,Instr.field,bt hd,hg,part,EG,xG,asAgg,u0,mG hi,u6,akA.2]
   .have:=(hs.drop off).take m;simpa [Zp6,List.extract]using this
theorem amA(hT:dh P tt)(t:TypeId)(x ix:Operand):fh P tt (.index t x ix):=by
 intro ρ C st w k xs cls fr a o vs res ho hc hW hF hx hr;simp only[j9]at hc;split at hc<;>first|(cases hc;done)|skip
 rename_i ti l fB hl;split at hc<;>first|(cases hc;done)|skip
 rename_i hk;cases hc;obtain⟨u,v,rfl,h1,h2⟩:=ac5 hl hF hx;obtain⟨d,hd,dK⟩:=(hT.at fB).und;rw[hk]at dK;rw[uZ dK]at hd;simp only[aE.run,X7]at hr;split at hr<;>first|(cases hr;done)|skip
 rename_i s i hi;split at hr<;>first|(cases hr;done)|skip
 rename_i c hcx;simp only[H5]at hr;subst hr;obtain⟨bs,he,hs⟩:=h1.ff;obtain⟨kk,EH⟩:=mI h2 hi;rw[qu, <-hs,Zb7]at hcx;obtain⟨b,hb,hbc⟩:=Zf6.1 hcx;have dO:bs[i]? =some b:=by
  obtain⟨aV,u7⟩:=Za1.1 hb;have ao8:i<bs.size:=by rw[Zi0]at aV;exact aV
  rw[getElem?_pos bs i ao8];congr 1
 refine .pure (x:= .int .u8 (.ofNat c)) ?_ (.int _ _);simp[execOp,ho,he,EH,Instr.index,bt hd,asIntOf,dO, <-hbc]
theorem apd(hT:dh P tt)(t:TypeId)(x:Operand):fh P tt (.load t x):=by
 intro ρ C st w k xs cls fr a o vs res ho hc hW hF hx hr;simp only[j9]at hc;split at hc<;>first|(cases hc;done)|skip
 rename_i ti b fB hb;cases hc;obtain⟨v,rfl,hv⟩:=lC hb hF hx;obtain⟨d,hd,dK⟩:=(hT.at fB).und;obtain⟨i,hi,u6,_⟩:=(hT.at fB).info;have xG:=aaq dK w hd;have hn:(Ct ti=none/\ti.k.isAgg=false)\/(Ct ti=some ti.size/\ti.k.isAgg=true):=by unfold Ct;split<;>simp_all
 simp only[aE.run,ze]at hr;split at hr<;>first|(cases hr;done)|skip
 . rename_i bb off;(split at hr<;>first|(cases hr;done)|skip);rename_i cs fz u7;obtain⟨_,he⟩:=hv.qj;rcases hn with⟨hn,hf⟩|⟨hn,hf⟩
   .rw[hn]at hr;rw[hf]at xG;simp only at hr;(split at hr<;>first|(cases hr;done)|skip);rename_i u hu;simp only[H5]at hr;subst hr;rw[qu]at hu;obtain⟨y,hy,Vl⟩:=hW.cell u7 hu;refine .pure (x:=y) ?_ Vl;simp[execOp,ho,he,Instr.loadAt,Instr.sureAddr,loadVar,xG,hy]
   .rw[hn]at hr;rw[hf]at xG;simp only at hr;(split at hr<;>first|(cases hr;done)|skip);rename_i us hu;simp only[H5]at hr;subst hr;obtain⟨ys,hy,Vl⟩:=hW.loadCells (P:=P) u7 hu;refine .pure (x:= .agg ys.toArray) ?_ (.OH (by simpa using Vl));simp[execOp,ho,he,Instr.loadAt,Instr.sureAddr,loadVar,xG,mG hi,u6,hy]
 . rename_i Am i' j';(split at hr<;>first|(cases hr;done)|skip);rename_i cs eW;rw[qu]at eW;obtain⟨es,aM,base,cell,he,g1,g2,g3⟩:=hv.OK;rcases hn with⟨hn,hf⟩|⟨hn,hf⟩
   .rw[hn]at hr;rw[hf]at xG;simp only at hr;(split at hr<;>first|(cases hr;done)|skip);rename_i u hu;simp only[H5]at hr;subst hr;rw[qu]at hu;have Cx:=(hW.dS _ _ (g2 _ _ _ _ eW hu)).1;refine .pure (x:=cell i' j') ?_ (g3 _ _ _ _ eW hu);simp[execOp,ho,he,Instr.loadAt,Instr.sureAddr,loadVar,xG,Cx]
   . rw[hn]at hr;rw[hf]at xG;simp only at hr;(split at hr<;>first|(cases hr;done)|skip);rename_i us hu;simp only[H5]at hr;subst hr;obtain⟨hus,hle⟩:=abu hu;have hlen:=Q4 hu;have dJ:(loadCells ⟨aM,base+i'*es+j',none⟩ ti.size).run P w= .ok ((List.range ti.size).map λq=>cell i' (j'+q)).toArray w:=by
        (refine run_loadCells w _ _ _ λq hq=> ?_);rw[uk];have:cs[j'+q]? =some (cs[j'+q]'(by omega)):=H0 (by omega);rw[Zk5];exact(hW.dS _ _ (g2 _ _ _ _ eW this)).1
     refine .pure (x:= .agg ((List.range ti.size).map λq=>cell i' (j'+q)).toArray) ?_ (.OH ⟨by simp[hlen],λq u y hu' hy=> ?_⟩)
     .  simp[execOp,ho,he,Instr.loadAt,Instr.sureAddr,loadVar,xG,mG hi,u6,dJ]
     .  have hq:q<ti.size:=(by rw[<-hlen];exact(Za1.1 hu').1);rw[hus,Ze3,Zb4 hq,Ze5]at hu';simp[hq]at hy;subst hy;exact g3 _ _ _ _ eW hu'
theorem ape{x y:Value}{ρ:Pos->Loc}{n:Nat}{C:Cells}{u v r:AV}{w:World}{st:St}(h1:aC ρ n C u x)(h2:aC ρ n C v y)(hr:Kj (λb=>st.heap.get b) st.next [u,v]=some (.val r)):
   ∃z,(Builtin.min2 x y).run P w= .ok z w/\aC ρ n C r z:=by
 simp only[Kj]at hr;split at hr<;>first|(cases hr;done)|skip
 . simp only[H5,eG.val.injEq]at hr;subst hr;rw[h1.iq,h2.iq];refine⟨_,rfl,?_⟩;rw[e8];split
   .rename_i h;rw[Zb4 (Zg1 h)];exact .int _ _
   .rename_i h;rw[Za6 (Zl2 h)];exact .int _ _
 . simp only[H5,eG.val.injEq]at hr;subst hr;rename_i sa sb;obtain⟨bx,rfl,e1⟩:=h1.ff;obtain⟨bz,rfl,e2⟩:=h2.ff;have hh:(Op.stringOp .leq bx bz).run P w= .ok (.bool (aO sa sb||kq sa sb)) w:=by
     simp only[Op.stringOp,Sem.run_pure];rw[aar e1 e2,OM e1 e2]
   refine⟨_,by simp only[Builtin.min2,Sem.run_bind,hh,Result.andThen_ok,asBool,Sem.run_pure];rfl,?_⟩;split
   .rename_i h;rw[Zb4 h];exact .str _ _ e1
   .rename_i h;rw[Za6 (by rw[h];simp)];exact .str _ _ e2
theorem apf{x y:Value}{ρ:Pos->Loc}{n:Nat}{C:Cells}{u v r:AV}{w:World}{st:St}(h1:aC ρ n C u x)(h2:aC ρ n C v y)(hr:Kk (λb=>st.heap.get b) st.next [u,v]=some (.val r)):
   ∃z,(Builtin.max2 x y).run P w= .ok z w/\aC ρ n C r z:=by
 simp only[Kk]at hr;split at hr<;>first|(cases hr;done)|skip
 . simp only[H5,eG.val.injEq]at hr;subst hr;rw[h1.iq,h2.iq];refine⟨_,rfl,?_⟩;rw[e8];split
   .rename_i h;rw[Zb4 (Zg1 h)];exact .int _ _
   .rename_i h;rw[Za6 (Zl2 h)];exact .int _ _
 . simp only[H5,eG.val.injEq]at hr;subst hr;rename_i sa sb;obtain⟨bx,rfl,e1⟩:=h1.ff;obtain⟨bz,rfl,e2⟩:=h2.ff;have hh:(Op.stringOp .geq bx bz).run P w= .ok (.bool (!aO sa sb)) w:=by
     simp only[Op.stringOp,Sem.run_pure];rw[aar e1 e2]
   refine⟨_,by simp only[Builtin.max2,Sem.run_bind,hh,Result.andThen_ok,asBool,Sem.run_pure];rfl,?_⟩;split
   .rename_i h;rw[Za6 (by rw[h];simp)];exact .str _ _ e2
   .rename_i h;rw[Zb4 (by rw[h];rfl)];exact .str _ _ e1
theorem oV(xs:Array Operand)(a:Act):xs.toList.map a.eval=(xs.map a.eval).toList:=by simp
end
section
variable{P:Program}{tt:TT}
theorem vs1{ρ:Pos->Loc}{n:Nat}{C:Cells}{bs:List AV}{x:Value}(h:aJ ρ n C bs [x]):∃b,bs=[b]/\aC ρ n C b x:=by
 match bs,h with
 |[b],h=>exact⟨b,rfl,h.2 0 b x rfl rfl⟩
 |[],h=>have:=h.1;simp at this
 |_::_::_,h=>have:=h.1;simp at this
theorem vs2{ρ:Pos->Loc}{n:Nat}{C:Cells}{bs:List AV}{x y:Value}(h:aJ ρ n C bs [x,y]):∃b c,bs=[b,c]/\aC ρ n C b x/\aC ρ n C c y:=by
 match bs,h with
 |[b,c],h=>exact⟨b,c,rfl,h.2 0 b x rfl rfl,h.2 1 c y rfl rfl⟩
 |[],h=>have:=h.1;simp at this
 |[_],h=>have:=h.1;simp at this
 |_::_::_::_,h=>have:=h.1;simp at this
theorem vs3{ρ:Pos->Loc}{n:Nat}{C:Cells}{bs:List AV}{x y z:Value}(h:aJ ρ n C bs [x,y,z]):∃b c d,bs=[b,c,d]/\aC ρ n C b x/\aC ρ n C c y/\aC ρ n C d z:=by
 match bs,h with
 |[b,c,d],h=>exact⟨b,c,d,rfl,h.2 0 b x rfl rfl,h.2 1 c y rfl rfl,h.2 2 d z rfl rfl⟩
 |[],h=>have:=h.1;simp at this
 |[_],h=>have:=h.1;simp at this
 |[_,_],h=>have:=h.1;simp at this
 |_::_::_::_::_,h=>have:=h.1;simp at this
def KG(x:Option Value)(i:Option Nat):Prop:=(x=none/\i=none)\/∃j k,i=some j/\x=some (.int k (j:Int))
theorem abw{ρ:Pos->Loc}{n:Nat}{C:Cells}{lo hi mx:Option Operand}{bs:List AV}{a:Act}{l h m:Option Nat}
   (hb:aJ ρ n C bs ((Cu lo++Cu hi++Cu mx).map a.eval)) (hr:bounds lo.isSome hi.isSome mx.isSome bs=some (l,h,m)):
   KG (lo.map a.eval) l/\KG (hi.map a.eval) h/\KG (mx.map a.eval) m/\(m.isSome=true->h.isSome=true):=by
 unfold bounds at hr
 cases lo<;>cases hi<;>cases mx<;>simp only[Zq4,Zq5,Cu,Ze0,Ze1,Zd7,Zd3,Zi8]at hb hr<;>
   first|(cases hr;done)|skip
 . cases bs with
   |cons b bs=>have:=hb.1;simp at this
   |nil=>simp at hr;obtain⟨rfl,rfl,rfl⟩:=hr;exact⟨.inl ⟨rfl,rfl⟩,.inl ⟨rfl,rfl⟩,.inl ⟨rfl,rfl⟩,λh=>by cases h⟩
 .obtain⟨b,rfl,h1⟩:=vs1 hb;simp only at hr;(split at hr<;>first|(cases hr;done)|skip);rename_i j hj;obtain⟨k,hk⟩:=mI h1 hj;simp at hr;obtain⟨rfl,rfl,rfl⟩:=hr;exact⟨.inl ⟨rfl,rfl⟩,.inr ⟨j,k,rfl,by simp[hk]⟩,.inl ⟨rfl,rfl⟩,λh=>by cases h⟩
 .obtain⟨b,c,rfl,h1,h2⟩:=vs2 hb;simp only at hr;(split at hr<;>first|(cases hr;done)|skip);rename_i j j' hj KE;obtain⟨k,hk⟩:=mI h1 hj;obtain⟨k',pF⟩:=mI h2 KE;simp at hr;obtain⟨rfl,rfl,rfl⟩:=hr;exact⟨.inl ⟨rfl,rfl⟩,.inr ⟨j,k,rfl,by simp[hk]⟩,.inr ⟨j',k',rfl,by simp[pF]⟩,λ_=>rfl⟩
 .obtain⟨b,rfl,h1⟩:=vs1 hb;simp only at hr;(split at hr<;>first|(cases hr;done)|skip);rename_i j hj;obtain⟨k,hk⟩:=mI h1 hj;simp at hr;obtain⟨rfl,rfl,rfl⟩:=hr;exact⟨.inr ⟨j,k,rfl,by simp[hk]⟩,.inl ⟨rfl,rfl⟩,.inl ⟨rfl,rfl⟩,λh=>by cases h⟩
 .obtain⟨b,c,rfl,h1,h2⟩:=vs2 hb;simp only at hr;(split at hr<;>first|(cases hr;done)|skip);rename_i j j' hj KE;obtain⟨k,hk⟩:=mI h1 hj;obtain⟨k',pF⟩:=mI h2 KE;simp at hr;obtain⟨rfl,rfl,rfl⟩:=hr;exact⟨.inr ⟨j,k,rfl,by simp[hk]⟩,.inr ⟨j',k',rfl,by simp[pF]⟩,.inl ⟨rfl,rfl⟩,λh=>by cases h⟩
 .obtain⟨b,c,d,rfl,h1,h2,h3⟩:=vs3 hb;simp only at hr;(split at hr<;>first|(cases hr;done)|skip);rename_i j j' j'' hj KE hj'';obtain⟨k,hk⟩:=mI h1 hj;obtain⟨k',pF⟩:=mI h2 KE;obtain⟨k'',hk''⟩:=mI h3 hj'';simp at hr;obtain⟨rfl,rfl,rfl⟩:=hr;exact⟨.inr ⟨j,k,rfl,by simp[hk]⟩,.inr ⟨j',k',rfl,by simp[pF]⟩,.inr ⟨j'',k'',rfl,by simp[hk'']⟩,λ_=>rfl⟩
theorem EI(isS:Bool){len cap:Nat}{xl xh xm:Option Value}{l h m:Option Nat}(h1:KG xl l)(h2:KG xh h)(h3:KG xm m)(hmh:m.isSome=true->h.isSome=true)
  (OO:l.getD 0<=h.getD len) (hhm:h.getD len<=m.getD cap) (hmc:m.getD cap<=cap) (w:World):
  (Instr.sliceBounds isS len cap xl xh xm).run P w= .ok (l.getD 0,h.getD len,m.getD cap) w:=by
 rcases h1 with⟨rfl,rfl⟩|⟨jl,kl,rfl,rfl⟩<;>rcases h2 with⟨rfl,rfl⟩|⟨jh,kh,rfl,rfl⟩<;>rcases h3 with⟨rfl,rfl⟩|⟨jm,km,rfl,rfl⟩<;>
  simp only[Zi9,Ze8,Zq4,Zq5]at OO hhm hmc hmh ⊢ <;>
  first
   |(simp at hmh;done)
   |simp[Instr.sliceBounds,Instr.sliceBound,asIntOf,OO,hhm,hmc,Int.ofNat_le]
theorem MI{ρ:Pos->Loc}{n:Nat}{C:Cells}{b:Pos}{off es bn l h M:Nat}{aa:Addr}{akB:Option Nat}
   (ha:bn≠0->b.toNat<n/\aa=⟨(ρ b).aM,(ρ b).base+off,none⟩/\(ρ b).base+off+bn*es<=(ρ b).size)
   (h1:l<=h) (h2:h<=M) (h3:M<=bn) (hc:∀c,akB=some c->c=M - l) (hk:akB=none->b.toNat<n):
   aC ρ n C (.slice b (off+l*es) (h - l) akB es) (.slice (if M=l then some aa else(some aa).map (·.add (l*es))) (h - l) (M - l)):=by
 by_cases hm:M=l
 .rw[Zb4 hm];exact .slice _ _ _ _ _ _ _ (by omega) hc (λh0=>absurd (by omega) h0) hk
 .rw[Za6 hm];obtain⟨hb,rfl,hle⟩:=ha (by omega);refine .slice _ _ _ _ _ _ _ (by omega) hc (λ_=>⟨hb,by show Addr.add _ _=_;rw[uk,Zk5],?_⟩) hk;have e1:l*es+(M - l)*es=M*es:=(by rw[<-Zj8];congr 1;omega);have e2:M*es<=bn*es:=Zh3 _ h3;omega
theorem amB(hT:dh P tt)(t:TypeId)(x:Operand)(lo hi mx:Option Operand):fh P tt (.slice t x lo hi mx):=by
 intro ρ C st w k xs cls fr a o vs res ho hc hW hF hx hr;simp only[j9]at hc;split at hc<;>first|(cases hc;done)|skip
 rename_i ti l0 fB hl;obtain⟨d,hd,dK⟩:=(hT.at fB).und;split at hc<;>first|(cases hc;done)|skip
 . rename_i hk;rw[hk]at dK;rw[uZ dK]at hd;(split at hc<;>first|(cases hc;done)|skip);cases hc;have hv:=iN hl hF hx;simp only[Cu,Ze1,Zd7,Ze0,Zd3]at hv;simp only[aE.run,Va]at hr;(split at hr<;>first|(cases hr;done)|skip);rename_i u bs;(split at hr<;>first|(cases hr;done)|skip);rename_i s l h m' hb;(split at hr<;>first|(cases hr;done)|skip);rename_i h1 h2;have h1:=Zb5 h1;have h2:=Zb5 h2;simp only[H5]at hr;subst hr;obtain⟨y,ys,zw,hu,Gi⟩:=hv.cons_inv;simp only[Zf9]at zw;obtain⟨rfl,rfl⟩:=zw;have u7:=abw (lo:=lo) (hi:=hi) (mx:=none) (a:=a) (by simpa [Cu]using Gi) hb;obtain⟨bs',he,hs⟩:=hu.ff;have fQ:=KF hs
   have dJ:=EI (P:=P) false (len:=bs'.size) (cap:=bs'.size) u7.1 u7.2.1 (.inl ⟨rfl,rfl⟩:KG none none) (λh=>by cases h)
     (by rw[fQ];exact h1) (by rw[fQ];simpa using h2) (by simp) w
   refine .pure (x:= .string (bs'.extract (l.getD 0) (h.getD bs'.size))) ?_ (.str _ _ ?_)
   .simp only[execOp,ho,Instr.sliceAt,Sem.run_bind,bt hd,Result.andThen_ok,he,Instr.slice];simp[dJ]
   .rw[fQ,ByteArray.data_extract,Zp6, <-hs,List.extract,List.map_take,List.map_drop];rw[Zo2]
 . rename_i e hk;rw[hk]at dK;rw[tE dK]at hd;(split at hc<;>first|(cases hc;done)|skip);rename_i te oU;cases hc;obtain⟨i0,sF,u6,_⟩:=(hT.at oU).info;have hv:=iN hl hF hx;simp only[Zd7,Ze0,Zf7,Zd3]at hv;simp only[aE.run,iL]at hr;(split at hr<;>first|(cases hr;done)|skip);rename_i u bs;obtain⟨y,ys,zw,hu,Gi⟩:=hv.cons_inv;simp only[Zf9]at zw;obtain⟨rfl,rfl⟩:=zw
   have u0:∀(sa:Option Addr)(len cap:Nat)(l h m:Option Nat),a.eval x= .slice sa len cap->bounds lo.isSome hi.isSome mx.isSome bs=some (l,h,m)->
        l.getD 0<=h.getD len->h.getD len<=m.getD cap->m.getD cap<=cap->
        (execOp a.eval o).run P w= .ok (.value (.slice (if m.getD cap=l.getD 0 then sa else sa.map (·.add (l.getD 0*te.size))) (h.getD len - l.getD 0) (m.getD cap - l.getD 0))) w:=by
     intro sa len cap l h m he hb h1 h2 h3;have u7:=abw (lo:=lo) (hi:=hi) (mx:=mx) (a:=a) (by simpa [Zf7]using Gi) hb;have dJ:=EI (P:=P) true (len:=len) (cap:=cap) u7.1 u7.2.1 u7.2.2.1 u7.2.2.2 h1 h2 h3 w;simp only[execOp,ho,Instr.sliceAt,Sem.run_bind,bt hd,Result.andThen_ok,he,Instr.slice,dJ,mG sF,u6,Sem.run_pure]
   split at hr<;>first|(cases hr;done)|skip
   ·
     rename_i b off len cap es' l h m hb;(split at hr<;>first|(cases hr;done)|skip);rename_i dW OO;have dW:te.size=es':=Za7 dW;subst dW;have OO:=Zb5 OO;obtain⟨aa,bn,he,hle,agj,ha⟩:=hu.fA;split at hr
     .  rename_i c m';(split at hr<;>first|(cases hr;done)|skip);rename_i e1 e2;have e1:=Zb5 e1;have e2:=Zb5 e2;have:=agj c rfl;subst this;simp only[H5]at hr;subst hr;exact .pure (u0 _ _ _ _ _ _ he hb OO (by simpa using e1) (by simpa using e2)) (MI ha OO e1 e2 (λc hc=>by cases hc;rfl) (λh=>by cases h))
     .  rename_i c;(split at hr<;>first|(cases hr;done)|skip);rename_i e1;have e1:=Zb5 e1;have:=agj c rfl;subst this;simp only[H5]at hr;subst hr;exact .pure (u0 _ _ _ _ _ _ he hb OO (by simpa using e1) (by simp)) (MI ha OO e1 (Za3 _) (λc hc=>by cases hc;rfl) (λh=>by cases h))
     .  rename_i m';(split at hr<;>first|(cases hr;done)|skip);rename_i e1 e2;have e1:=Zb5 e1;have e2:=Zb5 e2;simp only[H5]at hr;subst hr;exact .pure (u0 _ _ _ _ _ _ he hb OO (by simpa using e1) (by simp;omega)) (MI ha OO e1 (by simp;omega) (λc hc=>by cases hc;rfl) (λh=>by cases h))
     .  (split at hr<;>first|(cases hr;done)|skip);rename_i e1;have e1:=Zb5 e1;simp only[H5]at hr;subst hr;exact .pure (u0 _ _ _ _ _ _ he hb OO (by simp;omega) (by simp)) (MI ha OO (by simp;omega) (Za3 _) (λc hc=>by cases hc) (λ_=>hu.Vi rfl))
   ·
     rename_i Am es' l h m hb;(split at hr<;>first|(cases hr;done)|skip);rename_i dW;have dW:te.size=es':=Za7 dW;subst dW;obtain⟨aa,bn,cell,he,hle,Ao,g1,g2,g3⟩:=hu.yh;split at hr
     .  rename_i m';(split at hr<;>first|(cases hr;done)|skip);rename_i e0 e1 e2;have e0:=Za7 e0;have e1:=Za7 e1;have e2:=Za7 e2;subst e2;simp only[H5]at hr;subst hr;refine .pure (u0 _ _ _ _ _ _ he hb (by omega) (by rw[e1];simp) (by simp)) ?_;simp only[e0,e1,Ze8,Zl0,Zh1];exact .slice _ _ _ _ _ _ _ (Za3 _) (λc hc=>by cases hc;rfl) (λh0=>absurd rfl h0) (λh=>by cases h)
     .  (split at hr<;>first|(cases hr;done)|skip);rename_i e0 e1;have e0:=Zb5 e0;have e1:=Zb5 e1;simp only[H5]at hr;subst hr;refine .pure (u0 _ _ _ _ _ _ he hb e0 (by simp;omega) (by simp)) ?_;simp only[Zi9];have hlen:(List.drop (l.getD 0) (List.take (h.getD Am.length) Am)).length=h.getD Am.length - l.getD 0:=(by simp;omega);rw[<-hlen];have Q3:∀i cs,(List.drop (l.getD 0) (List.take (h.getD Am.length) Am))[i]? =some cs->Am[l.getD 0+i]? =some cs:=by
          intro i cs hi;rw[Ze5,Ze3]at hi;split at hi
          .exact hi
          .cases hi
        by_cases hcl:bn=l.getD 0
        .rw[Zb4 hcl];have hemp:List.drop (l.getD 0) (List.take (h.getD Am.length) Am)=[]:=(by apply Zc0;rw[hlen];omega);rw[hemp];exact .fl _ _ _ _ (λ_ _=>undef) (by simp) (λh=>absurd rfl h) (λi cs hi=>by simp at hi) (λi j cs v hi=>by simp at hi) (λi j cs v hi=>by simp at hi)
        . rw[Za6 hcl];by_cases cN:Am=[]
          .subst cN;simp only[List.take_nil,List.drop_nil];exact .fl _ _ _ _ (λ_ _=>undef) (by simp) (λh=>absurd rfl h) (λi cs hi=>by simp at hi) (λi j cs v hi=>by simp at hi) (λi j cs v hi=>by simp at hi)
          .have Ao:=Ao cN;obtain⟨ab,ao,asp⟩:=aa;simp only at Ao;subst Ao;simp only[Zd9,uk];refine .fl _ _ _ _ (λi j=>cell (l.getD 0+i) j) (by rw[hlen];omega) (λ_=>rfl) (λi cs hi=>g1 _ _ (Q3 i cs hi)) (λi j cs v hi hj=> ?_) (λi j cs v hi hj=>g3 _ _ _ _ (Q3 i cs hi) hj);have:=g2 _ _ _ _ (Q3 i cs hi) hj;simp only at this ⊢;rw[<-this];congr 2;rw[Zj8];omega
   ·
     rename_i l h m hb;(split at hr<;>first|(cases hr;done)|skip);rename_i e0 e1 e2;have e0:=Za7 e0;have e1:=Za7 e1;have e2:=Za7 e2;simp only[H5]at hr;subst hr;have he:=hu.ir;refine .pure (u0 _ _ _ _ _ _ he hb (by omega) (by omega) (by omega)) ?_;simp only[e0,e1,e2,Zl0,Zh1];exact .af
end
section
variable{P:Program}{tt:TT}
theorem Zm{ρ:Pos->Loc}{n:Nat}{C:Cells}:∀{l:List AV}{s:List Nat}{ys:List Value},bytesOf l=some s->aJ ρ n C l ys->
  ys=(s.map Int.ofNat).map (Value.int .u8)/\∀c,c∈s->c<256
 |[],s,ys,h,hv=>by
  simp[bytesOf]at h;subst h;exact⟨by simpa using hv.ku,λc hc=>by simp at hc⟩
 |v ::l,s,ys,h,hv=>by
  unfold bytesOf at h;split at h<;>first|(cases h;done)|skip
  .rename_i h0;simp at h0
  . rename_i c l' he;simp only[Zf9]at he;obtain⟨rfl,rfl⟩:=he;(split at h<;>first|(cases h;done)|skip);rename_i s' aV qw;simp only[H5]at h;subst h;obtain⟨y,ys',rfl,h1,h2⟩:=hv.cons_inv;obtain⟨e,o8⟩:=Zm qw h2;have aV:c<256:=(by simpa using aV);refine⟨by rw[h1.iq,e];rfl,λc' hc=> ?_⟩;simp at hc;rcases hc with rfl|hc
    .exact aV
    .exact o8 _ hc
theorem MJ:∀(s:List Nat)(acc:ByteArray),((s.map Int.ofNat).foldl (λr n=>r.push (UInt8.ofNat n.toNat)) acc).data.toList=acc.data.toList++s.map UInt8.ofNat
 |[],acc=>by simp
 |c::s,acc=>by
  simp only[Zd3,Zr9];rw[MJ s];simp[ByteArray.push]
theorem aiQ(hT:dh P tt)(src dst:TypeId)(x:Operand):fh P tt (.convert src dst x):=by
 intro ρ C st w k xs cls fr a o vs res ho hc hW hF hx hr;simp only[j9]at hc;split at hc<;>first|(cases hc;done)|skip
 rename_i s d b hs hd hb;obtain⟨ds,OP,hks⟩:=(hT.at hs).und;obtain⟨dd,hdd,dK⟩:=(hT.at hd).und;split at hc<;>first|(cases hc;done)|skip
 . rename_i k1 k2 h1 h2;cases hc;obtain⟨v,rfl,hv⟩:=lC hb hF hx;rw[h1]at hks;rw[h2]at dK;rw[Vh hks]at OP;rw[Vh dK]at hdd;simp only[aE.run,Fj]at hr;split at hr<;>first|(cases hr;done)|(rename_i heq;cases heq;done)|(rename_i heq;cases heq)
   simp only[H5]at hr;subst hr;refine .pure ?_ (by rw[yj];exact .int _ _);simp[execOp,ho,hv.iq,convert,bt OP,bt hdd,Conv.intToInt]
 . rename_i h1 h2;cases hc;obtain⟨v,rfl,hv⟩:=lC hb hF hx;rw[h1]at hks;rw[h2]at dK;rw[uZ hks]at OP;rw[uZ dK]at hdd;simp only[aE.run,Fj]at hr;split at hr<;>first|(cases hr;done)|(rename_i heq;cases heq;done)|(rename_i heq;cases heq)
   simp only[H5]at hr;subst hr;obtain⟨bs,he,hs⟩:=hv.ff;exact .pure (x:= .string bs) (by simp[execOp,ho,he,convert,bt OP,bt hdd]) (.str _ _ hs)
 . rename_i e h1 h2;(split at hc<;>first|(cases hc;done)|skip);rename_i te oU;(split at hc<;>first|(cases hc;done)|skip);rename_i hk8;cases hc;obtain⟨v,rfl,hv⟩:=lC hb hF hx;rw[h1]at hks;rw[h2]at dK;rw[tE hks]at OP;rw[uZ dK]at hdd;obtain⟨de,hde,hke⟩:=(hT.at oU).und;rw[hk8]at hke;rw[Vh hke]at hde;have u0:∀y:Option Addr×Nat×Nat,a.eval x= .slice y.1 y.2.1 y.2.2->(execOp a.eval o).run P w=((Conv.bytesToString (a.eval x)).run P w).andThen λv w=>.ok (.value v) w:=by
     intro y he;simp[execOp,ho,he,convert,bt OP,bt hdd,bt hde]
   simp only[aE.run,Fj]at hr;split at hr<;>first|(cases hr;done)|(rename_i heq;cases heq;done)|(rename_i heq;cases heq)
   .simp only[H5]at hr;subst hr;have he:=hv.ir;refine .pure (x:= .string .empty) ?_ (.str _ _ rfl);rw[u0 (none,0,0) he,he];simp[Conv.bytesToString]
   . rename_i bb off m cap es;obtain⟨aa,bn,he,hle,_,ha⟩:=hv.fA;split at hr
     .  rename_i h0;have:=Za7 h0;subst this;simp only[H5]at hr;subst hr;refine .pure (x:= .string .empty) ?_ (.str _ _ rfl);rw[u0 (some aa,0,bn) he,he];simp[Conv.bytesToString,loadCells,loadCellsFrom]
     .  (rename_i h0;have h0:=Zf2 h0;(split at hr<;>first|(cases hr;done)|skip);rename_i cs fz u7;(split at hr<;>first|(cases hr;done)|skip);rename_i l hcut;(split at hr<;>first|(cases hr;done)|skip);rename_i s' atQ;simp only[H5]at hr;subst hr;obtain⟨aV,rfl,_⟩:=ha (by omega);obtain⟨ys,zw,Cw⟩:=hW.loadCells (P:=P) u7 hcut;obtain⟨e1,e2⟩:=Zm atQ Cw;rw[e1]at zw;have dJ:=run_bytesToString (P:=P) w ⟨(ρ bb).aM,(ρ bb).base+off,none⟩ m bn (s'.map Int.ofNat) zw;refine .pure (x:= .string _) (by rw[u0 (some _,m,bn) he,he,dJ];rfl) (.str _ _ ?_);rw[MJ,Zc8];have e0:ByteArray.empty.data.toList=[]:=rfl;rw[e0,Zi8,Ze0,Zh8];have e3:s'.map (UInt8.toNat∘UInt8.ofNat)=s'.map id:=Zk9 λc hc=>by have:=e2 c hc;simp only[Function.comp,id,UInt8.toNat_ofNat'];omega);rw[e3,Zs3]
theorem OQ{t:TypeId}{d:TypeDesc}(hd:P.underlying t=some d){pk:PK}(hk:pk.fits d=true)(e:Bool)(m:Nat)(x:Value)(w:World):
  (Instr.checkKey e (m+1) t x).run P w= .ok () w:=by
 unfold Instr.checkKey;rw[Sem.run_bind,bt hd,Result.andThen_ok];cases pk<;>cases d<;>simp[PK.fits]at hk<;>rfl
theorem Zn{ρ:Pos->Loc}{n:Nat}{C:Cells}{pk:PK}{d:TypeDesc}(hk:pk.fits d=true){u v:AV}{x y:Value}{r:Bool}
   (h1:aC ρ n C u x) (h2:aC ρ n C v y) (h:yd pk u v=some r):Instr.sameNow d x y=some r:=by
 unfold yd at h;split at h<;>first|(cases h;done)|skip
 .simp only[H5]at h;subst h;cases d<;>simp[PK.fits]at hk;rw[h1.kR,h2.kR];rfl
 . (split at h<;>first|(cases h;done)|skip);rename_i MH;have:=BO MH;subst this;simp only[H5]at h;subst h;cases d<;>simp[PK.fits]at hk;rw[h1.iq,h2.iq];simp[Instr.sameNow,n9]
 .simp only[H5]at h;subst h;cases d<;>simp[PK.fits]at hk;obtain⟨bx,rfl,e1⟩:=h1.ff;obtain⟨bz,rfl,e2⟩:=h2.ff;simp only[Instr.sameNow];rw[beq_toListBytes,OM e1 e2]
def MK(ρ:Pos->Loc)(n:Nat)(C:Cells)(es:List (AV×AV×Nat))(es':List MapEntry):Prop:=
 es.length=es'.length/\∀(i:Nat)(e:AV×AV×Nat)(e':MapEntry),es[i]? =some e->es'[i]? =some e'->aC ρ n C e.1 e'.key/\aC ρ n C e.2.1 e'.val/\e.2.2=e'.born
theorem Gj{ρ:Pos->Loc}{n:Nat}{C:Cells}{pk:PK}{d:TypeDesc}(hk:pk.fits d=true){u:AV}{x:Value}(hu:aC ρ n C u x):
  ∀{es:List (AV×AV×Nat)}{es':List MapEntry}{i:Nat}{r:Option (Nat×AV)},MK ρ n C es es'->gM pk u es i=some r->
  ∃r',Instr.findNow d x es' i=some r'/\((r=none/\r'=none)\/∃j v y,r=some (j,v)/\r'=some (j,y)/\aC ρ n C v y/\i<=j/\j<i+es.length)
 |[],es',i,r,he,h=>by
  simp[gM]at h;subst h;cases es' with
  |nil=>exact⟨none,rfl,.inl ⟨rfl,rfl⟩⟩
  |cons e es'=>have:=he.1;simp at this
 |(k',v,born)::es,es',i,r,he,h=>by
  cases es' with
  |nil=>have:=he.1;simp at this
  |cons e' es'=>
   have h0:=he.2 0 (k',v,born) e' rfl rfl;have rf:MK ρ n C es es':=⟨by have:=he.1;simpa using this,λj e e' h1 h2=>he.2 (j+1) e e' (by simpa using h1) (by simpa using h2)⟩
   unfold gM at h;split at h<;>first|(cases h;done)|skip
   .    rename_i hq;simp only[H5]at h;subst h;refine⟨some (i,e'.val),by simp[Instr.findNow,Zn hk hu h0.1 hq],.inr ⟨i,v,e'.val,rfl,rfl,h0.2.1,Za3 _,by simp⟩⟩
   .    rename_i hq;obtain⟨r',h1,h2⟩:=Gj hk hu rf h;refine⟨r',by simp[Instr.findNow,Zn hk hu h0.1 hq,h1],?_⟩;rcases h2 with h2|⟨j,v',y,e1,e2,e3,e4,e5⟩
        .exact .inl h2
        .exact .inr ⟨j,v',y,e1,e2,e3,by omega,by simp;omega⟩
theorem run_findKey{t:TypeId}{d:TypeDesc}(hd:P.underlying t=some d){x:Value}{es:List MapEntry}{r:Option (Nat×Value)}(h:Instr.findNow d x es 0=some r)(w:World):
  (Instr.findKey t x es).run P w= .ok r w:=by
 simp[Instr.findKey,bt hd,h]
theorem run_getObj_map{r:Nat}{es:Array MapEntry}{c:Nat}{w:World}(h:w.heap[r]? =some (.map es c)):(getObj r).run P w= .ok (.map es c) w:=by
 simp[getObj,Sem.run,h]
theorem arA(k:TK){d:TypeDesc}(h:cm k d=true){pk:PK}(hp:(k= .bool/\pk= .b)\/((∃i,k= .int i)/\pk= .i)\/(k= .string/\pk= .s)):pk.fits d=true:=by
 rcases hp with⟨rfl,rfl⟩|⟨⟨i,rfl⟩,rfl⟩|⟨rfl,rfl⟩
 .rw[ac4 h];rfl
 .rw[Vh h];rfl
 .rw[uZ h];rfl
theorem Fp(hT:dh P tt){t:Nat}{ti:TI}(ht:tt.get (key t)=some ti){z:List AV}(hz:ti.zero=some z){ρ:Pos->Loc}{n:Nat}{C:Cells}(w:World):
   ∃v,(zeroValue t).run P w= .ok v w/\aC ρ n C (j9.OD ti z) v/\aJ ρ n C z v.cells.toList:=by
 obtain⟨i,hi,u6,_,ML⟩:=(hT.at ht).info;obtain⟨v,hv,hs,hlen,h1,h2⟩:=ML z hz;refine⟨v,ao6 hi hv w,?_,wz hs⟩;unfold j9.OD;split
 .rename_i ha;obtain⟨cs,rfl⟩:=h1 ha;exact .OH (wz hs)
 .rename_i ha;have hc:=h2 ha;rw[hc]at hs;simp only[sx]at hs;(split at hs<;>first|(cases hs;done)|skip);rename_i a as e1 e2;simp only[H5]at hs e2;subst hs;subst e2;simp only;exact KD e1
theorem akC(hT:dh P tt)(t:TypeId)(x ix:Operand)(ok:Bool):fh P tt (.lookup t x ix ok):=by
 intro ρ C st w k xs cls fr a o vs res ho hc hW hF hx hr;simp only[j9]at hc;split at hc<;>first|(cases hc;done)|skip
 rename_i ti l fB hl;split at hc<;>first|(cases hc;done)|skip
 rename_i kt et hk;split at hc<;>first|(cases hc;done)|skip
 rename_i tk te htk oU;obtain⟨d,hd,dK⟩:=(hT.at fB).und;rw[hk]at dK;rw[Vg dK]at hd;obtain⟨dk,hdk,MH⟩:=(hT.at htk).und;have key:∃pk z,te.zero=some z/\k= .lookup pk (j9.OD te z) ok/\xs=l/\cls= .read/\pk.fits dk=true:=by
  split at hc<;>first|(cases hc;done)|skip
  all_goals
    rename_i z h1 h2;cases hc;refine⟨_,z,h2,rfl,rfl,rfl,arA tk.k MH ?_⟩
  .exact .inr (.inl ⟨⟨_,h1⟩,rfl⟩)
  .exact .inr (.inr ⟨h1,rfl⟩)
  .exact .inl ⟨h1,rfl⟩
 obtain⟨pk,z,hz,rfl,rfl,rfl,NJ⟩:=key;obtain⟨m,kk,rfl,h1,h2⟩:=ac5 hl hF hx;obtain⟨zv,Tr,hzr,_⟩:=Fp hT oU hz (ρ:=ρ) (n:=st.next.toNat) (C:=C) w;have hck:∀e,(Instr.checkKey e 10000 kt (a.eval ix)).run P w= .ok () w:=λe=>OQ hdk NJ e 9999 _ w
 simp only[aE.run,lz]at hr;split at hr<;>first|(cases hr;done)|skip
 ·
  rename_i j v hm;simp only[H5]at hr;subst hr;split at hm<;>first|(cases hm;done)|skip
  .split at hm<;>first|(cases hm;done)|(simp at hm;done)
  . rename_i b;(split at hm<;>first|(cases hm;done)|skip);rename_i es c hb;obtain⟨_,he⟩:=h1.BP;obtain⟨_,_,es',dW,hlen,o8⟩:=hW.live _ _ hb;have hE:MK ρ st.next.toNat C es es'.toList:=⟨by simpa using hlen,λi e e' h1 h2=>o8 i e e' h1 (by simpa using h2)⟩
    obtain⟨r',hf,oK⟩:=Gj NJ h2 hE hm;rcases oK with⟨e1,_⟩|⟨j',v',y,e1,e2,e3,_⟩
    .   cases e1
    .   cases e1;subst e2;have dJ:(execOp a.eval o).run P w= .ok (.value (if ok then .tuple #[y,.bool true]else y)) w:=by
          simp only[execOp,ho,Instr.lookup,Sem.run_bind,bt hd,Result.andThen_ok,he,run_getObj_map dW,hck,run_findKey hdk hf,Sem.run_pure]
        refine .pure dJ ?_;cases ok
        .exact e3
        .exact .qt (aJ.cons e3 (aJ.cons (.bool true) aJ.nil))
 ·
  rename_i hm;simp only[H5]at hr;subst hr;have dJ:(execOp a.eval o).run P w= .ok (.value (if ok then .tuple #[zv,.bool false]else zv)) w:=by
    split at hm<;>first|(cases hm;done)|skip
    .   (split at hm<;>first|(cases hm;done)|skip);have he:=h1.Fo;have hf:(Instr.findKey kt (a.eval ix) []).run P w= .ok none w:=run_findKey hdk rfl w;simp only[execOp,ho,Instr.lookup,Sem.run_bind,bt hd,Result.andThen_ok,he,hck,hf,Tr,Sem.run_pure]
    .   rename_i b;(split at hm<;>first|(cases hm;done)|skip);rename_i es c hb;obtain⟨_,he⟩:=h1.BP;obtain⟨_,_,es',dW,hlen,o8⟩:=hW.live _ _ hb;have hE:MK ρ st.next.toNat C es es'.toList:=⟨by simpa using hlen,λi e e' h1 h2=>o8 i e e' h1 (by simpa using h2)⟩
        obtain⟨r',hf,oK⟩:=Gj NJ h2 hE hm;rcases oK with⟨_,e2⟩|⟨j',v',y,e1,_⟩
        .subst e2;simp only[execOp,ho,Instr.lookup,Sem.run_bind,bt hd,Result.andThen_ok,he,run_getObj_map dW,hck,run_findKey hdk hf,Tr,Sem.run_pure]
        .cases e1
  refine .pure dJ ?_;cases ok
  .exact hzr
  .exact .qt (aJ.cons hzr (aJ.cons (.bool false) aJ.nil))
end
section
variable{P:Program}{tt:TT}
theorem KH:∀(l:List Value)(off k:Nat)(cs:Array Value),off+k+l.length<=cs.size->
  ((l.zipIdx k).foldl (λcs (c,j)=>cs.setIfInBounds (off+j) c) cs).toList=aQ cs.toList (off+k) l
 |[],off,k,cs,_=>by simp[aQ,Zm3]
 |v::l,off,k,cs,h=>by
  simp only[Zc9]at h;simp only[List.zipIdx_cons,Zr9];rw[KH l off (k+1) _ (by simp;omega)];simp only[aQ,Zc9,Zq3];rw[Zp9 (by omega)];have:off+(k+1)=(off+k)+1:=by omega
  rw[this,List.take_set,List.take_add_one];have aV:off+k<cs.toList.length:=by simp;omega
  rw[H0 aV];simp only[Option.toList_some,List.set_append,Zg7];have hm:min (off+k) cs.toList.length=off+k:=Zl6 (Zo1 aV);rw[hm,Za6 (Zp4 _),Zl0];simp;rw[show off+k+1+l.length=off+k+(l.length+1)from by omega]
theorem aas{ρ:Pos->Loc}{n:Nat}{C:Cells}(pl:Nat->Option (Nat×Nat)):∀{pp:List (Nat×Nat)}{vs cells r:List AV}{ps:List (Nat×Value)}{cs:Array Value},
  cF cells pp vs=some r->aJ ρ n C cells cs.toList->aJ ρ n C vs (ps.map (·.2))->ps.map (λx=>pl x.1)=pp.map some->
  ∃mJ,Instr.fill pl cs ps=some mJ/\aJ ρ n C r mJ.toList
 |[],vs,cells,r,ps,cs,h,hc,hv,hp=>by
  unfold cF at h;split at h<;>first|(cases h;done)|skip
  .simp only[H5]at h;subst h;have:ps=[]:=(by simpa using hv.ku);subst this;exact⟨cs,rfl,hc⟩
  .rename_i hh;cases hh
 |(off  ,size)::pp,vs,cells,r,ps,cs,h,hc,hv,hp=>by
  unfold cF at h;split at h<;>first|(cases h;done)|skip
  .rename_i hh;cases hh
  . rename_i off' size' pp' v vs' hh;simp only[Zf9,Zd4]at hh;obtain⟨⟨rfl,rfl⟩,rfl⟩:=hh;(split at h<;>first|(cases h;done)|skip);rename_i h1 h2;have h1:=Za7 h1;have h2:=Zb5 h2;cases ps with
    |nil=>have:=hv.1;simp at this
    |   cons p ps=>
        obtain⟨i,x⟩:=p;simp only[Zd3,Zf9]at hp hv;obtain⟨ke,Gk⟩:=hp;obtain⟨y,ys,zw,hx,Cw⟩:=hv.cons_inv;simp only[Zf9]at zw;obtain⟨rfl,rfl⟩:=zw;have hxc:=hx.cells;have hlen:x.cells.size=size:=(by rw[<-h1,hxc.1];simp);have fQ:off+size<=cs.size:=(by have:=hc.1;simp at this;omega);have auO:(x.cells.zipIdx.foldl (λcs (c,j)=>cs.setIfInBounds (off+j) c) cs).toList=aQ cs.toList off x.cells.toList:=(by rw[<-Array.foldl_toList,Array.toList_zipIdx];have:=KH x.cells.toList off 0 cs (by simp;omega);simpa using this);obtain⟨mJ,e1,e2⟩:=aas pl h (cs:=x.cells.zipIdx.foldl (λcs (c,j)=>cs.setIfInBounds (off+j) c) cs) (by rw[auO];exact hc.aQ hxc off) Cw Gk;refine⟨mJ,?_,e2⟩;simp only[Instr.fill,ke];rw[Za6 (by simp[hlen];omega)];exact e1
theorem Ts(hT:dh P tt){gs:Array Field}(w:World):∀{fs:List (Nat×Nat×Bool)}(_hm:cm.e9 fs gs.toList=true){is:List Nat}{pp:List (Nat×Nat)}
  (_h:j9.places tt fs is=some pp) {Vm:List (Nat×Nat)} (_hpl:∀(i:Nat)(f:Field)(inf:TypeInfo),gs.toList[i]? =some f->P.info? f.type=some inf->Vm[i]? =some (f.offset,inf.size)),
  is.map (λi=>Vm[i]?)=pp.map some
 |fs,hm,[],pp,h,Vm,zx=>by simp[j9.places]at h;subst h;rfl
 |fs,hm,i::is,pp,h,Vm,zx=>by
  unfold j9.places at h;split at h<;>first|(cases h;done)|skip
  rename_i off t nm l h1 h2;split at h<;>first|(cases h;done)|skip
  rename_i ti hti;simp only[H5]at h;subst h;obtain⟨f,hf,e1,e2,_⟩:=Q0 hm h1;obtain⟨inf,agk,fQ,_⟩:=(hT.at hti).info;simp only at e1 e2;have:=zx i f inf hf (by rw[e2];exact agk);simp only[Zd3,this,e1,fQ];rw[Ts hT w hm h2 zx]
theorem abx(hT:dh P tt):∀{fs:List (Nat×Nat×Bool)}{gs:List Field}(_hm:cm.e9 fs gs=true)(_ha:j9.afM tt fs=true),
  ∃Vm:List (Nat×Nat),gs.mapM (λf=>(P.info? f.type).map λi=>(f.offset,i.size))=some Vm/\
   ∀(i:Nat)(f:Field)(inf:TypeInfo),gs[i]? =some f->P.info? f.type=some inf->Vm[i]? =some (f.offset,inf.size)
 |[],gs,hm,ha=>by
  cases gs with
  |cons g gs=>simp[cm.e9]at hm
  |nil=>exact⟨[],rfl,λi f inf h=>by simp at h⟩
 |(off,t,nm)::fs,gs,hm,ha=>by
  cases gs with
  |nil=>simp[cm.e9]at hm
  |cons g gs=>
   simp[cm.e9]at hm;unfold j9.afM at ha;(split at ha<;>first|(cases ha;done)|skip);rename_i ti hti;obtain⟨inf,agk,_⟩:=(hT.at hti).info;obtain⟨Vm,h1,h2⟩:=abx hT hm.2 ha;rw[hm.1.1.2]at agk;refine⟨(g.offset,inf.size)::Vm,by simp[agk,h1],λi f inf' hi hf=> ?_⟩;cases i with
   |zero=>simp at hi;subst hi;rw[agk]at hf;cases hf;rfl
   |succ i=>simp at hi ⊢; exact h2 i f inf' hi hf
theorem amC(hT:dh P tt)(t:TypeId)(ps:Array (Nat×Operand)):fh P tt (.build t ps):=by
 intro ρ C st w k xs cls fr a o vs res ho hc hW hF hx hr;simp only[j9]at hc;split at hc<;>first|(cases hc;done)|skip
 rename_i ti l fB hl;obtain⟨d,hd,dK⟩:=(hT.at fB).und;obtain⟨it,hit,_,_,ML⟩:=(hT.at fB).info
 have u0:∀(pp:List (Nat×Nat))(z:List AV)(pl:Nat->Option (Nat×Nat)),ti.zero=some z->k= .build z pp->xs=l->ps.toList.map (λx=>pl x.1)=pp.map some->
    (∀(v:Value)(parts:List (Nat×Value))(cells:Array Value),it.zero=some v->Instr.fill pl v.cells parts=some cells->P.built t parts=some cells)->
    F6 P ρ C st w ((execOp a.eval o).run P w) res:=by
   rintro pp z pl hz rfl rfl Zo atS;have hv:=iN hl hF hx;obtain⟨v,hv0,hs,_⟩:=ML z hz;simp only[aE.run,QM]at hr;(split at hr<;>first|(cases hr;done)|skip);rename_i cs Cy;simp only[H5]at hr;subst hr;have hzr:aJ ρ st.next.toNat C z v.cells.toList:=wz hs;have hps:(ps.map λ(i,x)=>(i,a.eval x)).toList=ps.toList.map λx=>(x.1,a.eval x.2):=(by simp);obtain⟨mJ,e1,e2⟩:=aas pl Cy hzr (ps:=ps.toList.map λx=>(x.1,a.eval x.2)) (by simpa [Zh8,Zl7]using hv) (by simpa [Zh8,Zl7]using Zo);refine .pure (x:= .agg mJ) ?_ (.OH e2);have dJ:=run_build w t (ps.map λ(i,x)=>(i,a.eval x)) mJ (atS v _ _ hv0 (by rw[hps];exact e1));simp only[execOp,ho,Sem.run_bind];rw[dJ];rfl
 split at hc<;>first|(cases hc;done)|skip
 .rename_i fs z hk hz;rw[hk]at dK;obtain⟨gs,rfl,hm⟩:=MG dK;(split at hc<;>first|(cases hc;done)|skip);rename_i pp zx o8;cases hc;obtain⟨Vm,h1,h2⟩:=abx hT hm o8;have Zo:=Ts hT w hm zx h2;(refine u0 pp z (λi=>Vm.toArray[i]?) hz rfl rfl (by simpa [Zh8,Zl7]using Zo) λv parts cells hv hf=> ?_);unfold Program.built;rw[hit,hd];simp only[hv,h1];exact hf
 .rename_i e z hk hz;rw[hk]at dK;rw[agd dK]at hd;(split at hc<;>first|(cases hc;done)|skip);rename_i te oU;cases hc;obtain⟨ie,hie,fQ,_⟩:=(hT.at oU).info;(refine u0 _ z (λi=>some (i*te.size,te.size)) hz rfl rfl (by simp[Zh8,Zl7]) λv parts cells hv hf=> ?_);unfold Program.built;rw[hit,hd];simp only[hv,hie,fQ];exact hf
end
end
end Go.Ai
