/- Its operations answer as the model does. -/
import Derived.Test.YtmldijpopgaaeaaGreatDoorSEvalA
import Derived.Laws.StructEq
import Derived.Lib.Builder
import Derived.Laws.BytesString
set_option linter.all false
namespace Go.Ai
section
def cF:TK->TypeDesc->Bool
 |.bool,.bool=>true
 |.int k,.int k'=>L9 k k'
 |.string,.string=>true
 |.ptr e,.pointer e'=>Nat.beq e e'
 |.slice e,.slice e'=>Nat.beq e e'
 |.array n e,.array n' e'=>Nat.beq n n'&&Nat.beq e e'
 |.map k e,.map k' e'=>Nat.beq k k'&&Nat.beq e e'
 |.struct fs,.struct fs'=>fq fs fs'.toList
 |.func,.func _ _ _=>true
 |.iface,.interface _=>true
 |.upt,.unsafePointer=>true
 |.other,.interface _=>false
 |.other,.int _=>false
 |.other,.array _ _=>false
 |.other,.struct _=>false
 |.other,_=>true
 |_,_=>false
where
 fq:List (Nat×Nat×Bool)->List Field->Bool
  |[],[]=>true
  |(off,t,named)::l,f::l'=>Nat.beq off f.offset&&Nat.beq t f.type&&(named==(f.name != "_"))&&fq l l'
  |_,_=>false
structure alJ(P:Program)(t:TypeId)(ti:TI):Prop where
 und:∃d,P.underlying t=some d/\cF ti.k d=true
 info:∃i,P.info? t=some i/\i.size=ti.size/\i.bytes=ti.bytes/\
  ∀z,ti.zero=some z->∃v,i.zero=some v/\tE v.cells.toList=some z/\z.length=ti.size/\(ti.k.isAgg=true->∃cs,v= .agg cs)/\(ti.k.isAgg=false->v.cells= #[v])
 elem:∀e,ti.k= .ptr e->∃j,P.info? e=some j
 eqs:ti.BR=true->P.stoodInHeld t=false/\P.eqGuardType P.depth t=false
def dG(P:Program)(tt:TT):Prop:=∀p ti,tt.get p=some ti->alJ P (p.toNat - 1) ti
theorem dG.at{P:Program}{tt:TT}(h:dG P tt){t:Nat}{ti:TI}(ht:tt.get (key t)=some ti):alJ P t ti:=by
 have:=h _ _ ht
 rwa [ja,Zh6]at this
section
variable{P:Program}{tt:TT}{ρ:Pos->Loc}{n:Nat}{C:Cells}
theorem bu{t:TypeId}{d:TypeDesc}(h:P.underlying t=some d)(w:World):(underlying t).run P w= .ok d w:=run_underlying h w
theorem aht{t:TypeId}{i:TypeInfo}(h:P.info? t=some i)(w:World):(typeInfo t).run P w= .ok i w:=by simp[typeInfo,h]
theorem mX{t:TypeId}{i:TypeInfo}(h:P.info? t=some i)(w:World):(sizeOf t).run P w= .ok i.size w:=by simp[sizeOf,typeInfo,h]
theorem aqk{t:TypeId}{i:TypeInfo}{v:Value}(h:P.info? t=some i)(hz:i.zero=some v)(w:World):(zeroValue t).run P w= .ok v w:=by simp[zeroValue,typeInfo,h,hz]
theorem abD{k:TK}{d:TypeDesc}(h:cF k d=true)(w:World){t:TypeId}(ht:P.underlying t=some d):(isAgg t).run P w= .ok k.isAgg w:=by
 cases k<;>cases d<;>first|(simp[cF]at h;done)|simp[isAgg,bu ht,TK.isAgg]
theorem uj{e:Nat}{d:TypeDesc}(h:cF (.slice e) d=true):d= .slice e:=by
 cases d<;>simp[cF]at h;rw[h]
theorem avh{e:Nat}{d:TypeDesc}(h:cF (.ptr e) d=true):d= .pointer e:=by
 cases d<;>simp[cF]at h;rw[h]
theorem ahu{m e:Nat}{d:TypeDesc}(h:cF (.array m e) d=true):d= .array m e:=by
 cases d<;>simp[cF]at h;rw[h.1,h.2]
theorem W7{k e:Nat}{d:TypeDesc}(h:cF (.map k e) d=true):d= .map k e:=by
 cases d<;>simp[cF]at h;rw[h.1,h.2]
theorem aeh{d:TypeDesc}(h:cF .bool d=true):d= .bool:=by cases d<;>simp[cF]at h;rfl
theorem CI{a b:IntKind}(h:L9 a b=true):a=b:=by
 unfold L9 at h;split at h
 .assumption
 .cases h
theorem W9{k:IntKind}{d:TypeDesc}(h:cF (.int k) d=true):d= .int k:=by
 cases d<;>simp[cF]at h;rw[CI h]
theorem vP{d:TypeDesc}(h:cF .string d=true):d= .string:=by cases d<;>simp[cF]at h;rfl
theorem Of{fs:List (Nat×Nat×Bool)}{d:TypeDesc}(h:cF (.struct fs) d=true):∃gs,d= .struct gs/\cF.fq fs gs.toList=true:=by
 cases d<;>simp[cF]at h;exact⟨_,rfl,h⟩
theorem att{d:TypeDesc}(h:cF .func d=true):∃a b c,d= .func a b c:=by
 cases d<;>simp[cF]at h;exact⟨_,_,_,rfl⟩
theorem aql{d:TypeDesc}(h:cF .iface d=true):∃a,d= .interface a:=by
 cases d<;>simp[cF]at h;exact⟨_,rfl⟩
theorem rf{α:Type}:∀(l:List α)(i:Nat),nth l i=l[i]?
 |[],_=>by simp[nth]
 |_::_,0=>rfl
 |_::l,i+1=>by simp[nth,rf l i]
theorem SB:∀{fs:List (Nat×Nat×Bool)}{gs:List Field}{i:Nat}{x:Nat×Nat×Bool},cF.fq fs gs=true->nth fs i=some x->
  ∃f,gs[i]? =some f/\f.offset=x.1/\f.type=x.2.1/\(f.name != "_")=x.2.2
 |[],_,i,_,_,h=>by simp[nth]at h
 |(off,t,named)::l,[],i,_,h,_=>by simp[cF.fq]at h
 |(off,t,named)::l,f::l',0,x,h,hx=>by
  simp[cF.fq]at h;simp[nth]at hx;subst hx;exact⟨f,rfl,h.1.1.1.symm,h.1.1.2.symm,h.1.2.symm⟩
 |(off,t,named)::l,f::l',i+1,x,h,hx=>by
  simp[cF.fq]at h;simp[nth]at hx;obtain⟨f',h1,h2⟩:=SB h.2 hx;exact⟨f',by simpa using h1,h2⟩
theorem Me{v:Value}{a:AV}(h:Sv v=some a):aC ρ n C a v:=by
 unfold Sv at h
 split at h<;>first
   |(cases h;done)
   |(simp only[H5]at h;subst h)
 .exact .bool _
 .exact .int _ _
 .exact .str _ _ rfl
 .exact .jg
 .exact .af
 .exact .qX
 .exact .func _ _ _ _ _ rfl rfl (λ_ _ _ h=>by simp at h) (λ_ _ _ h=>by simp at h)
 .exact .jX
 .exact .B9
theorem xA:∀{l:List Value}{as:List AV},tE l=some as->aK ρ n C as l
 |[],as,h=>by simp[tE]at h;subst h;exact aK.nil
 |v ::l,as,h=>by
  unfold tE at h;split at h
  .rename_i a as' h1 h2;simp only[H5]at h;subst h;exact aK.cons (Me h1) (xA h2)
  .cases h
theorem aj5{v:Value}{a:AV}(h:aee v=some a):aC ρ n C a v:=by
 unfold aee at h;split at h
 . split at h
   .rename_i l hl;simp only[H5]at h;subst h;exact .QG (xA hl)
   .cases h
 .exact Me h
theorem Cc{x:Operand}{o:iy}{fr:Fr}{a:Act}{v:AV}(h:uP x=some o)(hF:lF ρ n C fr a.tmps)(hv:HQ fr o=some v):aC ρ n C v (a.eval x):=by
 unfold uP at h;split at h
 .rename_i t;simp only[H5]at h;subst h;obtain⟨y,hy,hr⟩:=hF _ _ hv;rw[ja,Zh6]at hy;simp only[Act.eval,Zm2,hy,Ze8];exact hr
 . split at h
   .rename_i c hc;simp only[H5]at h;subst h;simp only[HQ,H5]at hv;subst hv;exact aj5 hc
   .cases h
 .rename_i f;simp only[H5]at h;subst h;simp only[HQ,H5]at hv;subst hv;exact .func _ _ _ _ _ rfl rfl (λ_ _ _ h=>by simp at h) (λ_ _ _ h=>by simp at h)
 .cases h
theorem jd:∀{xs:List Operand}{os:List iy}{fr:Fr}{a:Act}{vs:List AV},mW xs=some os->lF ρ n C fr a.tmps->gu fr os=some vs->aK ρ n C vs (xs.map a.eval)
 |[],os,fr,a,vs,h,_,hv=>by simp[mW]at h;subst h;simp[gu]at hv;subst hv;exact aK.nil
 |x ::xs,os,fr,a,vs,h,hF,hv=>by
  unfold mW at h;split at h
  . rename_i o os' h1 h2;simp only[H5]at h;subst h;unfold gu at hv;split at hv
    .   rename_i v hv1;split at hv
        .rename_i vs' QI;simp only[H5]at hv;subst hv;exact aK.cons (Cc h1 hF hv1) (jd h2 hF QI)
        .cases hv
    .   cases hv
  .cases h
theorem mg{x:Operand}{o:iy}{fr:Fr}{a:Act}{vs:List AV}(h:uP x=some o)(hF:lF ρ n C fr a.tmps)(hv:gu fr [o]=some vs):
   ∃v,vs=[v]/\aC ρ n C v (a.eval x):=by
 unfold gu at hv;split at hv
 .rename_i v hv1;simp only[gu,H5]at hv;subst hv;exact⟨v,rfl,Cc h hF hv1⟩
 .cases hv
end
def Yields(N:Next)(x:Value):Prop:=N= .value x\/(N= .skip/\x=undef)
def HF(P:Program)(ρ:Pos->Loc)(C:Cells)(st:St)(w:World)(r:Result Next):eO->Prop
 |.val v=>∃N x,r= .ok N w/\Yields N x/\aC ρ st.next.toNat C v x
 |.bk v del set new=>∃N x w' ρ',r= .ok N w'/\Yields N x/\(∀b:Pos,b.toNat<st.next.toNat->ρ' b=ρ b)/\bZ ρ' C (st.bk del set new) w'/\
  aC ρ' (st.bk del set new).next.toNat C v x/\pg ρ st w ρ' (st.bk del set new) w'
 |.call f args=>∃cq:List Value,r=(callFunc f cq.toArray).run P w/\aK ρ st.next.toNat C args cq
end
section
open Go Go.RowKit
theorem uR(b o i:Nat):(⟨b,o,none⟩:Addr).add i=⟨b,o+i,none⟩:=by
 unfold Addr.add;split
 .rename_i h;subst h;rfl
 .rfl
section
variable{P:Program}{ρ ρ':Pos->Loc}{C:Cells}{st:St}{w w':World}
theorem bZ.alK(hW:bZ ρ C st w){alL:T AB}{next' b0:Pos}{x0:AB}
  (hn:st.next.toNat<=next'.toNat) (yY:b0.toNat<next'.toNat) (awc:alL.get b0=some x0)
  (SC:∀b x,b≠b0->alL.get b=some x->st.heap.get b=some x/\(ρ b).aM≠(ρ' b0).aM)
  (bF:∀b:Pos,b.toNat<st.next.toNat->ρ' b=ρ b)
  (hB:uh ρ' next'.toNat C (ρ' b0) w' x0)
  (FT:∀a v,C a=some v->a.block≠(ρ' b0).aM)
  (aW:(ρ' b0).aM<w'.heap.size) (alM:w.heap.size<=w'.heap.size)
  (DH:∀k,k<w.heap.size->k≠(ρ' b0).aM->w'.heap[k]? =w.heap[k]?):
  bZ ρ' C ⟨alL,next'⟩ w' where
 live b x hb:=by
  by_cases h:b=b0
  .  subst h;rw[awc]at hb;cases hb;exact⟨yY,aW,hB⟩
  .  obtain⟨h1,h2⟩:=SC b x h hb;obtain⟨h3,h4,h5⟩:=hW.live b x h1;rw[bF b h3];exact⟨Zd0 h3 hn,Zd0 h4 alM,(h5.mono bF hn).of_heap (DH _ h4 h2)⟩
 inj b  b' x x' hb dY he:=by
  by_cases h:b=b0
  .  subst h;by_cases h':b'=b
     .  exact h'.symm
     .  obtain⟨h1,h2⟩:=SC b' x' h' dY;rw[bF b' (hW.live b' x' h1).1]at he;exact absurd he.symm h2
  .  obtain⟨h1,h2⟩:=SC b x h hb;rw[bF b (hW.live b x h1).1]at he;by_cases h':b'=b0
     .  subst h';exact absurd he h2
     .  obtain⟨h1',h2'⟩:=SC b' x' h' dY;rw[bF b' (hW.live b' x' h1').1]at he;exact hW.inj b b' x x' h1 h1' he
 dW a v ha:=by
  obtain⟨h1,h2⟩:=hW.dW a v ha;have aqm:a.block<w.heap.size:=World.block_lt_of_cell? _ _ h1;refine⟨?_,λb x hb=> ?_⟩
  .  rw[World.cell?_of_block (w:=w) (DH _ aqm (FT a v ha))];exact h1
  .  by_cases h:b=b0
     .  subst h;exact λe=>FT a v ha e.symm
     .  obtain⟨h3,_⟩:=SC b x h hb;rw[bF b (hW.live b x h3).1];exact h2 b x h3
 whole a v ha o ho:=by have sx:a.block<w.heap.size:=World.block_lt_of_cell? _ _ (hW.dW a v ha).1;rw[World.cell?_of_block (w:=w) (a:=⟨a.block,o,none⟩) (DH _ sx (FT a v ha))];exact hW.whole a v ha o ho
theorem bZ.cell(hW:bZ ρ C st w){b:Pos}{cs:List AV}{fz:Nat}(hb:st.heap.get b=some (.cells cs fz)){i:Nat}{v:AV}(hv:cs[i]? =some v):
  ∃x,w.cell? ⟨(ρ b).aM,(ρ b).base+i,none⟩=some x/\aC ρ st.next.toNat C v x:=by
 obtain⟨_,_,c,e,fr,h1,h2,h3,h4,_⟩:=hW.live b _ hb;obtain⟨x,hx,hr⟩:=h4.get hv;have hi:i<cs.length:=(Za2.1 hv).1;rw[Ze4,Zb6 hi,Ze7]at hx;exact⟨x,by simp[World.cell?,h1, <-hx],hr⟩
theorem acM{α:Type}{l l':List α}{i n:Nat}(h:cut l i n=some l'):l'=(l.drop i).take n/\i+n<=l.length:=by
 unfold cut at h;split at h
 .rename_i hb;cases h;exact⟨rfl,Zb5 hb⟩
 .cases h
theorem SD{α:Type}{l l':List α}{i n:Nat}(h:cut l i n=some l'):l'.length=n:=by obtain⟨rfl,h2⟩:=acM h;simp;omega
theorem bZ.loadCells(hW:bZ ρ C st w){b:Pos}{cs vs:List AV}{fz off n:Nat}(hb:st.heap.get b=some (.cells cs fz))(hc:cut cs off n=some vs):
  ∃ys:List Value,(Go.loadCells ⟨(ρ b).aM,(ρ b).base+off,none⟩ n).run P w= .ok ys.toArray w/\aK ρ st.next.toNat C vs ys:=by
 obtain⟨_,_,c,e,fr,h1,h2,h3,h4,_⟩:=hW.live b _ hb;obtain⟨DI,hle⟩:=acM hc;have hr:=(h4.drop off).take n;rw[<-DI]at hr;refine⟨_,?_,hr⟩;have hlen:(List.take n (List.drop off (List.take cs.length (List.drop (ρ b).base c.toList)))).length=n:=by rw[<-hr.1];exact SD hc
 conv=>lhs;rw[<-hlen]
 refine run_loadCells_list w _ _ λj v hj=> ?_
 have Mf:j<n:=by rw[<-hlen];exact(Za2.1 hj).1
 rw[Ze4,Zb6 Mf,Ze7,Ze4,Zb6 (by omega),Ze7]at hj;rw[uR];simp[World.cell?,h1, <-hj,Zk4]
theorem xW(g e:Nat)(fr:Nat×Nat):∀(vs:List Value)(i o:Nat)(cur:Array Value)(w:World),w.heap[g]? =some (.cells cur e fr)->o+i+vs.length<=cur.size->
  (∀v∈vs,v.oneCell'=true)->(∀k,o+i<=k->k<cur.size->¬(fr.1<=k/\k<fr.2))->
  ∃ w',(storeCells ⟨g,o,none⟩ vs i).run P w= .ok () w'/\w'.heap[g]? =some (.cells (aU cur.toList (o+i) vs).toArray e fr)/\
    w'.heap.size=w.heap.size/\(∀k,k≠g->w'.heap[k]? =w.heap[k]?)/\w'.os=w.os/\w'.tape=w.tape/\w'.output=w.output
 |[],i,o,cur,w,hg,_,_,_=>⟨w,by simp[storeCells],by rw[hg];simp[aU,Zm1],rfl,λ_ _=>rfl,rfl,rfl,rfl⟩
 |v ::vs,i,o,cur,w,hg,hle,h1,hf=>by
  simp only[Zc6]at hle;have hv:v.oneCell'=true:=h1 v (by simp);have DJ:w.cell? ⟨g,o+i,none⟩=some (cur[o+i]'(by omega)):=by simp[World.cell?,hg]
  have hfz:w.frozen? ⟨g,o+i,none⟩=false:=by have:=hf (o+i) (Za3 _) (by omega);simp only[World.frozen?,hg];simpa using this
  have DK:(w.setCell ⟨g,o+i,none⟩ v).heap[g]? =some (.cells (cur.setIfInBounds (o+i) v) e fr):=by
    simp[World.setCell,Zj1,hg]
  obtain⟨w',h2,h3,h4,h5,h6,h7,h8⟩:=xW g e fr vs (i+1) o _ _ DK (by simp;omega) (λv hv=>h1 v (by simp[hv])) (by intro k hk ri;simp at ri;exact hf k (by omega) ri);refine⟨w',?_,?_,by simp[h4],λk hk=> ?_,h6,h7,h8⟩
  .simp only[storeCells,Sem.run_bind,uR,run_store P w _ _ _ hv,DJ,hfz];simpa using h2
  .rw[h3];congr 2;simp only[aU,Zc6,Zq4];rw[Zp8 (by omega)];have:o+(i+1)=(o+i)+1:=(by omega);rw[this,List.take_set,List.take_add_one];have aW:o+i<cur.toList.length:=(by simp;omega);rw[H0 aW];simp only[Option.toList_some,List.set_append,Zg3];have hm:min (o+i) cur.toList.length=o+i:=Zk8 (Zn8 aW);rw[hm,Za7 (Zp3 _),Zl1];simp;rw[show o+i+1+vs.length=o+i+(vs.length+1)from by omega]
  .rw[h5 k hk,Below.heap_setCell _ _ _ _ (by simpa using hk)]
end
section
variable{P:Program}{tt:TT}{ρ:Pos->Loc}{C:Cells}{st:St}{w:World}{n:Nat}
theorem Yields.value(x:Value):Yields (.value x) x:= .inl rfl
theorem HF.pure{v:AV}{x:Value}{r:Result Next}(h:r= .ok (.value x) w)(hv:aC ρ st.next.toNat C v x):HF P ρ C st w r (.val v):=
 ⟨_,x,h,Yields.value x,hv⟩
theorem aC.iI{k:IntKind}{i:Int}{x:Value}(h:aC ρ n C (.int k i) x):x= .int k i:=by cases h;rfl
theorem aC.lH{b:Bool}{x:Value}(h:aC ρ n C (.bool b) x):x= .bool b:=by cases h;rfl
theorem aC.fB{s:List Nat}{x:Value}(h:aC ρ n C (.str s) x):∃bs:ByteArray,x= .string bs/\bs.data.toList.map UInt8.toNat=s:=by
 cases h with|str _ bs h=>exact⟨bs,rfl,h⟩
theorem aC.GF{x:Value}(h:aC ρ n C .jg x):x= .pointer none:=by cases h;rfl
theorem aC.iJ{x:Value}(h:aC ρ n C .af x):x= .slice none 0 0:=by cases h;rfl
theorem aC.GG{x:Value}(h:aC ρ n C .qX x):x= .map none:=by cases h;rfl
theorem aC.SE{x:Value}(h:aC ρ n C .jX x):x= .nilFunc:=by cases h;rfl
theorem aC.ahv{x:Value}(h:aC ρ n C .B9 x):x= .nilIface:=by cases h;rfl
theorem aC.qU{b:Pos}{off:Nat}{x:Value}(h:aC ρ n C (.ptr b off) x):b.toNat<n/\x= .pointer (some ⟨(ρ b).aM,(ρ b).base+off,none⟩):=by
 cases h with|ptr _ _ h=>exact⟨h,rfl⟩
theorem aC.CJ{b:Pos}{x:Value}(h:aC ρ n C (.map b) x):b.toNat<n/\x= .map (some (ρ b).aM):=by
 cases h with|map _ h=>exact⟨h,rfl⟩
theorem aC.afs{t:TypeId}{v:AV}{x:Value}(h:aC ρ n C (.iface t v) x):∃y,x= .iface t y/\aC ρ n C v y:=by
 cases h with|iface _ _ y h=>exact⟨y,rfl,h⟩
theorem aC.fM{b:Pos}{off len es:Nat}{cap:Option Nat}{x:Value}(h:aC ρ n C (.slice b off len cap es) x):
  ∃(a:Addr) (br:Nat),x= .slice (some a) len br/\len<=br/\(∀c,cap=some c->c=br)/\
   (br≠0->b.toNat<n/\a=⟨(ρ b).aM,(ρ b).base+off,none⟩/\(ρ b).base+off+br*es<=(ρ b).size):=by
 cases h with|slice _ _ _ _ _ br a hl hc ha _=>exact⟨a,br,rfl,hl,hc,ha⟩
theorem aC.Xa{b:Pos}{off len es:Nat}{cap:Option Nat}{x:Value}(h:aC ρ n C (.slice b off len cap es) x):cap=none->b.toNat<n:=by
 cases h with|slice _ _ _ _ _ _ _ _ _ _ hk=>exact hk
theorem aC.yZ{xs:List (List AV)}{es:Nat}{x:Value}(h:aC ρ n C (.fl xs es) x):
  ∃(a:Addr) (br:Nat) (cell:Nat->Nat->Value),x= .slice (some a) xs.length br/\xs.length<=br/\(xs≠[]->a.spot=none)/\
   (∀(i:Nat)(cs:List AV),xs[i]? =some cs->cs.length=es)/\
   (∀(i j:Nat)(cs:List AV)(v:AV),xs[i]? =some cs->cs[j]? =some v->C ⟨a.block,a.off+i*es+j,none⟩=some (cell i j))/\
   (∀(i j:Nat)(cs:List AV)(v:AV),xs[i]? =some cs->cs[j]? =some v->aC ρ n C v (cell i j)):=by
 cases h with|fl _ _ br a cell hl hs dN hc hv=>exact⟨a,br,cell,rfl,hl,hs,dN,hc,hv⟩
theorem aC.QJ{xs:List (List AV)}{i j:Nat}{x:Value}(h:aC ρ n C (.fp xs i j) x):
  ∃(es aM base:Nat) (cell:Nat->Nat->Value),x= .pointer (some ⟨aM,base+i*es+j,none⟩)/\
   (∀(i:Nat)(cs:List AV),xs[i]? =some cs->cs.length=es)/\
   (∀(i j:Nat)(cs:List AV)(v:AV),xs[i]? =some cs->cs[j]? =some v->C ⟨aM,base+i*es+j,none⟩=some (cell i j))/\
   (∀(i j:Nat)(cs:List AV)(v:AV),xs[i]? =some cs->cs[j]? =some v->aC ρ n C v (cell i j)):=by
 cases h with|fp _ _ _ es aM base cell hl hc hv=>exact⟨es,aM,base,cell,rfl,hl,hc,hv⟩
theorem zc(k:IntKind)(i:Int):ax k i=k.wrap i:=by
 unfold ax;split
 . rename_i h1 _;split
   .rename_i h2 _;cases k<;>simp only[loI,hiI]at h1 h2<;>simp only[IntKind.wrap,IntKind.bits,IntKind.signed]<;>simp<;>omega
   .rfl
 .rfl
theorem oM(a b:Int):BP a b=(a==b):=by
 unfold BP;split
 .rename_i h _;subst h;simp
 .rename_i h _;simp[h]
theorem fo(a b:Int):BQ a b=decide (a<b):=by
 unfold BQ;split<;>(rename_i h _;simp[h])
theorem lK(a b:Int):ag3 a b=decide (a<=b):=by
 unfold ag3;split<;>(rename_i h _;simp[h])
theorem kZ:∀{a b:List Nat},jY a b=true↔a=b
 |[],[]=>by simp[jY]
 |[],_::_=>by simp[jY]
 |_::_,[]=>by simp[jY]
 |a::x,b::y=>by
  unfold jY;split
  .rename_i h;have:=Za6 h;subst this;simp[kZ (a:=x) (b:=y)]
  .rename_i h;have:=Zf3 h;simp[this]
theorem QK:∀{a b:List UInt8},a.map UInt8.toNat=b.map UInt8.toNat->a=b
 |[],[],_=>rfl
 |[],_::_,h=>by simp at h
 |_::_,[],h=>by simp at h
 |a::x,b::y,h=>by
  simp at h;rw[Zr9.1 h.1,QK h.2]
theorem toList_data(b:ByteArray):b.toList=b.data.toList:=ByteArray.toList_eq b
theorem xO:∀(x y:List UInt8),aO (x.map UInt8.toNat) (y.map UInt8.toNat)=Op.bytesLess x y
 |[],[]=>by simp[aO,Op.bytesLess]
 |_::_,[]=>by simp[aO,Op.bytesLess]
 |[],_::_=>by simp[aO,Op.bytesLess]
 |a ::x,b::y=>by
  simp only[Zd1,aO,Op.bytesLess];split
  .rename_i h;have:a<b:=(by rw[Zo5];simpa using h);simp[this]
  . (rename_i h;have h1:¬a<b:=by rw[Zo5];intro h';have h2:Nat.blt a.toNat b.toNat=true:=(by simpa using h');rw[h2]at h;cases h);split
    .   rename_i h2;have:a=b:=Zr9.1 (Za6 h2);subst this;simp only[h1,Zq1,Zp4,beq_self_eq_true,Zg9];exact xO x y
    .   (rename_i h2;have:a≠b:=λe=>Zf3 h2 (by rw[e]));simp[h1,this]
theorem QL{a b:List Nat}{x y:ByteArray}(hx:x.data.toList.map UInt8.toNat=a)(hy:y.data.toList.map UInt8.toNat=b):(x.toList==y.toList)=jY a b:=by
 rw[toList_data,toList_data,Zm0,kZ,beq_iff_eq, <-hx, <-hy];exact⟨λh=>by rw[h],λh=>QK h⟩
theorem abE{a b:List Nat}{x y:ByteArray}(hx:x.data.toList.map UInt8.toNat=a)(hy:y.data.toList.map UInt8.toNat=b):Op.bytesLess x.toList y.toList=aO a b:=by
 rw[toList_data,toList_data, <-hx, <-hy,xO]
theorem Mg{a:List Nat}{x:ByteArray}(hx:x.data.toList.map UInt8.toNat=a):x.size=a.length:=by rw[<-hx,Za4,Zi3];rfl
def PK.fits:PK->TypeDesc->Bool
 |.b,.bool=>true
 |.i,.int _=>true
 |.s,.string=>true
 |_,_=>false
theorem ahw{t:TypeId}{d:TypeDesc}(hd:P.underlying t=some d){pk:PK}(hk:pk.fits d=true){a b:AV}{x y:Value}{r:Bool}{m:Nat}
   (ha:aC ρ n C a x) (hb:aC ρ n C b y) (h:yV pk a b=some r) (w:World):(Op.equalIn (m+1) t x y).run P w= .ok r w:=by
 unfold yV at h;split at h
 .simp only[H5]at h;subst h;rw[ha.lH,hb.lH];cases d<;>simp[PK.fits]at hk;rw[run_equalIn_bool' w m t _ _ hd]
 . split at h
   .rename_i ri;have:=CI ri;subst this;simp only[H5]at h;subst h;rw[ha.iI,hb.iI];cases d<;>simp[PK.fits]at hk;rw[run_equalIn_int w m t _ _ _ _ hd,oM]
   .cases h
 .simp only[H5]at h;subst h;obtain⟨bx,rfl,h1⟩:=ha.fB;obtain⟨bz,rfl,h2⟩:=hb.fB;cases d<;>simp[PK.fits]at hk;rw[run_equalIn_string w m t _ _ hd,QL h1 h2]
 .cases h
theorem Xb:∀{fs:List (Nat×Nat×Bool)}{l:List (Nat×PK)}{gs:List Field}{xs ys:List AV}{cx cy:Array Value}{r:Bool}{m:Nat}(_hT:dG P tt)
  (_hm:cF.fq fs gs=true) (_hf:DE.fields tt fs=some l) (_hx:aK ρ n C xs cx.toList) (_hy:aK ρ n C ys cy.toList) (_h:eqFields xs ys l=some r) (w:World),
  (Op.eqFields (m+1) cx cy gs).run P w= .ok r w
 |[],l,gs,xs,ys,cx,cy,r,m,hT,hm,hf,hx,hy,h,w=>by
  cases gs with
  |cons f gs=>simp[cF.fq]at hm
  | nil=>
    simp[DE.fields]at hf;subst hf;simp[eqFields]at h;subst h;simp[Op.eqFields]
 |(off  , t,named)::fs,l,gs,xs,ys,cx,cy,r,m,hT,hm,hf,hx,hy,h,w=>by
  cases gs with
  |nil=>simp[cF.fq]at hm
  | cons f gs=>
    simp[cF.fq]at hm;obtain⟨⟨⟨ho,ht⟩,hn⟩,hm'⟩:=hm;unfold DE.fields at hf;(split at hf<;>first|(cases hf;done)|skip);rename_i ti l' fN hl';obtain⟨d,hd,dP⟩:=(hT.at fN).und;have key:∃pk,l=(off,pk)::l'/\pk.fits d=true/\(isAgg t).run P w= .ok false w:=by
        have yy:=abD dP w hd;split at hf<;>first|(cases hf;done)|skip
        all_goals
          rename_i hk;simp only[H5]at hf;rw[hk]at dP yy;refine⟨_,hf.symm,?_,yy⟩
        .rw[aeh dP];rfl
        .rw[W9 dP];rfl
        .rw[vP dP];rfl
    obtain⟨pk,rfl,Pu,yy⟩:=key;have cY:f.name≠ "_" :=(by intro e;rw[e]at hn;simp at hn);unfold eqFields at h;(split at h<;>first|(cases h;done)|skip);rename_i a b ha hb;rw[rf]at ha hb;obtain⟨x,hx1,hx2⟩:=hx.get ha;obtain⟨y,Xc,hy2⟩:=hy.get hb;have px:(part f.type cx f.offset).run P w= .ok x w:=by
        rw[<-ht, <-ho];simp at hx1;simp[part,yy,hx1]
    have py:(part f.type cy f.offset).run P w= .ok y w:=by
        rw[<-ht, <-ho];simp at Xc;simp[part,yy,Xc]
    simp only[Op.eqFields,Sem.run_bind,Sem.run_ite,cY,px,py,Result.andThen_ok,ne_eq,not_false_eq_true,Zh1];split at h
    .   rename_i he;rw[<-ht,ahw hd Pu hx2 hy2 he w];simpa using Xb (m:=m) hT hm' hl' hx hy h w
    .   rename_i he;simp only[H5]at h;subst h;rw[<-ht,ahw hd Pu hx2 hy2 he w];simp
    .   cases h
def asU(tt:TT)(op:BinOp)(q:iu)(t:TypeId):Prop:=DE tt t=some q\/(q= .num/\op≠ .eql/\op≠ .neq)
def awd(P:Program)(tt:TT)(t:TypeId):iu->Prop
 |.num=>True
 |.bool=>P.underlying t=some .bool
 |.ptr=>∃e,P.underlying t=some (.pointer e)/\∃j,P.info? e=some j
 |.slice=>∃e,P.underlying t=some (.slice e)
 |.map=>∃k e,P.underlying t=some (.map k e)
 |.func=>∃a b c,P.underlying t=some (.func a b c)
 |.iface=>∃a,P.underlying t=some (.interface a)
 |.struct l=>∃fs gs,P.underlying t=some (.struct gs)/\cF.fq fs gs.toList=true/\DE.fields tt fs=some l/\P.stoodInHeld t=false/\P.eqGuardType P.depth t=false
theorem akM(hT:dG P tt){t:TypeId}{q:iu}(hq:DE tt t=some q):awd P tt t q:=by
 unfold DE at hq;split at hq<;>first|(cases hq;done)|skip
 rename_i ti fN;obtain⟨d,hd,dP⟩:=(hT.at fN).und;split at hq<;>first|(cases hq;done)|skip
 all_goals rename_i hk
 all_goals rw[hk]at dP
 .simp only[H5]at hq;subst hq;rw[aeh dP]at hd;exact hd
 .simp only[H5]at hq;subst hq;trivial
 .simp only[H5]at hq;subst hq;trivial
 .simp only[H5]at hq;subst hq;rw[avh dP]at hd;exact⟨_,hd,(hT.at fN).elem _ hk⟩
 .simp only[H5]at hq;subst hq;rw[uj dP]at hd;exact⟨_,hd⟩
 .simp only[H5]at hq;subst hq;rw[W7 dP]at hd;exact⟨_,_,hd⟩
 .simp only[H5]at hq;subst hq;obtain⟨_,_,_,rfl⟩:=att dP;exact⟨_,_,_,hd⟩
 .simp only[H5]at hq;subst hq;obtain⟨_,rfl⟩:=aql dP;exact⟨_,hd⟩
 . (split at hq<;>first|(cases hq;done)|skip);rename_i fs _ _ l hp hl;simp only[H5]at hq;subst hq;obtain⟨gs,rfl,hm⟩:=Of dP;exact⟨fs,gs,hd,hm,hl,(hT.at fN).eqs hp⟩
theorem alN(m:Nat)(hT:dG P tt){t:TypeId}{q:iu}(hq:DE tt t=some q){a b:AV}{x y:Value}{r:Bool}(ha:aC ρ n C a x)(hb:aC ρ n C b y)(h:abz q a b=some r)(w:World):
   (Op.equalIn (m+1+1) t x y).run P w= .ok r w:=by
 have hi:=akM hT hq;clear hq;unfold abz at h;split at h<;>first|(cases h;done)|skip
 .simp only[H5]at h;subst h;rw[ha.lH,hb.lH,run_equalIn_bool' w _ t _ _ hi]
 all_goals first
   |(simp only[H5]at h;subst h)
   |skip
 .obtain⟨e,hd,_⟩:=hi;rw[ha.GF,hb.GF];(unfold Op.equalIn;rw[Sem.run_bind,bu hd];rfl)
 .obtain⟨e,hd,_⟩:=hi;obtain⟨_,hb⟩:=hb.qU;rw[ha.GF,hb];(unfold Op.equalIn;rw[Sem.run_bind,bu hd];rfl)
 .obtain⟨e,hd,_⟩:=hi;obtain⟨_,ha⟩:=ha.qU;rw[hb.GF,ha];(unfold Op.equalIn;rw[Sem.run_bind,bu hd];rfl)
 .obtain⟨e,hd,_⟩:=hi;obtain⟨_,_,_,_,hb,_⟩:=hb.QJ;rw[ha.GF,hb];(unfold Op.equalIn;rw[Sem.run_bind,bu hd];rfl)
 .obtain⟨e,hd,_⟩:=hi;obtain⟨_,_,_,_,ha,_⟩:=ha.QJ;rw[hb.GF,ha];(unfold Op.equalIn;rw[Sem.run_bind,bu hd];rfl)
 .obtain⟨e,hd,j,hj⟩:=hi;(split at h<;>first|(cases h;done)|skip);rename_i e1 e2;have e1:=Pos.beq_eq.1 e1;have e2:=Za6 e2;subst e1;subst e2;simp only[H5]at h;subst h;obtain⟨_,ha⟩:=ha.qU;obtain⟨_,hb⟩:=hb.qU;rw[ha,hb];simp[Op.equalIn,bu hd,sizeOf,typeInfo,hj,run_sameAddr_same]
 .obtain⟨e,hd⟩:=hi;rw[ha.iJ,hb.iJ];(unfold Op.equalIn;rw[Sem.run_bind,bu hd];rfl)
 .obtain⟨e,hd⟩:=hi;obtain⟨_,_,hb,_⟩:=hb.fM;rw[ha.iJ,hb];(unfold Op.equalIn;rw[Sem.run_bind,bu hd];rfl)
 .obtain⟨e,hd⟩:=hi;obtain⟨_,_,ha,_⟩:=ha.fM;rw[hb.iJ,ha];(unfold Op.equalIn;rw[Sem.run_bind,bu hd];rfl)
 .obtain⟨e,hd⟩:=hi;obtain⟨_,_,_,hb,_⟩:=hb.yZ;rw[ha.iJ,hb];(unfold Op.equalIn;rw[Sem.run_bind,bu hd];rfl)
 .obtain⟨e,hd⟩:=hi;obtain⟨_,_,_,ha,_⟩:=ha.yZ;rw[hb.iJ,ha];(unfold Op.equalIn;rw[Sem.run_bind,bu hd];rfl)
 .obtain⟨k,e,hd⟩:=hi;rw[ha.GG,hb.GG];(unfold Op.equalIn;rw[Sem.run_bind,bu hd];rfl)
 .obtain⟨k,e,hd⟩:=hi;obtain⟨_,hb⟩:=hb.CJ;rw[ha.GG,hb];(unfold Op.equalIn;rw[Sem.run_bind,bu hd];rfl)
 .obtain⟨k,e,hd⟩:=hi;obtain⟨_,ha⟩:=ha.CJ;rw[hb.GG,ha];(unfold Op.equalIn;rw[Sem.run_bind,bu hd];rfl)
 .obtain⟨_,_,_,hd⟩:=hi;rw[ha.SE,hb.SE];(unfold Op.equalIn;rw[Sem.run_bind,bu hd];rfl)
 .obtain⟨_,_,_,hd⟩:=hi;obtain⟨_,_,hb,_⟩:=hb.Sw;rw[ha.SE,hb];(unfold Op.equalIn;rw[Sem.run_bind,bu hd];rfl)
 .obtain⟨_,_,_,hd⟩:=hi;obtain⟨_,_,ha,_⟩:=ha.Sw;rw[hb.SE,ha];(unfold Op.equalIn;rw[Sem.run_bind,bu hd];rfl)
 .obtain⟨_,hd⟩:=hi;obtain⟨_,hb,_⟩:=hb.afs;rw[ha.ahv,hb];(unfold Op.equalIn;rw[Sem.run_bind,bu hd];rfl)
 .obtain⟨_,hd⟩:=hi;obtain⟨_,ha,_⟩:=ha.afs;rw[hb.ahv,ha];(unfold Op.equalIn;rw[Sem.run_bind,bu hd];rfl)
 .obtain⟨fs,gs,hd,hm,hl,hp,_⟩:=hi;obtain⟨cx,rfl,hx⟩:=ha.Gy;obtain⟨cy,rfl,hy⟩:=hb.Gy;have hfo:P.fieldsOf t=gs:=(by simp[Program.fieldsOf,hd]);rw[run_equalIn_agg w (m+1) t cx cy (by rw[hfo,hd]) hp,hfo];exact Xb (m:=m) hT hm hl hx hy h w
theorem ahx(hT:dG P tt){t:TypeId}{q:iu}(hq:DE tt t=some q){a b:AV}{x y:Value}{r:Bool}(ha:aC ρ n C a x)(hb:aC ρ n C b y)(h:abz q a b=some r)(w:World):
 (Op.equal t x y).run P w= .ok r w:=alN 9998 hT hq ha hb h w
theorem acN(hT:dG P tt){t:TypeId}{q:iu}(hq:DE tt t=some q){a b:AV}{x y:Value}{r:Bool}(ha:aC ρ n C a x)(hb:aC ρ n C b y)(h:abz q a b=some r)(op:BinOp)(ox oy:Operand)(w:World):
  (eqGuard op t ox oy x y).run P w= .ok () w:=by
 have hi:=akM hT hq;clear hq;unfold abz at h;split at h<;>first|(cases h;done)|skip
 all_goals first
  |(obtain⟨fs,gs,hd,hm,hl,hp,hg⟩:=hi
    obtain⟨cx,rfl,hx⟩:=ha.Gy;obtain⟨cy,rfl,hy⟩:=hb.Gy;exact run_eqGuard_agg w op t ox oy cx cy hg)
  |(cases ha<;>cases hb<;>cases op<;>rfl)
end
section
variable{P:Program}{tt:TT}{ρ:Pos->Loc}{C:Cells}{st:St}{w:World}{n:Nat}
theorem ags(op:BinOp)(t:TypeId)(k:IntKind)(i j:Int)(hs:op≠ .shl)(hr:op≠ .shr):(binOp op t (.int k i) (.int k j)).run P w=
  (match op with
   |.add|.sub|.mul=>Op.intArith op k i j
   |.quo|.rem=>Op.intDiv op k i j
   |.and|.or|.xor|.andNot=>Op.intBits op k i j
   |_=>Op.intCmp op i j).run P w:=by
 cases op<;>first|(exact absurd rfl hs)|(exact absurd rfl hr)|simp[binOp]
theorem aqn(hT:dG P tt){op:BinOp}{t:TypeId}{q:iu}(hq:asU tt op q t){a b v:AV}{x y:Value}(ha:aC ρ n C a x)(hb:aC ρ n C b y)(h:pV op q a b=some v)(ox oy:Operand):
  ∃z,(do eqGuard op t ox oy x y;binOp op t x y:Sem Value).run P w= .ok z w/\aC ρ n C v z:=by
 unfold pV at h;split at h
 ·
  rename_i k i k' j;rw[ha.iI,hb.iI];have hg:∀op,(eqGuard op t ox oy (.int k i) (.int k' j)).run P w= .ok () w:=by intro op;cases op<;>rfl
  rw[Sem.run_bind,hg,Result.andThen_ok];split at h
  . split at h
    .   cases h
    .   rename_i aW;rw[fo]at aW;have aW:=Zn3 aW;simp only[H5]at h;subst h;exact⟨_,by simp[binOp,Op.shift,aW,zc],.int _ _⟩
  . split at h
    .   cases h
    .   rename_i aW;rw[fo]at aW;have aW:=Zn3 aW;simp only[H5]at h;subst h;exact⟨_,by simp[binOp,Op.shift,aW],.int _ _⟩
  . rename_i hs hr;split at h
    .   cases h
    .   rename_i hk;have:=CI hk;subst this;rw[ags op t k i j (λe=>hs e) (λe=>hr e)];split at h
        .simp only[H5]at h;subst h;exact⟨_,by simp[Op.intArith,zc],.int _ _⟩
        .simp only[H5]at h;subst h;exact⟨_,by simp[Op.intArith,zc],.int _ _⟩
        .simp only[H5]at h;subst h;exact⟨_,by simp[Op.intArith,zc],.int _ _⟩
        . split at h
          .cases h
          . (rename_i h0;rw[oM]at h0;have h0':¬j=0:=by simpa using h0);simp only[H5]at h;subst h;exact⟨_,by simp[Op.intDiv,h0',zc],.int _ _⟩
        . split at h
          .cases h
          . (rename_i h0;rw[oM]at h0;have h0':¬j=0:=by simpa using h0);simp only[H5]at h;subst h;exact⟨_,by simp[Op.intDiv,h0'],.int _ _⟩
        .simp only[H5]at h;subst h;exact⟨_,by simp[Op.intBits],.int _ _⟩
        .simp only[H5]at h;subst h;exact⟨_,by simp[Op.intBits],.int _ _⟩
        .simp only[H5]at h;subst h;exact⟨_,by simp[Op.intBits],.int _ _⟩
        .simp only[H5]at h;subst h;exact⟨_,by simp[Op.intBits],.int _ _⟩
        .simp only[H5]at h;subst h;exact⟨_,by simp[Op.intCmp,oM],.bool _⟩
        .simp only[H5]at h;subst h;refine⟨_,rfl,?_⟩;rw[oM];exact .bool _
        .simp only[H5]at h;subst h;refine⟨_,rfl,?_⟩;rw[fo];exact .bool _
        .simp only[H5]at h;subst h;refine⟨_,rfl,?_⟩;rw[lK];exact .bool _
        .simp only[H5]at h;subst h;refine⟨_,rfl,?_⟩;rw[fo];exact .bool _
        .simp only[H5]at h;subst h;refine⟨_,rfl,?_⟩;rw[lK];exact .bool _
        .cases h
 ·
  rename_i s u;obtain⟨bx,rfl,h1⟩:=ha.fB;obtain⟨bz,rfl,h2⟩:=hb.fB;have hg:∀op,(eqGuard op t ox oy (.string bx) (.string bz)).run P w= .ok () w:=by intro op;cases op<;>rfl
  rw[Sem.run_bind,hg,Result.andThen_ok];have hs:(binOp op t (.string bx) (.string bz)).run P w=(Op.stringOp op bx bz).run P w:=by cases op<;>rfl
  rw[hs];have e1:=QL h1 h2;have e2:=abE h1 h2;split at h
  . split at h
    .   rename_i hb;have hb:=Zb5 hb;simp only[H5]at h;subst h;have od:¬(((bx.size+bz.size:Nat):Int)>IntKind.i64.max):=(by rw[Mg h1,Mg h2];simp[IntKind.max,IntKind.signed,IntKind.bits];omega);refine⟨.string (bx++bz),?_,.str _ _ ?_⟩
        .simp only[Op.stringOp];rw[Za7 od];rfl
        .rw[ByteArray.data_append,Array.toList_append,Zc8,h1,h2]
    .   cases h
  all_goals first|(cases h;done)|skip
  all_goals
    simp only[H5]at h;subst h;refine⟨_,rfl,?_⟩
    first|rw[e1,e2]|rw[e1]|rw[e2]
    exact .bool _
 ·
  rename_i hni hns;have ag6:∀op,(op= .eql\/op= .neq)->(binOp op t x y).run P w=((Op.equal t x y).run P w).andThen λr w'=>.ok (.bool (if op= .eql then r else !r)) w':=by
    rintro op (rfl|rfl)
    all_goals
        cases ha<;>cases hb<;>first
          |(exact(hni _ _ _ _ rfl rfl).elim)
          |(exact(hns _ _ rfl rfl).elim)
          |simp[binOp]
  split at h
  . split at h
    .   rename_i r hr;simp only[H5]at h;subst h;rcases hq with hq|⟨_,hq,_⟩
        .refine⟨.bool r,?_,.bool r⟩;rw[Sem.run_bind,acN hT hq ha hb hr,Result.andThen_ok,ag6 _ (.inl rfl),ahx hT hq ha hb hr];rfl
        .exact absurd rfl hq
    .   cases h
  . split at h
    .   rename_i r hr;simp only[H5]at h;subst h;rcases hq with hq|⟨_,_,hq⟩
        .refine⟨.bool (!r),?_,.bool _⟩;rw[Sem.run_bind,acN hT hq ha hb hr,Result.andThen_ok,ag6 _ (.inr rfl),ahx hT hq ha hb hr];rfl
        .exact absurd rfl hq
    .   cases h
  .cases h
end
def fC(P:Program)(tt:TT)(op:Op):Prop:=
 ∀  (ρ:Pos->Loc)(C:Cells)(st:St)(w:World)(k:aG)(xs:List iy)(cls:Cls)(fr:Fr)(a:Act)(o:Oper)(vs:List AV)(res:eO),
    o.op=op->kG tt op=some (k,xs,cls)->bZ ρ C st w->lF ρ st.next.toNat C fr a.tmps->gu fr xs=some vs->
    k.run (λb=>st.heap.get b) st.next vs=some res->HF P ρ C st w ((execOp a.eval o).run P w) res
section
variable{P:Program}{tt:TT}
theorem aei{ρ:Pos->Loc}{n:Nat}{C:Cells}{x y:Operand}{os:List iy}{fr:Fr}{a:Act}{vs:List AV}(h:mW [x,y]=some os)(hF:lF ρ n C fr a.tmps)(hv:gu fr os=some vs):
  ∃u v,vs=[u,v]/\aC ρ n C u (a.eval x)/\aC ρ n C v (a.eval y):=by
 have h1:=jd h hF hv;cases vs with
 |nil=>have:=h1.1;simp at this
 |cons u vs=>
  cases vs with
  |nil=>have:=h1.1;simp at this
  |cons v vs=>
   cases vs with
   |nil=>exact⟨u,v,rfl,h1.2 0 u _ rfl rfl,h1.2 1 v _ rfl rfl⟩
   |cons z vs=>have:=h1.1;simp at this
theorem evs3{ρ:Pos->Loc}{n:Nat}{C:Cells}{x y z:Operand}{os:List iy}{fr:Fr}{a:Act}{vs:List AV}(h:mW [x,y,z]=some os)(hF:lF ρ n C fr a.tmps)(hv:gu fr os=some vs):
  ∃u v q,vs=[u,v,q]/\aC ρ n C u (a.eval x)/\aC ρ n C v (a.eval y)/\aC ρ n C q (a.eval z):=by
 have h1:=jd h hF hv
 match vs,h1 with
 |[u,v,q],h1=>exact⟨u,v,q,rfl,h1.2 0 u _ rfl rfl,h1.2 1 v _ rfl rfl,h1.2 2 q _ rfl rfl⟩
 |[],h1=>have:=h1.1;simp at this
 |[_],h1=>have:=h1.1;simp at this
 |[_,_],h1=>have:=h1.1;simp at this
 |_::_::_::_::_,h1=>have:=h1.1;simp at this
theorem aqo(x:Operand):fC P tt (.move x):=by
 intro ρ C st w k xs cls fr a o vs res ho hc hW hF hx hr;simp only[kG]at hc;split at hc<;>first|(cases hc;done)|skip
 rename_i b hb;cases hc;obtain⟨v,rfl,hv⟩:=mg hb hF hx;simp only[aG.run,ZB,H5]at hr;subst hr;exact .pure (by simp[execOp,ho]) hv
theorem alO(x:Operand):fC P tt (.assign x):=by
 intro ρ C st w k xs cls fr a o vs res ho hc hW hF hx hr;simp only[kG]at hc;split at hc<;>first|(cases hc;done)|skip
 rename_i b hb;cases hc;obtain⟨v,rfl,hv⟩:=mg hb hF hx;simp only[aG.run,ZB,H5]at hr;subst hr;exact .pure (by simp[execOp,ho]) hv
theorem aqp(c x y:Operand):fC P tt (.pick c x y):=by
 intro ρ C st w k xs cls fr a o vs res ho hc hW hF hx hr;simp only[kG]at hc;split at hc<;>first|(cases hc;done)|skip
 rename_i l hl;cases hc;obtain⟨u,v,q,rfl,h1,h2,h3⟩:=evs3 hl hF hx;simp only[aG.run,aed]at hr;split at hr<;>first|(cases hr;done)|skip
 all_goals
   simp only[H5]at hr;subst hr;have h1:=h1.lH
 .exact .pure (by simp[execOp,ho,h1,asBool]) h2
 .exact .pure (by simp[execOp,ho,h1,asBool]) h3
theorem anS(hT:dG P tt)(op:BinOp)(t:TypeId)(x y:Operand)(yt:TypeId):fC P tt (.binOp op t x y yt):=by
 intro ρ C st w k xs cls fr a o vs res ho hc hW hF hx hr;have key:∃q,asU tt op q t/\k= .bin op q/\mW [x,y]=some xs:=by
  simp only[kG]at hc;split at hc
  .rename_i q l hq hl;cases hc;exact⟨q,.inl hq,rfl,hl⟩
  .rename_i l hq hl;(split at hc<;>first|(cases hc;done)|skip);rename_i h1 h2;cases hc;exact⟨.num,.inr ⟨rfl,λe=>h1 e,λe=>h2 e⟩,rfl,hl⟩
  .cases hc
 obtain⟨q,hq,rfl,hl⟩:=key;obtain⟨u,v,rfl,h1,h2⟩:=aei hl hF hx;simp only[aG.run,jH]at hr;split at hr<;>first|(cases hr;done)|skip
 rename_i r hb;simp only[H5]at hr;subst hr;obtain⟨z,hz,hv⟩:=aqn hT hq h1 h2 hb x y (w:=w);refine .pure ?_ hv;simp only[execOp,ho];rw[Sem.run_bind,hz];rfl
theorem aqq(op:UnOp)(t:TypeId)(x:Operand):fC P tt (.unOp op t x):=by
 intro ρ C st w k xs cls fr a o vs res ho hc hW hF hx hr;simp only[kG]at hc;split at hc<;>first|(cases hc;done)|skip
 rename_i b hb;cases hc;obtain⟨v,rfl,hv⟩:=mg hb hF hx;simp only[aG.run,alG]at hr;split at hr<;>first|(cases hr;done)|skip
 rename_i r hu;simp only[H5]at hr;subst hr;unfold unA at hu;split at hu
 . (split at hu<;>first|(cases hu;done)|skip);simp only[H5]at hu;subst hu;exact .pure (by simp[execOp,ho,hv.lH,Op.unary]) (.bool _)
 . (split at hu<;>first|(cases hu;done)|skip);simp only[H5]at hu;subst hu;exact .pure (by simp[execOp,ho,hv.iI,Op.unary,Op.intArith];rfl) (by rw[zc];simpa using aC.int _ _)
 .cases hu
theorem ahy(x:Operand):fC P tt (.nilCheck x):=by
 intro ρ C st w k xs cls fr a o vs res ho hc hW hF hx hr;simp only[kG]at hc;split at hc<;>first|(cases hc;done)|skip
 rename_i b hb;cases hc;obtain⟨v,rfl,hv⟩:=mg hb hF hx;simp only[aG.run,Pr]at hr;split at hr<;>first|(cases hr;done)|skip
 all_goals simp only[H5]at hr;subst hr
 .obtain⟨_,he⟩:=hv.qU;exact .pure (by simp[execOp,ho,he]) hv
 .obtain⟨_,_,_,_,he,_⟩:=hv.QJ;exact .pure (by simp[execOp,ho,he]) hv
 .obtain⟨_,_,he,_⟩:=hv.Sw;exact .pure (by simp[execOp,ho,he]) hv
theorem aj6(x:Operand)(i:Nat):fC P tt (.extract x i):=by
 intro ρ C st w k xs cls fr a o vs res ho hc hW hF hx hr;simp only[kG]at hc;split at hc<;>first|(cases hc;done)|skip
 rename_i b hb;cases hc;obtain⟨v,rfl,hv⟩:=mg hb hF hx;simp only[aG.run,Lp]at hr;split at hr<;>first|(cases hr;done)|skip
 split at hr<;>first|(cases hr;done)|skip
 rename_i u hu;simp only[H5]at hr;subst hr;obtain⟨cs,he,hs⟩:=hv.W4;rw[rf]at hu;obtain⟨y,hy,Xd⟩:=hs.get hu;exact .pure (by simp at hy;simp[execOp,ho,he,Instr.extract,hy]) Xd
theorem aj7(hT:dG P tt)(t:TypeId)(x:Operand):fC P tt (.makeInterface t x):=by
 intro ρ C st w k xs cls fr a o vs res ho hc hW hF hx hr;simp only[kG]at hc;split at hc<;>first|(cases hc;done)|skip
 rename_i ti b fN hb;split at hc<;>first|(cases hc;done)|skip
 rename_i h1 h2;cases hc;obtain⟨v,rfl,hv⟩:=mg hb hF hx;simp only[aG.run,Sr,H5]at hr;subst hr;obtain⟨d,hd,hk⟩:=(hT.at fN).und;refine .pure (x:= .iface t (a.eval x)) ?_ (.iface _ _ _ hv);have hni:∀ms,d≠ .interface ms:=by
  rintro ms rfl;cases Og:ti.k<;>rw[Og]at hk<;>first|(simp[cF]at hk;done)|(exact h1 Og)|(exact h2 Og)
 simp only[execOp,ho,Instr.makeInterface,Sem.run_bind,bu hd,Result.andThen_ok];cases d<;>first|rfl|(exact absurd rfl (hni _))
theorem alP(fn:Fn)(first captured:Array Operand):fC P tt (.makeFunc fn first captured):=by
 intro ρ C st w k xs cls fr a o vs res ho hc hW hF hx hr;simp only[kG]at hc;split at hc<;>first|(cases hc;done)|skip
 rename_i f l hl;cases hc;have h:=jd hl hF hx;simp only[aG.run,HP,H5]at hr;subst hr;have e1:vs.take first.size=vs.take first.size:=rfl
 have h1:=h.take first.size
 have h2:=h.drop first.size
 simp only[Zc8]at h1 h2;rw[Zs0 (by simp)]at h1;rw[List.drop_left' (by simp)]at h2;refine .pure (x:= .func (.func f) (first.map a.eval) (captured.map a.eval)) (by simp[execOp,ho,Instr.makeFunc]) ?_;exact .func _ _ _ _ _ (by simpa using h1.1) (by simpa using h2.1) (λi v v' hv QM=>h1.2 i v v' hv (by simpa using QM)) (λi v v' hv QM=>h2.2 i v v' hv (by simpa using QM))
theorem agt(hT:dG P tt)(t:TypeId)(x:Operand)(f:Nat):fC P tt (.fieldAddr t x f):=by
 intro ρ C st w k xs cls fr a o vs res ho hc hW hF hx hr;simp only[kG]at hc;split at hc<;>first|(cases hc;done)|skip
 rename_i ti b fN hb;split at hc<;>first|(cases hc;done)|skip
 rename_i fs hk;split at hc<;>first|(cases hc;done)|skip
 rename_i off ft nm hf;split at hc<;>first|(cases hc;done)|skip
 rename_i fi hfi;split at hc<;>first|(cases hc;done)|skip
 rename_i gw;cases hc;obtain⟨v,rfl,hv⟩:=mg hb hF hx;obtain⟨d,hd,dP⟩:=(hT.at fN).und;rw[hk]at dP;obtain⟨gs,rfl,hm⟩:=Of dP;obtain⟨g,hg,vQ,FU,_⟩:=SB hm hf;simp only at vQ FU;obtain⟨i,hi,vR,_⟩:=(hT.at hfi).info;have hs0:¬i.size=0:=by rw[vR];exact Zf3 gw
 simp only[aG.run,WY]at hr;split at hr<;>first|(cases hr;done)|skip
 .simp only[H5]at hr;subst hr;obtain⟨aW,he⟩:=hv.qU;refine .pure (x:= .pointer (some ⟨(ρ _).aM,(ρ _).base+(_+off),none⟩)) ?_ (.ptr _ _ aW);simp at hg;simp[execOp,ho,he,Instr.fieldAt,bu hd,hg,Instr.sureAddr,fieldPlace,FU,mX hi,hs0,uR,vQ,Zk4]
 .simp only[H5]at hr;subst hr;obtain⟨es,aM,base,cell,he,h1,h2,h3⟩:=hv.QJ;rename_i Bi i' j';refine .pure (x:= .pointer (some ⟨aM,base+i'*es+(j'+off),none⟩)) ?_ (.fp _ _ _ es aM base cell h1 h2 h3);simp at hg;simp[execOp,ho,he,Instr.fieldAt,bu hd,hg,Instr.sureAddr,fieldPlace,FU,mX hi,hs0,uR,vQ,Zk4]
theorem mY{ρ:Pos->Loc}{n:Nat}{C:Cells}{v:AV}{x:Value}{i:Nat}(h:aC ρ n C v x)(hi:AI v=some i):∃k,x= .int k (i:Int):=by
 unfold AI at hi;split at hi<;>first|(cases hi;done)|skip
 split at hi<;>first|(cases hi;done)|skip
 simp only[H5]at hi;subst hi;exact⟨_,h.iI⟩
theorem agu(hT:dG P tt)(t:TypeId)(x ix:Operand):fC P tt (.indexAddr t x ix):=by
 intro ρ C st w k xs cls fr a o vs res ho hc hW hF hx hr;simp only[kG]at hc;split at hc<;>first|(cases hc;done)|skip
 rename_i ti l fN hl;obtain⟨d,hd,dP⟩:=(hT.at fN).und;obtain⟨u,v,rfl,h1,h2⟩:=aei hl hF (by
   split at hc<;>first|(cases hc;done)|skip
   all_goals
     (split at hc<;>first|(cases hc;done)|skip);cases hc;exact hx)
 split at hc<;>first|(cases hc;done)|skip
 . rename_i e hk;rw[hk]at dP;rw[uj dP]at hd;(split at hc<;>first|(cases hc;done)|skip);rename_i te pM;cases hc;obtain⟨i0,tG,vR,_⟩:=(hT.at pM).info;simp only[aG.run,td]at hr;(split at hr<;>first|(cases hr;done)|skip);rename_i i hi;obtain⟨kk,DM⟩:=mY h2 hi;split at hr<;>first|(cases hr;done)|skip
   .rename_i b off len cap es' _;(split at hr<;>first|(cases hr;done)|skip);rename_i aW;have aW:i<len:=(by simpa using aW);simp only[H5]at hr;subst hr;obtain⟨aa,br,he,hle,_,ha⟩:=h1.fM;obtain⟨hb,rfl,_⟩:=ha (by omega);refine .pure (x:= .pointer (some ⟨(ρ b).aM,(ρ b).base+(off+i*te.size),none⟩)) ?_ (.ptr _ _ hb);simp[execOp,ho,he,DM,Instr.indexAt,bu hd,asIntOf,aW,mX tG,uR,vR,Zk4]
   .rename_i Bi es' _;(split at hr<;>first|(cases hr;done)|skip);rename_i aW dN;have aW:i<Bi.length:=(by simpa using aW);have dN:te.size=es':=Za6 dN;simp only[H5]at hr;subst hr;obtain⟨aa,br,cell,he,hle,Bk,g1,g2,g3⟩:=h1.yZ;have Bk:=Bk (by intro e;rw[e]at aW;simp at aW);obtain⟨ab,ao,asp⟩:=aa;simp only at Bk;subst Bk;refine .pure (x:= .pointer (some ⟨ab,ao+i*es'+0,none⟩)) ?_ (.fp _ _ _ es' ab ao cell g1 g2 g3);simp[execOp,ho,he,DM,Instr.indexAt,bu hd,asIntOf,aW,mX tG,uR,vR,dN]
   .rename_i hh;cases hh
 . rename_i m e hk;rw[hk]at dP;rw[ahu dP]at hd;(split at hc<;>first|(cases hc;done)|skip);rename_i te pM;cases hc;obtain⟨i0,tG,vR,_⟩:=(hT.at pM).info;simp only[aG.run,td]at hr;(split at hr<;>first|(cases hr;done)|skip);rename_i i hi;obtain⟨kk,DM⟩:=mY h2 hi;split at hr<;>first|(cases hr;done)|skip
   .rename_i hh;cases hh
   .rename_i hh;cases hh
   .rename_i m' b off hh;cases hh;(split at hr<;>first|(cases hr;done)|skip);rename_i aW;have aW:i<m:=(by simpa using aW);simp only[H5]at hr;subst hr;obtain⟨hb,he⟩:=h1.qU;refine .pure (x:= .pointer (some ⟨(ρ b).aM,(ρ b).base+(off+i*te.size),none⟩)) ?_ (.ptr _ _ hb);simp[execOp,ho,he,DM,Instr.indexAt,bu hd,asIntOf,aW,mX tG,uR,vR,Zk4,Instr.sureAddr]
end
section
variable{P:Program}{tt:TT}
theorem anT(hT:dG P tt)(t:TypeId)(x:Operand)(f:Nat):fC P tt (.field t x f):=by
 intro ρ C st w k xs cls fr a o vs res ho hc hW hF hx hr;simp only[kG]at hc;split at hc<;>first|(cases hc;done)|skip
 rename_i ti b fN hb;split at hc<;>first|(cases hc;done)|skip
 rename_i fs hk;split at hc<;>first|(cases hc;done)|skip
 rename_i off ft nm hf;split at hc<;>first|(cases hc;done)|skip
 rename_i fi hfi;cases hc;obtain⟨v,rfl,hv⟩:=mg hb hF hx;obtain⟨d,hd,dP⟩:=(hT.at fN).und;rw[hk]at dP;obtain⟨gs,rfl,hm⟩:=Of dP;obtain⟨g,hg,vQ,FU,_⟩:=SB hm hf;simp only at vQ FU;obtain⟨i,hi,vR,_⟩:=(hT.at hfi).info;obtain⟨fd,hfd,hfk⟩:=(hT.at hfi).und;have yy:=abD hfk w hfd;simp only[aG.run,Su]at hr;split at hr<;>first|(cases hr;done)|skip
 rename_i cs;obtain⟨cx,he,hs⟩:=hv.Gy;simp at hg;split at hr
 . rename_i hn;(split at hr<;>first|(cases hr;done)|skip);rename_i u hu;simp only[H5]at hr;subst hr;rw[rf]at hu;obtain⟨y,hy,Xd⟩:=hs.get hu;have alQ:fi.k.isAgg=false:=by
     unfold DF at hn;split at hn
     .cases hn
     .assumption
   rw[alQ]at yy;refine .pure (x:=y) ?_ Xd;simp at hy;simp[execOp,ho,he,Instr.field,bu hd,hg,part,FU,yy,asAgg,vQ,hy]
 . rename_i m hn;simp only[H5]at hr;subst hr;have alQ:fi.k.isAgg=true/\m=fi.size:=by
     unfold DF at hn;split at hn
     .cases hn;exact⟨by assumption,rfl⟩
     .cases hn
   rw[alQ.1]at yy;refine .pure (x:= .agg (cx.extract off (off+m))) ?_ (.QG ?_)
   .simp[execOp,ho,he,Instr.field,bu hd,hg,part,FU,yy,asAgg,vQ,mX hi,vR,alQ.2]
   .have:=(hs.drop off).take m;simpa [Zp5,List.extract]using this
theorem anU(hT:dG P tt)(t:TypeId)(x ix:Operand):fC P tt (.index t x ix):=by
 intro ρ C st w k xs cls fr a o vs res ho hc hW hF hx hr;simp only[kG]at hc;split at hc<;>first|(cases hc;done)|skip
 rename_i ti l fN hl;split at hc<;>first|(cases hc;done)|skip
 rename_i hk;cases hc;obtain⟨u,v,rfl,h1,h2⟩:=aei hl hF hx;obtain⟨d,hd,dP⟩:=(hT.at fN).und;rw[hk]at dP;rw[vP dP]at hd;simp only[aG.run,ZC]at hr;split at hr<;>first|(cases hr;done)|skip
 rename_i s i hi;split at hr<;>first|(cases hr;done)|skip
 rename_i c hcx;simp only[H5]at hr;subst hr;obtain⟨bs,he,hs⟩:=h1.fB;obtain⟨kk,DM⟩:=mY h2 hi;rw[rf, <-hs,Zb7]at hcx;obtain⟨b,hb,hbc⟩:=Zf6.1 hcx;have dY:bs[i]? =some b:=by
  obtain⟨aW,vS⟩:=Za2.1 hb;have aqm:i<bs.size:=by rw[Zi3]at aW;exact aW
  rw[getElem?_pos bs i aqm];congr 1
 refine .pure (x:= .int .u8 (.ofNat c)) ?_ (.int _ _);simp[execOp,ho,he,DM,Instr.index,bu hd,asIntOf,dY, <-hbc]
theorem aqr(hT:dG P tt)(t:TypeId)(x:Operand):fC P tt (.load t x):=by
 intro ρ C st w k xs cls fr a o vs res ho hc hW hF hx hr;simp only[kG]at hc;split at hc<;>first|(cases hc;done)|skip
 rename_i ti b fN hb;cases hc;obtain⟨v,rfl,hv⟩:=mg hb hF hx;obtain⟨d,hd,dP⟩:=(hT.at fN).und;obtain⟨i,hi,vR,_⟩:=(hT.at fN).info;have yy:=abD dP w hd;have hn:(DF ti=none/\ti.k.isAgg=false)\/(DF ti=some ti.size/\ti.k.isAgg=true):=by unfold DF;split<;>simp_all
 simp only[aG.run,Aa]at hr;split at hr<;>first|(cases hr;done)|skip
 . rename_i bb off;(split at hr<;>first|(cases hr;done)|skip);rename_i cs fz vS;obtain⟨_,he⟩:=hv.qU;rcases hn with⟨hn,hf⟩|⟨hn,hf⟩
   .rw[hn]at hr;rw[hf]at yy;simp only at hr;(split at hr<;>first|(cases hr;done)|skip);rename_i u hu;simp only[H5]at hr;subst hr;rw[rf]at hu;obtain⟨y,hy,Xd⟩:=hW.cell vS hu;refine .pure (x:=y) ?_ Xd;simp[execOp,ho,he,Instr.loadAt,Instr.sureAddr,loadVar,yy,hy]
   .rw[hn]at hr;rw[hf]at yy;simp only at hr;(split at hr<;>first|(cases hr;done)|skip);rename_i us hu;simp only[H5]at hr;subst hr;obtain⟨ys,hy,Xd⟩:=hW.loadCells (P:=P) vS hu;refine .pure (x:= .agg ys.toArray) ?_ (.QG (by simpa using Xd));simp[execOp,ho,he,Instr.loadAt,Instr.sureAddr,loadVar,yy,mX hi,vR,hy]
 . rename_i Bi i' j';(split at hr<;>first|(cases hr;done)|skip);rename_i cs eW;rw[rf]at eW;obtain⟨es,aM,base,cell,he,g1,g2,g3⟩:=hv.QJ;rcases hn with⟨hn,hf⟩|⟨hn,hf⟩
   .rw[hn]at hr;rw[hf]at yy;simp only at hr;(split at hr<;>first|(cases hr;done)|skip);rename_i u hu;simp only[H5]at hr;subst hr;rw[rf]at hu;have DJ:=(hW.dW _ _ (g2 _ _ _ _ eW hu)).1;refine .pure (x:=cell i' j') ?_ (g3 _ _ _ _ eW hu);simp[execOp,ho,he,Instr.loadAt,Instr.sureAddr,loadVar,yy,DJ]
   . rw[hn]at hr;rw[hf]at yy;simp only at hr;(split at hr<;>first|(cases hr;done)|skip);rename_i us hu;simp only[H5]at hr;subst hr;obtain⟨hus,hle⟩:=acM hu;have hlen:=SD hu;have dO:(loadCells ⟨aM,base+i'*es+j',none⟩ ti.size).run P w= .ok ((List.range ti.size).map λq=>cell i' (j'+q)).toArray w:=by
        (refine run_loadCells w _ _ _ λq hq=> ?_);rw[uR];have:cs[j'+q]? =some (cs[j'+q]'(by omega)):=H0 (by omega);rw[Zk4];exact(hW.dW _ _ (g2 _ _ _ _ eW this)).1
     refine .pure (x:= .agg ((List.range ti.size).map λq=>cell i' (j'+q)).toArray) ?_ (.QG ⟨by simp[hlen],λq u y hu' hy=> ?_⟩)
     .  simp[execOp,ho,he,Instr.loadAt,Instr.sureAddr,loadVar,yy,mX hi,vR,dO]
     .  have hq:q<ti.size:=(by rw[<-hlen];exact(Za2.1 hu').1);rw[hus,Ze4,Zb6 hq,Ze7]at hu';simp[hq]at hy;subst hy;exact g3 _ _ _ _ eW hu'
theorem aqs{x y:Value}{ρ:Pos->Loc}{n:Nat}{C:Cells}{u v r:AV}{w:World}{st:St}(h1:aC ρ n C u x)(h2:aC ρ n C v y)(hr:LJ (λb=>st.heap.get b) st.next [u,v]=some (.val r)):
   ∃z,(Builtin.min2 x y).run P w= .ok z w/\aC ρ n C r z:=by
 simp only[LJ]at hr;split at hr<;>first|(cases hr;done)|skip
 . simp only[H5,eO.val.injEq]at hr;subst hr;rw[h1.iI,h2.iI];refine⟨_,rfl,?_⟩;rw[fo];split
   .rename_i h;rw[Zb6 (Zg2 h)];exact .int _ _
   .rename_i h;rw[Za7 (Zn3 h)];exact .int _ _
 . simp only[H5,eO.val.injEq]at hr;subst hr;rename_i sa sb;obtain⟨bx,rfl,e1⟩:=h1.fB;obtain⟨bz,rfl,e2⟩:=h2.fB;have hh:(Op.stringOp .leq bx bz).run P w= .ok (.bool (aO sa sb||jY sa sb)) w:=by
     simp only[Op.stringOp,Sem.run_pure];rw[abE e1 e2,QL e1 e2]
   refine⟨_,by simp only[Builtin.min2,Sem.run_bind,hh,Result.andThen_ok,asBool,Sem.run_pure];rfl,?_⟩;split
   .rename_i h;rw[Zb6 h];exact .str _ _ e1
   .rename_i h;rw[Za7 (by rw[h];simp)];exact .str _ _ e2
theorem aqt{x y:Value}{ρ:Pos->Loc}{n:Nat}{C:Cells}{u v r:AV}{w:World}{st:St}(h1:aC ρ n C u x)(h2:aC ρ n C v y)(hr:LM (λb=>st.heap.get b) st.next [u,v]=some (.val r)):
   ∃z,(Builtin.max2 x y).run P w= .ok z w/\aC ρ n C r z:=by
 simp only[LM]at hr;split at hr<;>first|(cases hr;done)|skip
 . simp only[H5,eO.val.injEq]at hr;subst hr;rw[h1.iI,h2.iI];refine⟨_,rfl,?_⟩;rw[fo];split
   .rename_i h;rw[Zb6 (Zg2 h)];exact .int _ _
   .rename_i h;rw[Za7 (Zn3 h)];exact .int _ _
 . simp only[H5,eO.val.injEq]at hr;subst hr;rename_i sa sb;obtain⟨bx,rfl,e1⟩:=h1.fB;obtain⟨bz,rfl,e2⟩:=h2.fB;have hh:(Op.stringOp .geq bx bz).run P w= .ok (.bool (!aO sa sb)) w:=by
     simp only[Op.stringOp,Sem.run_pure];rw[abE e1 e2]
   refine⟨_,by simp only[Builtin.max2,Sem.run_bind,hh,Result.andThen_ok,asBool,Sem.run_pure];rfl,?_⟩;split
   .rename_i h;rw[Za7 (by rw[h];simp)];exact .str _ _ e2
   .rename_i h;rw[Zb6 (by rw[h];rfl)];exact .str _ _ e1
theorem pN(xs:Array Operand)(a:Act):xs.toList.map a.eval=(xs.map a.eval).toList:=by simp
end
section
variable{P:Program}{tt:TT}
theorem vs1{ρ:Pos->Loc}{n:Nat}{C:Cells}{bs:List AV}{x:Value}(h:aK ρ n C bs [x]):∃b,bs=[b]/\aC ρ n C b x:=by
 match bs,h with
 |[b],h=>exact⟨b,rfl,h.2 0 b x rfl rfl⟩
 |[],h=>have:=h.1;simp at this
 |_::_::_,h=>have:=h.1;simp at this
theorem vs2{ρ:Pos->Loc}{n:Nat}{C:Cells}{bs:List AV}{x y:Value}(h:aK ρ n C bs [x,y]):∃b c,bs=[b,c]/\aC ρ n C b x/\aC ρ n C c y:=by
 match bs,h with
 |[b,c],h=>exact⟨b,c,rfl,h.2 0 b x rfl rfl,h.2 1 c y rfl rfl⟩
 |[],h=>have:=h.1;simp at this
 |[_],h=>have:=h.1;simp at this
 |_::_::_::_,h=>have:=h.1;simp at this
theorem vs3{ρ:Pos->Loc}{n:Nat}{C:Cells}{bs:List AV}{x y z:Value}(h:aK ρ n C bs [x,y,z]):∃b c d,bs=[b,c,d]/\aC ρ n C b x/\aC ρ n C c y/\aC ρ n C d z:=by
 match bs,h with
 |[b,c,d],h=>exact⟨b,c,d,rfl,h.2 0 b x rfl rfl,h.2 1 c y rfl rfl,h.2 2 d z rfl rfl⟩
 |[],h=>have:=h.1;simp at this
 |[_],h=>have:=h.1;simp at this
 |[_,_],h=>have:=h.1;simp at this
 |_::_::_::_::_,h=>have:=h.1;simp at this
def Mh(x:Option Value)(i:Option Nat):Prop:=(x=none/\i=none)\/∃j k,i=some j/\x=some (.int k (j:Int))
theorem acO{ρ:Pos->Loc}{n:Nat}{C:Cells}{lo hi mx:Option Operand}{bs:List AV}{a:Act}{l h m:Option Nat}
   (hb:aK ρ n C bs ((DG lo++DG hi++DG mx).map a.eval)) (hr:bounds lo.isSome hi.isSome mx.isSome bs=some (l,h,m)):
   Mh (lo.map a.eval) l/\Mh (hi.map a.eval) h/\Mh (mx.map a.eval) m/\(m.isSome=true->h.isSome=true):=by
 unfold bounds at hr
 cases lo<;>cases hi<;>cases mx<;>simp only[Zq5,Zq6,DG,Ze3,Zd9,Zd5,Zd1,Zi5]at hb hr<;>
   first|(cases hr;done)|skip
 . cases bs with
   |cons b bs=>have:=hb.1;simp at this
   |nil=>simp at hr;obtain⟨rfl,rfl,rfl⟩:=hr;exact⟨.inl ⟨rfl,rfl⟩,.inl ⟨rfl,rfl⟩,.inl ⟨rfl,rfl⟩,λh=>by cases h⟩
 .obtain⟨b,rfl,h1⟩:=vs1 hb;simp only at hr;(split at hr<;>first|(cases hr;done)|skip);rename_i j hj;obtain⟨k,hk⟩:=mY h1 hj;simp at hr;obtain⟨rfl,rfl,rfl⟩:=hr;exact⟨.inl ⟨rfl,rfl⟩,.inr ⟨j,k,rfl,by simp[hk]⟩,.inl ⟨rfl,rfl⟩,λh=>by cases h⟩
 .obtain⟨b,c,rfl,h1,h2⟩:=vs2 hb;simp only at hr;(split at hr<;>first|(cases hr;done)|skip);rename_i j j' hj Mf;obtain⟨k,hk⟩:=mY h1 hj;obtain⟨k',ri⟩:=mY h2 Mf;simp at hr;obtain⟨rfl,rfl,rfl⟩:=hr;exact⟨.inl ⟨rfl,rfl⟩,.inr ⟨j,k,rfl,by simp[hk]⟩,.inr ⟨j',k',rfl,by simp[ri]⟩,λ_=>rfl⟩
 .obtain⟨b,rfl,h1⟩:=vs1 hb;simp only at hr;(split at hr<;>first|(cases hr;done)|skip);rename_i j hj;obtain⟨k,hk⟩:=mY h1 hj;simp at hr;obtain⟨rfl,rfl,rfl⟩:=hr;exact⟨.inr ⟨j,k,rfl,by simp[hk]⟩,.inl ⟨rfl,rfl⟩,.inl ⟨rfl,rfl⟩,λh=>by cases h⟩
 .obtain⟨b,c,rfl,h1,h2⟩:=vs2 hb;simp only at hr;(split at hr<;>first|(cases hr;done)|skip);rename_i j j' hj Mf;obtain⟨k,hk⟩:=mY h1 hj;obtain⟨k',ri⟩:=mY h2 Mf;simp at hr;obtain⟨rfl,rfl,rfl⟩:=hr;exact⟨.inr ⟨j,k,rfl,by simp[hk]⟩,.inr ⟨j',k',rfl,by simp[ri]⟩,.inl ⟨rfl,rfl⟩,λh=>by cases h⟩
 .obtain⟨b,c,d,rfl,h1,h2,h3⟩:=vs3 hb;simp only at hr;(split at hr<;>first|(cases hr;done)|skip);rename_i j j' j'' hj Mf hj'';obtain⟨k,hk⟩:=mY h1 hj;obtain⟨k',ri⟩:=mY h2 Mf;obtain⟨k'',hk''⟩:=mY h3 hj'';simp at hr;obtain⟨rfl,rfl,rfl⟩:=hr;exact⟨.inr ⟨j,k,rfl,by simp[hk]⟩,.inr ⟨j',k',rfl,by simp[ri]⟩,.inr ⟨j'',k'',rfl,by simp[hk'']⟩,λ_=>rfl⟩
theorem FV(isS:Bool){len cap:Nat}{xl xh xm:Option Value}{l h m:Option Nat}(h1:Mh xl l)(h2:Mh xh h)(h3:Mh xm m)(hmh:m.isSome=true->h.isSome=true)
  (QN:l.getD 0<=h.getD len) (hhm:h.getD len<=m.getD cap) (hmc:m.getD cap<=cap) (w:World):
  (Instr.sliceBounds isS len cap xl xh xm).run P w= .ok (l.getD 0,h.getD len,m.getD cap) w:=by
 rcases h1 with⟨rfl,rfl⟩|⟨jl,kl,rfl,rfl⟩<;>rcases h2 with⟨rfl,rfl⟩|⟨jh,kh,rfl,rfl⟩<;>rcases h3 with⟨rfl,rfl⟩|⟨jm,km,rfl,rfl⟩<;>
  simp only[Zi9,Ze8,Zq5,Zq6]at QN hhm hmc hmh ⊢ <;>
  first
   |(simp at hmh;done)
   |simp[Instr.sliceBounds,Instr.sliceBound,asIntOf,QN,hhm,hmc,Int.ofNat_le]
theorem Oh{ρ:Pos->Loc}{n:Nat}{C:Cells}{b:Pos}{off es br l h M:Nat}{aa:Addr}{alR:Option Nat}
   (ha:br≠0->b.toNat<n/\aa=⟨(ρ b).aM,(ρ b).base+off,none⟩/\(ρ b).base+off+br*es<=(ρ b).size)
   (h1:l<=h) (h2:h<=M) (h3:M<=br) (hc:∀c,alR=some c->c=M - l) (hk:alR=none->b.toNat<n):
   aC ρ n C (.slice b (off+l*es) (h - l) alR es) (.slice (if M=l then some aa else(some aa).map (·.add (l*es))) (h - l) (M - l)):=by
 by_cases hm:M=l
 .rw[Zb6 hm];exact .slice _ _ _ _ _ _ _ (by omega) hc (λh0=>absurd (by omega) h0) hk
 .rw[Za7 hm];obtain⟨hb,rfl,hle⟩:=ha (by omega);refine .slice _ _ _ _ _ _ _ (by omega) hc (λ_=>⟨hb,by show Addr.add _ _=_;rw[uR,Zk4],?_⟩) hk;have e1:l*es+(M - l)*es=M*es:=(by rw[<-Zj7];congr 1;omega);have e2:M*es<=br*es:=Zh4 _ h3;omega
theorem anV(hT:dG P tt)(t:TypeId)(x:Operand)(lo hi mx:Option Operand):fC P tt (.slice t x lo hi mx):=by
 intro ρ C st w k xs cls fr a o vs res ho hc hW hF hx hr;simp only[kG]at hc;split at hc<;>first|(cases hc;done)|skip
 rename_i ti l0 fN hl;obtain⟨d,hd,dP⟩:=(hT.at fN).und;split at hc<;>first|(cases hc;done)|skip
 . rename_i hk;rw[hk]at dP;rw[vP dP]at hd;(split at hc<;>first|(cases hc;done)|skip);cases hc;have hv:=jd hl hF hx;simp only[DG,Zd9,Zd5,Ze3,Zd1]at hv;simp only[aG.run,WW]at hr;(split at hr<;>first|(cases hr;done)|skip);rename_i u bs;(split at hr<;>first|(cases hr;done)|skip);rename_i s l h m' hb;(split at hr<;>first|(cases hr;done)|skip);rename_i h1 h2;have h1:=Zb5 h1;have h2:=Zb5 h2;simp only[H5]at hr;subst hr;obtain⟨y,ys,Ao,hu,HS⟩:=hv.cons_inv;simp only[Zf9]at Ao;obtain⟨rfl,rfl⟩:=Ao;have vS:=acO (lo:=lo) (hi:=hi) (mx:=none) (a:=a) (by simpa [DG]using HS) hb;obtain⟨bs',he,hs⟩:=hu.fB;have gw:=Mg hs
   have dO:=FV (P:=P) false (len:=bs'.size) (cap:=bs'.size) vS.1 vS.2.1 (.inl ⟨rfl,rfl⟩:Mh none none) (λh=>by cases h)
     (by rw[gw];exact h1) (by rw[gw];simpa using h2) (by simp) w
   refine .pure (x:= .string (bs'.extract (l.getD 0) (h.getD bs'.size))) ?_ (.str _ _ ?_)
   .simp only[execOp,ho,Instr.sliceAt,Sem.run_bind,bu hd,Result.andThen_ok,he,Instr.slice];simp[dO]
   .rw[gw,ByteArray.data_extract,Zp5, <-hs,List.extract,List.map_take,List.map_drop];rw[Zn9]
 . rename_i e hk;rw[hk]at dP;rw[uj dP]at hd;(split at hc<;>first|(cases hc;done)|skip);rename_i te pM;cases hc;obtain⟨i0,tG,vR,_⟩:=(hT.at pM).info;have hv:=jd hl hF hx;simp only[Zd5,Ze3,Zf5,Zd1]at hv;simp only[aG.run,iZ]at hr;(split at hr<;>first|(cases hr;done)|skip);rename_i u bs;obtain⟨y,ys,Ao,hu,HS⟩:=hv.cons_inv;simp only[Zf9]at Ao;obtain⟨rfl,rfl⟩:=Ao
   have vQ:∀(sa:Option Addr)(len cap:Nat)(l h m:Option Nat),a.eval x= .slice sa len cap->bounds lo.isSome hi.isSome mx.isSome bs=some (l,h,m)->
        l.getD 0<=h.getD len->h.getD len<=m.getD cap->m.getD cap<=cap->
        (execOp a.eval o).run P w= .ok (.value (.slice (if m.getD cap=l.getD 0 then sa else sa.map (·.add (l.getD 0*te.size))) (h.getD len - l.getD 0) (m.getD cap - l.getD 0))) w:=by
     intro sa len cap l h m he hb h1 h2 h3;have vS:=acO (lo:=lo) (hi:=hi) (mx:=mx) (a:=a) (by simpa [Zf5]using HS) hb;have dO:=FV (P:=P) true (len:=len) (cap:=cap) vS.1 vS.2.1 vS.2.2.1 vS.2.2.2 h1 h2 h3 w;simp only[execOp,ho,Instr.sliceAt,Sem.run_bind,bu hd,Result.andThen_ok,he,Instr.slice,dO,mX tG,vR,Sem.run_pure]
   split at hr<;>first|(cases hr;done)|skip
   ·
     rename_i b off len cap es' l h m hb;(split at hr<;>first|(cases hr;done)|skip);rename_i dN QN;have dN:te.size=es':=Za6 dN;subst dN;have QN:=Zb5 QN;obtain⟨aa,br,he,hle,ahz,ha⟩:=hu.fM;split at hr
     .  rename_i c m';(split at hr<;>first|(cases hr;done)|skip);rename_i e1 e2;have e1:=Zb5 e1;have e2:=Zb5 e2;have:=ahz c rfl;subst this;simp only[H5]at hr;subst hr;exact .pure (vQ _ _ _ _ _ _ he hb QN (by simpa using e1) (by simpa using e2)) (Oh ha QN e1 e2 (λc hc=>by cases hc;rfl) (λh=>by cases h))
     .  rename_i c;(split at hr<;>first|(cases hr;done)|skip);rename_i e1;have e1:=Zb5 e1;have:=ahz c rfl;subst this;simp only[H5]at hr;subst hr;exact .pure (vQ _ _ _ _ _ _ he hb QN (by simpa using e1) (by simp)) (Oh ha QN e1 (Za3 _) (λc hc=>by cases hc;rfl) (λh=>by cases h))
     .  rename_i m';(split at hr<;>first|(cases hr;done)|skip);rename_i e1 e2;have e1:=Zb5 e1;have e2:=Zb5 e2;simp only[H5]at hr;subst hr;exact .pure (vQ _ _ _ _ _ _ he hb QN (by simpa using e1) (by simp;omega)) (Oh ha QN e1 (by simp;omega) (λc hc=>by cases hc;rfl) (λh=>by cases h))
     .  (split at hr<;>first|(cases hr;done)|skip);rename_i e1;have e1:=Zb5 e1;simp only[H5]at hr;subst hr;exact .pure (vQ _ _ _ _ _ _ he hb QN (by simp;omega) (by simp)) (Oh ha QN (by simp;omega) (Za3 _) (λc hc=>by cases hc) (λ_=>hu.Xa rfl))
   ·
     rename_i Bi es' l h m hb;(split at hr<;>first|(cases hr;done)|skip);rename_i dN;have dN:te.size=es':=Za6 dN;subst dN;obtain⟨aa,br,cell,he,hle,Bk,g1,g2,g3⟩:=hu.yZ;split at hr
     .  rename_i m';(split at hr<;>first|(cases hr;done)|skip);rename_i e0 e1 e2;have e0:=Za6 e0;have e1:=Za6 e1;have e2:=Za6 e2;subst e2;simp only[H5]at hr;subst hr;refine .pure (vQ _ _ _ _ _ _ he hb (by omega) (by rw[e1];simp) (by simp)) ?_;simp only[e0,e1,Ze8,Zl1,Zh1];exact .slice _ _ _ _ _ _ _ (Za3 _) (λc hc=>by cases hc;rfl) (λh0=>absurd rfl h0) (λh=>by cases h)
     .  (split at hr<;>first|(cases hr;done)|skip);rename_i e0 e1;have e0:=Zb5 e0;have e1:=Zb5 e1;simp only[H5]at hr;subst hr;refine .pure (vQ _ _ _ _ _ _ he hb e0 (by simp;omega) (by simp)) ?_;simp only[Zi9];have hlen:(List.drop (l.getD 0) (List.take (h.getD Bi.length) Bi)).length=h.getD Bi.length - l.getD 0:=(by simp;omega);rw[<-hlen];have SC:∀i cs,(List.drop (l.getD 0) (List.take (h.getD Bi.length) Bi))[i]? =some cs->Bi[l.getD 0+i]? =some cs:=by
          intro i cs hi;rw[Ze7,Ze4]at hi;split at hi
          .exact hi
          .cases hi
        by_cases hcl:br=l.getD 0
        .rw[Zb6 hcl];have hemp:List.drop (l.getD 0) (List.take (h.getD Bi.length) Bi)=[]:=(by apply Zc2;rw[hlen];omega);rw[hemp];exact .fl _ _ _ _ (λ_ _=>undef) (by simp) (λh=>absurd rfl h) (λi cs hi=>by simp at hi) (λi j cs v hi=>by simp at hi) (λi j cs v hi=>by simp at hi)
        . rw[Za7 hcl];by_cases cY:Bi=[]
          .subst cY;simp only[List.take_nil,List.drop_nil];exact .fl _ _ _ _ (λ_ _=>undef) (by simp) (λh=>absurd rfl h) (λi cs hi=>by simp at hi) (λi j cs v hi=>by simp at hi) (λi j cs v hi=>by simp at hi)
          .have Bk:=Bk cY;obtain⟨ab,ao,asp⟩:=aa;simp only at Bk;subst Bk;simp only[Ze0,uR];refine .fl _ _ _ _ (λi j=>cell (l.getD 0+i) j) (by rw[hlen];omega) (λ_=>rfl) (λi cs hi=>g1 _ _ (SC i cs hi)) (λi j cs v hi hj=> ?_) (λi j cs v hi hj=>g3 _ _ _ _ (SC i cs hi) hj);have:=g2 _ _ _ _ (SC i cs hi) hj;simp only at this ⊢;rw[<-this];congr 2;rw[Zj7];omega
   ·
     rename_i l h m hb;(split at hr<;>first|(cases hr;done)|skip);rename_i e0 e1 e2;have e0:=Za6 e0;have e1:=Za6 e1;have e2:=Za6 e2;simp only[H5]at hr;subst hr;have he:=hu.iJ;refine .pure (vQ _ _ _ _ _ _ he hb (by omega) (by omega) (by omega)) ?_;simp only[e0,e1,e2,Zl1,Zh1];exact .af
end
section
variable{P:Program}{tt:TT}
theorem aaP{ρ:Pos->Loc}{n:Nat}{C:Cells}:∀{l:List AV}{s:List Nat}{ys:List Value},bytesOf l=some s->aK ρ n C l ys->
  ys=(s.map Int.ofNat).map (Value.int .u8)/\∀c,c∈s->c<256
 |[],s,ys,h,hv=>by
  simp[bytesOf]at h;subst h;exact⟨by simpa using hv.kO,λc hc=>by simp at hc⟩
 |v ::l,s,ys,h,hv=>by
  unfold bytesOf at h;split at h<;>first|(cases h;done)|skip
  .rename_i h0;simp at h0
  . rename_i c l' he;simp only[Zf9]at he;obtain⟨rfl,rfl⟩:=he;(split at h<;>first|(cases h;done)|skip);rename_i s' aW rj;simp only[H5]at h;subst h;obtain⟨y,ys',rfl,h1,h2⟩:=hv.cons_inv;obtain⟨e,pX⟩:=aaP rj h2;have aW:c<256:=(by simpa using aW);refine⟨by rw[h1.iI,e];rfl,λc' hc=> ?_⟩;simp at hc;rcases hc with rfl|hc
    .exact aW
    .exact pX _ hc
theorem Oi:∀(s:List Nat)(acc:ByteArray),((s.map Int.ofNat).foldl (λr n=>r.push (UInt8.ofNat n.toNat)) acc).data.toList=acc.data.toList++s.map UInt8.ofNat
 |[],acc=>by simp
 |c::s,acc=>by
  simp only[Zd1,Zs1];rw[Oi s];simp[ByteArray.push]
theorem aj8(hT:dG P tt)(src dst:TypeId)(x:Operand):fC P tt (.convert src dst x):=by
 intro ρ C st w k xs cls fr a o vs res ho hc hW hF hx hr;simp only[kG]at hc;split at hc<;>first|(cases hc;done)|skip
 rename_i s d b hs hd hb;obtain⟨ds,QO,hks⟩:=(hT.at hs).und;obtain⟨dd,hdd,dP⟩:=(hT.at hd).und;split at hc<;>first|(cases hc;done)|skip
 . rename_i k1 k2 h1 h2;cases hc;obtain⟨v,rfl,hv⟩:=mg hb hF hx;rw[h1]at hks;rw[h2]at dP;rw[W9 hks]at QO;rw[W9 dP]at hdd;simp only[aG.run,Gx]at hr;split at hr<;>first|(cases hr;done)|(rename_i heq;cases heq;done)|(rename_i heq;cases heq)
   simp only[H5]at hr;subst hr;refine .pure ?_ (by rw[zc];exact .int _ _);simp[execOp,ho,hv.iI,convert,bu QO,bu hdd,Conv.intToInt]
 . rename_i h1 h2;cases hc;obtain⟨v,rfl,hv⟩:=mg hb hF hx;rw[h1]at hks;rw[h2]at dP;rw[vP hks]at QO;rw[vP dP]at hdd;simp only[aG.run,Gx]at hr;split at hr<;>first|(cases hr;done)|(rename_i heq;cases heq;done)|(rename_i heq;cases heq)
   simp only[H5]at hr;subst hr;obtain⟨bs,he,hs⟩:=hv.fB;exact .pure (x:= .string bs) (by simp[execOp,ho,he,convert,bu QO,bu hdd]) (.str _ _ hs)
 . rename_i e h1 h2;(split at hc<;>first|(cases hc;done)|skip);rename_i te pM;(split at hc<;>first|(cases hc;done)|skip);rename_i hk8;cases hc;obtain⟨v,rfl,hv⟩:=mg hb hF hx;rw[h1]at hks;rw[h2]at dP;rw[uj hks]at QO;rw[vP dP]at hdd;obtain⟨de,hde,hke⟩:=(hT.at pM).und;rw[hk8]at hke;rw[W9 hke]at hde;have vQ:∀y:Option Addr×Nat×Nat,a.eval x= .slice y.1 y.2.1 y.2.2->(execOp a.eval o).run P w=((Conv.bytesToString (a.eval x)).run P w).andThen λv w=>.ok (.value v) w:=by
     intro y he;simp[execOp,ho,he,convert,bu QO,bu hdd,bu hde]
   simp only[aG.run,Gx]at hr;split at hr<;>first|(cases hr;done)|(rename_i heq;cases heq;done)|(rename_i heq;cases heq)
   .simp only[H5]at hr;subst hr;have he:=hv.iJ;refine .pure (x:= .string .empty) ?_ (.str _ _ rfl);rw[vQ (none,0,0) he,he];simp[Conv.bytesToString]
   . rename_i bb off m cap es;obtain⟨aa,br,he,hle,_,ha⟩:=hv.fM;split at hr
     .  rename_i h0;have:=Za6 h0;subst this;simp only[H5]at hr;subst hr;refine .pure (x:= .string .empty) ?_ (.str _ _ rfl);rw[vQ (some aa,0,br) he,he];simp[Conv.bytesToString,loadCells,loadCellsFrom]
     .  (rename_i h0;have h0:=Zf3 h0;(split at hr<;>first|(cases hr;done)|skip);rename_i cs fz vS;(split at hr<;>first|(cases hr;done)|skip);rename_i l hcut;(split at hr<;>first|(cases hr;done)|skip);rename_i s' avi;simp only[H5]at hr;subst hr;obtain⟨aW,rfl,_⟩:=ha (by omega);obtain⟨ys,Ao,DI⟩:=hW.loadCells (P:=P) vS hcut;obtain⟨e1,e2⟩:=aaP avi DI;rw[e1]at Ao;have dO:=run_bytesToString (P:=P) w ⟨(ρ bb).aM,(ρ bb).base+off,none⟩ m br (s'.map Int.ofNat) Ao;refine .pure (x:= .string _) (by rw[vQ (some _,m,br) he,he,dO];rfl) (.str _ _ ?_);rw[Oi,Zc8];have e0:ByteArray.empty.data.toList=[]:=rfl;rw[e0,Zi5,Ze3,Zi1];have e3:s'.map (UInt8.toNat∘UInt8.ofNat)=s'.map id:=Zl0 λc hc=>by have:=e2 c hc;simp only[Function.comp,id,UInt8.toNat_ofNat'];omega);rw[e3,Zs5]
theorem QT{t:TypeId}{d:TypeDesc}(hd:P.underlying t=some d){pk:PK}(hk:pk.fits d=true)(e:Bool)(m:Nat)(x:Value)(w:World):
  (Instr.checkKey e (m+1) t x).run P w= .ok () w:=by
 unfold Instr.checkKey;rw[Sem.run_bind,bu hd,Result.andThen_ok];cases pk<;>cases d<;>simp[PK.fits]at hk<;>rfl
theorem aaQ{ρ:Pos->Loc}{n:Nat}{C:Cells}{pk:PK}{d:TypeDesc}(hk:pk.fits d=true){u v:AV}{x y:Value}{r:Bool}
   (h1:aC ρ n C u x) (h2:aC ρ n C v y) (h:yV pk u v=some r):Instr.sameNow d x y=some r:=by
 unfold yV at h;split at h<;>first|(cases h;done)|skip
 .simp only[H5]at h;subst h;cases d<;>simp[PK.fits]at hk;rw[h1.lH,h2.lH];rfl
 . (split at h<;>first|(cases h;done)|skip);rename_i Og;have:=CI Og;subst this;simp only[H5]at h;subst h;cases d<;>simp[PK.fits]at hk;rw[h1.iI,h2.iI];simp[Instr.sameNow,oM]
 .simp only[H5]at h;subst h;cases d<;>simp[PK.fits]at hk;obtain⟨bx,rfl,e1⟩:=h1.fB;obtain⟨bz,rfl,e2⟩:=h2.fB;simp only[Instr.sameNow];rw[beq_toListBytes,QL e1 e2]
def Oj(ρ:Pos->Loc)(n:Nat)(C:Cells)(es:List (AV×AV×Nat))(es':List MapEntry):Prop:=
 es.length=es'.length/\∀(i:Nat)(e:AV×AV×Nat)(e':MapEntry),es[i]? =some e->es'[i]? =some e'->aC ρ n C e.1 e'.key/\aC ρ n C e.2.1 e'.val/\e.2.2=e'.born
theorem HT{ρ:Pos->Loc}{n:Nat}{C:Cells}{pk:PK}{d:TypeDesc}(hk:pk.fits d=true){u:AV}{x:Value}(hu:aC ρ n C u x):
  ∀{es:List (AV×AV×Nat)}{es':List MapEntry}{i:Nat}{r:Option (Nat×AV)},Oj ρ n C es es'->ic pk u es i=some r->
  ∃r',Instr.findNow d x es' i=some r'/\((r=none/\r'=none)\/∃j v y,r=some (j,v)/\r'=some (j,y)/\aC ρ n C v y/\i<=j/\j<i+es.length)
 |[],es',i,r,he,h=>by
  simp[ic]at h;subst h;cases es' with
  |nil=>exact⟨none,rfl,.inl ⟨rfl,rfl⟩⟩
  |cons e es'=>have:=he.1;simp at this
 |(k',v,born)::es,es',i,r,he,h=>by
  cases es' with
  |nil=>have:=he.1;simp at this
  |cons e' es'=>
   have h0:=he.2 0 (k',v,born) e' rfl rfl;have sw:Oj ρ n C es es':=⟨by have:=he.1;simpa using this,λj e e' h1 h2=>he.2 (j+1) e e' (by simpa using h1) (by simpa using h2)⟩
   unfold ic at h;split at h<;>first|(cases h;done)|skip
   .    rename_i hq;simp only[H5]at h;subst h;refine⟨some (i,e'.val),by simp[Instr.findNow,aaQ hk hu h0.1 hq],.inr ⟨i,v,e'.val,rfl,rfl,h0.2.1,Za3 _,by simp⟩⟩
   .    rename_i hq;obtain⟨r',h1,h2⟩:=HT hk hu sw h;refine⟨r',by simp[Instr.findNow,aaQ hk hu h0.1 hq,h1],?_⟩;rcases h2 with h2|⟨j,v',y,e1,e2,e3,e4,e5⟩
        .exact .inl h2
        .exact .inr ⟨j,v',y,e1,e2,e3,by omega,by simp;omega⟩
theorem run_findKey{t:TypeId}{d:TypeDesc}(hd:P.underlying t=some d){x:Value}{es:List MapEntry}{r:Option (Nat×Value)}(h:Instr.findNow d x es 0=some r)(w:World):
  (Instr.findKey t x es).run P w= .ok r w:=by
 simp[Instr.findKey,bu hd,h]
theorem run_getObj_map{r:Nat}{es:Array MapEntry}{c:Nat}{w:World}(h:w.heap[r]? =some (.map es c)):(getObj r).run P w= .ok (.map es c) w:=by
 simp[getObj,Sem.run,h]
theorem asV(k:TK){d:TypeDesc}(h:cF k d=true){pk:PK}(hp:(k= .bool/\pk= .b)\/((∃i,k= .int i)/\pk= .i)\/(k= .string/\pk= .s)):pk.fits d=true:=by
 rcases hp with⟨rfl,rfl⟩|⟨⟨i,rfl⟩,rfl⟩|⟨rfl,rfl⟩
 .rw[aeh h];rfl
 .rw[W9 h];rfl
 .rw[vP h];rfl
theorem GH(hT:dG P tt){t:Nat}{ti:TI}(ht:tt.get (key t)=some ti){z:List AV}(hz:ti.zero=some z){ρ:Pos->Loc}{n:Nat}{C:Cells}(w:World):
   ∃v,(zeroValue t).run P w= .ok v w/\aC ρ n C (kG.QD ti z) v/\aK ρ n C z v.cells.toList:=by
 obtain⟨i,hi,vR,_,Ol⟩:=(hT.at ht).info;obtain⟨v,hv,hs,hlen,h1,h2⟩:=Ol z hz;refine⟨v,aqk hi hv w,?_,xA hs⟩;unfold kG.QD;split
 .rename_i ha;obtain⟨cs,rfl⟩:=h1 ha;exact .QG (xA hs)
 .rename_i ha;have hc:=h2 ha;rw[hc]at hs;simp only[tE]at hs;(split at hs<;>first|(cases hs;done)|skip);rename_i a as e1 e2;simp only[H5]at hs e2;subst hs;subst e2;simp only;exact Me e1
theorem alS(hT:dG P tt)(t:TypeId)(x ix:Operand)(ok:Bool):fC P tt (.lookup t x ix ok):=by
 intro ρ C st w k xs cls fr a o vs res ho hc hW hF hx hr;simp only[kG]at hc;split at hc<;>first|(cases hc;done)|skip
 rename_i ti l fN hl;split at hc<;>first|(cases hc;done)|skip
 rename_i kt et hk;split at hc<;>first|(cases hc;done)|skip
 rename_i tk te htk pM;obtain⟨d,hd,dP⟩:=(hT.at fN).und;rw[hk]at dP;rw[W7 dP]at hd;obtain⟨dk,hdk,Og⟩:=(hT.at htk).und;have key:∃pk z,te.zero=some z/\k= .lookup pk (kG.QD te z) ok/\xs=l/\cls= .read/\pk.fits dk=true:=by
  split at hc<;>first|(cases hc;done)|skip
  all_goals
    rename_i z h1 h2;cases hc;refine⟨_,z,h2,rfl,rfl,rfl,asV tk.k Og ?_⟩
  .exact .inr (.inl ⟨⟨_,h1⟩,rfl⟩)
  .exact .inr (.inr ⟨h1,rfl⟩)
  .exact .inl ⟨h1,rfl⟩
 obtain⟨pk,z,hz,rfl,rfl,rfl,Pu⟩:=key;obtain⟨m,kk,rfl,h1,h2⟩:=aei hl hF hx;obtain⟨zv,U2,hzr,_⟩:=GH hT pM hz (ρ:=ρ) (n:=st.next.toNat) (C:=C) w;have hck:∀e,(Instr.checkKey e 10000 kt (a.eval ix)).run P w= .ok () w:=λe=>QT hdk Pu e 9999 _ w
 simp only[aG.run,l9]at hr;split at hr<;>first|(cases hr;done)|skip
 ·
  rename_i j v hm;simp only[H5]at hr;subst hr;split at hm<;>first|(cases hm;done)|skip
  .split at hm<;>first|(cases hm;done)|(simp at hm;done)
  . rename_i b;(split at hm<;>first|(cases hm;done)|skip);rename_i es c hb;obtain⟨_,he⟩:=h1.CJ;obtain⟨_,_,es',dN,hlen,pX⟩:=hW.live _ _ hb;have hE:Oj ρ st.next.toNat C es es'.toList:=⟨by simpa using hlen,λi e e' h1 h2=>pX i e e' h1 (by simpa using h2)⟩
    obtain⟨r',hf,oe⟩:=HT Pu h2 hE hm;rcases oe with⟨e1,_⟩|⟨j',v',y,e1,e2,e3,_⟩
    .   cases e1
    .   cases e1;subst e2;have dO:(execOp a.eval o).run P w= .ok (.value (if ok then .tuple #[y,.bool true]else y)) w:=by
          simp only[execOp,ho,Instr.lookup,Sem.run_bind,bu hd,Result.andThen_ok,he,run_getObj_map dN,hck,run_findKey hdk hf,Sem.run_pure]
        refine .pure dO ?_;cases ok
        .exact e3
        .exact .qZ (aK.cons e3 (aK.cons (.bool true) aK.nil))
 ·
  rename_i hm;simp only[H5]at hr;subst hr;have dO:(execOp a.eval o).run P w= .ok (.value (if ok then .tuple #[zv,.bool false]else zv)) w:=by
    split at hm<;>first|(cases hm;done)|skip
    .   (split at hm<;>first|(cases hm;done)|skip);have he:=h1.GG;have hf:(Instr.findKey kt (a.eval ix) []).run P w= .ok none w:=run_findKey hdk rfl w;simp only[execOp,ho,Instr.lookup,Sem.run_bind,bu hd,Result.andThen_ok,he,hck,hf,U2,Sem.run_pure]
    .   rename_i b;(split at hm<;>first|(cases hm;done)|skip);rename_i es c hb;obtain⟨_,he⟩:=h1.CJ;obtain⟨_,_,es',dN,hlen,pX⟩:=hW.live _ _ hb;have hE:Oj ρ st.next.toNat C es es'.toList:=⟨by simpa using hlen,λi e e' h1 h2=>pX i e e' h1 (by simpa using h2)⟩
        obtain⟨r',hf,oe⟩:=HT Pu h2 hE hm;rcases oe with⟨_,e2⟩|⟨j',v',y,e1,_⟩
        .subst e2;simp only[execOp,ho,Instr.lookup,Sem.run_bind,bu hd,Result.andThen_ok,he,run_getObj_map dN,hck,run_findKey hdk hf,U2,Sem.run_pure]
        .cases e1
  refine .pure dO ?_;cases ok
  .exact hzr
  .exact .qZ (aK.cons hzr (aK.cons (.bool false) aK.nil))
end
section
variable{P:Program}{tt:TT}
theorem Mi:∀(l:List Value)(off k:Nat)(cs:Array Value),off+k+l.length<=cs.size->
  ((l.zipIdx k).foldl (λcs (c,j)=>cs.setIfInBounds (off+j) c) cs).toList=aU cs.toList (off+k) l
 |[],off,k,cs,_=>by simp[aU,Zm1]
 |v::l,off,k,cs,h=>by
  simp only[Zc6]at h;simp only[List.zipIdx_cons,Zs1];rw[Mi l off (k+1) _ (by simp;omega)];simp only[aU,Zc6,Zq4];rw[Zp8 (by omega)];have:off+(k+1)=(off+k)+1:=by omega
  rw[this,List.take_set,List.take_add_one];have aW:off+k<cs.toList.length:=by simp;omega
  rw[H0 aW];simp only[Option.toList_some,List.set_append,Zg3];have hm:min (off+k) cs.toList.length=off+k:=Zk8 (Zn8 aW);rw[hm,Za7 (Zp3 _),Zl1];simp;rw[show off+k+1+l.length=off+k+(l.length+1)from by omega]
theorem abF{ρ:Pos->Loc}{n:Nat}{C:Cells}(pl:Nat->Option (Nat×Nat)):∀{pp:List (Nat×Nat)}{vs cells r:List AV}{ps:List (Nat×Value)}{cs:Array Value},
  cK cells pp vs=some r->aK ρ n C cells cs.toList->aK ρ n C vs (ps.map (·.2))->ps.map (λx=>pl x.1)=pp.map some->
  ∃mZ,Instr.fill pl cs ps=some mZ/\aK ρ n C r mZ.toList
 |[],vs,cells,r,ps,cs,h,hc,hv,hp=>by
  unfold cK at h;split at h<;>first|(cases h;done)|skip
  .simp only[H5]at h;subst h;have:ps=[]:=(by simpa using hv.kO);subst this;exact⟨cs,rfl,hc⟩
  .rename_i hh;cases hh
 |(off  ,size)::pp,vs,cells,r,ps,cs,h,hc,hv,hp=>by
  unfold cK at h;split at h<;>first|(cases h;done)|skip
  .rename_i hh;cases hh
  . rename_i off' size' pp' v vs' hh;simp only[Zf9,Zd2]at hh;obtain⟨⟨rfl,rfl⟩,rfl⟩:=hh;(split at h<;>first|(cases h;done)|skip);rename_i h1 h2;have h1:=Za6 h1;have h2:=Zb5 h2;cases ps with
    |nil=>have:=hv.1;simp at this
    |   cons p ps=>
        obtain⟨i,x⟩:=p;simp only[Zd1,Zf9]at hp hv;obtain⟨kH,HU⟩:=hp;obtain⟨y,ys,Ao,hx,DI⟩:=hv.cons_inv;simp only[Zf9]at Ao;obtain⟨rfl,rfl⟩:=Ao;have hxc:=hx.cells;have hlen:x.cells.size=size:=(by rw[<-h1,hxc.1];simp);have gw:off+size<=cs.size:=(by have:=hc.1;simp at this;omega);have awe:(x.cells.zipIdx.foldl (λcs (c,j)=>cs.setIfInBounds (off+j) c) cs).toList=aU cs.toList off x.cells.toList:=(by rw[<-Array.foldl_toList,Array.toList_zipIdx];have:=Mi x.cells.toList off 0 cs (by simp;omega);simpa using this);obtain⟨mZ,e1,e2⟩:=abF pl h (cs:=x.cells.zipIdx.foldl (λcs (c,j)=>cs.setIfInBounds (off+j) c) cs) (by rw[awe];exact hc.aU hxc off) DI HU;refine⟨mZ,?_,e2⟩;simp only[Instr.fill,kH];rw[Za7 (by simp[hlen];omega)];exact e1
theorem U3(hT:dG P tt){gs:Array Field}(w:World):∀{fs:List (Nat×Nat×Bool)}(_hm:cF.fq fs gs.toList=true){is:List Nat}{pp:List (Nat×Nat)}
  (_h:kG.places tt fs is=some pp) {Xe:List (Nat×Nat)} (_hpl:∀(i:Nat)(f:Field)(inf:TypeInfo),gs.toList[i]? =some f->P.info? f.type=some inf->Xe[i]? =some (f.offset,inf.size)),
  is.map (λi=>Xe[i]?)=pp.map some
 |fs,hm,[],pp,h,Xe,Ap=>by simp[kG.places]at h;subst h;rfl
 |fs,hm,i::is,pp,h,Xe,Ap=>by
  unfold kG.places at h;split at h<;>first|(cases h;done)|skip
  rename_i off t nm l h1 h2;split at h<;>first|(cases h;done)|skip
  rename_i ti hti;simp only[H5]at h;subst h;obtain⟨f,hf,e1,e2,_⟩:=SB hm h1;obtain⟨inf,ahA,gw,_⟩:=(hT.at hti).info;simp only at e1 e2;have:=Ap i f inf hf (by rw[e2];exact ahA);simp only[Zd1,this,e1,gw];rw[U3 hT w hm h2 Ap]
theorem acP(hT:dG P tt):∀{fs:List (Nat×Nat×Bool)}{gs:List Field}(_hm:cF.fq fs gs=true)(_ha:kG.ag4 tt fs=true),
  ∃Xe:List (Nat×Nat),gs.mapM (λf=>(P.info? f.type).map λi=>(f.offset,i.size))=some Xe/\
   ∀(i:Nat)(f:Field)(inf:TypeInfo),gs[i]? =some f->P.info? f.type=some inf->Xe[i]? =some (f.offset,inf.size)
 |[],gs,hm,ha=>by
  cases gs with
  |cons g gs=>simp[cF.fq]at hm
  |nil=>exact⟨[],rfl,λi f inf h=>by simp at h⟩
 |(off,t,nm)::fs,gs,hm,ha=>by
  cases gs with
  |nil=>simp[cF.fq]at hm
  |cons g gs=>
   simp[cF.fq]at hm;unfold kG.ag4 at ha;(split at ha<;>first|(cases ha;done)|skip);rename_i ti hti;obtain⟨inf,ahA,_⟩:=(hT.at hti).info;obtain⟨Xe,h1,h2⟩:=acP hT hm.2 ha;rw[hm.1.1.2]at ahA;refine⟨(g.offset,inf.size)::Xe,by simp[ahA,h1],λi f inf' hi hf=> ?_⟩;cases i with
   |zero=>simp at hi;subst hi;rw[ahA]at hf;cases hf;rfl
   |succ i=>simp at hi ⊢; exact h2 i f inf' hi hf
theorem anW(hT:dG P tt)(t:TypeId)(ps:Array (Nat×Operand)):fC P tt (.build t ps):=by
 intro ρ C st w k xs cls fr a o vs res ho hc hW hF hx hr;simp only[kG]at hc;split at hc<;>first|(cases hc;done)|skip
 rename_i ti l fN hl;obtain⟨d,hd,dP⟩:=(hT.at fN).und;obtain⟨it,hit,_,_,Ol⟩:=(hT.at fN).info
 have vQ:∀(pp:List (Nat×Nat))(z:List AV)(pl:Nat->Option (Nat×Nat)),ti.zero=some z->k= .build z pp->xs=l->ps.toList.map (λx=>pl x.1)=pp.map some->
    (∀(v:Value)(parts:List (Nat×Value))(cells:Array Value),it.zero=some v->Instr.fill pl v.cells parts=some cells->P.built t parts=some cells)->
    HF P ρ C st w ((execOp a.eval o).run P w) res:=by
   rintro pp z pl hz rfl rfl hpp avj;have hv:=jd hl hF hx;obtain⟨v,hv0,hs,_⟩:=Ol z hz;simp only[aG.run,Sq]at hr;(split at hr<;>first|(cases hr;done)|skip);rename_i cs DN;simp only[H5]at hr;subst hr;have hzr:aK ρ st.next.toNat C z v.cells.toList:=xA hs;have hps:(ps.map λ(i,x)=>(i,a.eval x)).toList=ps.toList.map λx=>(x.1,a.eval x.2):=(by simp);obtain⟨mZ,e1,e2⟩:=abF pl DN hzr (ps:=ps.toList.map λx=>(x.1,a.eval x.2)) (by simpa [Zi1,Zl5]using hv) (by simpa [Zi1,Zl5]using hpp);refine .pure (x:= .agg mZ) ?_ (.QG e2);have dO:=run_build w t (ps.map λ(i,x)=>(i,a.eval x)) mZ (avj v _ _ hv0 (by rw[hps];exact e1));simp only[execOp,ho,Sem.run_bind];rw[dO];rfl
 split at hc<;>first|(cases hc;done)|skip
 .rename_i fs z hk hz;rw[hk]at dP;obtain⟨gs,rfl,hm⟩:=Of dP;(split at hc<;>first|(cases hc;done)|skip);rename_i pp Ap pX;cases hc;obtain⟨Xe,h1,h2⟩:=acP hT hm pX;have hpp:=U3 hT w hm Ap h2;(refine vQ pp z (λi=>Xe.toArray[i]?) hz rfl rfl (by simpa [Zi1,Zl5]using hpp) λv parts cells hv hf=> ?_);unfold Program.built;rw[hit,hd];simp only[hv,h1];exact hf
 .rename_i e z hk hz;rw[hk]at dP;rw[ahu dP]at hd;(split at hc<;>first|(cases hc;done)|skip);rename_i te pM;cases hc;obtain⟨ie,hie,gw,_⟩:=(hT.at pM).info;(refine vQ _ z (λi=>some (i*te.size,te.size)) hz rfl rfl (by simp[Zi1,Zl5]) λv parts cells hv hf=> ?_);unfold Program.built;rw[hit,hd];simp only[hv,hie,gw];exact hf
end
end
end Go.Ai
