/- Its operations answer as the model does. -/
import Derived.Test.YtgihekklfnjkiaaGreatDoorAEvalA
import Derived.Laws.StructEq
import Derived.Lib.Builder
import Derived.Laws.BytesString
set_option linter.all false
namespace Go.Ai
section
def cL:TK->TypeDesc->Bool
 |.bool,.bool=>true
 |.int k,.int k'=>Mm k k'
 |.string,.string=>true
 |.ptr e,.pointer e'=>Nat.beq e e'
 |.slice e,.slice e'=>Nat.beq e e'
 |.array n e,.array n' e'=>Nat.beq n n'&&Nat.beq e e'
 |.map k e,.map k' e'=>Nat.beq k k'&&Nat.beq e e'
 |.struct fs,.struct fs'=>fI fs fs'.toList
 |.func,.func _ _ _=>true
 |.iface,.interface _=>true
 |.upt,.unsafePointer=>true
 |.other,.interface _=>false
 |.other,.int _=>false
 |.other,.array _ _=>false
 |.other,.struct _=>false
 |.other,_=>true
 |_,_=>false
where
 fI:List (Nat×Nat×Bool)->List Field->Bool
  |[],[]=>true
  |(off,t,named)::l,f::l'=>Nat.beq off f.offset&&Nat.beq t f.type&&(named==(f.name != "_"))&&fI l l'
  |_,_=>false
structure alY(P:Program)(t:TypeId)(ti:TI):Prop where
 und:∃d,P.underlying t=some d/\cL ti.k d=true
 info:∃i,P.info? t=some i/\i.size=ti.size/\i.bytes=ti.bytes/\
  ∀z,ti.zero=some z->∃v,i.zero=some v/\tq v.cells.toList=some z/\z.length=ti.size/\(ti.k.isAgg=true->∃cs,v= .agg cs)/\(ti.k.isAgg=false->v.cells= #[v])
 elem:∀e,ti.k= .ptr e->∃j,P.info? e=some j
 eqs:ti.BE=true->P.stoodInHeld t=false/\P.eqGuardType P.depth t=false
def dK(P:Program)(tt:TT):Prop:=∀p ti,tt.get p=some ti->alY P (p.toNat - 1) ti
theorem dK.at{P:Program}{tt:TT}(h:dK P tt){t:Nat}{ti:TI}(ht:tt.get (key t)=some ti):alY P t ti:=by
 have:=h _ _ ht
 rwa [iX,Zh8]at this
section
variable{P:Program}{tt:TT}{ρ:Pos->Loc}{n:Nat}{C:Cells}
theorem bD{t:TypeId}{d:TypeDesc}(h:P.underlying t=some d)(w:World):(underlying t).run P w= .ok d w:=run_underlying h w
theorem ahL{t:TypeId}{i:TypeInfo}(h:P.info? t=some i)(w:World):(typeInfo t).run P w= .ok i w:=by simp[typeInfo,h]
theorem mQ{t:TypeId}{i:TypeInfo}(h:P.info? t=some i)(w:World):(sizeOf t).run P w= .ok i.size w:=by simp[sizeOf,typeInfo,h]
theorem aqr{t:TypeId}{i:TypeInfo}{v:Value}(h:P.info? t=some i)(hz:i.zero=some v)(w:World):(zeroValue t).run P w= .ok v w:=by simp[zeroValue,typeInfo,h,hz]
theorem abW{k:TK}{d:TypeDesc}(h:cL k d=true)(w:World){t:TypeId}(ht:P.underlying t=some d):(isAgg t).run P w= .ok k.isAgg w:=by
 cases k<;>cases d<;>first|(simp[cL]at h;done)|simp[isAgg,bD ht,TK.isAgg]
theorem ue{e:Nat}{d:TypeDesc}(h:cL (.slice e) d=true):d= .slice e:=by
 cases d<;>simp[cL]at h;rw[h]
theorem avj{e:Nat}{d:TypeDesc}(h:cL (.ptr e) d=true):d= .pointer e:=by
 cases d<;>simp[cL]at h;rw[h]
theorem ahM{m e:Nat}{d:TypeDesc}(h:cL (.array m e) d=true):d= .array m e:=by
 cases d<;>simp[cL]at h;rw[h.1,h.2]
theorem Xo{k e:Nat}{d:TypeDesc}(h:cL (.map k e) d=true):d= .map k e:=by
 cases d<;>simp[cL]at h;rw[h.1,h.2]
theorem aeG{d:TypeDesc}(h:cL .bool d=true):d= .bool:=by cases d<;>simp[cL]at h;rfl
theorem Cx{a b:IntKind}(h:Mm a b=true):a=b:=by
 unfold Mm at h;split at h
 .assumption
 .cases h
theorem Xp{k:IntKind}{d:TypeDesc}(h:cL (.int k) d=true):d= .int k:=by
 cases d<;>simp[cL]at h;rw[Cx h]
theorem vG{d:TypeDesc}(h:cL .string d=true):d= .string:=by cases d<;>simp[cL]at h;rfl
theorem Oq{fs:List (Nat×Nat×Bool)}{d:TypeDesc}(h:cL (.struct fs) d=true):∃gs,d= .struct gs/\cL.fI fs gs.toList=true:=by
 cases d<;>simp[cL]at h;exact⟨_,rfl,h⟩
theorem atv{d:TypeDesc}(h:cL .func d=true):∃a b c,d= .func a b c:=by
 cases d<;>simp[cL]at h;exact⟨_,_,_,rfl⟩
theorem aqs{d:TypeDesc}(h:cL .iface d=true):∃a,d= .interface a:=by
 cases d<;>simp[cL]at h;exact⟨_,rfl⟩
theorem qZ{α:Type}:∀(l:List α)(i:Nat),nth l i=l[i]?
 |[],_=>by simp[nth]
 |_::_,0=>rfl
 |_::l,i+1=>by simp[nth,qZ l i]
theorem SA:∀{fs:List (Nat×Nat×Bool)}{gs:List Field}{i:Nat}{x:Nat×Nat×Bool},cL.fI fs gs=true->nth fs i=some x->
  ∃f,gs[i]? =some f/\f.offset=x.1/\f.type=x.2.1/\(f.name != "_")=x.2.2
 |[],_,i,_,_,h=>by simp[nth]at h
 |(off,t,named)::l,[],i,_,h,_=>by simp[cL.fI]at h
 |(off,t,named)::l,f::l',0,x,h,hx=>by
  simp[cL.fI]at h;simp[nth]at hx;subst hx;exact⟨f,rfl,h.1.1.1.symm,h.1.1.2.symm,h.1.2.symm⟩
 |(off,t,named)::l,f::l',i+1,x,h,hx=>by
  simp[cL.fI]at h;simp[nth]at hx;obtain⟨f',h1,h2⟩:=SA h.2 hx;exact⟨f',by simpa using h1,h2⟩
theorem Mr{v:Value}{a:AV}(h:Su v=some a):aG ρ n C a v:=by
 unfold Su at h
 split at h<;>first
   |(cases h;done)
   |(simp only[H5]at h;subst h)
 .exact .bool _
 .exact .int _ _
 .exact .str _ _ rfl
 .exact .jx
 .exact .af
 .exact .qX
 .exact .func _ _ _ _ _ rfl rfl (λ_ _ _ h=>by simp at h) (λ_ _ _ h=>by simp at h)
 .exact .jX
 .exact .BS
theorem xp:∀{l:List Value}{as:List AV},tq l=some as->aN ρ n C as l
 |[],as,h=>by simp[tq]at h;subst h;exact aN.nil
 |v ::l,as,h=>by
  unfold tq at h;split at h
  .rename_i a as' h1 h2;simp only[H5]at h;subst h;exact aN.cons (Mr h1) (xp h2)
  .cases h
theorem akk{v:Value}{a:AV}(h:aeD v=some a):aG ρ n C a v:=by
 unfold aeD at h;split at h
 . split at h
   .rename_i l hl;simp only[H5]at h;subst h;exact .QF (xp hl)
   .cases h
 .exact Mr h
theorem BV{x:Operand}{o:iy}{fr:Fr}{a:Act}{v:AV}(h:uL x=some o)(hF:lz ρ n C fr a.tmps)(hv:HD fr o=some v):aG ρ n C v (a.eval x):=by
 unfold uL at h;split at h
 .rename_i t;simp only[H5]at h;subst h;obtain⟨y,hy,hr⟩:=hF _ _ hv;rw[iX,Zh8]at hy;simp only[Act.eval,Zm3,hy,Ze6];exact hr
 . split at h
   .rename_i c hc;simp only[H5]at h;subst h;simp only[HD,H5]at hv;subst hv;exact akk hc
   .cases h
 .rename_i f;simp only[H5]at h;subst h;simp only[HD,H5]at hv;subst hv;exact .func _ _ _ _ _ rfl rfl (λ_ _ _ h=>by simp at h) (λ_ _ _ h=>by simp at h)
 .cases h
theorem iY:∀{xs:List Operand}{os:List iy}{fr:Fr}{a:Act}{vs:List AV},mP xs=some os->lz ρ n C fr a.tmps->gu fr os=some vs->aN ρ n C vs (xs.map a.eval)
 |[],os,fr,a,vs,h,_,hv=>by simp[mP]at h;subst h;simp[gu]at hv;subst hv;exact aN.nil
 |x ::xs,os,fr,a,vs,h,hF,hv=>by
  unfold mP at h;split at h
  . rename_i o os' h1 h2;simp only[H5]at h;subst h;unfold gu at hv;split at hv
    .   rename_i v hv1;split at hv
        .rename_i vs' QH;simp only[H5]at hv;subst hv;exact aN.cons (BV h1 hF hv1) (iY h2 hF QH)
        .cases hv
    .   cases hv
  .cases h
theorem lW{x:Operand}{o:iy}{fr:Fr}{a:Act}{vs:List AV}(h:uL x=some o)(hF:lz ρ n C fr a.tmps)(hv:gu fr [o]=some vs):
   ∃v,vs=[v]/\aG ρ n C v (a.eval x):=by
 unfold gu at hv;split at hv
 .rename_i v hv1;simp only[gu,H5]at hv;subst hv;exact⟨v,rfl,BV h hF hv1⟩
 .cases hv
end
def Yields(N:Next)(x:Value):Prop:=N= .value x\/(N= .skip/\x=undef)
def Hv(P:Program)(ρ:Pos->Loc)(C:Cells)(st:St)(w:World)(r:Result Next):eZ->Prop
 |.val v=>∃N x,r= .ok N w/\Yields N x/\aG ρ st.next.toNat C v x
 |.br v del set new=>∃N x w' ρ',r= .ok N w'/\Yields N x/\(∀b:Pos,b.toNat<st.next.toNat->ρ' b=ρ b)/\cN ρ' C (st.br del set new) w'/\
  aG ρ' (st.br del set new).next.toNat C v x/\qJ ρ st w ρ' (st.br del set new) w'
 |.call f args=>∃cZ:List Value,r=(callFunc f cZ.toArray).run P w/\aN ρ st.next.toNat C args cZ
end
section
open Go Go.RowKit
theorem uN(b o i:Nat):(⟨b,o,none⟩:Addr).add i=⟨b,o+i,none⟩:=by
 unfold Addr.add;split
 .rename_i h;subst h;rfl
 .rfl
section
variable{P:Program}{ρ ρ':Pos->Loc}{C:Cells}{st:St}{w w':World}
theorem cN.alZ(hW:cN ρ C st w){al0:T AB}{next' b0:Pos}{x0:AB}
  (hn:st.next.toNat<=next'.toNat) (yI:b0.toNat<next'.toNat) (awb:al0.get b0=some x0)
  (SB:∀b x,b≠b0->al0.get b=some x->st.heap.get b=some x/\(ρ b).aT≠(ρ' b0).aT)
  (bM:∀b:Pos,b.toNat<st.next.toNat->ρ' b=ρ b)
  (hB:ud ρ' next'.toNat C (ρ' b0) w' x0)
  (Ft:∀a v,C a=some v->a.block≠(ρ' b0).aT)
  (aW:(ρ' b0).aT<w'.heap.size) (al3:w.heap.size<=w'.heap.size)
  (Xq:∀k,k<w.heap.size->k≠(ρ' b0).aT->w'.heap[k]? =w.heap[k]?):
  cN ρ' C ⟨al0,next'⟩ w' where
 live b x hb:=by
  by_cases h:b=b0
  .  subst h;rw[awb]at hb;cases hb;exact⟨yI,aW,hB⟩
  .  obtain⟨h1,h2⟩:=SB b x h hb;obtain⟨h3,h4,h5⟩:=hW.live b x h1;rw[bM b h3];exact⟨Zd0 h3 hn,Zd0 h4 al3,(h5.mono bM hn).of_heap (Xq _ h4 h2)⟩
 inj b  b' x x' hb eO he:=by
  by_cases h:b=b0
  .  subst h;by_cases h':b'=b
     .  exact h'.symm
     .  obtain⟨h1,h2⟩:=SB b' x' h' eO;rw[bM b' (hW.live b' x' h1).1]at he;exact absurd he.symm h2
  .  obtain⟨h1,h2⟩:=SB b x h hb;rw[bM b (hW.live b x h1).1]at he;by_cases h':b'=b0
     .  subst h';exact absurd he h2
     .  obtain⟨h1',h2'⟩:=SB b' x' h' eO;rw[bM b' (hW.live b' x' h1').1]at he;exact hW.inj b b' x x' h1 h1' he
 eP a v ha:=by
  obtain⟨h1,h2⟩:=hW.eP a v ha;have aqt:a.block<w.heap.size:=World.block_lt_of_cell? _ _ h1;refine⟨?_,λb x hb=> ?_⟩
  .  rw[World.cell?_of_block (w:=w) (Xq _ aqt (Ft a v ha))];exact h1
  .  by_cases h:b=b0
     .  subst h;exact λe=>Ft a v ha e.symm
     .  obtain⟨h3,_⟩:=SB b x h hb;rw[bM b (hW.live b x h3).1];exact h2 b x h3
 whole a v ha o ho:=by have vH:a.block<w.heap.size:=World.block_lt_of_cell? _ _ (hW.eP a v ha).1;rw[World.cell?_of_block (w:=w) (a:=⟨a.block,o,none⟩) (Xq _ vH (Ft a v ha))];exact hW.whole a v ha o ho
theorem cN.cell(hW:cN ρ C st w){b:Pos}{cs:List AV}{fz:Nat}(hb:st.heap.get b=some (.cells cs fz)){i:Nat}{v:AV}(hv:cs[i]? =some v):
  ∃x,w.cell? ⟨(ρ b).aT,(ρ b).base+i,none⟩=some x/\aG ρ st.next.toNat C v x:=by
 obtain⟨_,_,c,e,fr,h1,h2,h3,h4,_⟩:=hW.live b _ hb;obtain⟨x,hx,hr⟩:=h4.get hv;have hi:i<cs.length:=(Za1.1 hv).1;rw[Ze1,Zb4 hi,Ze4]at hx;exact⟨x,by simp[World.cell?,h1, <-hx],hr⟩
theorem ade{α:Type}{l l':List α}{i n:Nat}(h:cut l i n=some l'):l'=(l.drop i).take n/\i+n<=l.length:=by
 unfold cut at h;split at h
 .rename_i hb;cases h;exact⟨rfl,Zb5 hb⟩
 .cases h
theorem SC{α:Type}{l l':List α}{i n:Nat}(h:cut l i n=some l'):l'.length=n:=by obtain⟨rfl,h2⟩:=ade h;simp;omega
theorem cN.loadCells(hW:cN ρ C st w){b:Pos}{cs vs:List AV}{fz off n:Nat}(hb:st.heap.get b=some (.cells cs fz))(hc:cut cs off n=some vs):
  ∃ys:List Value,(Go.loadCells ⟨(ρ b).aT,(ρ b).base+off,none⟩ n).run P w= .ok ys.toArray w/\aN ρ st.next.toNat C vs ys:=by
 obtain⟨_,_,c,e,fr,h1,h2,h3,h4,_⟩:=hW.live b _ hb;obtain⟨Dl,hle⟩:=ade hc;have hr:=(h4.drop off).take n;rw[<-Dl]at hr;refine⟨_,?_,hr⟩;have hlen:(List.take n (List.drop off (List.take cs.length (List.drop (ρ b).base c.toList)))).length=n:=by rw[<-hr.1];exact SC hc
 conv=>lhs;rw[<-hlen]
 refine run_loadCells_list w _ _ λj v hj=> ?_
 have Ms:j<n:=by rw[<-hlen];exact(Za1.1 hj).1
 rw[Ze1,Zb4 Ms,Ze4,Ze1,Zb4 (by omega),Ze4]at hj;rw[uN];simp[World.cell?,h1, <-hj,Zk3]
theorem xL(g e:Nat)(fr:Nat×Nat):∀(vs:List Value)(i o:Nat)(cur:Array Value)(w:World),w.heap[g]? =some (.cells cur e fr)->o+i+vs.length<=cur.size->
  (∀v∈vs,v.oneCell'=true)->(∀k,o+i<=k->k<cur.size->¬(fr.1<=k/\k<fr.2))->
  ∃ w',(storeCells ⟨g,o,none⟩ vs i).run P w= .ok () w'/\w'.heap[g]? =some (.cells (bf cur.toList (o+i) vs).toArray e fr)/\
    w'.heap.size=w.heap.size/\(∀k,k≠g->w'.heap[k]? =w.heap[k]?)/\w'.os=w.os/\w'.tape=w.tape/\w'.output=w.output
 |[],i,o,cur,w,hg,_,_,_=>⟨w,by simp[storeCells],by rw[hg];simp[bf,Zm1],rfl,λ_ _=>rfl,rfl,rfl,rfl⟩
 |v ::vs,i,o,cur,w,hg,hle,h1,hf=>by
  simp only[Zc7]at hle;have hv:v.oneCell'=true:=h1 v (by simp);have Dm:w.cell? ⟨g,o+i,none⟩=some (cur[o+i]'(by omega)):=by simp[World.cell?,hg]
  have hfz:w.frozen? ⟨g,o+i,none⟩=false:=by have:=hf (o+i) (Za5 _) (by omega);simp only[World.frozen?,hg];simpa using this
  have Dn:(w.setCell ⟨g,o+i,none⟩ v).heap[g]? =some (.cells (cur.setIfInBounds (o+i) v) e fr):=by
    simp[World.setCell,Zl1,hg]
  obtain⟨w',h2,h3,h4,h5,h6,h7,h8⟩:=xL g e fr vs (i+1) o _ _ Dn (by simp;omega) (λv hv=>h1 v (by simp[hv])) (by intro k hk pX;simp at pX;exact hf k (by omega) pX);refine⟨w',?_,?_,by simp[h4],λk hk=> ?_,h6,h7,h8⟩
  .simp only[storeCells,Sem.run_bind,uN,run_store P w _ _ _ hv,Dm,hfz];simpa using h2
  .rw[h3];congr 2;simp only[bf,Zc7,Zq1];rw[Zp9 (by omega)];have:o+(i+1)=(o+i)+1:=(by omega);rw[this,List.take_set,List.take_add_one];have aW:o+i<cur.toList.length:=(by simp;omega);rw[H0 aW];simp only[Option.toList_some,List.set_append,Zf1];have hm:min (o+i) cur.toList.length=o+i:=Zj5 (Zn7 aW);rw[hm,Za7 (Zp3 _),Zk7];simp;rw[show o+i+1+vs.length=o+i+(vs.length+1)from by omega]
  .rw[h5 k hk,Below.heap_setCell _ _ _ _ (by simpa using hk)]
end
section
variable{P:Program}{tt:TT}{ρ:Pos->Loc}{C:Cells}{st:St}{w:World}{n:Nat}
theorem Yields.value(x:Value):Yields (.value x) x:= .inl rfl
theorem Hv.pure{v:AV}{x:Value}{r:Result Next}(h:r= .ok (.value x) w)(hv:aG ρ st.next.toNat C v x):Hv P ρ C st w r (.val v):=
 ⟨_,x,h,Yields.value x,hv⟩
theorem aG.iU{k:IntKind}{i:Int}{x:Value}(h:aG ρ n C (.int k i) x):x= .int k i:=by cases h;rfl
theorem aG.lC{b:Bool}{x:Value}(h:aG ρ n C (.bool b) x):x= .bool b:=by cases h;rfl
theorem aG.fM{s:List Nat}{x:Value}(h:aG ρ n C (.str s) x):∃bs:ByteArray,x= .string bs/\bs.data.toList.map UInt8.toNat=s:=by
 cases h with|str _ bs h=>exact⟨bs,rfl,h⟩
theorem aG.Ge{x:Value}(h:aG ρ n C .jx x):x= .pointer none:=by cases h;rfl
theorem aG.jI{x:Value}(h:aG ρ n C .af x):x= .slice none 0 0:=by cases h;rfl
theorem aG.Gf{x:Value}(h:aG ρ n C .qX x):x= .map none:=by cases h;rfl
theorem aG.SD{x:Value}(h:aG ρ n C .jX x):x= .nilFunc:=by cases h;rfl
theorem aG.ahN{x:Value}(h:aG ρ n C .BS x):x= .nilIface:=by cases h;rfl
theorem aG.qR{b:Pos}{off:Nat}{x:Value}(h:aG ρ n C (.ptr b off) x):b.toNat<n/\x= .pointer (some ⟨(ρ b).aT,(ρ b).base+off,none⟩):=by
 cases h with|ptr _ _ h=>exact⟨h,rfl⟩
theorem aG.Cy{b:Pos}{x:Value}(h:aG ρ n C (.map b) x):b.toNat<n/\x= .map (some (ρ b).aT):=by
 cases h with|map _ h=>exact⟨h,rfl⟩
theorem aG.afI{t:TypeId}{v:AV}{x:Value}(h:aG ρ n C (.iface t v) x):∃y,x= .iface t y/\aG ρ n C v y:=by
 cases h with|iface _ _ y h=>exact⟨y,rfl,h⟩
theorem aG.gU{b:Pos}{off len es:Nat}{cap:Option Nat}{x:Value}(h:aG ρ n C (.slice b off len cap es) x):
  ∃(a:Addr) (bG:Nat),x= .slice (some a) len bG/\len<=bG/\(∀c,cap=some c->c=bG)/\
   (bG≠0->b.toNat<n/\a=⟨(ρ b).aT,(ρ b).base+off,none⟩/\(ρ b).base+off+bG*es<=(ρ b).size):=by
 cases h with|slice _ _ _ _ _ bG a hl hc ha _=>exact⟨a,bG,rfl,hl,hc,ha⟩
theorem aG.afJ{b:Pos}{off len es:Nat}{cap:Option Nat}{x:Value}(h:aG ρ n C (.slice b off len cap es) x):cap=none->b.toNat<n:=by
 cases h with|slice _ _ _ _ _ _ _ _ _ _ hk=>exact hk
theorem aG.yJ{xs:List (List AV)}{es:Nat}{x:Value}(h:aG ρ n C (.fl xs es) x):
  ∃(a:Addr) (bG:Nat) (cell:Nat->Nat->Value),x= .slice (some a) xs.length bG/\xs.length<=bG/\(xs≠[]->a.spot=none)/\
   (∀(i:Nat)(cs:List AV),xs[i]? =some cs->cs.length=es)/\
   (∀(i j:Nat)(cs:List AV)(v:AV),xs[i]? =some cs->cs[j]? =some v->C ⟨a.block,a.off+i*es+j,none⟩=some (cell i j))/\
   (∀(i j:Nat)(cs:List AV)(v:AV),xs[i]? =some cs->cs[j]? =some v->aG ρ n C v (cell i j)):=by
 cases h with|fl _ _ bG a cell hl hs eG hc hv=>exact⟨a,bG,cell,rfl,hl,hs,eG,hc,hv⟩
theorem aG.QI{xs:List (List AV)}{i j:Nat}{x:Value}(h:aG ρ n C (.fp xs i j) x):
  ∃(es aT base:Nat) (cell:Nat->Nat->Value),x= .pointer (some ⟨aT,base+i*es+j,none⟩)/\
   (∀(i:Nat)(cs:List AV),xs[i]? =some cs->cs.length=es)/\
   (∀(i j:Nat)(cs:List AV)(v:AV),xs[i]? =some cs->cs[j]? =some v->C ⟨aT,base+i*es+j,none⟩=some (cell i j))/\
   (∀(i j:Nat)(cs:List AV)(v:AV),xs[i]? =some cs->cs[j]? =some v->aG ρ n C v (cell i j)):=by
 cases h with|fp _ _ _ es aT base cell hl hc hv=>exact⟨es,aT,base,cell,rfl,hl,hc,hv⟩
theorem yK(k:IntKind)(i:Int):av k i=k.wrap i:=by
 unfold av;split
 . rename_i h1 _;split
   .rename_i h2 _;cases k<;>simp only[loI,hiI]at h1 h2<;>simp only[IntKind.wrap,IntKind.bits,IntKind.signed]<;>simp<;>omega
   .rfl
 .rfl
theorem mR(a b:Int):BC a b=(a==b):=by
 unfold BC;split
 .rename_i h _;subst h;simp
 .rename_i h _;simp[h]
theorem fH(a b:Int):BD a b=decide (a<b):=by
 unfold BD;split<;>(rename_i h _;simp[h])
theorem lF(a b:Int):ahl a b=decide (a<=b):=by
 unfold ahl;split<;>(rename_i h _;simp[h])
theorem mS:∀{a b:List Nat},kH a b=true↔a=b
 |[],[]=>by simp[kH]
 |[],_::_=>by simp[kH]
 |_::_,[]=>by simp[kH]
 |a::x,b::y=>by
  unfold kH;split
  .rename_i h;have:=Za8 h;subst this;simp[mS (a:=x) (b:=y)]
  .rename_i h;have:=Ze9 h;simp[this]
theorem QJ:∀{a b:List UInt8},a.map UInt8.toNat=b.map UInt8.toNat->a=b
 |[],[],_=>rfl
 |[],_::_,h=>by simp at h
 |_::_,[],h=>by simp at h
 |a::x,b::y,h=>by
  simp at h;rw[Zr9.1 h.1,QJ h.2]
theorem toList_data(b:ByteArray):b.toList=b.data.toList:=ByteArray.toList_eq b
theorem xD:∀(x y:List UInt8),aU (x.map UInt8.toNat) (y.map UInt8.toNat)=Op.bytesLess x y
 |[],[]=>by simp[aU,Op.bytesLess]
 |_::_,[]=>by simp[aU,Op.bytesLess]
 |[],_::_=>by simp[aU,Op.bytesLess]
 |a ::x,b::y=>by
  simp only[Zd1,aU,Op.bytesLess];split
  .rename_i h;have:a<b:=(by rw[Zo8];simpa using h);simp[this]
  . (rename_i h;have h1:¬a<b:=by rw[Zo8];intro h';have h2:Nat.blt a.toNat b.toNat=true:=(by simpa using h');rw[h2]at h;cases h);split
    .   rename_i h2;have:a=b:=Zr9.1 (Za8 h2);subst this;simp only[h1,Zl7,Zm0,Zr2,Zg5];exact xD x y
    .   (rename_i h2;have:a≠b:=λe=>Ze9 h2 (by rw[e]));simp[h1,this]
theorem QK{a b:List Nat}{x y:ByteArray}(hx:x.data.toList.map UInt8.toNat=a)(hy:y.data.toList.map UInt8.toNat=b):(x.toList==y.toList)=kH a b:=by
 rw[toList_data,toList_data,Zn1,mS,beq_iff_eq, <-hx, <-hy];exact⟨λh=>by rw[h],λh=>QJ h⟩
theorem abX{a b:List Nat}{x y:ByteArray}(hx:x.data.toList.map UInt8.toNat=a)(hy:y.data.toList.map UInt8.toNat=b):Op.bytesLess x.toList y.toList=aU a b:=by
 rw[toList_data,toList_data, <-hx, <-hy,xD]
theorem Mt{a:List Nat}{x:ByteArray}(hx:x.data.toList.map UInt8.toNat=a):x.size=a.length:=by rw[<-hx,Za3,Zj1];rfl
def PK.fits:PK->TypeDesc->Bool
 |.b,.bool=>true
 |.i,.int _=>true
 |.s,.string=>true
 |_,_=>false
theorem ahO{t:TypeId}{d:TypeDesc}(hd:P.underlying t=some d){pk:PK}(hk:pk.fits d=true){a b:AV}{x y:Value}{r:Bool}{m:Nat}
   (ha:aG ρ n C a x) (hb:aG ρ n C b y) (h:yE pk a b=some r) (w:World):(Op.equalIn (m+1) t x y).run P w= .ok r w:=by
 unfold yE at h;split at h
 .simp only[H5]at h;subst h;rw[ha.lC,hb.lC];cases d<;>simp[PK.fits]at hk;rw[run_equalIn_bool' w m t _ _ hd]
 . split at h
   .rename_i pX;have:=Cx pX;subst this;simp only[H5]at h;subst h;rw[ha.iU,hb.iU];cases d<;>simp[PK.fits]at hk;rw[run_equalIn_int w m t _ _ _ _ hd,mR]
   .cases h
 .simp only[H5]at h;subst h;obtain⟨bx,rfl,h1⟩:=ha.fM;obtain⟨bz,rfl,h2⟩:=hb.fM;cases d<;>simp[PK.fits]at hk;rw[run_equalIn_string w m t _ _ hd,QK h1 h2]
 .cases h
theorem Xr:∀{fs:List (Nat×Nat×Bool)}{l:List (Nat×PK)}{gs:List Field}{xs ys:List AV}{cx cy:Array Value}{r:Bool}{m:Nat}(_hT:dK P tt)
  (_hm:cL.fI fs gs=true) (_hf:Di.fields tt fs=some l) (_hx:aN ρ n C xs cx.toList) (_hy:aN ρ n C ys cy.toList) (_h:eqFields xs ys l=some r) (w:World),
  (Op.eqFields (m+1) cx cy gs).run P w= .ok r w
 |[],l,gs,xs,ys,cx,cy,r,m,hT,hm,hf,hx,hy,h,w=>by
  cases gs with
  |cons f gs=>simp[cL.fI]at hm
  | nil=>
    simp[Di.fields]at hf;subst hf;simp[eqFields]at h;subst h;simp[Op.eqFields]
 |(off  , t,named)::fs,l,gs,xs,ys,cx,cy,r,m,hT,hm,hf,hx,hy,h,w=>by
  cases gs with
  |nil=>simp[cL.fI]at hm
  | cons f gs=>
    simp[cL.fI]at hm;obtain⟨⟨⟨ho,ht⟩,hn⟩,hm'⟩:=hm;unfold Di.fields at hf;(split at hf<;>first|(cases hf;done)|skip);rename_i ti l' fR hl';obtain⟨d,hd,dW⟩:=(hT.at fR).und;have key:∃pk,l=(off,pk)::l'/\pk.fits d=true/\(isAgg t).run P w= .ok false w:=by
        have yf:=abW dW w hd;split at hf<;>first|(cases hf;done)|skip
        all_goals
          rename_i hk;simp only[H5]at hf;rw[hk]at dW yf;refine⟨_,hf.symm,?_,yf⟩
        .rw[aeG dW];rfl
        .rw[Xp dW];rfl
        .rw[vG dW];rfl
    obtain⟨pk,rfl,Gg,yf⟩:=key;have dP:f.name≠ "_" :=(by intro e;rw[e]at hn;simp at hn);unfold eqFields at h;(split at h<;>first|(cases h;done)|skip);rename_i a b ha hb;rw[qZ]at ha hb;obtain⟨x,hx1,hx2⟩:=hx.get ha;obtain⟨y,Xs,hy2⟩:=hy.get hb;have px:(part f.type cx f.offset).run P w= .ok x w:=by
        rw[<-ht, <-ho];simp at hx1;simp[part,yf,hx1]
    have py:(part f.type cy f.offset).run P w= .ok y w:=by
        rw[<-ht, <-ho];simp at Xs;simp[part,yf,Xs]
    simp only[Op.eqFields,Sem.run_bind,Sem.run_ite,dP,px,py,Result.andThen_ok,ne_eq,not_false_eq_true,Zh6];split at h
    .   rename_i he;rw[<-ht,ahO hd Gg hx2 hy2 he w];simpa using Xr (m:=m) hT hm' hl' hx hy h w
    .   rename_i he;simp only[H5]at h;subst h;rw[<-ht,ahO hd Gg hx2 hy2 he w];simp
    .   cases h
def asY(tt:TT)(op:BinOp)(q:gZ)(t:TypeId):Prop:=Di tt t=some q\/(q= .num/\op≠ .eql/\op≠ .neq)
def awc(P:Program)(tt:TT)(t:TypeId):gZ->Prop
 |.num=>True
 |.bool=>P.underlying t=some .bool
 |.ptr=>∃e,P.underlying t=some (.pointer e)/\∃j,P.info? e=some j
 |.slice=>∃e,P.underlying t=some (.slice e)
 |.map=>∃k e,P.underlying t=some (.map k e)
 |.func=>∃a b c,P.underlying t=some (.func a b c)
 |.iface=>∃a,P.underlying t=some (.interface a)
 |.struct l=>∃fs gs,P.underlying t=some (.struct gs)/\cL.fI fs gs.toList=true/\Di.fields tt fs=some l/\P.stoodInHeld t=false/\P.eqGuardType P.depth t=false
theorem ak2(hT:dK P tt){t:TypeId}{q:gZ}(hq:Di tt t=some q):awc P tt t q:=by
 unfold Di at hq;split at hq<;>first|(cases hq;done)|skip
 rename_i ti fR;obtain⟨d,hd,dW⟩:=(hT.at fR).und;split at hq<;>first|(cases hq;done)|skip
 all_goals rename_i hk
 all_goals rw[hk]at dW
 .simp only[H5]at hq;subst hq;rw[aeG dW]at hd;exact hd
 .simp only[H5]at hq;subst hq;trivial
 .simp only[H5]at hq;subst hq;trivial
 .simp only[H5]at hq;subst hq;rw[avj dW]at hd;exact⟨_,hd,(hT.at fR).elem _ hk⟩
 .simp only[H5]at hq;subst hq;rw[ue dW]at hd;exact⟨_,hd⟩
 .simp only[H5]at hq;subst hq;rw[Xo dW]at hd;exact⟨_,_,hd⟩
 .simp only[H5]at hq;subst hq;obtain⟨_,_,_,rfl⟩:=atv dW;exact⟨_,_,_,hd⟩
 .simp only[H5]at hq;subst hq;obtain⟨_,rfl⟩:=aqs dW;exact⟨_,hd⟩
 . (split at hq<;>first|(cases hq;done)|skip);rename_i fs _ _ l hp hl;simp only[H5]at hq;subst hq;obtain⟨gs,rfl,hm⟩:=Oq dW;exact⟨fs,gs,hd,hm,hl,(hT.at fR).eqs hp⟩
theorem al4(m:Nat)(hT:dK P tt){t:TypeId}{q:gZ}(hq:Di tt t=some q){a b:AV}{x y:Value}{r:Bool}(ha:aG ρ n C a x)(hb:aG ρ n C b y)(h:abS q a b=some r)(w:World):
   (Op.equalIn (m+1+1) t x y).run P w= .ok r w:=by
 have hi:=ak2 hT hq;clear hq;unfold abS at h;split at h<;>first|(cases h;done)|skip
 .simp only[H5]at h;subst h;rw[ha.lC,hb.lC,run_equalIn_bool' w _ t _ _ hi]
 all_goals first
   |(simp only[H5]at h;subst h)
   |skip
 .obtain⟨e,hd,_⟩:=hi;rw[ha.Ge,hb.Ge];(unfold Op.equalIn;rw[Sem.run_bind,bD hd];rfl)
 .obtain⟨e,hd,_⟩:=hi;obtain⟨_,hb⟩:=hb.qR;rw[ha.Ge,hb];(unfold Op.equalIn;rw[Sem.run_bind,bD hd];rfl)
 .obtain⟨e,hd,_⟩:=hi;obtain⟨_,ha⟩:=ha.qR;rw[hb.Ge,ha];(unfold Op.equalIn;rw[Sem.run_bind,bD hd];rfl)
 .obtain⟨e,hd,_⟩:=hi;obtain⟨_,_,_,_,hb,_⟩:=hb.QI;rw[ha.Ge,hb];(unfold Op.equalIn;rw[Sem.run_bind,bD hd];rfl)
 .obtain⟨e,hd,_⟩:=hi;obtain⟨_,_,_,_,ha,_⟩:=ha.QI;rw[hb.Ge,ha];(unfold Op.equalIn;rw[Sem.run_bind,bD hd];rfl)
 .obtain⟨e,hd,j,hj⟩:=hi;(split at h<;>first|(cases h;done)|skip);rename_i e1 e2;have e1:=Pos.beq_eq.1 e1;have e2:=Za8 e2;subst e1;subst e2;simp only[H5]at h;subst h;obtain⟨_,ha⟩:=ha.qR;obtain⟨_,hb⟩:=hb.qR;rw[ha,hb];simp[Op.equalIn,bD hd,sizeOf,typeInfo,hj,run_sameAddr_same]
 .obtain⟨e,hd⟩:=hi;rw[ha.jI,hb.jI];(unfold Op.equalIn;rw[Sem.run_bind,bD hd];rfl)
 .obtain⟨e,hd⟩:=hi;obtain⟨_,_,hb,_⟩:=hb.gU;rw[ha.jI,hb];(unfold Op.equalIn;rw[Sem.run_bind,bD hd];rfl)
 .obtain⟨e,hd⟩:=hi;obtain⟨_,_,ha,_⟩:=ha.gU;rw[hb.jI,ha];(unfold Op.equalIn;rw[Sem.run_bind,bD hd];rfl)
 .obtain⟨e,hd⟩:=hi;obtain⟨_,_,_,hb,_⟩:=hb.yJ;rw[ha.jI,hb];(unfold Op.equalIn;rw[Sem.run_bind,bD hd];rfl)
 .obtain⟨e,hd⟩:=hi;obtain⟨_,_,_,ha,_⟩:=ha.yJ;rw[hb.jI,ha];(unfold Op.equalIn;rw[Sem.run_bind,bD hd];rfl)
 .obtain⟨k,e,hd⟩:=hi;rw[ha.Gf,hb.Gf];(unfold Op.equalIn;rw[Sem.run_bind,bD hd];rfl)
 .obtain⟨k,e,hd⟩:=hi;obtain⟨_,hb⟩:=hb.Cy;rw[ha.Gf,hb];(unfold Op.equalIn;rw[Sem.run_bind,bD hd];rfl)
 .obtain⟨k,e,hd⟩:=hi;obtain⟨_,ha⟩:=ha.Cy;rw[hb.Gf,ha];(unfold Op.equalIn;rw[Sem.run_bind,bD hd];rfl)
 .obtain⟨_,_,_,hd⟩:=hi;rw[ha.SD,hb.SD];(unfold Op.equalIn;rw[Sem.run_bind,bD hd];rfl)
 .obtain⟨_,_,_,hd⟩:=hi;obtain⟨_,_,hb,_⟩:=hb.Sv;rw[ha.SD,hb];(unfold Op.equalIn;rw[Sem.run_bind,bD hd];rfl)
 .obtain⟨_,_,_,hd⟩:=hi;obtain⟨_,_,ha,_⟩:=ha.Sv;rw[hb.SD,ha];(unfold Op.equalIn;rw[Sem.run_bind,bD hd];rfl)
 .obtain⟨_,hd⟩:=hi;obtain⟨_,hb,_⟩:=hb.afI;rw[ha.ahN,hb];(unfold Op.equalIn;rw[Sem.run_bind,bD hd];rfl)
 .obtain⟨_,hd⟩:=hi;obtain⟨_,ha,_⟩:=ha.afI;rw[hb.ahN,ha];(unfold Op.equalIn;rw[Sem.run_bind,bD hd];rfl)
 .obtain⟨fs,gs,hd,hm,hl,hp,_⟩:=hi;obtain⟨cx,rfl,hx⟩:=ha.Gc;obtain⟨cy,rfl,hy⟩:=hb.Gc;have hfo:P.fieldsOf t=gs:=(by simp[Program.fieldsOf,hd]);rw[run_equalIn_agg w (m+1) t cx cy (by rw[hfo,hd]) hp,hfo];exact Xr (m:=m) hT hm hl hx hy h w
theorem ahP(hT:dK P tt){t:TypeId}{q:gZ}(hq:Di tt t=some q){a b:AV}{x y:Value}{r:Bool}(ha:aG ρ n C a x)(hb:aG ρ n C b y)(h:abS q a b=some r)(w:World):
 (Op.equal t x y).run P w= .ok r w:=al4 9998 hT hq ha hb h w
theorem adf(hT:dK P tt){t:TypeId}{q:gZ}(hq:Di tt t=some q){a b:AV}{x y:Value}{r:Bool}(ha:aG ρ n C a x)(hb:aG ρ n C b y)(h:abS q a b=some r)(op:BinOp)(ox oy:Operand)(w:World):
  (eqGuard op t ox oy x y).run P w= .ok () w:=by
 have hi:=ak2 hT hq;clear hq;unfold abS at h;split at h<;>first|(cases h;done)|skip
 all_goals first
  |(obtain⟨fs,gs,hd,hm,hl,hp,hg⟩:=hi
    obtain⟨cx,rfl,hx⟩:=ha.Gc;obtain⟨cy,rfl,hy⟩:=hb.Gc;exact run_eqGuard_agg w op t ox oy cx cy hg)
  |(cases ha<;>cases hb<;>cases op<;>rfl)
end
section
variable{P:Program}{tt:TT}{ρ:Pos->Loc}{C:Cells}{st:St}{w:World}{n:Nat}
theorem agH(op:BinOp)(t:TypeId)(k:IntKind)(i j:Int)(hs:op≠ .shl)(hr:op≠ .shr):(binOp op t (.int k i) (.int k j)).run P w=
  (match op with
   |.add|.sub|.mul=>Op.intArith op k i j
   |.quo|.rem=>Op.intDiv op k i j
   |.and|.or|.xor|.andNot=>Op.intBits op k i j
   |_=>Op.intCmp op i j).run P w:=by
 cases op<;>first|(exact absurd rfl hs)|(exact absurd rfl hr)|simp[binOp]
theorem aqu(hT:dK P tt){op:BinOp}{t:TypeId}{q:gZ}(hq:asY tt op q t){a b v:AV}{x y:Value}(ha:aG ρ n C a x)(hb:aG ρ n C b y)(h:pO op q a b=some v)(ox oy:Operand):
  ∃z,(do eqGuard op t ox oy x y;binOp op t x y:Sem Value).run P w= .ok z w/\aG ρ n C v z:=by
 unfold pO at h;split at h
 ·
  rename_i k i k' j;rw[ha.iU,hb.iU];have hg:∀op,(eqGuard op t ox oy (.int k i) (.int k' j)).run P w= .ok () w:=by intro op;cases op<;>rfl
  rw[Sem.run_bind,hg,Result.andThen_ok];split at h
  . split at h
    .   cases h
    .   rename_i aW;rw[fH]at aW;have aW:=Zn2 aW;simp only[H5]at h;subst h;exact⟨_,by simp[binOp,Op.shift,aW,yK],.int _ _⟩
  . split at h
    .   cases h
    .   rename_i aW;rw[fH]at aW;have aW:=Zn2 aW;simp only[H5]at h;subst h;exact⟨_,by simp[binOp,Op.shift,aW],.int _ _⟩
  . rename_i hs hr;split at h
    .   cases h
    .   rename_i hk;have:=Cx hk;subst this;rw[agH op t k i j (λe=>hs e) (λe=>hr e)];split at h
        .simp only[H5]at h;subst h;exact⟨_,by simp[Op.intArith,yK],.int _ _⟩
        .simp only[H5]at h;subst h;exact⟨_,by simp[Op.intArith,yK],.int _ _⟩
        .simp only[H5]at h;subst h;exact⟨_,by simp[Op.intArith,yK],.int _ _⟩
        . split at h
          .cases h
          . (rename_i h0;rw[mR]at h0;have h0':¬j=0:=by simpa using h0);simp only[H5]at h;subst h;exact⟨_,by simp[Op.intDiv,h0',yK],.int _ _⟩
        . split at h
          .cases h
          . (rename_i h0;rw[mR]at h0;have h0':¬j=0:=by simpa using h0);simp only[H5]at h;subst h;exact⟨_,by simp[Op.intDiv,h0'],.int _ _⟩
        .simp only[H5]at h;subst h;exact⟨_,by simp[Op.intBits],.int _ _⟩
        .simp only[H5]at h;subst h;exact⟨_,by simp[Op.intBits],.int _ _⟩
        .simp only[H5]at h;subst h;exact⟨_,by simp[Op.intBits],.int _ _⟩
        .simp only[H5]at h;subst h;exact⟨_,by simp[Op.intBits],.int _ _⟩
        .simp only[H5]at h;subst h;exact⟨_,by simp[Op.intCmp,mR],.bool _⟩
        .simp only[H5]at h;subst h;refine⟨_,rfl,?_⟩;rw[mR];exact .bool _
        .simp only[H5]at h;subst h;refine⟨_,rfl,?_⟩;rw[fH];exact .bool _
        .simp only[H5]at h;subst h;refine⟨_,rfl,?_⟩;rw[lF];exact .bool _
        .simp only[H5]at h;subst h;refine⟨_,rfl,?_⟩;rw[fH];exact .bool _
        .simp only[H5]at h;subst h;refine⟨_,rfl,?_⟩;rw[lF];exact .bool _
        .cases h
 ·
  rename_i s u;obtain⟨bx,rfl,h1⟩:=ha.fM;obtain⟨bz,rfl,h2⟩:=hb.fM;have hg:∀op,(eqGuard op t ox oy (.string bx) (.string bz)).run P w= .ok () w:=by intro op;cases op<;>rfl
  rw[Sem.run_bind,hg,Result.andThen_ok];have hs:(binOp op t (.string bx) (.string bz)).run P w=(Op.stringOp op bx bz).run P w:=by cases op<;>rfl
  rw[hs];have e1:=QK h1 h2;have e2:=abX h1 h2;split at h
  . split at h
    .   rename_i hb;have hb:=Zb5 hb;simp only[H5]at h;subst h;have n9:¬(((bx.size+bz.size:Nat):Int)>IntKind.i64.max):=(by rw[Mt h1,Mt h2];simp[IntKind.max,IntKind.signed,IntKind.bits];omega);refine⟨.string (bx++bz),?_,.str _ _ ?_⟩
        .simp only[Op.stringOp];rw[Za7 n9];rfl
        .rw[ByteArray.data_append,Array.toList_append,Zc8,h1,h2]
    .   cases h
  all_goals first|(cases h;done)|skip
  all_goals
    simp only[H5]at h;subst h;refine⟨_,rfl,?_⟩
    first|rw[e1,e2]|rw[e1]|rw[e2]
    exact .bool _
 ·
  rename_i hni hns;have aho:∀op,(op= .eql\/op= .neq)->(binOp op t x y).run P w=((Op.equal t x y).run P w).andThen λr w'=>.ok (.bool (if op= .eql then r else !r)) w':=by
    rintro op (rfl|rfl)
    all_goals
        cases ha<;>cases hb<;>first
          |(exact(hni _ _ _ _ rfl rfl).elim)
          |(exact(hns _ _ rfl rfl).elim)
          |simp[binOp]
  split at h
  . split at h
    .   rename_i r hr;simp only[H5]at h;subst h;rcases hq with hq|⟨_,hq,_⟩
        .refine⟨.bool r,?_,.bool r⟩;rw[Sem.run_bind,adf hT hq ha hb hr,Result.andThen_ok,aho _ (.inl rfl),ahP hT hq ha hb hr];rfl
        .exact absurd rfl hq
    .   cases h
  . split at h
    .   rename_i r hr;simp only[H5]at h;subst h;rcases hq with hq|⟨_,_,hq⟩
        .refine⟨.bool (!r),?_,.bool _⟩;rw[Sem.run_bind,adf hT hq ha hb hr,Result.andThen_ok,aho _ (.inr rfl),ahP hT hq ha hb hr];rfl
        .exact absurd rfl hq
    .   cases h
  .cases h
end
def fN(P:Program)(tt:TT)(op:Op):Prop:=
 ∀  (ρ:Pos->Loc)(C:Cells)(st:St)(w:World)(k:aJ)(xs:List iy)(cls:Cls)(fr:Fr)(a:Act)(o:Oper)(vs:List AV)(res:eZ),
    o.op=op->kD tt op=some (k,xs,cls)->cN ρ C st w->lz ρ st.next.toNat C fr a.tmps->gu fr xs=some vs->
    k.run (λb=>st.heap.get b) st.next vs=some res->Hv P ρ C st w ((execOp a.eval o).run P w) res
section
variable{P:Program}{tt:TT}
theorem aeH{ρ:Pos->Loc}{n:Nat}{C:Cells}{x y:Operand}{os:List iy}{fr:Fr}{a:Act}{vs:List AV}(h:mP [x,y]=some os)(hF:lz ρ n C fr a.tmps)(hv:gu fr os=some vs):
  ∃u v,vs=[u,v]/\aG ρ n C u (a.eval x)/\aG ρ n C v (a.eval y):=by
 have h1:=iY h hF hv;cases vs with
 |nil=>have:=h1.1;simp at this
 |cons u vs=>
  cases vs with
  |nil=>have:=h1.1;simp at this
  |cons v vs=>
   cases vs with
   |nil=>exact⟨u,v,rfl,h1.2 0 u _ rfl rfl,h1.2 1 v _ rfl rfl⟩
   |cons z vs=>have:=h1.1;simp at this
theorem evs3{ρ:Pos->Loc}{n:Nat}{C:Cells}{x y z:Operand}{os:List iy}{fr:Fr}{a:Act}{vs:List AV}(h:mP [x,y,z]=some os)(hF:lz ρ n C fr a.tmps)(hv:gu fr os=some vs):
  ∃u v q,vs=[u,v,q]/\aG ρ n C u (a.eval x)/\aG ρ n C v (a.eval y)/\aG ρ n C q (a.eval z):=by
 have h1:=iY h hF hv
 match vs,h1 with
 |[u,v,q],h1=>exact⟨u,v,q,rfl,h1.2 0 u _ rfl rfl,h1.2 1 v _ rfl rfl,h1.2 2 q _ rfl rfl⟩
 |[],h1=>have:=h1.1;simp at this
 |[_],h1=>have:=h1.1;simp at this
 |[_,_],h1=>have:=h1.1;simp at this
 |_::_::_::_::_,h1=>have:=h1.1;simp at this
theorem aqv(x:Operand):fN P tt (.move x):=by
 intro ρ C st w k xs cls fr a o vs res ho hc hW hF hx hr;simp only[kD]at hc;split at hc<;>first|(cases hc;done)|skip
 rename_i b hb;cases hc;obtain⟨v,rfl,hv⟩:=lW hb hF hx;simp only[aJ.run,ZO,H5]at hr;subst hr;exact .pure (by simp[execOp,ho]) hv
theorem al5(x:Operand):fN P tt (.assign x):=by
 intro ρ C st w k xs cls fr a o vs res ho hc hW hF hx hr;simp only[kD]at hc;split at hc<;>first|(cases hc;done)|skip
 rename_i b hb;cases hc;obtain⟨v,rfl,hv⟩:=lW hb hF hx;simp only[aJ.run,ZO,H5]at hr;subst hr;exact .pure (by simp[execOp,ho]) hv
theorem aqw(c x y:Operand):fN P tt (.pick c x y):=by
 intro ρ C st w k xs cls fr a o vs res ho hc hW hF hx hr;simp only[kD]at hc;split at hc<;>first|(cases hc;done)|skip
 rename_i l hl;cases hc;obtain⟨u,v,q,rfl,h1,h2,h3⟩:=evs3 hl hF hx;simp only[aJ.run,aeC]at hr;split at hr<;>first|(cases hr;done)|skip
 all_goals
   simp only[H5]at hr;subst hr;have h1:=h1.lC
 .exact .pure (by simp[execOp,ho,h1,asBool]) h2
 .exact .pure (by simp[execOp,ho,h1,asBool]) h3
theorem an1(hT:dK P tt)(op:BinOp)(t:TypeId)(x y:Operand)(yt:TypeId):fN P tt (.binOp op t x y yt):=by
 intro ρ C st w k xs cls fr a o vs res ho hc hW hF hx hr;have key:∃q,asY tt op q t/\k= .bin op q/\mP [x,y]=some xs:=by
  simp only[kD]at hc;split at hc
  .rename_i q l hq hl;cases hc;exact⟨q,.inl hq,rfl,hl⟩
  .rename_i l hq hl;(split at hc<;>first|(cases hc;done)|skip);rename_i h1 h2;cases hc;exact⟨.num,.inr ⟨rfl,λe=>h1 e,λe=>h2 e⟩,rfl,hl⟩
  .cases hc
 obtain⟨q,hq,rfl,hl⟩:=key;obtain⟨u,v,rfl,h1,h2⟩:=aeH hl hF hx;simp only[aJ.run,jH]at hr;split at hr<;>first|(cases hr;done)|skip
 rename_i r hb;simp only[H5]at hr;subst hr;obtain⟨z,hz,hv⟩:=aqu hT hq h1 h2 hb x y (w:=w);refine .pure ?_ hv;simp only[execOp,ho];rw[Sem.run_bind,hz];rfl
theorem aqx(op:UnOp)(t:TypeId)(x:Operand):fN P tt (.unOp op t x):=by
 intro ρ C st w k xs cls fr a o vs res ho hc hW hF hx hr;simp only[kD]at hc;split at hc<;>first|(cases hc;done)|skip
 rename_i b hb;cases hc;obtain⟨v,rfl,hv⟩:=lW hb hF hx;simp only[aJ.run,alV]at hr;split at hr<;>first|(cases hr;done)|skip
 rename_i r hu;simp only[H5]at hr;subst hr;unfold unA at hu;split at hu
 . (split at hu<;>first|(cases hu;done)|skip);simp only[H5]at hu;subst hu;exact .pure (by simp[execOp,ho,hv.lC,Op.unary]) (.bool _)
 . (split at hu<;>first|(cases hu;done)|skip);simp only[H5]at hu;subst hu;exact .pure (by simp[execOp,ho,hv.iU,Op.unary,Op.intArith];rfl) (by rw[yK];simpa using aG.int _ _)
 .cases hu
theorem ahQ(x:Operand):fN P tt (.nilCheck x):=by
 intro ρ C st w k xs cls fr a o vs res ho hc hW hF hx hr;simp only[kD]at hc;split at hc<;>first|(cases hc;done)|skip
 rename_i b hb;cases hc;obtain⟨v,rfl,hv⟩:=lW hb hF hx;simp only[aJ.run,Pu]at hr;split at hr<;>first|(cases hr;done)|skip
 all_goals simp only[H5]at hr;subst hr
 .obtain⟨_,he⟩:=hv.qR;exact .pure (by simp[execOp,ho,he]) hv
 .obtain⟨_,_,_,_,he,_⟩:=hv.QI;exact .pure (by simp[execOp,ho,he]) hv
 .obtain⟨_,_,he,_⟩:=hv.Sv;exact .pure (by simp[execOp,ho,he]) hv
theorem akl(x:Operand)(i:Nat):fN P tt (.extract x i):=by
 intro ρ C st w k xs cls fr a o vs res ho hc hW hF hx hr;simp only[kD]at hc;split at hc<;>first|(cases hc;done)|skip
 rename_i b hb;cases hc;obtain⟨v,rfl,hv⟩:=lW hb hF hx;simp only[aJ.run,Lq]at hr;split at hr<;>first|(cases hr;done)|skip
 split at hr<;>first|(cases hr;done)|skip
 rename_i u hu;simp only[H5]at hr;subst hr;obtain⟨cs,he,hs⟩:=hv.Xm;rw[qZ]at hu;obtain⟨y,hy,Xt⟩:=hs.get hu;exact .pure (by simp at hy;simp[execOp,ho,he,Instr.extract,hy]) Xt
theorem akm(hT:dK P tt)(t:TypeId)(x:Operand):fN P tt (.makeInterface t x):=by
 intro ρ C st w k xs cls fr a o vs res ho hc hW hF hx hr;simp only[kD]at hc;split at hc<;>first|(cases hc;done)|skip
 rename_i ti b fR hb;split at hc<;>first|(cases hc;done)|skip
 rename_i h1 h2;cases hc;obtain⟨v,rfl,hv⟩:=lW hb hF hx;simp only[aJ.run,Sq,H5]at hr;subst hr;obtain⟨d,hd,hk⟩:=(hT.at fR).und;refine .pure (x:= .iface t (a.eval x)) ?_ (.iface _ _ _ hv);have hni:∀ms,d≠ .interface ms:=by
  rintro ms rfl;cases Ot:ti.k<;>rw[Ot]at hk<;>first|(simp[cL]at hk;done)|(exact h1 Ot)|(exact h2 Ot)
 simp only[execOp,ho,Instr.makeInterface,Sem.run_bind,bD hd,Result.andThen_ok];cases d<;>first|rfl|(exact absurd rfl (hni _))
theorem al6(fn:Fn)(first captured:Array Operand):fN P tt (.makeFunc fn first captured):=by
 intro ρ C st w k xs cls fr a o vs res ho hc hW hF hx hr;simp only[kD]at hc;split at hc<;>first|(cases hc;done)|skip
 rename_i f l hl;cases hc;have h:=iY hl hF hx;simp only[aJ.run,HC,H5]at hr;subst hr;have e1:vs.take first.size=vs.take first.size:=rfl
 have h1:=h.take first.size
 have h2:=h.drop first.size
 simp only[Zc8]at h1 h2;rw[Zs0 (by simp)]at h1;rw[List.drop_left' (by simp)]at h2;refine .pure (x:= .func (.func f) (first.map a.eval) (captured.map a.eval)) (by simp[execOp,ho,Instr.makeFunc]) ?_;exact .func _ _ _ _ _ (by simpa using h1.1) (by simpa using h2.1) (λi v v' hv QL=>h1.2 i v v' hv (by simpa using QL)) (λi v v' hv QL=>h2.2 i v v' hv (by simpa using QL))
theorem agI(hT:dK P tt)(t:TypeId)(x:Operand)(f:Nat):fN P tt (.fieldAddr t x f):=by
 intro ρ C st w k xs cls fr a o vs res ho hc hW hF hx hr;simp only[kD]at hc;split at hc<;>first|(cases hc;done)|skip
 rename_i ti b fR hb;split at hc<;>first|(cases hc;done)|skip
 rename_i fs hk;split at hc<;>first|(cases hc;done)|skip
 rename_i off ft nm hf;split at hc<;>first|(cases hc;done)|skip
 rename_i fi hfi;split at hc<;>first|(cases hc;done)|skip
 rename_i ic;cases hc;obtain⟨v,rfl,hv⟩:=lW hb hF hx;obtain⟨d,hd,dW⟩:=(hT.at fR).und;rw[hk]at dW;obtain⟨gs,rfl,hm⟩:=Oq dW;obtain⟨g,hg,vI,Fu,_⟩:=SA hm hf;simp only at vI Fu;obtain⟨i,hi,vJ,_⟩:=(hT.at hfi).info;have hs0:¬i.size=0:=by rw[vJ];exact Ze9 ic
 simp only[aJ.run,Xk]at hr;split at hr<;>first|(cases hr;done)|skip
 .simp only[H5]at hr;subst hr;obtain⟨aW,he⟩:=hv.qR;refine .pure (x:= .pointer (some ⟨(ρ _).aT,(ρ _).base+(_+off),none⟩)) ?_ (.ptr _ _ aW);simp at hg;simp[execOp,ho,he,Instr.fieldAt,bD hd,hg,Instr.sureAddr,fieldPlace,Fu,mQ hi,hs0,uN,vI,Zk3]
 .simp only[H5]at hr;subst hr;obtain⟨es,aT,base,cell,he,h1,h2,h3⟩:=hv.QI;rename_i Cw i' j';refine .pure (x:= .pointer (some ⟨aT,base+i'*es+(j'+off),none⟩)) ?_ (.fp _ _ _ es aT base cell h1 h2 h3);simp at hg;simp[execOp,ho,he,Instr.fieldAt,bD hd,hg,Instr.sureAddr,fieldPlace,Fu,mQ hi,hs0,uN,vI,Zk3]
theorem mT{ρ:Pos->Loc}{n:Nat}{C:Cells}{v:AV}{x:Value}{i:Nat}(h:aG ρ n C v x)(hi:Ao v=some i):∃k,x= .int k (i:Int):=by
 unfold Ao at hi;split at hi<;>first|(cases hi;done)|skip
 split at hi<;>first|(cases hi;done)|skip
 simp only[H5]at hi;subst hi;exact⟨_,h.iU⟩
theorem agJ(hT:dK P tt)(t:TypeId)(x ix:Operand):fN P tt (.indexAddr t x ix):=by
 intro ρ C st w k xs cls fr a o vs res ho hc hW hF hx hr;simp only[kD]at hc;split at hc<;>first|(cases hc;done)|skip
 rename_i ti l fR hl;obtain⟨d,hd,dW⟩:=(hT.at fR).und;obtain⟨u,v,rfl,h1,h2⟩:=aeH hl hF (by
   split at hc<;>first|(cases hc;done)|skip
   all_goals
     (split at hc<;>first|(cases hc;done)|skip);cases hc;exact hx)
 split at hc<;>first|(cases hc;done)|skip
 . rename_i e hk;rw[hk]at dW;rw[ue dW]at hd;(split at hc<;>first|(cases hc;done)|skip);rename_i te pF;cases hc;obtain⟨i0,tu,vJ,_⟩:=(hT.at pF).info;simp only[aJ.run,sU]at hr;(split at hr<;>first|(cases hr;done)|skip);rename_i i hi;obtain⟨kk,Fv⟩:=mT h2 hi;split at hr<;>first|(cases hr;done)|skip
   .rename_i b off len cap es' _;(split at hr<;>first|(cases hr;done)|skip);rename_i aW;have aW:i<len:=(by simpa using aW);simp only[H5]at hr;subst hr;obtain⟨aa,bG,he,hle,_,ha⟩:=h1.gU;obtain⟨hb,rfl,_⟩:=ha (by omega);refine .pure (x:= .pointer (some ⟨(ρ b).aT,(ρ b).base+(off+i*te.size),none⟩)) ?_ (.ptr _ _ hb);simp[execOp,ho,he,Fv,Instr.indexAt,bD hd,asIntOf,aW,mQ tu,uN,vJ,Zk3]
   .rename_i Cw es' _;(split at hr<;>first|(cases hr;done)|skip);rename_i aW eG;have aW:i<Cw.length:=(by simpa using aW);have eG:te.size=es':=Za8 eG;simp only[H5]at hr;subst hr;obtain⟨aa,bG,cell,he,hle,A4,g1,g2,g3⟩:=h1.yJ;have A4:=A4 (by intro e;rw[e]at aW;simp at aW);obtain⟨ab,ao,asp⟩:=aa;simp only at A4;subst A4;refine .pure (x:= .pointer (some ⟨ab,ao+i*es'+0,none⟩)) ?_ (.fp _ _ _ es' ab ao cell g1 g2 g3);simp[execOp,ho,he,Fv,Instr.indexAt,bD hd,asIntOf,aW,mQ tu,uN,vJ,eG]
   .rename_i hh;cases hh
 . rename_i m e hk;rw[hk]at dW;rw[ahM dW]at hd;(split at hc<;>first|(cases hc;done)|skip);rename_i te pF;cases hc;obtain⟨i0,tu,vJ,_⟩:=(hT.at pF).info;simp only[aJ.run,sU]at hr;(split at hr<;>first|(cases hr;done)|skip);rename_i i hi;obtain⟨kk,Fv⟩:=mT h2 hi;split at hr<;>first|(cases hr;done)|skip
   .rename_i hh;cases hh
   .rename_i hh;cases hh
   .rename_i m' b off hh;cases hh;(split at hr<;>first|(cases hr;done)|skip);rename_i aW;have aW:i<m:=(by simpa using aW);simp only[H5]at hr;subst hr;obtain⟨hb,he⟩:=h1.qR;refine .pure (x:= .pointer (some ⟨(ρ b).aT,(ρ b).base+(off+i*te.size),none⟩)) ?_ (.ptr _ _ hb);simp[execOp,ho,he,Fv,Instr.indexAt,bD hd,asIntOf,aW,mQ tu,uN,vJ,Zk3,Instr.sureAddr]
end
section
variable{P:Program}{tt:TT}
theorem an2(hT:dK P tt)(t:TypeId)(x:Operand)(f:Nat):fN P tt (.field t x f):=by
 intro ρ C st w k xs cls fr a o vs res ho hc hW hF hx hr;simp only[kD]at hc;split at hc<;>first|(cases hc;done)|skip
 rename_i ti b fR hb;split at hc<;>first|(cases hc;done)|skip
 rename_i fs hk;split at hc<;>first|(cases hc;done)|skip
 rename_i off ft nm hf;split at hc<;>first|(cases hc;done)|skip
 rename_i fi hfi;cases hc;obtain⟨v,rfl,hv⟩:=lW hb hF hx;obtain⟨d,hd,dW⟩:=(hT.at fR).und;rw[hk]at dW;obtain⟨gs,rfl,hm⟩:=Oq dW;obtain⟨g,hg,vI,Fu,_⟩:=SA hm hf;simp only at vI Fu;obtain⟨i,hi,vJ,_⟩:=(hT.at hfi).info;obtain⟨fd,hfd,hfk⟩:=(hT.at hfi).und;have yf:=abW hfk w hfd;simp only[aJ.run,Ss]at hr;split at hr<;>first|(cases hr;done)|skip
 rename_i cs;obtain⟨cx,he,hs⟩:=hv.Gc;simp at hg;split at hr
 . rename_i hn;(split at hr<;>first|(cases hr;done)|skip);rename_i u hu;simp only[H5]at hr;subst hr;rw[qZ]at hu;obtain⟨y,hy,Xt⟩:=hs.get hu;have al7:fi.k.isAgg=false:=by
     unfold Dj at hn;split at hn
     .cases hn
     .assumption
   rw[al7]at yf;refine .pure (x:=y) ?_ Xt;simp at hy;simp[execOp,ho,he,Instr.field,bD hd,hg,part,Fu,yf,asAgg,vI,hy]
 . rename_i m hn;simp only[H5]at hr;subst hr;have al7:fi.k.isAgg=true/\m=fi.size:=by
     unfold Dj at hn;split at hn
     .cases hn;exact⟨by assumption,rfl⟩
     .cases hn
   rw[al7.1]at yf;refine .pure (x:= .agg (cx.extract off (off+m))) ?_ (.QF ?_)
   .simp[execOp,ho,he,Instr.field,bD hd,hg,part,Fu,yf,asAgg,vI,mQ hi,vJ,al7.2]
   .have:=(hs.drop off).take m;simpa [Zp6,List.extract]using this
theorem an3(hT:dK P tt)(t:TypeId)(x ix:Operand):fN P tt (.index t x ix):=by
 intro ρ C st w k xs cls fr a o vs res ho hc hW hF hx hr;simp only[kD]at hc;split at hc<;>first|(cases hc;done)|skip
 rename_i ti l fR hl;split at hc<;>first|(cases hc;done)|skip
 rename_i hk;cases hc;obtain⟨u,v,rfl,h1,h2⟩:=aeH hl hF hx;obtain⟨d,hd,dW⟩:=(hT.at fR).und;rw[hk]at dW;rw[vG dW]at hd;simp only[aJ.run,ZP]at hr;split at hr<;>first|(cases hr;done)|skip
 rename_i s i hi;split at hr<;>first|(cases hr;done)|skip
 rename_i c hcx;simp only[H5]at hr;subst hr;obtain⟨bs,he,hs⟩:=h1.fM;obtain⟨kk,Fv⟩:=mT h2 hi;rw[qZ, <-hs,Zb3]at hcx;obtain⟨b,hb,hbc⟩:=Zf5.1 hcx;have eO:bs[i]? =some b:=by
  obtain⟨aW,vK⟩:=Za1.1 hb;have aqt:i<bs.size:=by rw[Zj1]at aW;exact aW
  rw[getElem?_pos bs i aqt];congr 1
 refine .pure (x:= .int .u8 (.ofNat c)) ?_ (.int _ _);simp[execOp,ho,he,Fv,Instr.index,bD hd,asIntOf,eO, <-hbc]
theorem aqy(hT:dK P tt)(t:TypeId)(x:Operand):fN P tt (.load t x):=by
 intro ρ C st w k xs cls fr a o vs res ho hc hW hF hx hr;simp only[kD]at hc;split at hc<;>first|(cases hc;done)|skip
 rename_i ti b fR hb;cases hc;obtain⟨v,rfl,hv⟩:=lW hb hF hx;obtain⟨d,hd,dW⟩:=(hT.at fR).und;obtain⟨i,hi,vJ,_⟩:=(hT.at fR).info;have yf:=abW dW w hd;have hn:(Dj ti=none/\ti.k.isAgg=false)\/(Dj ti=some ti.size/\ti.k.isAgg=true):=by unfold Dj;split<;>simp_all
 simp only[aJ.run,zK]at hr;split at hr<;>first|(cases hr;done)|skip
 . rename_i bb off;(split at hr<;>first|(cases hr;done)|skip);rename_i cs fz vK;obtain⟨_,he⟩:=hv.qR;rcases hn with⟨hn,hf⟩|⟨hn,hf⟩
   .rw[hn]at hr;rw[hf]at yf;simp only at hr;(split at hr<;>first|(cases hr;done)|skip);rename_i u hu;simp only[H5]at hr;subst hr;rw[qZ]at hu;obtain⟨y,hy,Xt⟩:=hW.cell vK hu;refine .pure (x:=y) ?_ Xt;simp[execOp,ho,he,Instr.loadAt,Instr.sureAddr,loadVar,yf,hy]
   .rw[hn]at hr;rw[hf]at yf;simp only at hr;(split at hr<;>first|(cases hr;done)|skip);rename_i us hu;simp only[H5]at hr;subst hr;obtain⟨ys,hy,Xt⟩:=hW.loadCells (P:=P) vK hu;refine .pure (x:= .agg ys.toArray) ?_ (.QF (by simpa using Xt));simp[execOp,ho,he,Instr.loadAt,Instr.sureAddr,loadVar,yf,mQ hi,vJ,hy]
 . rename_i Cw i' j';(split at hr<;>first|(cases hr;done)|skip);rename_i cs fB;rw[qZ]at fB;obtain⟨es,aT,base,cell,he,g1,g2,g3⟩:=hv.QI;rcases hn with⟨hn,hf⟩|⟨hn,hf⟩
   .rw[hn]at hr;rw[hf]at yf;simp only at hr;(split at hr<;>first|(cases hr;done)|skip);rename_i u hu;simp only[H5]at hr;subst hr;rw[qZ]at hu;have Dm:=(hW.eP _ _ (g2 _ _ _ _ fB hu)).1;refine .pure (x:=cell i' j') ?_ (g3 _ _ _ _ fB hu);simp[execOp,ho,he,Instr.loadAt,Instr.sureAddr,loadVar,yf,Dm]
   . rw[hn]at hr;rw[hf]at yf;simp only at hr;(split at hr<;>first|(cases hr;done)|skip);rename_i us hu;simp only[H5]at hr;subst hr;obtain⟨hus,hle⟩:=ade hu;have hlen:=SC hu;have eu:(loadCells ⟨aT,base+i'*es+j',none⟩ ti.size).run P w= .ok ((List.range ti.size).map λq=>cell i' (j'+q)).toArray w:=by
        (refine run_loadCells w _ _ _ λq hq=> ?_);rw[uN];have:cs[j'+q]? =some (cs[j'+q]'(by omega)):=H0 (by omega);rw[Zk3];exact(hW.eP _ _ (g2 _ _ _ _ fB this)).1
     refine .pure (x:= .agg ((List.range ti.size).map λq=>cell i' (j'+q)).toArray) ?_ (.QF ⟨by simp[hlen],λq u y hu' hy=> ?_⟩)
     .  simp[execOp,ho,he,Instr.loadAt,Instr.sureAddr,loadVar,yf,mQ hi,vJ,eu]
     .  have hq:q<ti.size:=(by rw[<-hlen];exact(Za1.1 hu').1);rw[hus,Ze1,Zb4 hq,Ze4]at hu';simp[hq]at hy;subst hy;exact g3 _ _ _ _ fB hu'
theorem aqz{x y:Value}{ρ:Pos->Loc}{n:Nat}{C:Cells}{u v r:AV}{w:World}{st:St}(h1:aG ρ n C u x)(h2:aG ρ n C v y)(hr:LP (λb=>st.heap.get b) st.next [u,v]=some (.val r)):
   ∃z,(Builtin.min2 x y).run P w= .ok z w/\aG ρ n C r z:=by
 simp only[LP]at hr;split at hr<;>first|(cases hr;done)|skip
 . simp only[H5,eZ.val.injEq]at hr;subst hr;rw[h1.iU,h2.iU];refine⟨_,rfl,?_⟩;rw[fH];split
   .rename_i h;rw[Zb4 (Zh7 h)];exact .int _ _
   .rename_i h;rw[Za7 (Zn2 h)];exact .int _ _
 . simp only[H5,eZ.val.injEq]at hr;subst hr;rename_i sa sb;obtain⟨bx,rfl,e1⟩:=h1.fM;obtain⟨bz,rfl,e2⟩:=h2.fM;have hh:(Op.stringOp .leq bx bz).run P w= .ok (.bool (aU sa sb||kH sa sb)) w:=by
     simp only[Op.stringOp,Sem.run_pure];rw[abX e1 e2,QK e1 e2]
   refine⟨_,by simp only[Builtin.min2,Sem.run_bind,hh,Result.andThen_ok,asBool,Sem.run_pure];rfl,?_⟩;split
   .rename_i h;rw[Zb4 h];exact .str _ _ e1
   .rename_i h;rw[Za7 (by rw[h];simp)];exact .str _ _ e2
theorem aqA{x y:Value}{ρ:Pos->Loc}{n:Nat}{C:Cells}{u v r:AV}{w:World}{st:St}(h1:aG ρ n C u x)(h2:aG ρ n C v y)(hr:LQ (λb=>st.heap.get b) st.next [u,v]=some (.val r)):
   ∃z,(Builtin.max2 x y).run P w= .ok z w/\aG ρ n C r z:=by
 simp only[LQ]at hr;split at hr<;>first|(cases hr;done)|skip
 . simp only[H5,eZ.val.injEq]at hr;subst hr;rw[h1.iU,h2.iU];refine⟨_,rfl,?_⟩;rw[fH];split
   .rename_i h;rw[Zb4 (Zh7 h)];exact .int _ _
   .rename_i h;rw[Za7 (Zn2 h)];exact .int _ _
 . simp only[H5,eZ.val.injEq]at hr;subst hr;rename_i sa sb;obtain⟨bx,rfl,e1⟩:=h1.fM;obtain⟨bz,rfl,e2⟩:=h2.fM;have hh:(Op.stringOp .geq bx bz).run P w= .ok (.bool (!aU sa sb)) w:=by
     simp only[Op.stringOp,Sem.run_pure];rw[abX e1 e2]
   refine⟨_,by simp only[Builtin.max2,Sem.run_bind,hh,Result.andThen_ok,asBool,Sem.run_pure];rfl,?_⟩;split
   .rename_i h;rw[Za7 (by rw[h];simp)];exact .str _ _ e2
   .rename_i h;rw[Zb4 (by rw[h];rfl)];exact .str _ _ e1
theorem pG(xs:Array Operand)(a:Act):xs.toList.map a.eval=(xs.map a.eval).toList:=by simp
end
section
variable{P:Program}{tt:TT}
theorem vs1{ρ:Pos->Loc}{n:Nat}{C:Cells}{bs:List AV}{x:Value}(h:aN ρ n C bs [x]):∃b,bs=[b]/\aG ρ n C b x:=by
 match bs,h with
 |[b],h=>exact⟨b,rfl,h.2 0 b x rfl rfl⟩
 |[],h=>have:=h.1;simp at this
 |_::_::_,h=>have:=h.1;simp at this
theorem vs2{ρ:Pos->Loc}{n:Nat}{C:Cells}{bs:List AV}{x y:Value}(h:aN ρ n C bs [x,y]):∃b c,bs=[b,c]/\aG ρ n C b x/\aG ρ n C c y:=by
 match bs,h with
 |[b,c],h=>exact⟨b,c,rfl,h.2 0 b x rfl rfl,h.2 1 c y rfl rfl⟩
 |[],h=>have:=h.1;simp at this
 |[_],h=>have:=h.1;simp at this
 |_::_::_::_,h=>have:=h.1;simp at this
theorem vs3{ρ:Pos->Loc}{n:Nat}{C:Cells}{bs:List AV}{x y z:Value}(h:aN ρ n C bs [x,y,z]):∃b c d,bs=[b,c,d]/\aG ρ n C b x/\aG ρ n C c y/\aG ρ n C d z:=by
 match bs,h with
 |[b,c,d],h=>exact⟨b,c,d,rfl,h.2 0 b x rfl rfl,h.2 1 c y rfl rfl,h.2 2 d z rfl rfl⟩
 |[],h=>have:=h.1;simp at this
 |[_],h=>have:=h.1;simp at this
 |[_,_],h=>have:=h.1;simp at this
 |_::_::_::_::_,h=>have:=h.1;simp at this
def Mu(x:Option Value)(i:Option Nat):Prop:=(x=none/\i=none)\/∃j k,i=some j/\x=some (.int k (j:Int))
theorem adg{ρ:Pos->Loc}{n:Nat}{C:Cells}{lo hi mx:Option Operand}{bs:List AV}{a:Act}{l h m:Option Nat}
   (hb:aN ρ n C bs ((Dk lo++Dk hi++Dk mx).map a.eval)) (hr:bounds lo.isSome hi.isSome mx.isSome bs=some (l,h,m)):
   Mu (lo.map a.eval) l/\Mu (hi.map a.eval) h/\Mu (mx.map a.eval) m/\(m.isSome=true->h.isSome=true):=by
 unfold bounds at hr
 cases lo<;>cases hi<;>cases mx<;>simp only[Zq2,Zq3,Dk,Ze2,Zd7,Zd8,Zd1,Zg9]at hb hr<;>
   first|(cases hr;done)|skip
 . cases bs with
   |cons b bs=>have:=hb.1;simp at this
   |nil=>simp at hr;obtain⟨rfl,rfl,rfl⟩:=hr;exact⟨.inl ⟨rfl,rfl⟩,.inl ⟨rfl,rfl⟩,.inl ⟨rfl,rfl⟩,λh=>by cases h⟩
 .obtain⟨b,rfl,h1⟩:=vs1 hb;simp only at hr;(split at hr<;>first|(cases hr;done)|skip);rename_i j hj;obtain⟨k,hk⟩:=mT h1 hj;simp at hr;obtain⟨rfl,rfl,rfl⟩:=hr;exact⟨.inl ⟨rfl,rfl⟩,.inr ⟨j,k,rfl,by simp[hk]⟩,.inl ⟨rfl,rfl⟩,λh=>by cases h⟩
 .obtain⟨b,c,rfl,h1,h2⟩:=vs2 hb;simp only at hr;(split at hr<;>first|(cases hr;done)|skip);rename_i j j' hj Ms;obtain⟨k,hk⟩:=mT h1 hj;obtain⟨k',pX⟩:=mT h2 Ms;simp at hr;obtain⟨rfl,rfl,rfl⟩:=hr;exact⟨.inl ⟨rfl,rfl⟩,.inr ⟨j,k,rfl,by simp[hk]⟩,.inr ⟨j',k',rfl,by simp[pX]⟩,λ_=>rfl⟩
 .obtain⟨b,rfl,h1⟩:=vs1 hb;simp only at hr;(split at hr<;>first|(cases hr;done)|skip);rename_i j hj;obtain⟨k,hk⟩:=mT h1 hj;simp at hr;obtain⟨rfl,rfl,rfl⟩:=hr;exact⟨.inr ⟨j,k,rfl,by simp[hk]⟩,.inl ⟨rfl,rfl⟩,.inl ⟨rfl,rfl⟩,λh=>by cases h⟩
 .obtain⟨b,c,rfl,h1,h2⟩:=vs2 hb;simp only at hr;(split at hr<;>first|(cases hr;done)|skip);rename_i j j' hj Ms;obtain⟨k,hk⟩:=mT h1 hj;obtain⟨k',pX⟩:=mT h2 Ms;simp at hr;obtain⟨rfl,rfl,rfl⟩:=hr;exact⟨.inr ⟨j,k,rfl,by simp[hk]⟩,.inr ⟨j',k',rfl,by simp[pX]⟩,.inl ⟨rfl,rfl⟩,λh=>by cases h⟩
 .obtain⟨b,c,d,rfl,h1,h2,h3⟩:=vs3 hb;simp only at hr;(split at hr<;>first|(cases hr;done)|skip);rename_i j j' j'' hj Ms hj'';obtain⟨k,hk⟩:=mT h1 hj;obtain⟨k',pX⟩:=mT h2 Ms;obtain⟨k'',hk''⟩:=mT h3 hj'';simp at hr;obtain⟨rfl,rfl,rfl⟩:=hr;exact⟨.inr ⟨j,k,rfl,by simp[hk]⟩,.inr ⟨j',k',rfl,by simp[pX]⟩,.inr ⟨j'',k'',rfl,by simp[hk'']⟩,λ_=>rfl⟩
theorem Fw(isS:Bool){len cap:Nat}{xl xh xm:Option Value}{l h m:Option Nat}(h1:Mu xl l)(h2:Mu xh h)(h3:Mu xm m)(hmh:m.isSome=true->h.isSome=true)
  (QM:l.getD 0<=h.getD len) (hhm:h.getD len<=m.getD cap) (hmc:m.getD cap<=cap) (w:World):
  (Instr.sliceBounds isS len cap xl xh xm).run P w= .ok (l.getD 0,h.getD len,m.getD cap) w:=by
 rcases h1 with⟨rfl,rfl⟩|⟨jl,kl,rfl,rfl⟩<;>rcases h2 with⟨rfl,rfl⟩|⟨jh,kh,rfl,rfl⟩<;>rcases h3 with⟨rfl,rfl⟩|⟨jm,km,rfl,rfl⟩<;>
  simp only[Zi3,Ze6,Zq2,Zq3]at QM hhm hmc hmh ⊢ <;>
  first
   |(simp at hmh;done)
   |simp[Instr.sliceBounds,Instr.sliceBound,asIntOf,QM,hhm,hmc,Int.ofNat_le]
theorem Ou{ρ:Pos->Loc}{n:Nat}{C:Cells}{b:Pos}{off es bG l h M:Nat}{aa:Addr}{al8:Option Nat}
   (ha:bG≠0->b.toNat<n/\aa=⟨(ρ b).aT,(ρ b).base+off,none⟩/\(ρ b).base+off+bG*es<=(ρ b).size)
   (h1:l<=h) (h2:h<=M) (h3:M<=bG) (hc:∀c,al8=some c->c=M - l) (hk:al8=none->b.toNat<n):
   aG ρ n C (.slice b (off+l*es) (h - l) al8 es) (.slice (if M=l then some aa else(some aa).map (·.add (l*es))) (h - l) (M - l)):=by
 by_cases hm:M=l
 .rw[Zb4 hm];exact .slice _ _ _ _ _ _ _ (by omega) hc (λh0=>absurd (by omega) h0) hk
 .rw[Za7 hm];obtain⟨hb,rfl,hle⟩:=ha (by omega);refine .slice _ _ _ _ _ _ _ (by omega) hc (λ_=>⟨hb,by show Addr.add _ _=_;rw[uN,Zk3],?_⟩) hk;have e1:l*es+(M - l)*es=M*es:=(by rw[<-Zj6];congr 1;omega);have e2:M*es<=bG*es:=Zh5 _ h3;omega
theorem an4(hT:dK P tt)(t:TypeId)(x:Operand)(lo hi mx:Option Operand):fN P tt (.slice t x lo hi mx):=by
 intro ρ C st w k xs cls fr a o vs res ho hc hW hF hx hr;simp only[kD]at hc;split at hc<;>first|(cases hc;done)|skip
 rename_i ti l0 fR hl;obtain⟨d,hd,dW⟩:=(hT.at fR).und;split at hc<;>first|(cases hc;done)|skip
 . rename_i hk;rw[hk]at dW;rw[vG dW]at hd;(split at hc<;>first|(cases hc;done)|skip);cases hc;have hv:=iY hl hF hx;simp only[Dk,Zd7,Zd8,Ze2,Zd1]at hv;simp only[aJ.run,Xj]at hr;(split at hr<;>first|(cases hr;done)|skip);rename_i u bs;(split at hr<;>first|(cases hr;done)|skip);rename_i s l h m' hb;(split at hr<;>first|(cases hr;done)|skip);rename_i h1 h2;have h1:=Zb5 h1;have h2:=Zb5 h2;simp only[H5]at hr;subst hr;obtain⟨y,ys,zY,hu,HF⟩:=hv.cons_inv;simp only[Zf8]at zY;obtain⟨rfl,rfl⟩:=zY;have vK:=adg (lo:=lo) (hi:=hi) (mx:=none) (a:=a) (by simpa [Dk]using HF) hb;obtain⟨bs',he,hs⟩:=hu.fM;have ic:=Mt hs
   have eu:=Fw (P:=P) false (len:=bs'.size) (cap:=bs'.size) vK.1 vK.2.1 (.inl ⟨rfl,rfl⟩:Mu none none) (λh=>by cases h)
     (by rw[ic];exact h1) (by rw[ic];simpa using h2) (by simp) w
   refine .pure (x:= .string (bs'.extract (l.getD 0) (h.getD bs'.size))) ?_ (.str _ _ ?_)
   .simp only[execOp,ho,Instr.sliceAt,Sem.run_bind,bD hd,Result.andThen_ok,he,Instr.slice];simp[eu]
   .rw[ic,ByteArray.data_extract,Zp6, <-hs,List.extract,Zr1,List.map_drop];rw[Zn8]
 . rename_i e hk;rw[hk]at dW;rw[ue dW]at hd;(split at hc<;>first|(cases hc;done)|skip);rename_i te pF;cases hc;obtain⟨i0,tu,vJ,_⟩:=(hT.at pF).info;have hv:=iY hl hF hx;simp only[Zd8,Ze2,Zf0,Zd1]at hv;simp only[aJ.run,iD]at hr;(split at hr<;>first|(cases hr;done)|skip);rename_i u bs;obtain⟨y,ys,zY,hu,HF⟩:=hv.cons_inv;simp only[Zf8]at zY;obtain⟨rfl,rfl⟩:=zY
   have vI:∀(sa:Option Addr)(len cap:Nat)(l h m:Option Nat),a.eval x= .slice sa len cap->bounds lo.isSome hi.isSome mx.isSome bs=some (l,h,m)->
        l.getD 0<=h.getD len->h.getD len<=m.getD cap->m.getD cap<=cap->
        (execOp a.eval o).run P w= .ok (.value (.slice (if m.getD cap=l.getD 0 then sa else sa.map (·.add (l.getD 0*te.size))) (h.getD len - l.getD 0) (m.getD cap - l.getD 0))) w:=by
     intro sa len cap l h m he hb h1 h2 h3;have vK:=adg (lo:=lo) (hi:=hi) (mx:=mx) (a:=a) (by simpa [Zf0]using HF) hb;have eu:=Fw (P:=P) true (len:=len) (cap:=cap) vK.1 vK.2.1 vK.2.2.1 vK.2.2.2 h1 h2 h3 w;simp only[execOp,ho,Instr.sliceAt,Sem.run_bind,bD hd,Result.andThen_ok,he,Instr.slice,eu,mQ tu,vJ,Sem.run_pure]
   split at hr<;>first|(cases hr;done)|skip
   ·
     rename_i b off len cap es' l h m hb;(split at hr<;>first|(cases hr;done)|skip);rename_i eG QM;have eG:te.size=es':=Za8 eG;subst eG;have QM:=Zb5 QM;obtain⟨aa,bG,he,hle,abY,ha⟩:=hu.gU;split at hr
     .  rename_i c m';(split at hr<;>first|(cases hr;done)|skip);rename_i e1 e2;have e1:=Zb5 e1;have e2:=Zb5 e2;have:=abY c rfl;subst this;simp only[H5]at hr;subst hr;exact .pure (vI _ _ _ _ _ _ he hb QM (by simpa using e1) (by simpa using e2)) (Ou ha QM e1 e2 (λc hc=>by cases hc;rfl) (λh=>by cases h))
     .  rename_i c;(split at hr<;>first|(cases hr;done)|skip);rename_i e1;have e1:=Zb5 e1;have:=abY c rfl;subst this;simp only[H5]at hr;subst hr;exact .pure (vI _ _ _ _ _ _ he hb QM (by simpa using e1) (by simp)) (Ou ha QM e1 (Za5 _) (λc hc=>by cases hc;rfl) (λh=>by cases h))
     .  rename_i m';(split at hr<;>first|(cases hr;done)|skip);rename_i e1 e2;have e1:=Zb5 e1;have e2:=Zb5 e2;simp only[H5]at hr;subst hr;exact .pure (vI _ _ _ _ _ _ he hb QM (by simpa using e1) (by simp;omega)) (Ou ha QM e1 (by simp;omega) (λc hc=>by cases hc;rfl) (λh=>by cases h))
     .  (split at hr<;>first|(cases hr;done)|skip);rename_i e1;have e1:=Zb5 e1;simp only[H5]at hr;subst hr;exact .pure (vI _ _ _ _ _ _ he hb QM (by simp;omega) (by simp)) (Ou ha QM (by simp;omega) (Za5 _) (λc hc=>by cases hc) (λ_=>hu.afJ rfl))
   ·
     rename_i Cw es' l h m hb;(split at hr<;>first|(cases hr;done)|skip);rename_i eG;have eG:te.size=es':=Za8 eG;subst eG;obtain⟨aa,bG,cell,he,hle,A4,g1,g2,g3⟩:=hu.yJ;split at hr
     .  rename_i m';(split at hr<;>first|(cases hr;done)|skip);rename_i e0 e1 e2;have e0:=Za8 e0;have e1:=Za8 e1;have e2:=Za8 e2;subst e2;simp only[H5]at hr;subst hr;refine .pure (vI _ _ _ _ _ _ he hb (by omega) (by rw[e1];simp) (by simp)) ?_;simp only[e0,e1,Ze6,Zk7,Zh6];exact .slice _ _ _ _ _ _ _ (Za5 _) (λc hc=>by cases hc;rfl) (λh0=>absurd rfl h0) (λh=>by cases h)
     .  (split at hr<;>first|(cases hr;done)|skip);rename_i e0 e1;have e0:=Zb5 e0;have e1:=Zb5 e1;simp only[H5]at hr;subst hr;refine .pure (vI _ _ _ _ _ _ he hb e0 (by simp;omega) (by simp)) ?_;simp only[Zi3];have hlen:(List.drop (l.getD 0) (List.take (h.getD Cw.length) Cw)).length=h.getD Cw.length - l.getD 0:=(by simp;omega);rw[<-hlen];have SB:∀i cs,(List.drop (l.getD 0) (List.take (h.getD Cw.length) Cw))[i]? =some cs->Cw[l.getD 0+i]? =some cs:=by
          intro i cs hi;rw[Ze4,Ze1]at hi;split at hi
          .exact hi
          .cases hi
        by_cases hcl:bG=l.getD 0
        .rw[Zb4 hcl];have hemp:List.drop (l.getD 0) (List.take (h.getD Cw.length) Cw)=[]:=(by apply Zc4;rw[hlen];omega);rw[hemp];exact .fl _ _ _ _ (λ_ _=>undef) (by simp) (λh=>absurd rfl h) (λi cs hi=>by simp at hi) (λi j cs v hi=>by simp at hi) (λi j cs v hi=>by simp at hi)
        . rw[Za7 hcl];by_cases dP:Cw=[]
          .subst dP;simp only[List.take_nil,List.drop_nil];exact .fl _ _ _ _ (λ_ _=>undef) (by simp) (λh=>absurd rfl h) (λi cs hi=>by simp at hi) (λi j cs v hi=>by simp at hi) (λi j cs v hi=>by simp at hi)
          .have A4:=A4 dP;obtain⟨ab,ao,asp⟩:=aa;simp only at A4;subst A4;simp only[Ze5,uN];refine .fl _ _ _ _ (λi j=>cell (l.getD 0+i) j) (by rw[hlen];omega) (λ_=>rfl) (λi cs hi=>g1 _ _ (SB i cs hi)) (λi j cs v hi hj=> ?_) (λi j cs v hi hj=>g3 _ _ _ _ (SB i cs hi) hj);have:=g2 _ _ _ _ (SB i cs hi) hj;simp only at this ⊢;rw[<-this];congr 2;rw[Zj6];omega
   ·
     rename_i l h m hb;(split at hr<;>first|(cases hr;done)|skip);rename_i e0 e1 e2;have e0:=Za8 e0;have e1:=Za8 e1;have e2:=Za8 e2;simp only[H5]at hr;subst hr;have he:=hu.jI;refine .pure (vI _ _ _ _ _ _ he hb (by omega) (by omega) (by omega)) ?_;simp only[e0,e1,e2,Zk7,Zh6];exact .af
end
section
variable{P:Program}{tt:TT}
theorem aa3{ρ:Pos->Loc}{n:Nat}{C:Cells}:∀{l:List AV}{s:List Nat}{ys:List Value},bytesOf l=some s->aN ρ n C l ys->
  ys=(s.map Int.ofNat).map (Value.int .u8)/\∀c,c∈s->c<256
 |[],s,ys,h,hv=>by
  simp[bytesOf]at h;subst h;exact⟨by simpa using hv.qQ,λc hc=>by simp at hc⟩
 |v ::l,s,ys,h,hv=>by
  unfold bytesOf at h;split at h<;>first|(cases h;done)|skip
  .rename_i h0;simp at h0
  . rename_i c l' he;simp only[Zf8]at he;obtain⟨rfl,rfl⟩:=he;(split at h<;>first|(cases h;done)|skip);rename_i s' aW rf;simp only[H5]at h;subst h;obtain⟨y,ys',rfl,h1,h2⟩:=hv.cons_inv;obtain⟨e,pR⟩:=aa3 rf h2;have aW:c<256:=(by simpa using aW);refine⟨by rw[h1.iU,e];rfl,λc' hc=> ?_⟩;simp at hc;rcases hc with rfl|hc
    .exact aW
    .exact pR _ hc
theorem Ov:∀(s:List Nat)(acc:ByteArray),((s.map Int.ofNat).foldl (λr n=>r.push (UInt8.ofNat n.toNat)) acc).data.toList=acc.data.toList++s.map UInt8.ofNat
 |[],acc=>by simp
 |c::s,acc=>by
  simp only[Zd1,Zs1];rw[Ov s];simp[ByteArray.push]
theorem akn(hT:dK P tt)(src dst:TypeId)(x:Operand):fN P tt (.convert src dst x):=by
 intro ρ C st w k xs cls fr a o vs res ho hc hW hF hx hr;simp only[kD]at hc;split at hc<;>first|(cases hc;done)|skip
 rename_i s d b hs hd hb;obtain⟨ds,QN,hks⟩:=(hT.at hs).und;obtain⟨dd,hdd,dW⟩:=(hT.at hd).und;split at hc<;>first|(cases hc;done)|skip
 . rename_i k1 k2 h1 h2;cases hc;obtain⟨v,rfl,hv⟩:=lW hb hF hx;rw[h1]at hks;rw[h2]at dW;rw[Xp hks]at QN;rw[Xp dW]at hdd;simp only[aJ.run,Gb]at hr;split at hr<;>first|(cases hr;done)|(rename_i heq;cases heq;done)|(rename_i heq;cases heq)
   simp only[H5]at hr;subst hr;refine .pure ?_ (by rw[yK];exact .int _ _);simp[execOp,ho,hv.iU,convert,bD QN,bD hdd,Conv.intToInt]
 . rename_i h1 h2;cases hc;obtain⟨v,rfl,hv⟩:=lW hb hF hx;rw[h1]at hks;rw[h2]at dW;rw[vG hks]at QN;rw[vG dW]at hdd;simp only[aJ.run,Gb]at hr;split at hr<;>first|(cases hr;done)|(rename_i heq;cases heq;done)|(rename_i heq;cases heq)
   simp only[H5]at hr;subst hr;obtain⟨bs,he,hs⟩:=hv.fM;exact .pure (x:= .string bs) (by simp[execOp,ho,he,convert,bD QN,bD hdd]) (.str _ _ hs)
 . rename_i e h1 h2;(split at hc<;>first|(cases hc;done)|skip);rename_i te pF;(split at hc<;>first|(cases hc;done)|skip);rename_i hk8;cases hc;obtain⟨v,rfl,hv⟩:=lW hb hF hx;rw[h1]at hks;rw[h2]at dW;rw[ue hks]at QN;rw[vG dW]at hdd;obtain⟨de,hde,hke⟩:=(hT.at pF).und;rw[hk8]at hke;rw[Xp hke]at hde;have vI:∀y:Option Addr×Nat×Nat,a.eval x= .slice y.1 y.2.1 y.2.2->(execOp a.eval o).run P w=((Conv.bytesToString (a.eval x)).run P w).andThen λv w=>.ok (.value v) w:=by
     intro y he;simp[execOp,ho,he,convert,bD QN,bD hdd,bD hde]
   simp only[aJ.run,Gb]at hr;split at hr<;>first|(cases hr;done)|(rename_i heq;cases heq;done)|(rename_i heq;cases heq)
   .simp only[H5]at hr;subst hr;have he:=hv.jI;refine .pure (x:= .string .empty) ?_ (.str _ _ rfl);rw[vI (none,0,0) he,he];simp[Conv.bytesToString]
   . rename_i bb off m cap es;obtain⟨aa,bG,he,hle,_,ha⟩:=hv.gU;split at hr
     .  rename_i h0;have:=Za8 h0;subst this;simp only[H5]at hr;subst hr;refine .pure (x:= .string .empty) ?_ (.str _ _ rfl);rw[vI (some aa,0,bG) he,he];simp[Conv.bytesToString,loadCells,loadCellsFrom]
     .  (rename_i h0;have h0:=Ze9 h0;(split at hr<;>first|(cases hr;done)|skip);rename_i cs fz vK;(split at hr<;>first|(cases hr;done)|skip);rename_i l hcut;(split at hr<;>first|(cases hr;done)|skip);rename_i s' avk;simp only[H5]at hr;subst hr;obtain⟨aW,rfl,_⟩:=ha (by omega);obtain⟨ys,zY,Dl⟩:=hW.loadCells (P:=P) vK hcut;obtain⟨e1,e2⟩:=aa3 avk Dl;rw[e1]at zY;have eu:=run_bytesToString (P:=P) w ⟨(ρ bb).aT,(ρ bb).base+off,none⟩ m bG (s'.map Int.ofNat) zY;refine .pure (x:= .string _) (by rw[vI (some _,m,bG) he,he,eu];rfl) (.str _ _ ?_);rw[Ov,Zc8];have e0:ByteArray.empty.data.toList=[]:=rfl;rw[e0,Zg9,Ze2,Zg3];have e3:s'.map (UInt8.toNat∘UInt8.ofNat)=s'.map id:=Zi5 λc hc=>by have:=e2 c hc;simp only[Function.comp,id,UInt8.toNat_ofNat'];omega);rw[e3,Zs5]
theorem QO{t:TypeId}{d:TypeDesc}(hd:P.underlying t=some d){pk:PK}(hk:pk.fits d=true)(e:Bool)(m:Nat)(x:Value)(w:World):
  (Instr.checkKey e (m+1) t x).run P w= .ok () w:=by
 unfold Instr.checkKey;rw[Sem.run_bind,bD hd,Result.andThen_ok];cases pk<;>cases d<;>simp[PK.fits]at hk<;>rfl
theorem aa4{ρ:Pos->Loc}{n:Nat}{C:Cells}{pk:PK}{d:TypeDesc}(hk:pk.fits d=true){u v:AV}{x y:Value}{r:Bool}
   (h1:aG ρ n C u x) (h2:aG ρ n C v y) (h:yE pk u v=some r):Instr.sameNow d x y=some r:=by
 unfold yE at h;split at h<;>first|(cases h;done)|skip
 .simp only[H5]at h;subst h;cases d<;>simp[PK.fits]at hk;rw[h1.lC,h2.lC];rfl
 . (split at h<;>first|(cases h;done)|skip);rename_i Ot;have:=Cx Ot;subst this;simp only[H5]at h;subst h;cases d<;>simp[PK.fits]at hk;rw[h1.iU,h2.iU];simp[Instr.sameNow,mR]
 .simp only[H5]at h;subst h;cases d<;>simp[PK.fits]at hk;obtain⟨bx,rfl,e1⟩:=h1.fM;obtain⟨bz,rfl,e2⟩:=h2.fM;simp only[Instr.sameNow];rw[beq_toListBytes,QK e1 e2]
def Ox(ρ:Pos->Loc)(n:Nat)(C:Cells)(es:List (AV×AV×Nat))(es':List MapEntry):Prop:=
 es.length=es'.length/\∀(i:Nat)(e:AV×AV×Nat)(e':MapEntry),es[i]? =some e->es'[i]? =some e'->aG ρ n C e.1 e'.key/\aG ρ n C e.2.1 e'.val/\e.2.2=e'.born
theorem HG{ρ:Pos->Loc}{n:Nat}{C:Cells}{pk:PK}{d:TypeDesc}(hk:pk.fits d=true){u:AV}{x:Value}(hu:aG ρ n C u x):
  ∀{es:List (AV×AV×Nat)}{es':List MapEntry}{i:Nat}{r:Option (Nat×AV)},Ox ρ n C es es'->gX pk u es i=some r->
  ∃r',Instr.findNow d x es' i=some r'/\((r=none/\r'=none)\/∃j v y,r=some (j,v)/\r'=some (j,y)/\aG ρ n C v y/\i<=j/\j<i+es.length)
 |[],es',i,r,he,h=>by
  simp[gX]at h;subst h;cases es' with
  |nil=>exact⟨none,rfl,.inl ⟨rfl,rfl⟩⟩
  |cons e es'=>have:=he.1;simp at this
 |(k',v,born)::es,es',i,r,he,h=>by
  cases es' with
  |nil=>have:=he.1;simp at this
  |cons e' es'=>
   have h0:=he.2 0 (k',v,born) e' rfl rfl;have sw:Ox ρ n C es es':=⟨by have:=he.1;simpa using this,λj e e' h1 h2=>he.2 (j+1) e e' (by simpa using h1) (by simpa using h2)⟩
   unfold gX at h;split at h<;>first|(cases h;done)|skip
   .    rename_i hq;simp only[H5]at h;subst h;refine⟨some (i,e'.val),by simp[Instr.findNow,aa4 hk hu h0.1 hq],.inr ⟨i,v,e'.val,rfl,rfl,h0.2.1,Za5 _,by simp⟩⟩
   .    rename_i hq;obtain⟨r',h1,h2⟩:=HG hk hu sw h;refine⟨r',by simp[Instr.findNow,aa4 hk hu h0.1 hq,h1],?_⟩;rcases h2 with h2|⟨j,v',y,e1,e2,e3,e4,e5⟩
        .exact .inl h2
        .exact .inr ⟨j,v',y,e1,e2,e3,by omega,by simp;omega⟩
theorem run_findKey{t:TypeId}{d:TypeDesc}(hd:P.underlying t=some d){x:Value}{es:List MapEntry}{r:Option (Nat×Value)}(h:Instr.findNow d x es 0=some r)(w:World):
  (Instr.findKey t x es).run P w= .ok r w:=by
 simp[Instr.findKey,bD hd,h]
theorem run_getObj_map{r:Nat}{es:Array MapEntry}{c:Nat}{w:World}(h:w.heap[r]? =some (.map es c)):(getObj r).run P w= .ok (.map es c) w:=by
 simp[getObj,Sem.run,h]
theorem asZ(k:TK){d:TypeDesc}(h:cL k d=true){pk:PK}(hp:(k= .bool/\pk= .b)\/((∃i,k= .int i)/\pk= .i)\/(k= .string/\pk= .s)):pk.fits d=true:=by
 rcases hp with⟨rfl,rfl⟩|⟨⟨i,rfl⟩,rfl⟩|⟨rfl,rfl⟩
 .rw[aeG h];rfl
 .rw[Xp h];rfl
 .rw[vG h];rfl
theorem Gh(hT:dK P tt){t:Nat}{ti:TI}(ht:tt.get (key t)=some ti){z:List AV}(hz:ti.zero=some z){ρ:Pos->Loc}{n:Nat}{C:Cells}(w:World):
   ∃v,(zeroValue t).run P w= .ok v w/\aG ρ n C (kD.QC ti z) v/\aN ρ n C z v.cells.toList:=by
 obtain⟨i,hi,vJ,_,Oy⟩:=(hT.at ht).info;obtain⟨v,hv,hs,hlen,h1,h2⟩:=Oy z hz;refine⟨v,aqr hi hv w,?_,xp hs⟩;unfold kD.QC;split
 .rename_i ha;obtain⟨cs,rfl⟩:=h1 ha;exact .QF (xp hs)
 .rename_i ha;have hc:=h2 ha;rw[hc]at hs;simp only[tq]at hs;(split at hs<;>first|(cases hs;done)|skip);rename_i a as e1 e2;simp only[H5]at hs e2;subst hs;subst e2;simp only;exact Mr e1
theorem al9(hT:dK P tt)(t:TypeId)(x ix:Operand)(ok:Bool):fN P tt (.lookup t x ix ok):=by
 intro ρ C st w k xs cls fr a o vs res ho hc hW hF hx hr;simp only[kD]at hc;split at hc<;>first|(cases hc;done)|skip
 rename_i ti l fR hl;split at hc<;>first|(cases hc;done)|skip
 rename_i kt et hk;split at hc<;>first|(cases hc;done)|skip
 rename_i tk te htk pF;obtain⟨d,hd,dW⟩:=(hT.at fR).und;rw[hk]at dW;rw[Xo dW]at hd;obtain⟨dk,hdk,Ot⟩:=(hT.at htk).und;have key:∃pk z,te.zero=some z/\k= .lookup pk (kD.QC te z) ok/\xs=l/\cls= .read/\pk.fits dk=true:=by
  split at hc<;>first|(cases hc;done)|skip
  all_goals
    rename_i z h1 h2;cases hc;refine⟨_,z,h2,rfl,rfl,rfl,asZ tk.k Ot ?_⟩
  .exact .inr (.inl ⟨⟨_,h1⟩,rfl⟩)
  .exact .inr (.inr ⟨h1,rfl⟩)
  .exact .inl ⟨h1,rfl⟩
 obtain⟨pk,z,hz,rfl,rfl,rfl,Gg⟩:=key;obtain⟨m,kk,rfl,h1,h2⟩:=aeH hl hF hx;obtain⟨zv,Ve,hzr,_⟩:=Gh hT pF hz (ρ:=ρ) (n:=st.next.toNat) (C:=C) w;have hck:∀e,(Instr.checkKey e 10000 kt (a.eval ix)).run P w= .ok () w:=λe=>QO hdk Gg e 9999 _ w
 simp only[aJ.run,lU]at hr;split at hr<;>first|(cases hr;done)|skip
 ·
  rename_i j v hm;simp only[H5]at hr;subst hr;split at hm<;>first|(cases hm;done)|skip
  .split at hm<;>first|(cases hm;done)|(simp at hm;done)
  . rename_i b;(split at hm<;>first|(cases hm;done)|skip);rename_i es c hb;obtain⟨_,he⟩:=h1.Cy;obtain⟨_,_,es',eG,hlen,pR⟩:=hW.live _ _ hb;have hE:Ox ρ st.next.toNat C es es'.toList:=⟨by simpa using hlen,λi e e' h1 h2=>pR i e e' h1 (by simpa using h2)⟩
    obtain⟨r',hf,oa⟩:=HG Gg h2 hE hm;rcases oa with⟨e1,_⟩|⟨j',v',y,e1,e2,e3,_⟩
    .   cases e1
    .   cases e1;subst e2;have eu:(execOp a.eval o).run P w= .ok (.value (if ok then .tuple #[y,.bool true]else y)) w:=by
          simp only[execOp,ho,Instr.lookup,Sem.run_bind,bD hd,Result.andThen_ok,he,run_getObj_map eG,hck,run_findKey hdk hf,Sem.run_pure]
        refine .pure eu ?_;cases ok
        .exact e3
        .exact .yG (aN.cons e3 (aN.cons (.bool true) aN.nil))
 ·
  rename_i hm;simp only[H5]at hr;subst hr;have eu:(execOp a.eval o).run P w= .ok (.value (if ok then .tuple #[zv,.bool false]else zv)) w:=by
    split at hm<;>first|(cases hm;done)|skip
    .   (split at hm<;>first|(cases hm;done)|skip);have he:=h1.Gf;have hf:(Instr.findKey kt (a.eval ix) []).run P w= .ok none w:=run_findKey hdk rfl w;simp only[execOp,ho,Instr.lookup,Sem.run_bind,bD hd,Result.andThen_ok,he,hck,hf,Ve,Sem.run_pure]
    .   rename_i b;(split at hm<;>first|(cases hm;done)|skip);rename_i es c hb;obtain⟨_,he⟩:=h1.Cy;obtain⟨_,_,es',eG,hlen,pR⟩:=hW.live _ _ hb;have hE:Ox ρ st.next.toNat C es es'.toList:=⟨by simpa using hlen,λi e e' h1 h2=>pR i e e' h1 (by simpa using h2)⟩
        obtain⟨r',hf,oa⟩:=HG Gg h2 hE hm;rcases oa with⟨_,e2⟩|⟨j',v',y,e1,_⟩
        .subst e2;simp only[execOp,ho,Instr.lookup,Sem.run_bind,bD hd,Result.andThen_ok,he,run_getObj_map eG,hck,run_findKey hdk hf,Ve,Sem.run_pure]
        .cases e1
  refine .pure eu ?_;cases ok
  .exact hzr
  .exact .yG (aN.cons hzr (aN.cons (.bool false) aN.nil))
end
section
variable{P:Program}{tt:TT}
theorem Mw:∀(l:List Value)(off k:Nat)(cs:Array Value),off+k+l.length<=cs.size->
  ((l.zipIdx k).foldl (λcs (c,j)=>cs.setIfInBounds (off+j) c) cs).toList=bf cs.toList (off+k) l
 |[],off,k,cs,_=>by simp[bf,Zm1]
 |v::l,off,k,cs,h=>by
  simp only[Zc7]at h;simp only[List.zipIdx_cons,Zs1];rw[Mw l off (k+1) _ (by simp;omega)];simp only[bf,Zc7,Zq1];rw[Zp9 (by omega)];have:off+(k+1)=(off+k)+1:=by omega
  rw[this,List.take_set,List.take_add_one];have aW:off+k<cs.toList.length:=by simp;omega
  rw[H0 aW];simp only[Option.toList_some,List.set_append,Zf1];have hm:min (off+k) cs.toList.length=off+k:=Zj5 (Zn7 aW);rw[hm,Za7 (Zp3 _),Zk7];simp;rw[show off+k+1+l.length=off+k+(l.length+1)from by omega]
theorem abZ{ρ:Pos->Loc}{n:Nat}{C:Cells}(pl:Nat->Option (Nat×Nat)):∀{pp:List (Nat×Nat)}{vs cells r:List AV}{ps:List (Nat×Value)}{cs:Array Value},
  cS cells pp vs=some r->aN ρ n C cells cs.toList->aN ρ n C vs (ps.map (·.2))->ps.map (λx=>pl x.1)=pp.map some->
  ∃nK,Instr.fill pl cs ps=some nK/\aN ρ n C r nK.toList
 |[],vs,cells,r,ps,cs,h,hc,hv,hp=>by
  unfold cS at h;split at h<;>first|(cases h;done)|skip
  .simp only[H5]at h;subst h;have:ps=[]:=(by simpa using hv.qQ);subst this;exact⟨cs,rfl,hc⟩
  .rename_i hh;cases hh
 |(off  ,size)::pp,vs,cells,r,ps,cs,h,hc,hv,hp=>by
  unfold cS at h;split at h<;>first|(cases h;done)|skip
  .rename_i hh;cases hh
  . rename_i off' size' pp' v vs' hh;simp only[Zf8,Zd3]at hh;obtain⟨⟨rfl,rfl⟩,rfl⟩:=hh;(split at h<;>first|(cases h;done)|skip);rename_i h1 h2;have h1:=Za8 h1;have h2:=Zb5 h2;cases ps with
    |nil=>have:=hv.1;simp at this
    |   cons p ps=>
        obtain⟨i,x⟩:=p;simp only[Zd1,Zf8]at hp hv;obtain⟨kF,HJ⟩:=hp;obtain⟨y,ys,zY,hx,Dl⟩:=hv.cons_inv;simp only[Zf8]at zY;obtain⟨rfl,rfl⟩:=zY;have hxc:=hx.cells;have hlen:x.cells.size=size:=(by rw[<-h1,hxc.1];simp);have ic:off+size<=cs.size:=(by have:=hc.1;simp at this;omega);have awd:(x.cells.zipIdx.foldl (λcs (c,j)=>cs.setIfInBounds (off+j) c) cs).toList=bf cs.toList off x.cells.toList:=(by rw[<-Array.foldl_toList,Array.toList_zipIdx];have:=Mw x.cells.toList off 0 cs (by simp;omega);simpa using this);obtain⟨nK,e1,e2⟩:=abZ pl h (cs:=x.cells.zipIdx.foldl (λcs (c,j)=>cs.setIfInBounds (off+j) c) cs) (by rw[awd];exact hc.bf hxc off) Dl HJ;refine⟨nK,?_,e2⟩;simp only[Instr.fill,kF];rw[Za7 (by simp[hlen];omega)];exact e1
theorem Vf(hT:dK P tt){gs:Array Field}(w:World):∀{fs:List (Nat×Nat×Bool)}(_hm:cL.fI fs gs.toList=true){is:List Nat}{pp:List (Nat×Nat)}
  (_h:kD.places tt fs is=some pp) {Xu:List (Nat×Nat)} (_hpl:∀(i:Nat)(f:Field)(inf:TypeInfo),gs.toList[i]? =some f->P.info? f.type=some inf->Xu[i]? =some (f.offset,inf.size)),
  is.map (λi=>Xu[i]?)=pp.map some
 |fs,hm,[],pp,h,Xu,zZ=>by simp[kD.places]at h;subst h;rfl
 |fs,hm,i::is,pp,h,Xu,zZ=>by
  unfold kD.places at h;split at h<;>first|(cases h;done)|skip
  rename_i off t nm l h1 h2;split at h<;>first|(cases h;done)|skip
  rename_i ti hti;simp only[H5]at h;subst h;obtain⟨f,hf,e1,e2,_⟩:=SA hm h1;obtain⟨inf,ahR,ic,_⟩:=(hT.at hti).info;simp only at e1 e2;have:=zZ i f inf hf (by rw[e2];exact ahR);simp only[Zd1,this,e1,ic];rw[Vf hT w hm h2 zZ]
theorem adh(hT:dK P tt):∀{fs:List (Nat×Nat×Bool)}{gs:List Field}(_hm:cL.fI fs gs=true)(_ha:kD.ahm tt fs=true),
  ∃Xu:List (Nat×Nat),gs.mapM (λf=>(P.info? f.type).map λi=>(f.offset,i.size))=some Xu/\
   ∀(i:Nat)(f:Field)(inf:TypeInfo),gs[i]? =some f->P.info? f.type=some inf->Xu[i]? =some (f.offset,inf.size)
 |[],gs,hm,ha=>by
  cases gs with
  |cons g gs=>simp[cL.fI]at hm
  |nil=>exact⟨[],rfl,λi f inf h=>by simp at h⟩
 |(off,t,nm)::fs,gs,hm,ha=>by
  cases gs with
  |nil=>simp[cL.fI]at hm
  |cons g gs=>
   simp[cL.fI]at hm;unfold kD.ahm at ha;(split at ha<;>first|(cases ha;done)|skip);rename_i ti hti;obtain⟨inf,ahR,_⟩:=(hT.at hti).info;obtain⟨Xu,h1,h2⟩:=adh hT hm.2 ha;rw[hm.1.1.2]at ahR;refine⟨(g.offset,inf.size)::Xu,by simp[ahR,h1],λi f inf' hi hf=> ?_⟩;cases i with
   |zero=>simp at hi;subst hi;rw[ahR]at hf;cases hf;rfl
   |succ i=>simp at hi ⊢; exact h2 i f inf' hi hf
theorem an5(hT:dK P tt)(t:TypeId)(ps:Array (Nat×Operand)):fN P tt (.build t ps):=by
 intro ρ C st w k xs cls fr a o vs res ho hc hW hF hx hr;simp only[kD]at hc;split at hc<;>first|(cases hc;done)|skip
 rename_i ti l fR hl;obtain⟨d,hd,dW⟩:=(hT.at fR).und;obtain⟨it,hit,_,_,Oy⟩:=(hT.at fR).info
 have vI:∀(pp:List (Nat×Nat))(z:List AV)(pl:Nat->Option (Nat×Nat)),ti.zero=some z->k= .build z pp->xs=l->ps.toList.map (λx=>pl x.1)=pp.map some->
    (∀(v:Value)(parts:List (Nat×Value))(cells:Array Value),it.zero=some v->Instr.fill pl v.cells parts=some cells->P.built t parts=some cells)->
    Hv P ρ C st w ((execOp a.eval o).run P w) res:=by
   rintro pp z pl hz rfl rfl hpp avl;have hv:=iY hl hF hx;obtain⟨v,hv0,hs,_⟩:=Oy z hz;simp only[aJ.run,So]at hr;(split at hr<;>first|(cases hr;done)|skip);rename_i cs Dp;simp only[H5]at hr;subst hr;have hzr:aN ρ st.next.toNat C z v.cells.toList:=xp hs;have hps:(ps.map λ(i,x)=>(i,a.eval x)).toList=ps.toList.map λx=>(x.1,a.eval x.2):=(by simp);obtain⟨nK,e1,e2⟩:=abZ pl Dp hzr (ps:=ps.toList.map λx=>(x.1,a.eval x.2)) (by simpa [Zg3,Zk4]using hv) (by simpa [Zg3,Zk4]using hpp);refine .pure (x:= .agg nK) ?_ (.QF e2);have eu:=run_build w t (ps.map λ(i,x)=>(i,a.eval x)) nK (avl v _ _ hv0 (by rw[hps];exact e1));simp only[execOp,ho,Sem.run_bind];rw[eu];rfl
 split at hc<;>first|(cases hc;done)|skip
 .rename_i fs z hk hz;rw[hk]at dW;obtain⟨gs,rfl,hm⟩:=Oq dW;(split at hc<;>first|(cases hc;done)|skip);rename_i pp zZ pR;cases hc;obtain⟨Xu,h1,h2⟩:=adh hT hm pR;have hpp:=Vf hT w hm zZ h2;(refine vI pp z (λi=>Xu.toArray[i]?) hz rfl rfl (by simpa [Zg3,Zk4]using hpp) λv parts cells hv hf=> ?_);unfold Program.built;rw[hit,hd];simp only[hv,h1];exact hf
 .rename_i e z hk hz;rw[hk]at dW;rw[ahM dW]at hd;(split at hc<;>first|(cases hc;done)|skip);rename_i te pF;cases hc;obtain⟨ie,hie,ic,_⟩:=(hT.at pF).info;(refine vI _ z (λi=>some (i*te.size,te.size)) hz rfl rfl (by simp[Zg3,Zk4]) λv parts cells hv hf=> ?_);unfold Program.built;rw[hit,hd];simp only[hv,hie,ic];exact hf
end
end
end Go.Ai
