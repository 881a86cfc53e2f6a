/- Its operations answer as the model does. -/
import Derived.Test.YtlkadmkojjceiaaGreatDoorVEvalA
import Derived.Laws.StructEq
import Derived.Lib.Builder
import Derived.Laws.BytesString
set_option linter.all false
namespace Go.Ai
section
def bB:TK->TypeDesc->Bool
 |.bool,.bool=>true
 |.int k,.int k'=>CS k k'
 |.string,.string=>true
 |.ptr e,.pointer e'=>Nat.beq e e'
 |.slice e,.slice e'=>Nat.beq e e'
 |.array n e,.array n' e'=>Nat.beq n n'&&Nat.beq e e'
 |.map k e,.map k' e'=>Nat.beq k k'&&Nat.beq e e'
 |.struct fs,.struct fs'=>cW fs fs'.toList
 |.func,.func _ _ _=>true
 |.iface,.interface _=>true
 |.upt,.unsafePointer=>true
 |.other,.interface _=>false
 |.other,.int _=>false
 |.other,.array _ _=>false
 |.other,.struct _=>false
 |.other,_=>true
 |_,_=>false
where
 cW:List (Nat×Nat×Bool)->List Field->Bool
  |[],[]=>true
  |(off,t,named)::l,f::l'=>Nat.beq off f.offset&&Nat.beq t f.type&&(named==(f.name != "_"))&&cW l l'
  |_,_=>false
structure Zc(P:Program)(t:TypeId)(ti:TI):Prop where
 und:∃d,P.underlying t=some d/\bB ti.k d=true
 info:∃i,P.info? t=some i/\i.size=ti.size/\i.bytes=ti.bytes/\
  ∀z,ti.zero=some z->∃v,i.zero=some v/\mP v.cells.toList=some z/\z.length=ti.size/\(ti.k.isAgg=true->∃cs,v= .agg cs)/\(ti.k.isAgg=false->v.cells= #[v])
 elem:∀e,ti.k= .ptr e->∃j,P.info? e=some j
 eqs:ti.vS=true->P.stoodInHeld t=false/\P.eqGuardType P.depth t=false
def bM(P:Program)(tt:TT):Prop:=∀p ti,tt.get p=some ti->Zc P (p.toNat - 1) ti
theorem bM.at{P:Program}{tt:TT}(h:bM P tt){t:Nat}{ti:TI}(ht:tt.get (key t)=some ti):Zc P t ti:=by
 have:=h _ _ ht
 rwa [ey,Ze2]at this
section
variable{P:Program}{tt:TT}{ρ:Pos->Loc}{n:Nat}{C:Cells}
theorem aM{t:TypeId}{d:TypeDesc}(h:P.underlying t=some d)(w:World):(underlying t).run P w= .ok d w:=run_underlying h w
theorem U1{t:TypeId}{i:TypeInfo}(h:P.info? t=some i)(w:World):(typeInfo t).run P w= .ok i w:=by simp[typeInfo,h]
theorem gH{t:TypeId}{i:TypeInfo}(h:P.info? t=some i)(w:World):(sizeOf t).run P w= .ok i.size w:=by simp[sizeOf,typeInfo,h]
theorem abN{t:TypeId}{i:TypeInfo}{v:Value}(h:P.info? t=some i)(hz:i.zero=some v)(w:World):(zeroValue t).run P w= .ok v w:=by simp[zeroValue,typeInfo,h,hz]
theorem OA{k:TK}{d:TypeDesc}(h:bB k d=true)(w:World){t:TypeId}(ht:P.underlying t=some d):(isAgg t).run P w= .ok k.isAgg w:=by
 cases k<;>cases d<;>first|(simp[bB]at h;done)|simp[isAgg,aM ht,TK.isAgg]
theorem kY{e:Nat}{d:TypeDesc}(h:bB (.slice e) d=true):d= .slice e:=by
 cases d<;>simp[bB]at h;rw[h]
theorem PI{e:Nat}{d:TypeDesc}(h:bB (.ptr e) d=true):d= .pointer e:=by
 cases d<;>simp[bB]at h;rw[h]
theorem U2{m e:Nat}{d:TypeDesc}(h:bB (.array m e) d=true):d= .array m e:=by
 cases d<;>simp[bB]at h;rw[h.1,h.2]
theorem KN{k e:Nat}{d:TypeDesc}(h:bB (.map k e) d=true):d= .map k e:=by
 cases d<;>simp[bB]at h;rw[h.1,h.2]
theorem Rn{d:TypeDesc}(h:bB .bool d=true):d= .bool:=by cases d<;>simp[bB]at h;rfl
theorem wR{a b:IntKind}(h:CS a b=true):a=b:=by
 unfold CS at h;split at h
 .assumption
 .cases h
theorem GP{k:IntKind}{d:TypeDesc}(h:bB (.int k) d=true):d= .int k:=by
 cases d<;>simp[bB]at h;rw[wR h]
theorem kL{d:TypeDesc}(h:bB .string d=true):d= .string:=by cases d<;>simp[bB]at h;rfl
theorem EV{fs:List (Nat×Nat×Bool)}{d:TypeDesc}(h:bB (.struct fs) d=true):∃gs,d= .struct gs/\bB.cW fs gs.toList=true:=by
 cases d<;>simp[bB]at h;exact⟨_,rfl,h⟩
theorem adZ{d:TypeDesc}(h:bB .func d=true):∃a b c,d= .func a b c:=by
 cases d<;>simp[bB]at h;exact⟨_,_,_,rfl⟩
theorem abO{d:TypeDesc}(h:bB .iface d=true):∃a,d= .interface a:=by
 cases d<;>simp[bB]at h;exact⟨_,rfl⟩
theorem aar{d:TypeDesc}(h:bB .upt d=true):d= .unsafePointer:=by cases d<;>simp[bB]at h;rfl
theorem kq{α:Type}:∀(l:List α)(i:Nat),nth l i=l[i]?
 |[],_=>by simp[nth]
 |_::_,0=>rfl
 |_::l,i+1=>by simp[nth,kq l i]
theorem Ii:∀{fs:List (Nat×Nat×Bool)}{gs:List Field}{i:Nat}{x:Nat×Nat×Bool},bB.cW fs gs=true->nth fs i=some x->
  ∃f,gs[i]? =some f/\f.offset=x.1/\f.type=x.2.1/\(f.name != "_")=x.2.2
 |[],_,i,_,_,h=>by simp[nth]at h
 |(off,t,named)::l,[],i,_,h,_=>by simp[bB.cW]at h
 |(off,t,named)::l,f::l',0,x,h,hx=>by
  simp[bB.cW]at h;simp[nth]at hx;subst hx;exact⟨f,rfl,h.1.1.1.symm,h.1.1.2.symm,h.1.2.symm⟩
 |(off,t,named)::l,f::l',i+1,x,h,hx=>by
  simp[bB.cW]at h;simp[nth]at hx;obtain⟨f',h1,h2⟩:=Ii h.2 hx;exact⟨f',by simpa using h1,h2⟩
theorem CX{v:Value}{a:AV}(h:Ib v=some a):aj ρ n C a v:=by
 unfold Ib at h
 split at h<;>first
   |(cases h;done)
   |(simp only[H0]at h;subst h)
 .exact .bool _
 .exact .int _ _
 .exact .str _ _ rfl
 .exact .gR
 .exact .aq
 .exact .nZ
 .exact .func _ _ _ _ _ rfl rfl (λ_ _ _ h=>by simp at h) (λ_ _ _ h=>by simp at h)
 .exact .iQ
 .exact .v8
theorem qw:∀{l:List Value}{as:List AV},mP l=some as->av ρ n C as l
 |[],as,h=>by simp[mP]at h;subst h;exact av.nil
 |v ::l,as,h=>by
  unfold mP at h;split at h
  .rename_i a as' h1 h2;simp only[H0]at h;subst h;exact av.cons (CX h1) (qw h2)
  .cases h
theorem Xr{v:Value}{a:AV}(h:Rk v=some a):aj ρ n C a v:=by
 unfold Rk at h;split at h
 . split at h
   .rename_i l hl;simp only[H0]at h;subst h;exact .CW (qw hl)
   .cases h
 .exact CX h
theorem pF{x:Operand}{o:dM}{fr:Fr}{a:Act}{v:AV}(h:jV x=some o)(hF:eO ρ n C fr a.tmps)(hv:AQ fr o=some v):aj ρ n C v (a.eval x):=by
 unfold jV at h;split at h
 .rename_i t;simp only[H0]at h;subst h;obtain⟨y,hy,hr⟩:=hF _ _ hv;rw[ey,Ze2]at hy;simp only[Act.eval,Zh7,hy,Zi7];exact hr
 . split at h
   .rename_i c hc;simp only[H0]at h;subst h;simp only[AQ,H0]at hv;subst hv;exact Xr hc
   .cases h
 .rename_i f;simp only[H0]at h;subst h;simp only[AQ,H0]at hv;subst hv;exact .func _ _ _ _ _ rfl rfl (λ_ _ _ h=>by simp at h) (λ_ _ _ h=>by simp at h)
 .cases h
theorem dG:∀{xs:List Operand}{os:List dM}{fr:Fr}{a:Act}{vs:List AV},iI xs=some os->eO ρ n C fr a.tmps->dN fr os=some vs->av ρ n C vs (xs.map a.eval)
 |[],os,fr,a,vs,h,_,hv=>by simp[iI]at h;subst h;simp[dN]at hv;subst hv;exact av.nil
 |x ::xs,os,fr,a,vs,h,hF,hv=>by
  unfold iI at h;split at h
  . rename_i o os' h1 h2;simp only[H0]at h;subst h;unfold dN at hv;split at hv
    .   rename_i v EW;split at hv
        .rename_i vs' CY;simp only[H0]at hv;subst hv;exact av.cons (pF h1 hF EW) (dG h2 hF CY)
        .cases hv
    .   cases hv
  .cases h
theorem eA{x:Operand}{o:dM}{fr:Fr}{a:Act}{vs:List AV}(h:jV x=some o)(hF:eO ρ n C fr a.tmps)(hv:dN fr [o]=some vs):
   ∃v,vs=[v]/\aj ρ n C v (a.eval x):=by
 unfold dN at hv;split at hv
 .rename_i v EW;simp only[dN,H0]at hv;subst hv;exact⟨v,rfl,pF h hF EW⟩
 .cases hv
end
def Yields(N:Next)(x:Value):Prop:=N= .value x\/(N= .skip/\x=undef)
def tM(P:Program)(ρ:Pos->Loc)(C:Cells)(st:St)(w:World)(r:Result Next):ct->Prop
 |.val v=>∃N x,r= .ok N w/\Yields N x/\aj ρ st.next.toNat C v x
 |.aF v del set new=>∃N x w' ρ',r= .ok N w'/\Yields N x/\(∀b:Pos,b.toNat<st.next.toNat->ρ' b=ρ b)/\aT ρ' C (st.aF del set new) w'/\
  aj ρ' (st.aF del set new).next.toNat C v x/\jr ρ st w ρ' (st.aF del set new) w'
 |.call f args=>∃bC:List Value,r=(callFunc f bC.toArray).run P w/\av ρ st.next.toNat C args bC
end
section
open Go Go.RowKit
theorem ku(b o i:Nat):(⟨b,o,none⟩:Addr).add i=⟨b,o+i,none⟩:=by
 unfold Addr.add;split
 .rename_i h;subst h;rfl
 .rfl
section
variable{P:Program}{ρ ρ':Pos->Loc}{C:Cells}{st:St}{w w':World}
theorem aT.Zd(hW:aT ρ C st w){Ze:T AB}{next' b0:Pos}{x0:AB}
  (hn:st.next.toNat<=next'.toNat) (XW:b0.toNat<next'.toNat) (afG:Ze.get b0=some x0)
  (qO:∀b x,b≠b0->Ze.get b=some x->st.heap.get b=some x/\(ρ b).ay≠(ρ' b0).ay)
  (aQ:∀b:Pos,b.toNat<st.next.toNat->ρ' b=ρ b)
  (hB:kV ρ' next'.toNat C (ρ' b0) w' x0)
  (X2:∀a v,C a=some v->a.block≠(ρ' b0).ay)
  (aK:(ρ' b0).ay<w'.heap.size) (afH:w.heap.size<=w'.heap.size)
  (uG:∀k,k<w.heap.size->k≠(ρ' b0).ay->w'.heap[k]? =w.heap[k]?):
  aT ρ' C ⟨Ze,next'⟩ w' where
 live b x hb:=by
  by_cases h:b=b0
  .  subst h;rw[afG]at hb;cases hb;exact⟨XW,aK,hB⟩
  .  obtain⟨h1,h2⟩:=qO b x h hb;obtain⟨h3,h4,h5⟩:=hW.live b x h1;rw[aQ b h3];exact⟨Zb9 h3 hn,Zb9 h4 afH,(h5.mono aQ hn).of_heap (uG _ h4 h2)⟩
 inj b  b' x x' hb iz he:=by
  by_cases h:b=b0
  .  subst h;by_cases h':b'=b
     .  exact h'.symm
     .  obtain⟨h1,h2⟩:=qO b' x' h' iz;rw[aQ b' (hW.live b' x' h1).1]at he;exact absurd he.symm h2
  .  obtain⟨h1,h2⟩:=qO b x h hb;rw[aQ b (hW.live b x h1).1]at he;by_cases h':b'=b0
     .  subst h';exact absurd he h2
     .  obtain⟨X3,h2'⟩:=qO b' x' h' iz;rw[aQ b' (hW.live b' x' X3).1]at he;exact hW.inj b b' x x' h1 X3 he
 cV a v ha:=by
  obtain⟨h1,h2⟩:=hW.cV a v ha;have Ij:a.block<w.heap.size:=World.block_lt_of_cell? _ _ h1;refine⟨?_,λb x hb=> ?_⟩
  .  rw[World.cell?_of_block (w:=w) (uG _ Ij (X2 a v ha))];exact h1
  .  by_cases h:b=b0
     .  subst h;exact λe=>X2 a v ha e.symm
     .  obtain⟨h3,_⟩:=qO b x h hb;rw[aQ b (hW.live b x h3).1];exact h2 b x h3
 whole a v ha o ho:=by have jW:a.block<w.heap.size:=World.block_lt_of_cell? _ _ (hW.cV a v ha).1;rw[World.cell?_of_block (w:=w) (a:=⟨a.block,o,none⟩) (uG _ jW (X2 a v ha))];exact hW.whole a v ha o ho
theorem aT.cell(hW:aT ρ C st w){b:Pos}{cs:List AV}{fz:Nat}(hb:st.heap.get b=some (.cells cs fz)){i:Nat}{v:AV}(hv:cs[i]? =some v):
  ∃x,w.cell? ⟨(ρ b).ay,(ρ b).base+i,none⟩=some x/\aj ρ st.next.toNat C v x:=by
 obtain⟨_,_,c,e,fr,h1,h2,h3,h4,_⟩:=hW.live b _ hb;obtain⟨x,hx,hr⟩:=h4.get hv;have hi:i<cs.length:=(H5.1 hv).1;rw[Zb1,Za2 hi,Zc6]at hx;exact⟨x,by simp[World.cell?,h1, <-hx],hr⟩
theorem aT.afI(hW:aT ρ C st w){b:Pos}{cs:List AV}{t:TypeId}(hb:st.heap.get b=some (.typed t cs)){i:Nat}{v:AV}(hv:cs[i]? =some v):
  ∃x,w.cell? ⟨(ρ b).ay,(ρ b).base+i,none⟩=some x/\aj ρ st.next.toNat C v x:=by
 obtain⟨_,_,c,fr,h1,h2,h3,h4,_⟩:=hW.live b _ hb;obtain⟨x,hx,hr⟩:=h4.get hv;have hi:i<cs.length:=(H5.1 hv).1;rw[Zb1,Za2 hi,Zc6]at hx;exact⟨x,by simp[World.cell?,h1, <-hx],hr⟩
theorem CZ{α:Type}{l l':List α}{i n:Nat}(h:cut l i n=some l'):l'=(l.drop i).take n/\i+n<=l.length:=by
 unfold cut at h;split at h
 .rename_i hb;cases h;exact⟨rfl,Za0 hb⟩
 .cases h
theorem tN{α:Type}{l l':List α}{i n:Nat}(h:cut l i n=some l'):l'.length=n:=by obtain⟨rfl,h2⟩:=CZ h;simp;omega
theorem aT.loadCells(hW:aT ρ C st w){b:Pos}{cs vs:List AV}{fz off n:Nat}(hb:st.heap.get b=some (.cells cs fz))(hc:cut cs off n=some vs):
  ∃ys:List Value,(Go.loadCells ⟨(ρ b).ay,(ρ b).base+off,none⟩ n).run P w= .ok ys.toArray w/\av ρ st.next.toNat C vs ys:=by
 obtain⟨_,_,c,e,fr,h1,h2,h3,h4,_⟩:=hW.live b _ hb;obtain⟨gU,hle⟩:=CZ hc;have hr:=(h4.drop off).take n;rw[<-gU]at hr;refine⟨_,?_,hr⟩;have hlen:(List.take n (List.drop off (List.take cs.length (List.drop (ρ b).base c.toList)))).length=n:=by rw[<-hr.1];exact tN hc
 conv=>lhs;rw[<-hlen]
 refine run_loadCells_list w _ _ λj v hj=> ?_
 have BT:j<n:=by rw[<-hlen];exact(H5.1 hj).1
 rw[Zb1,Za2 BT,Zc6,Zb1,Za2 (by omega),Zc6]at hj;rw[ku];simp[World.cell?,h1, <-hj,Zg7]
theorem aT.PJ(hW:aT ρ C st w){b:Pos}{cs vs:List AV}{t:TypeId}{off n:Nat}(hb:st.heap.get b=some (.typed t cs))(hc:cut cs off n=some vs):
  ∃ys:List Value,(Go.loadCells ⟨(ρ b).ay,(ρ b).base+off,none⟩ n).run P w= .ok ys.toArray w/\av ρ st.next.toNat C vs ys:=by
 obtain⟨_,_,c,fr,h1,h2,h3,h4,_⟩:=hW.live b _ hb;obtain⟨gU,hle⟩:=CZ hc;have hr:=(h4.drop off).take n;rw[<-gU]at hr;refine⟨_,?_,hr⟩;have hlen:(List.take n (List.drop off (List.take cs.length (List.drop (ρ b).base c.toList)))).length=n:=by rw[<-hr.1];exact tN hc
 conv=>lhs;rw[<-hlen]
 refine run_loadCells_list w _ _ λj v hj=> ?_
 have BT:j<n:=by rw[<-hlen];exact(H5.1 hj).1
 rw[Zb1,Za2 BT,Zc6,Zb1,Za2 (by omega),Zc6]at hj;rw[ku];simp[World.cell?,h1, <-hj,Zg7]
theorem jD(g e:Nat)(fr:Nat×Nat):∀(vs:List Value)(i o:Nat)(cur:Array Value)(w:World),w.heap[g]? =some (.cells cur e fr)->o+i+vs.length<=cur.size->
  (∀v∈vs,v.oneCell'=true)->(∀k,o+i<=k->k<cur.size->¬(fr.1<=k/\k<fr.2))->
  ∃ w',(storeCells ⟨g,o,none⟩ vs i).run P w= .ok () w'/\w'.heap[g]? =some (.cells (aH cur.toList (o+i) vs).toArray e fr)/\
    w'.heap.size=w.heap.size/\(∀k,k≠g->w'.heap[k]? =w.heap[k]?)/\w'.os=w.os/\w'.tape=w.tape/\w'.output=w.output
 |[],i,o,cur,w,hg,_,_,_=>⟨w,by simp[storeCells],by rw[hg];simp[aH,Zk2],rfl,λ_ _=>rfl,rfl,rfl,rfl⟩
 |v ::vs,i,o,cur,w,hg,hle,h1,hf=>by
  simp only[Zd7]at hle;have hv:v.oneCell'=true:=h1 v (by simp);have EX:w.cell? ⟨g,o+i,none⟩=some (cur[o+i]'(by omega)):=by simp[World.cell?,hg]
  have hfz:w.frozen? ⟨g,o+i,none⟩=false:=by have:=hf (o+i) (Za3 _) (by omega);simp only[World.frozen?,hg];simpa using this
  have oW:(w.setCell ⟨g,o+i,none⟩ v).heap[g]? =some (.cells (cur.setIfInBounds (o+i) v) e fr):=by
    simp[World.setCell,Zm2,hg]
  obtain⟨w',h2,h3,h4,h5,h6,h7,h8⟩:=jD g e fr vs (i+1) o _ _ oW (by simp;omega) (λv hv=>h1 v (by simp[hv])) (by intro k hk jX;simp at jX;exact hf k (by omega) jX);refine⟨w',?_,?_,by simp[h4],λk hk=> ?_,h6,h7,h8⟩
  .simp only[storeCells,Sem.run_bind,ku,run_store P w _ _ _ hv,EX,hfz];simpa using h2
  .rw[h3];congr 2;simp only[aH,Zd7,Zn7];rw[List.drop_set_of_lt (by omega)];have:o+(i+1)=(o+i)+1:=(by omega);rw[this,List.take_set,Zl3];have aK:o+i<cur.toList.length:=(by simp;omega);rw[H1 aK];simp only[Option.toList_some,List.set_append,Zj5];have hm:min (o+i) cur.toList.length=o+i:=Zj8 (Nat.le_of_lt aK);rw[hm,Za1 (Zm7 _),Zn6];simp;rw[show o+i+1+vs.length=o+i+(vs.length+1)from by omega]
  .rw[h5 k hk,Below.heap_setCell _ _ _ _ (by simpa using hk)]
end
section
variable{P:Program}{tt:TT}{ρ:Pos->Loc}{C:Cells}{st:St}{w:World}{n:Nat}
theorem Yields.value(x:Value):Yields (.value x) x:= .inl rfl
theorem tM.pure{v:AV}{x:Value}{r:Result Next}(h:r= .ok (.value x) w)(hv:aj ρ st.next.toNat C v x):tM P ρ C st w r (.val v):=
 ⟨_,x,h,Yields.value x,hv⟩
theorem aj.gP{k:IntKind}{i:Int}{x:Value}(h:aj ρ n C (.int k i) x):x= .int k i:=by cases h;rfl
theorem aj.fS{b:Bool}{x:Value}(h:aj ρ n C (.bool b) x):x= .bool b:=by cases h;rfl
theorem aj.dP{s:List Nat}{x:Value}(h:aj ρ n C (.str s) x):∃bs:ByteArray,x= .string bs/\bs.data.toList.map UInt8.toNat=s:=by
 cases h with|str _ bs h=>exact⟨bs,rfl,h⟩
theorem aj.pG{x:Value}(h:aj ρ n C .gR x):x= .pointer none:=by cases h;rfl
theorem aj.eV{x:Value}(h:aj ρ n C .aq x):x= .slice none 0 0:=by cases h;rfl
theorem aj.Ah{x:Value}(h:aj ρ n C .nZ x):x= .map none:=by cases h;rfl
theorem aj.Ik{x:Value}(h:aj ρ n C .iQ x):x= .nilFunc:=by cases h;rfl
theorem aj.U3{x:Value}(h:aj ρ n C .v8 x):x= .nilIface:=by cases h;rfl
theorem aj.eu{b:Pos}{off:Nat}{x:Value}(h:aj ρ n C (.ptr b off) x):b.toNat<n/\x= .pointer (some ⟨(ρ b).ay,(ρ b).base+off,none⟩):=by
 cases h with|ptr _ _ h=>exact⟨h,rfl⟩
theorem aj.wS{b:Pos}{x:Value}(h:aj ρ n C (.map b) x):b.toNat<n/\x= .map (some (ρ b).ay):=by
 cases h with|map _ h=>exact⟨h,rfl⟩
theorem aj.SG{t:TypeId}{v:AV}{x:Value}(h:aj ρ n C (.iface t v) x):∃y,x= .iface t y/\aj ρ n C v y:=by
 cases h with|iface _ _ y h=>exact⟨y,rfl,h⟩
theorem aj.cQ{b:Pos}{off len es:Nat}{cap:Option Nat}{x:Value}(h:aj ρ n C (.slice b off len cap es) x):
  ∃(a:Addr) (aI:Nat),x= .slice (some a) len aI/\len<=aI/\(∀c,cap=some c->c=aI)/\
   (aI≠0->b.toNat<n/\a=⟨(ρ b).ay,(ρ b).base+off,none⟩/\(ρ b).base+off+aI*es<=(ρ b).size):=by
 cases h with|slice _ _ _ _ _ aI a hl hc ha _=>exact⟨a,aI,rfl,hl,hc,ha⟩
theorem aj.SH{b:Pos}{off len es:Nat}{cap:Option Nat}{x:Value}(h:aj ρ n C (.slice b off len cap es) x):cap=none->b.toNat<n:=by
 cases h with|slice _ _ _ _ _ _ _ _ _ _ hk=>exact hk
theorem aj.rX{xs:List (List AV)}{es:Nat}{x:Value}(h:aj ρ n C (.fl xs es) x):
  ∃(a:Addr) (aI:Nat) (cell:Nat->Nat->Value),x= .slice (some a) xs.length aI/\xs.length<=aI/\(xs≠[]->a.spot=none)/\
   (∀(i:Nat)(cs:List AV),xs[i]? =some cs->cs.length=es)/\
   (∀(i j:Nat)(cs:List AV)(v:AV),xs[i]? =some cs->cs[j]? =some v->C ⟨a.block,a.off+i*es+j,none⟩=some (cell i j))/\
   (∀(i j:Nat)(cs:List AV)(v:AV),xs[i]? =some cs->cs[j]? =some v->aj ρ n C v (cell i j)):=by
 cases h with|fl _ _ aI a cell hl hs di hc hv=>exact⟨a,aI,cell,rfl,hl,hs,di,hc,hv⟩
theorem aj.GQ{xs:List (List AV)}{i j:Nat}{x:Value}(h:aj ρ n C (.fp xs i j) x):
  ∃(es ay base:Nat) (cell:Nat->Nat->Value),x= .pointer (some ⟨ay,base+i*es+j,none⟩)/\
   (∀(i:Nat)(cs:List AV),xs[i]? =some cs->cs.length=es)/\
   (∀(i j:Nat)(cs:List AV)(v:AV),xs[i]? =some cs->cs[j]? =some v->C ⟨ay,base+i*es+j,none⟩=some (cell i j))/\
   (∀(i j:Nat)(cs:List AV)(v:AV),xs[i]? =some cs->cs[j]? =some v->aj ρ n C v (cell i j)):=by
 cases h with|fp _ _ _ es ay base cell hl hc hv=>exact⟨es,ay,base,cell,rfl,hl,hc,hv⟩
theorem rY(k:IntKind)(i:Int):aD k i=k.wrap i:=by
 unfold aD;split
 . rename_i h1 _;split
   .rename_i h2 _;cases k<;>simp only[UU,UW]at h1 h2<;>simp only[IntKind.wrap,IntKind.bits,IntKind.signed]<;>simp<;>omega
   .rfl
 .rfl
theorem iV(a b:Int):AG a b=(a==b):=by
 unfold AG;split
 .rename_i h _;subst h;simp
 .rename_i h _;simp[h]
theorem ej(a b:Int):EO a b=decide (a<b):=by
 unfold EO;split<;>(rename_i h _;simp[h])
theorem gI(a b:Int):Uw a b=decide (a<=b):=by
 unfold Uw;split<;>(rename_i h _;simp[h])
theorem mR:∀{a b:List Nat},iy a b=true↔a=b
 |[],[]=>by simp[iy]
 |[],_::_=>by simp[iy]
 |_::_,[]=>by simp[iy]
 |a::x,b::y=>by
  unfold iy;split
  .rename_i h;have:=H3 h;subst this;simp[mR (a:=x) (b:=y)]
  .rename_i h;have:=Zb2 h;simp[this]
theorem GR:∀{a b:List UInt8},a.map UInt8.toNat=b.map UInt8.toNat->a=b
 |[],[],_=>rfl
 |[],_::_,h=>by simp at h
 |_::_,[],h=>by simp at h
 |a::x,b::y,h=>by
  simp at h;rw[Zo6.1 h.1,GR h.2]
theorem toList_data(b:ByteArray):b.toList=b.data.toList:=ByteArray.toList_eq b
theorem qM:∀(x y:List UInt8),aA (x.map UInt8.toNat) (y.map UInt8.toNat)=Op.bytesLess x y
 |[],[]=>by simp[aA,Op.bytesLess]
 |_::_,[]=>by simp[aA,Op.bytesLess]
 |[],_::_=>by simp[aA,Op.bytesLess]
 |a ::x,b::y=>by
  simp only[Zb8,aA,Op.bytesLess];split
  .rename_i h;have:a<b:=(by rw[Zm3];simpa using h);simp[this]
  . (rename_i h;have h1:¬a<b:=by rw[Zm3];intro h';have h2:Nat.blt a.toNat b.toNat=true:=(by simpa using h');rw[h2]at h;cases h);split
    .   rename_i h2;have:a=b:=Zo6.1 (H3 h2);subst this;simp only[h1,Zo2,Bool.false_or,beq_self_eq_true,Ze1];exact qM x y
    .   (rename_i h2;have:a≠b:=λe=>Zb2 h2 (by rw[e]));simp[h1,this]
theorem GU{a b:List Nat}{x y:ByteArray}(hx:x.data.toList.map UInt8.toNat=a)(hy:y.data.toList.map UInt8.toNat=b):(x.toList==y.toList)=iy a b:=by
 rw[toList_data,toList_data,Zi8,mR,Zo3, <-hx, <-hy];exact⟨λh=>by rw[h],λh=>GR h⟩
theorem OB{a b:List Nat}{x y:ByteArray}(hx:x.data.toList.map UInt8.toNat=a)(hy:y.data.toList.map UInt8.toNat=b):Op.bytesLess x.toList y.toList=aA a b:=by
 rw[toList_data,toList_data, <-hx, <-hy,qM]
theorem we{a:List Nat}{x:ByteArray}(hx:x.data.toList.map UInt8.toNat=a):x.size=a.length:=by rw[<-hx,Zb0,Ze9];rfl
def PK.fits:PK->TypeDesc->Bool
 |.b,.bool=>true
 |.i,.int _=>true
 |.s,.string=>true
 |_,_=>false
theorem U4{t:TypeId}{d:TypeDesc}(hd:P.underlying t=some d){pk:PK}(hk:pk.fits d=true){a b:AV}{x y:Value}{r:Bool}{m:Nat}
   (ha:aj ρ n C a x) (hb:aj ρ n C b y) (h:uE pk a b=some r) (w:World):(Op.equalIn (m+1) t x y).run P w= .ok r w:=by
 unfold uE at h;split at h
 .simp only[H0]at h;subst h;rw[ha.fS,hb.fS];cases d<;>simp[PK.fits]at hk;rw[run_equalIn_bool' w m t _ _ hd]
 . split at h
   .rename_i jX;have:=wR jX;subst this;simp only[H0]at h;subst h;rw[ha.gP,hb.gP];cases d<;>simp[PK.fits]at hk;rw[run_equalIn_int w m t _ _ _ _ hd,iV]
   .cases h
 .simp only[H0]at h;subst h;obtain⟨bx,rfl,h1⟩:=ha.dP;obtain⟨bz,rfl,h2⟩:=hb.dP;cases d<;>simp[PK.fits]at hk;rw[run_equalIn_string w m t _ _ hd,GU h1 h2]
 .cases h
theorem KO:∀{fs:List (Nat×Nat×Bool)}{l:List (Nat×PK)}{gs:List Field}{xs ys:List AV}{cx cy:Array Value}{r:Bool}{m:Nat}(_hT:bM P tt)
  (_hm:bB.cW fs gs=true) (_hf:yh.fields tt fs=some l) (_hx:av ρ n C xs cx.toList) (_hy:av ρ n C ys cy.toList) (_h:eqFields xs ys l=some r) (w:World),
  (Op.eqFields (m+1) cx cy gs).run P w= .ok r w
 |[],l,gs,xs,ys,cx,cy,r,m,hT,hm,hf,hx,hy,h,w=>by
  cases gs with
  |cons f gs=>simp[bB.cW]at hm
  | nil=>
    simp[yh.fields]at hf;subst hf;simp[eqFields]at h;subst h;simp[Op.eqFields]
 |(off  , t,named)::fs,l,gs,xs,ys,cx,cy,r,m,hT,hm,hf,hx,hy,h,w=>by
  cases gs with
  |nil=>simp[bB.cW]at hm
  | cons f gs=>
    simp[bB.cW]at hm;obtain⟨⟨⟨ho,ht⟩,hn⟩,hm'⟩:=hm;unfold yh.fields at hf;(split at hf<;>first|(cases hf;done)|skip);rename_i ti l' cI hl';obtain⟨d,hd,bS⟩:=(hT.at cI).und;have key:∃pk,l=(off,pk)::l'/\pk.fits d=true/\(isAgg t).run P w= .ok false w:=by
        have nS:=OA bS w hd;split at hf<;>first|(cases hf;done)|skip
        all_goals
          rename_i hk;simp only[H0]at hf;rw[hk]at bS nS;refine⟨_,hf.symm,?_,nS⟩
        .rw[Rn bS];rfl
        .rw[GP bS];rfl
        .rw[kL bS];rfl
    obtain⟨pk,rfl,FK,nS⟩:=key;have aR:f.name≠ "_" :=(by intro e;rw[e]at hn;simp at hn);unfold eqFields at h;(split at h<;>first|(cases h;done)|skip);rename_i a b ha hb;rw[kq]at ha hb;obtain⟨x,hx1,X4⟩:=hx.get ha;obtain⟨y,BU,C0⟩:=hy.get hb;have px:(part f.type cx f.offset).run P w= .ok x w:=by
        rw[<-ht, <-ho];simp at hx1;simp[part,nS,hx1]
    have py:(part f.type cy f.offset).run P w= .ok y w:=by
        rw[<-ht, <-ho];simp at BU;simp[part,nS,BU]
    simp only[Op.eqFields,Sem.run_bind,Sem.run_ite,aR,px,py,Result.andThen_ok,ne_eq,Zl4,Zf0];split at h
    .   rename_i he;rw[<-ht,U4 hd FK X4 C0 he w];simpa using KO (m:=m) hT hm' hl' hx hy h w
    .   rename_i he;simp only[H0]at h;subst h;rw[<-ht,U4 hd FK X4 C0 he w];simp
    .   cases h
def adF(tt:TT)(op:BinOp)(q:eY)(t:TypeId):Prop:=yh tt t=some q\/(q= .num/\op≠ .eql/\op≠ .neq)
def afJ(P:Program)(tt:TT)(t:TypeId):eY->Prop
 |.num=>True
 |.bool=>P.underlying t=some .bool
 |.ptr=>∃e,P.underlying t=some (.pointer e)/\∃j,P.info? e=some j
 |.slice=>∃e,P.underlying t=some (.slice e)
 |.map=>∃k e,P.underlying t=some (.map k e)
 |.func=>∃a b c,P.underlying t=some (.func a b c)
 |.iface=>∃a,P.underlying t=some (.interface a)
 |.struct l=>∃fs gs,P.underlying t=some (.struct gs)/\bB.cW fs gs.toList=true/\yh.fields tt fs=some l/\P.stoodInHeld t=false/\P.eqGuardType P.depth t=false
theorem X5(hT:bM P tt){t:TypeId}{q:eY}(hq:yh tt t=some q):afJ P tt t q:=by
 unfold yh at hq;split at hq<;>first|(cases hq;done)|skip
 rename_i ti cI;obtain⟨d,hd,bS⟩:=(hT.at cI).und;split at hq<;>first|(cases hq;done)|skip
 all_goals rename_i hk
 all_goals rw[hk]at bS
 .simp only[H0]at hq;subst hq;rw[Rn bS]at hd;exact hd
 .simp only[H0]at hq;subst hq;trivial
 .simp only[H0]at hq;subst hq;trivial
 .simp only[H0]at hq;subst hq;rw[PI bS]at hd;exact⟨_,hd,(hT.at cI).elem _ hk⟩
 .simp only[H0]at hq;subst hq;rw[kY bS]at hd;exact⟨_,hd⟩
 .simp only[H0]at hq;subst hq;rw[KN bS]at hd;exact⟨_,_,hd⟩
 .simp only[H0]at hq;subst hq;obtain⟨_,_,_,rfl⟩:=adZ bS;exact⟨_,_,_,hd⟩
 .simp only[H0]at hq;subst hq;obtain⟨_,rfl⟩:=abO bS;exact⟨_,hd⟩
 . (split at hq<;>first|(cases hq;done)|skip);rename_i fs _ _ l hp hl;simp only[H0]at hq;subst hq;obtain⟨gs,rfl,hm⟩:=EV bS;exact⟨fs,gs,hd,hm,hl,(hT.at cI).eqs hp⟩
theorem Zf(m:Nat)(hT:bM P tt){t:TypeId}{q:eY}(hq:yh tt t=some q){a b:AV}{x y:Value}{r:Bool}(ha:aj ρ n C a x)(hb:aj ρ n C b y)(h:FH q a b=some r)(w:World):
   (Op.equalIn (m+1+1) t x y).run P w= .ok r w:=by
 have hi:=X5 hT hq;clear hq;unfold FH at h;split at h<;>first|(cases h;done)|skip
 .simp only[H0]at h;subst h;rw[ha.fS,hb.fS,run_equalIn_bool' w _ t _ _ hi]
 all_goals first
   |(simp only[H0]at h;subst h)
   |skip
 .obtain⟨e,hd,_⟩:=hi;rw[ha.pG,hb.pG];(unfold Op.equalIn;rw[Sem.run_bind,aM hd];rfl)
 .obtain⟨e,hd,_⟩:=hi;obtain⟨_,hb⟩:=hb.eu;rw[ha.pG,hb];(unfold Op.equalIn;rw[Sem.run_bind,aM hd];rfl)
 .obtain⟨e,hd,_⟩:=hi;obtain⟨_,ha⟩:=ha.eu;rw[hb.pG,ha];(unfold Op.equalIn;rw[Sem.run_bind,aM hd];rfl)
 .obtain⟨e,hd,_⟩:=hi;obtain⟨_,_,_,_,hb,_⟩:=hb.GQ;rw[ha.pG,hb];(unfold Op.equalIn;rw[Sem.run_bind,aM hd];rfl)
 .obtain⟨e,hd,_⟩:=hi;obtain⟨_,_,_,_,ha,_⟩:=ha.GQ;rw[hb.pG,ha];(unfold Op.equalIn;rw[Sem.run_bind,aM hd];rfl)
 .obtain⟨e,hd,j,hj⟩:=hi;(split at h<;>first|(cases h;done)|skip);rename_i e1 e2;have e1:=Pos.beq_eq.1 e1;have e2:=H3 e2;subst e1;subst e2;simp only[H0]at h;subst h;obtain⟨_,ha⟩:=ha.eu;obtain⟨_,hb⟩:=hb.eu;rw[ha,hb];simp[Op.equalIn,aM hd,sizeOf,typeInfo,hj,run_sameAddr_same]
 .obtain⟨e,hd⟩:=hi;rw[ha.eV,hb.eV];(unfold Op.equalIn;rw[Sem.run_bind,aM hd];rfl)
 .obtain⟨e,hd⟩:=hi;obtain⟨_,_,hb,_⟩:=hb.cQ;rw[ha.eV,hb];(unfold Op.equalIn;rw[Sem.run_bind,aM hd];rfl)
 .obtain⟨e,hd⟩:=hi;obtain⟨_,_,ha,_⟩:=ha.cQ;rw[hb.eV,ha];(unfold Op.equalIn;rw[Sem.run_bind,aM hd];rfl)
 .obtain⟨e,hd⟩:=hi;obtain⟨_,_,_,hb,_⟩:=hb.rX;rw[ha.eV,hb];(unfold Op.equalIn;rw[Sem.run_bind,aM hd];rfl)
 .obtain⟨e,hd⟩:=hi;obtain⟨_,_,_,ha,_⟩:=ha.rX;rw[hb.eV,ha];(unfold Op.equalIn;rw[Sem.run_bind,aM hd];rfl)
 .obtain⟨k,e,hd⟩:=hi;rw[ha.Ah,hb.Ah];(unfold Op.equalIn;rw[Sem.run_bind,aM hd];rfl)
 .obtain⟨k,e,hd⟩:=hi;obtain⟨_,hb⟩:=hb.wS;rw[ha.Ah,hb];(unfold Op.equalIn;rw[Sem.run_bind,aM hd];rfl)
 .obtain⟨k,e,hd⟩:=hi;obtain⟨_,ha⟩:=ha.wS;rw[hb.Ah,ha];(unfold Op.equalIn;rw[Sem.run_bind,aM hd];rfl)
 .obtain⟨_,_,_,hd⟩:=hi;rw[ha.Ik,hb.Ik];(unfold Op.equalIn;rw[Sem.run_bind,aM hd];rfl)
 .obtain⟨_,_,_,hd⟩:=hi;obtain⟨_,_,hb,_⟩:=hb.Ae;rw[ha.Ik,hb];(unfold Op.equalIn;rw[Sem.run_bind,aM hd];rfl)
 .obtain⟨_,_,_,hd⟩:=hi;obtain⟨_,_,ha,_⟩:=ha.Ae;rw[hb.Ik,ha];(unfold Op.equalIn;rw[Sem.run_bind,aM hd];rfl)
 .obtain⟨_,hd⟩:=hi;obtain⟨_,hb,_⟩:=hb.SG;rw[ha.U3,hb];(unfold Op.equalIn;rw[Sem.run_bind,aM hd];rfl)
 .obtain⟨_,hd⟩:=hi;obtain⟨_,ha,_⟩:=ha.SG;rw[hb.U3,ha];(unfold Op.equalIn;rw[Sem.run_bind,aM hd];rfl)
 .obtain⟨fs,gs,hd,hm,hl,hp,_⟩:=hi;obtain⟨cx,rfl,hx⟩:=ha.CL;obtain⟨cy,rfl,hy⟩:=hb.CL;have hfo:P.fieldsOf t=gs:=(by simp[Program.fieldsOf,hd]);rw[run_equalIn_agg w (m+1) t cx cy (by rw[hfo,hd]) hp,hfo];exact KO (m:=m) hT hm hl hx hy h w
theorem U5(hT:bM P tt){t:TypeId}{q:eY}(hq:yh tt t=some q){a b:AV}{x y:Value}{r:Bool}(ha:aj ρ n C a x)(hb:aj ρ n C b y)(h:FH q a b=some r)(w:World):
 (Op.equal t x y).run P w= .ok r w:=Zf 9998 hT hq ha hb h w
theorem PM(hT:bM P tt){t:TypeId}{q:eY}(hq:yh tt t=some q){a b:AV}{x y:Value}{r:Bool}(ha:aj ρ n C a x)(hb:aj ρ n C b y)(h:FH q a b=some r)(op:BinOp)(ox oy:Operand)(w:World):
  (eqGuard op t ox oy x y).run P w= .ok () w:=by
 have hi:=X5 hT hq;clear hq;unfold FH at h;split at h<;>first|(cases h;done)|skip
 all_goals first
  |(obtain⟨fs,gs,hd,hm,hl,hp,hg⟩:=hi
    obtain⟨cx,rfl,hx⟩:=ha.CL;obtain⟨cy,rfl,hy⟩:=hb.CL;exact run_eqGuard_agg w op t ox oy cx cy hg)
  |(cases ha<;>cases hb<;>cases op<;>rfl)
end
section
variable{P:Program}{tt:TT}{ρ:Pos->Loc}{C:Cells}{st:St}{w:World}{n:Nat}
theorem TQ(op:BinOp)(t:TypeId)(k:IntKind)(i j:Int)(hs:op≠ .shl)(hr:op≠ .shr):(binOp op t (.int k i) (.int k j)).run P w=
  (match op with
   |.add|.sub|.mul=>Op.intArith op k i j
   |.quo|.rem=>Op.intDiv op k i j
   |.and|.or|.xor|.andNot=>Op.intBits op k i j
   |_=>Op.intCmp op i j).run P w:=by
 cases op<;>first|(exact absurd rfl hs)|(exact absurd rfl hr)|simp[binOp]
theorem abP(hT:bM P tt){op:BinOp}{t:TypeId}{q:eY}(hq:adF tt op q t){a b v:AV}{x y:Value}(ha:aj ρ n C a x)(hb:aj ρ n C b y)(h:mY op q a b=some v)(ox oy:Operand):
  ∃z,(do eqGuard op t ox oy x y;binOp op t x y:Sem Value).run P w= .ok z w/\aj ρ n C v z:=by
 unfold mY at h;split at h
 ·
  rename_i k i k' j;rw[ha.gP,hb.gP];have hg:∀op,(eqGuard op t ox oy (.int k i) (.int k' j)).run P w= .ok () w:=by intro op;cases op<;>rfl
  rw[Sem.run_bind,hg,Result.andThen_ok];split at h
  . split at h
    .   cases h
    .   rename_i aK;rw[ej]at aK;have aK:=Zl0 aK;simp only[H0]at h;subst h;exact⟨_,by simp[binOp,Op.shift,aK,rY],.int _ _⟩
  . split at h
    .   cases h
    .   rename_i aK;rw[ej]at aK;have aK:=Zl0 aK;simp only[H0]at h;subst h;exact⟨_,by simp[binOp,Op.shift,aK],.int _ _⟩
  . rename_i hs hr;split at h
    .   cases h
    .   rename_i hk;have:=wR hk;subst this;rw[TQ op t k i j (λe=>hs e) (λe=>hr e)];split at h
        .simp only[H0]at h;subst h;exact⟨_,by simp[Op.intArith,rY],.int _ _⟩
        .simp only[H0]at h;subst h;exact⟨_,by simp[Op.intArith,rY],.int _ _⟩
        .simp only[H0]at h;subst h;exact⟨_,by simp[Op.intArith,rY],.int _ _⟩
        . split at h
          .cases h
          . (rename_i h0;rw[iV]at h0;have h0':¬j=0:=by simpa using h0);simp only[H0]at h;subst h;exact⟨_,by simp[Op.intDiv,h0',rY],.int _ _⟩
        . split at h
          .cases h
          . (rename_i h0;rw[iV]at h0;have h0':¬j=0:=by simpa using h0);simp only[H0]at h;subst h;exact⟨_,by simp[Op.intDiv,h0'],.int _ _⟩
        .simp only[H0]at h;subst h;exact⟨_,by simp[Op.intBits],.int _ _⟩
        .simp only[H0]at h;subst h;exact⟨_,by simp[Op.intBits],.int _ _⟩
        .simp only[H0]at h;subst h;exact⟨_,by simp[Op.intBits],.int _ _⟩
        .simp only[H0]at h;subst h;exact⟨_,by simp[Op.intBits],.int _ _⟩
        .simp only[H0]at h;subst h;exact⟨_,by simp[Op.intCmp,iV],.bool _⟩
        .simp only[H0]at h;subst h;refine⟨_,rfl,?_⟩;rw[iV];exact .bool _
        .simp only[H0]at h;subst h;refine⟨_,rfl,?_⟩;rw[ej];exact .bool _
        .simp only[H0]at h;subst h;refine⟨_,rfl,?_⟩;rw[gI];exact .bool _
        .simp only[H0]at h;subst h;refine⟨_,rfl,?_⟩;rw[ej];exact .bool _
        .simp only[H0]at h;subst h;refine⟨_,rfl,?_⟩;rw[gI];exact .bool _
        .cases h
 ·
  rename_i s u;obtain⟨bx,rfl,h1⟩:=ha.dP;obtain⟨bz,rfl,h2⟩:=hb.dP;have hg:∀op,(eqGuard op t ox oy (.string bx) (.string bz)).run P w= .ok () w:=by intro op;cases op<;>rfl
  rw[Sem.run_bind,hg,Result.andThen_ok];have hs:(binOp op t (.string bx) (.string bz)).run P w=(Op.stringOp op bx bz).run P w:=by cases op<;>rfl
  rw[hs];have e1:=GU h1 h2;have e2:=OB h1 h2;split at h
  . split at h
    .   rename_i hb;have hb:=Za0 hb;simp only[H0]at h;subst h;have kM:¬(((bx.size+bz.size:Nat):Int)>IntKind.i64.max):=(by rw[we h1,we h2];simp[IntKind.max,IntKind.signed,IntKind.bits];omega);refine⟨.string (bx++bz),?_,.str _ _ ?_⟩
        .simp only[Op.stringOp];rw[Za1 kM];rfl
        .rw[ByteArray.data_append,Array.toList_append,Zh3,h1,h2]
    .   cases h
  all_goals first|(cases h;done)|skip
  all_goals
    simp only[H0]at h;subst h;refine⟨_,rfl,?_⟩
    first|rw[e1,e2]|rw[e1]|rw[e2]
    exact .bool _
 ·
  rename_i hni hns;have EY:∀op,(op= .eql\/op= .neq)->(binOp op t x y).run P w=((Op.equal t x y).run P w).andThen λr w'=>.ok (.bool (if op= .eql then r else !r)) w':=by
    rintro op (rfl|rfl)
    all_goals
        cases ha<;>cases hb<;>first
          |(exact(hni _ _ _ _ rfl rfl).elim)
          |(exact(hns _ _ rfl rfl).elim)
          |simp[binOp]
  split at h
  . split at h
    .   rename_i r hr;simp only[H0]at h;subst h;rcases hq with hq|⟨_,hq,_⟩
        .refine⟨.bool r,?_,.bool r⟩;rw[Sem.run_bind,PM hT hq ha hb hr,Result.andThen_ok,EY _ (.inl rfl),U5 hT hq ha hb hr];rfl
        .exact absurd rfl hq
    .   cases h
  . split at h
    .   rename_i r hr;simp only[H0]at h;subst h;rcases hq with hq|⟨_,_,hq⟩
        .refine⟨.bool (!r),?_,.bool _⟩;rw[Sem.run_bind,PM hT hq ha hb hr,Result.andThen_ok,EY _ (.inr rfl),U5 hT hq ha hb hr];rfl
        .exact absurd rfl hq
    .   cases h
  .cases h
end
def cE(P:Program)(tt:TT)(op:Op):Prop:=
 ∀  (ρ:Pos->Loc)(C:Cells)(st:St)(w:World)(k:az)(xs:List dM)(cls:X1)(fr:Fr)(a:Act)(o:Oper)(vs:List AV)(res:ct),
    o.op=op->fo tt op=some (k,xs,cls)->aT ρ C st w->eO ρ st.next.toNat C fr a.tmps->dN fr xs=some vs->
    k.run (λb=>st.heap.get b) st.next vs=some res->tM P ρ C st w ((execOp a.eval o).run P w) res
section
variable{P:Program}{tt:TT}
theorem Ro{ρ:Pos->Loc}{n:Nat}{C:Cells}{x y:Operand}{os:List dM}{fr:Fr}{a:Act}{vs:List AV}(h:iI [x,y]=some os)(hF:eO ρ n C fr a.tmps)(hv:dN fr os=some vs):
  ∃u v,vs=[u,v]/\aj ρ n C u (a.eval x)/\aj ρ n C v (a.eval y):=by
 have h1:=dG h hF hv;cases vs with
 |nil=>have:=h1.1;simp at this
 |cons u vs=>
  cases vs with
  |nil=>have:=h1.1;simp at this
  |cons v vs=>
   cases vs with
   |nil=>exact⟨u,v,rfl,h1.2 0 u _ rfl rfl,h1.2 1 v _ rfl rfl⟩
   |cons z vs=>have:=h1.1;simp at this
theorem evs3{ρ:Pos->Loc}{n:Nat}{C:Cells}{x y z:Operand}{os:List dM}{fr:Fr}{a:Act}{vs:List AV}(h:iI [x,y,z]=some os)(hF:eO ρ n C fr a.tmps)(hv:dN fr os=some vs):
  ∃u v q,vs=[u,v,q]/\aj ρ n C u (a.eval x)/\aj ρ n C v (a.eval y)/\aj ρ n C q (a.eval z):=by
 have h1:=dG h hF hv
 match vs,h1 with
 |[u,v,q],h1=>exact⟨u,v,q,rfl,h1.2 0 u _ rfl rfl,h1.2 1 v _ rfl rfl,h1.2 2 q _ rfl rfl⟩
 |[],h1=>have:=h1.1;simp at this
 |[_],h1=>have:=h1.1;simp at this
 |[_,_],h1=>have:=h1.1;simp at this
 |_::_::_::_::_,h1=>have:=h1.1;simp at this
theorem abQ(x:Operand):cE P tt (.move x):=by
 intro ρ C st w k xs cls fr a o vs res ho hc hW hF hx hr;simp only[fo]at hc;split at hc<;>first|(cases hc;done)|skip
 rename_i b hb;cases hc;obtain⟨v,rfl,hv⟩:=eA hb hF hx;simp only[az.run,MU,H0]at hr;subst hr;exact .pure (by simp[execOp,ho]) hv
theorem Zg(x:Operand):cE P tt (.assign x):=by
 intro ρ C st w k xs cls fr a o vs res ho hc hW hF hx hr;simp only[fo]at hc;split at hc<;>first|(cases hc;done)|skip
 rename_i b hb;cases hc;obtain⟨v,rfl,hv⟩:=eA hb hF hx;simp only[az.run,MU,H0]at hr;subst hr;exact .pure (by simp[execOp,ho]) hv
theorem abR(c x y:Operand):cE P tt (.pick c x y):=by
 intro ρ C st w k xs cls fr a o vs res ho hc hW hF hx hr;simp only[fo]at hc;split at hc<;>first|(cases hc;done)|skip
 rename_i l hl;cases hc;obtain⟨u,v,q,rfl,h1,h2,h3⟩:=evs3 hl hF hx;simp only[az.run,Rj]at hr;split at hr<;>first|(cases hr;done)|skip
 all_goals
   simp only[H0]at hr;subst hr;have h1:=h1.fS
 .exact .pure (by simp[execOp,ho,h1,asBool]) h2
 .exact .pure (by simp[execOp,ho,h1,asBool]) h3
theorem aas(hT:bM P tt)(op:BinOp)(t:TypeId)(x y:Operand)(yt:TypeId):cE P tt (.binOp op t x y yt):=by
 intro ρ C st w k xs cls fr a o vs res ho hc hW hF hx hr;have key:∃q,adF tt op q t/\k= .bin op q/\iI [x,y]=some xs:=by
  simp only[fo]at hc;split at hc
  .rename_i q l hq hl;cases hc;exact⟨q,.inl hq,rfl,hl⟩
  .rename_i l hq hl;(split at hc<;>first|(cases hc;done)|skip);rename_i h1 h2;cases hc;exact⟨.num,.inr ⟨rfl,λe=>h1 e,λe=>h2 e⟩,rfl,hl⟩
  .cases hc
 obtain⟨q,hq,rfl,hl⟩:=key;obtain⟨u,v,rfl,h1,h2⟩:=Ro hl hF hx;simp only[az.run,gS]at hr;split at hr<;>first|(cases hr;done)|skip
 rename_i r hb;simp only[H0]at hr;subst hr;obtain⟨z,hz,hv⟩:=abP hT hq h1 h2 hb x y (w:=w);refine .pure ?_ hv;simp only[execOp,ho];rw[Sem.run_bind,hz];rfl
theorem abS(op:UnOp)(t:TypeId)(x:Operand):cE P tt (.unOp op t x):=by
 intro ρ C st w k xs cls fr a o vs res ho hc hW hF hx hr;simp only[fo]at hc;split at hc<;>first|(cases hc;done)|skip
 rename_i b hb;cases hc;obtain⟨v,rfl,hv⟩:=eA hb hF hx;simp only[az.run,Za]at hr;split at hr<;>first|(cases hr;done)|skip
 rename_i r hu;simp only[H0]at hr;subst hr;unfold unA at hu;split at hu
 . (split at hu<;>first|(cases hu;done)|skip);simp only[H0]at hu;subst hu;exact .pure (by simp[execOp,ho,hv.fS,Op.unary]) (.bool _)
 . (split at hu<;>first|(cases hu;done)|skip);simp only[H0]at hu;subst hu;exact .pure (by simp[execOp,ho,hv.gP,Op.unary,Op.intArith];rfl) (by rw[rY];simpa using aj.int _ _)
 .cases hu
theorem U6(x:Operand):cE P tt (.nilCheck x):=by
 intro ρ C st w k xs cls fr a o vs res ho hc hW hF hx hr;simp only[fo]at hc;split at hc<;>first|(cases hc;done)|skip
 rename_i b hb;cases hc;obtain⟨v,rfl,hv⟩:=eA hb hF hx;simp only[az.run,FI]at hr;split at hr<;>first|(cases hr;done)|skip
 all_goals simp only[H0]at hr;subst hr
 .obtain⟨_,he⟩:=hv.eu;exact .pure (by simp[execOp,ho,he]) hv
 .obtain⟨_,_,_,_,he,_⟩:=hv.GQ;exact .pure (by simp[execOp,ho,he]) hv
 .obtain⟨_,_,he,_⟩:=hv.Ae;exact .pure (by simp[execOp,ho,he]) hv
theorem Xs(x:Operand)(i:Nat):cE P tt (.extract x i):=by
 intro ρ C st w k xs cls fr a o vs res ho hc hW hF hx hr;simp only[fo]at hc;split at hc<;>first|(cases hc;done)|skip
 rename_i b hb;cases hc;obtain⟨v,rfl,hv⟩:=eA hb hF hx;simp only[az.run,Cp]at hr;split at hr<;>first|(cases hr;done)|skip
 split at hr<;>first|(cases hr;done)|skip
 rename_i u hu;simp only[H0]at hr;subst hr;obtain⟨cs,he,hs⟩:=hv.SC;rw[kq]at hu;obtain⟨y,hy,C6⟩:=hs.get hu;exact .pure (by simp at hy;simp[execOp,ho,he,Instr.extract,hy]) C6
theorem Xt(hT:bM P tt)(t:TypeId)(x:Operand):cE P tt (.makeInterface t x):=by
 intro ρ C st w k xs cls fr a o vs res ho hc hW hF hx hr;simp only[fo]at hc;split at hc<;>first|(cases hc;done)|skip
 rename_i ti b cI hb;split at hc<;>first|(cases hc;done)|skip
 rename_i h1 h2;cases hc;obtain⟨v,rfl,hv⟩:=eA hb hF hx;simp only[az.run,H6,H0]at hr;subst hr;obtain⟨d,hd,hk⟩:=(hT.at cI).und;refine .pure (x:= .iface t (a.eval x)) ?_ (.iface _ _ _ hv);have hni:∀ms,d≠ .interface ms:=by
  rintro ms rfl;cases BV:ti.k<;>rw[BV]at hk<;>first|(simp[bB]at hk;done)|(exact h1 BV)|(exact h2 BV)
 simp only[execOp,ho,Instr.makeInterface,Sem.run_bind,aM hd,Result.andThen_ok];cases d<;>first|rfl|(exact absurd rfl (hni _))
theorem Zh(fn:Fn)(first captured:Array Operand):cE P tt (.makeFunc fn first captured):=by
 intro ρ C st w k xs cls fr a o vs res ho hc hW hF hx hr;simp only[fo]at hc;split at hc<;>first|(cases hc;done)|skip
 rename_i f l hl;cases hc;have h:=dG hl hF hx;simp only[az.run,EP,H0]at hr;subst hr;have e1:vs.take first.size=vs.take first.size:=rfl
 have h1:=h.take first.size
 have h2:=h.drop first.size
 simp only[Zh3]at h1 h2;rw[Zj9 (by simp)]at h1;rw[List.drop_left' (by simp)]at h2;refine .pure (x:= .func (.func f) (first.map a.eval) (captured.map a.eval)) (by simp[execOp,ho,Instr.makeFunc]) ?_;exact .func _ _ _ _ _ (by simpa using h1.1) (by simpa using h2.1) (λi v v' hv zQ=>h1.2 i v v' hv (by simpa using zQ)) (λi v v' hv zQ=>h2.2 i v v' hv (by simpa using zQ))
theorem TR(hT:bM P tt)(t:TypeId)(x:Operand)(f:Nat):cE P tt (.fieldAddr t x f):=by
 intro ρ C st w k xs cls fr a o vs res ho hc hW hF hx hr;simp only[fo]at hc;split at hc<;>first|(cases hc;done)|skip
 rename_i ti b cI hb;split at hc<;>first|(cases hc;done)|skip
 rename_i fs hk;split at hc<;>first|(cases hc;done)|skip
 rename_i off ft nm hf;split at hc<;>first|(cases hc;done)|skip
 rename_i fi hfi;split at hc<;>first|(cases hc;done)|skip
 rename_i eF;cases hc;obtain⟨v,rfl,hv⟩:=eA hb hF hx;obtain⟨d,hd,bS⟩:=(hT.at cI).und;rw[hk]at bS;obtain⟨gs,rfl,hm⟩:=EV bS;obtain⟨g,hg,mS,zR,_⟩:=Ii hm hf;simp only at mS zR;obtain⟨i,hi,jP,_⟩:=(hT.at hfi).info;have hs0:¬i.size=0:=by rw[jP];exact Zb2 eF
 simp only[az.run,KI]at hr;split at hr<;>first|(cases hr;done)|skip
 .simp only[H0]at hr;subst hr;obtain⟨aK,he⟩:=hv.eu;refine .pure (x:= .pointer (some ⟨(ρ _).ay,(ρ _).base+(_+off),none⟩)) ?_ (.ptr _ _ aK);simp at hg;simp[execOp,ho,he,Instr.fieldAt,aM hd,hg,Instr.sureAddr,fieldPlace,zR,gH hi,hs0,ku,mS,Zg7]
 .simp only[H0]at hr;subst hr;obtain⟨es,ay,base,cell,he,h1,h2,h3⟩:=hv.GQ;rename_i uX i' j';refine .pure (x:= .pointer (some ⟨ay,base+i'*es+(j'+off),none⟩)) ?_ (.fp _ _ _ es ay base cell h1 h2 h3);simp at hg;simp[execOp,ho,he,Instr.fieldAt,aM hd,hg,Instr.sureAddr,fieldPlace,zR,gH hi,hs0,ku,mS,Zg7]
theorem iW{ρ:Pos->Loc}{n:Nat}{C:Cells}{v:AV}{x:Value}{i:Nat}(h:aj ρ n C v x)(hi:uF v=some i):∃k,x= .int k (i:Int):=by
 unfold uF at hi;split at hi<;>first|(cases hi;done)|skip
 split at hi<;>first|(cases hi;done)|skip
 simp only[H0]at hi;subst hi;exact⟨_,h.gP⟩
theorem TU(hT:bM P tt)(t:TypeId)(x ix:Operand):cE P tt (.indexAddr t x ix):=by
 intro ρ C st w k xs cls fr a o vs res ho hc hW hF hx hr;simp only[fo]at hc;split at hc<;>first|(cases hc;done)|skip
 rename_i ti l cI hl;obtain⟨d,hd,bS⟩:=(hT.at cI).und;obtain⟨u,v,rfl,h1,h2⟩:=Ro hl hF (by
   split at hc<;>first|(cases hc;done)|skip
   all_goals
     (split at hc<;>first|(cases hc;done)|skip);cases hc;exact hx)
 split at hc<;>first|(cases hc;done)|skip
 . rename_i e hk;rw[hk]at bS;rw[kY bS]at hd;(split at hc<;>first|(cases hc;done)|skip);rename_i te eJ;cases hc;obtain⟨i0,kN,jP,_⟩:=(hT.at eJ).info;simp only[az.run,mD]at hr;(split at hr<;>first|(cases hr;done)|skip);rename_i i hi;obtain⟨kk,BW⟩:=iW h2 hi;split at hr<;>first|(cases hr;done)|skip
   .rename_i b off len cap es' _;(split at hr<;>first|(cases hr;done)|skip);rename_i aK;have aK:i<len:=(by simpa using aK);simp only[H0]at hr;subst hr;obtain⟨aa,aI,he,hle,_,ha⟩:=h1.cQ;obtain⟨hb,rfl,_⟩:=ha (by omega);refine .pure (x:= .pointer (some ⟨(ρ b).ay,(ρ b).base+(off+i*te.size),none⟩)) ?_ (.ptr _ _ hb);simp[execOp,ho,he,BW,Instr.indexAt,aM hd,asIntOf,aK,gH kN,ku,jP,Zg7]
   .rename_i uX es' _;(split at hr<;>first|(cases hr;done)|skip);rename_i aK di;have aK:i<uX.length:=(by simpa using aK);have di:te.size=es':=H3 di;simp only[H0]at hr;subst hr;obtain⟨aa,aI,cell,he,hle,yp,g1,g2,g3⟩:=h1.rX;have yp:=yp (by intro e;rw[e]at aK;simp at aK);obtain⟨ab,ao,asp⟩:=aa;simp only at yp;subst yp;refine .pure (x:= .pointer (some ⟨ab,ao+i*es'+0,none⟩)) ?_ (.fp _ _ _ es' ab ao cell g1 g2 g3);simp[execOp,ho,he,BW,Instr.indexAt,aM hd,asIntOf,aK,gH kN,ku,jP,di]
   .rename_i hh;cases hh
 . rename_i m e hk;rw[hk]at bS;rw[U2 bS]at hd;(split at hc<;>first|(cases hc;done)|skip);rename_i te eJ;cases hc;obtain⟨i0,kN,jP,_⟩:=(hT.at eJ).info;simp only[az.run,mD]at hr;(split at hr<;>first|(cases hr;done)|skip);rename_i i hi;obtain⟨kk,BW⟩:=iW h2 hi;split at hr<;>first|(cases hr;done)|skip
   .rename_i hh;cases hh
   .rename_i hh;cases hh
   .rename_i m' b off hh;cases hh;(split at hr<;>first|(cases hr;done)|skip);rename_i aK;have aK:i<m:=(by simpa using aK);simp only[H0]at hr;subst hr;obtain⟨hb,he⟩:=h1.eu;refine .pure (x:= .pointer (some ⟨(ρ b).ay,(ρ b).base+(off+i*te.size),none⟩)) ?_ (.ptr _ _ hb);simp[execOp,ho,he,BW,Instr.indexAt,aM hd,asIntOf,aK,gH kN,ku,jP,Zg7,Instr.sureAddr]
end
section
variable{P:Program}{tt:TT}
theorem aat(hT:bM P tt)(t:TypeId)(x:Operand)(f:Nat):cE P tt (.field t x f):=by
 intro ρ C st w k xs cls fr a o vs res ho hc hW hF hx hr;simp only[fo]at hc;split at hc<;>first|(cases hc;done)|skip
 rename_i ti b cI hb;split at hc<;>first|(cases hc;done)|skip
 rename_i fs hk;split at hc<;>first|(cases hc;done)|skip
 rename_i off ft nm hf;split at hc<;>first|(cases hc;done)|skip
 rename_i fi hfi;cases hc;obtain⟨v,rfl,hv⟩:=eA hb hF hx;obtain⟨d,hd,bS⟩:=(hT.at cI).und;rw[hk]at bS;obtain⟨gs,rfl,hm⟩:=EV bS;obtain⟨g,hg,mS,zR,_⟩:=Ii hm hf;simp only at mS zR;obtain⟨i,hi,jP,_⟩:=(hT.at hfi).info;obtain⟨fd,hfd,hfk⟩:=(hT.at hfi).und;have nS:=OA hfk w hfd;simp only[az.run,Ov]at hr;split at hr<;>first|(cases hr;done)|skip
 rename_i cs;obtain⟨cx,he,hs⟩:=hv.CL;simp at hg;split at hr
 . rename_i hn;(split at hr<;>first|(cases hr;done)|skip);rename_i u hu;simp only[H0]at hr;subst hr;rw[kq]at hu;obtain⟨y,hy,C6⟩:=hs.get hu;have Zi:fi.k.isAgg=false:=by
     unfold yj at hn;split at hn
     .cases hn
     .assumption
   rw[Zi]at nS;refine .pure (x:=y) ?_ C6;simp at hy;simp[execOp,ho,he,Instr.field,aM hd,hg,part,zR,nS,asAgg,mS,hy]
 . rename_i m hn;simp only[H0]at hr;subst hr;have Zi:fi.k.isAgg=true/\m=fi.size:=by
     unfold yj at hn;split at hn
     .cases hn;exact⟨by assumption,rfl⟩
     .cases hn
   rw[Zi.1]at nS;refine .pure (x:= .agg (cx.extract off (off+m))) ?_ (.CW ?_)
   .simp[execOp,ho,he,Instr.field,aM hd,hg,part,zR,nS,asAgg,mS,gH hi,jP,Zi.2]
   .have:=(hs.drop off).take m;simpa [Zn0,List.extract]using this
theorem aau(hT:bM P tt)(t:TypeId)(x ix:Operand):cE P tt (.index t x ix):=by
 intro ρ C st w k xs cls fr a o vs res ho hc hW hF hx hr;simp only[fo]at hc;split at hc<;>first|(cases hc;done)|skip
 rename_i ti l cI hl;split at hc<;>first|(cases hc;done)|skip
 rename_i hk;cases hc;obtain⟨u,v,rfl,h1,h2⟩:=Ro hl hF hx;obtain⟨d,hd,bS⟩:=(hT.at cI).und;rw[hk]at bS;rw[kL bS]at hd;simp only[az.run,MV]at hr;split at hr<;>first|(cases hr;done)|skip
 rename_i s i hi;split at hr<;>first|(cases hr;done)|skip
 rename_i c hcx;simp only[H0]at hr;subst hr;obtain⟨bs,he,hs⟩:=h1.dP;obtain⟨kk,BW⟩:=iW h2 hi;rw[kq, <-hs,Zb5]at hcx;obtain⟨b,hb,hbc⟩:=Zf1.1 hcx;have iz:bs[i]? =some b:=by
  obtain⟨aK,jE⟩:=H5.1 hb;have Ij:i<bs.size:=by rw[Ze9]at aK;exact aK
  rw[getElem?_pos bs i Ij];congr 1
 refine .pure (x:= .int .u8 (.ofNat c)) ?_ (.int _ _);simp[execOp,ho,he,BW,Instr.index,aM hd,asIntOf,iz, <-hbc]
theorem abT(hT:bM P tt)(t:TypeId)(x:Operand):cE P tt (.load t x):=by
 intro ρ C st w k xs cls fr a o vs res ho hc hW hF hx hr;simp only[fo]at hc;split at hc<;>first|(cases hc;done)|skip
 rename_i ti b cI hb;cases hc;obtain⟨v,rfl,hv⟩:=eA hb hF hx;obtain⟨d,hd,bS⟩:=(hT.at cI).und;obtain⟨i,hi,jP,_⟩:=(hT.at cI).info;have nS:=OA bS w hd;have hn:(yj ti=none/\ti.k.isAgg=false)\/(yj ti=some ti.size/\ti.k.isAgg=true):=by unfold yj;split<;>simp_all
 simp only[az.run,tK]at hr;split at hr<;>first|(cases hr;done)|skip
 . rename_i bb off;(split at hr<;>first|(cases hr;done)|skip);rename_i cs fz jE;obtain⟨_,he⟩:=hv.eu;rcases hn with⟨hn,hf⟩|⟨hn,hf⟩
   .rw[hn]at hr;rw[hf]at nS;simp only at hr;(split at hr<;>first|(cases hr;done)|skip);rename_i u hu;simp only[H0]at hr;subst hr;rw[kq]at hu;obtain⟨y,hy,C6⟩:=hW.cell jE hu;refine .pure (x:=y) ?_ C6;simp[execOp,ho,he,Instr.loadAt,Instr.sureAddr,loadVar,nS,hy]
   .rw[hn]at hr;rw[hf]at nS;simp only at hr;(split at hr<;>first|(cases hr;done)|skip);rename_i us hu;simp only[H0]at hr;subst hr;obtain⟨ys,hy,C6⟩:=hW.loadCells (P:=P) jE hu;refine .pure (x:= .agg ys.toArray) ?_ (.CW (by simpa using C6));simp[execOp,ho,he,Instr.loadAt,Instr.sureAddr,loadVar,nS,gH hi,jP,hy]
   rename_i tt0 cs jE;obtain⟨_,he⟩:=hv.eu;rcases hn with⟨hn,hf⟩|⟨hn,hf⟩
   .rw[hn]at hr;rw[hf]at nS;simp only at hr;(split at hr<;>first|(cases hr;done)|skip);rename_i u hu;simp only[H0]at hr;subst hr;rw[kq]at hu;obtain⟨y,hy,C6⟩:=hW.afI jE hu;refine .pure (x:=y) ?_ C6;simp[execOp,ho,he,Instr.loadAt,Instr.sureAddr,loadVar,nS,hy]
   .rw[hn]at hr;rw[hf]at nS;simp only at hr;(split at hr<;>first|(cases hr;done)|skip);rename_i us hu;simp only[H0]at hr;subst hr;obtain⟨ys,hy,C6⟩:=hW.PJ (P:=P) jE hu;refine .pure (x:= .agg ys.toArray) ?_ (.CW (by simpa using C6));simp[execOp,ho,he,Instr.loadAt,Instr.sureAddr,loadVar,nS,gH hi,jP,hy]
 . rename_i uX i' j';(split at hr<;>first|(cases hr;done)|skip);rename_i cs eZ;rw[kq]at eZ;obtain⟨es,ay,base,cell,he,g1,g2,g3⟩:=hv.GQ;rcases hn with⟨hn,hf⟩|⟨hn,hf⟩
   .rw[hn]at hr;rw[hf]at nS;simp only at hr;(split at hr<;>first|(cases hr;done)|skip);rename_i u hu;simp only[H0]at hr;subst hr;rw[kq]at hu;have EX:=(hW.cV _ _ (g2 _ _ _ _ eZ hu)).1;refine .pure (x:=cell i' j') ?_ (g3 _ _ _ _ eZ hu);simp[execOp,ho,he,Instr.loadAt,Instr.sureAddr,loadVar,nS,EX]
   . rw[hn]at hr;rw[hf]at nS;simp only at hr;(split at hr<;>first|(cases hr;done)|skip);rename_i us hu;simp only[H0]at hr;subst hr;obtain⟨hus,hle⟩:=CZ hu;have hlen:=tN hu;have bU:(loadCells ⟨ay,base+i'*es+j',none⟩ ti.size).run P w= .ok ((List.range ti.size).map λq=>cell i' (j'+q)).toArray w:=by
        (refine run_loadCells w _ _ _ λq hq=> ?_);rw[ku];have:cs[j'+q]? =some (cs[j'+q]'(by omega)):=H1 (by omega);rw[Zg7];exact(hW.cV _ _ (g2 _ _ _ _ eZ this)).1
     refine .pure (x:= .agg ((List.range ti.size).map λq=>cell i' (j'+q)).toArray) ?_ (.CW ⟨by simp[hlen],λq u y hu' hy=> ?_⟩)
     .  simp[execOp,ho,he,Instr.loadAt,Instr.sureAddr,loadVar,nS,gH hi,jP,bU]
     .  have hq:q<ti.size:=(by rw[<-hlen];exact(H5.1 hu').1);rw[hus,Zb1,Za2 hq,Zc6]at hu';simp[hq]at hy;subst hy;exact g3 _ _ _ _ eZ hu'
theorem abU{x y:Value}{ρ:Pos->Loc}{n:Nat}{C:Cells}{u v r:AV}{w:World}{st:St}(h1:aj ρ n C u x)(h2:aj ρ n C v y)(hr:CI (λb=>st.heap.get b) st.next [u,v]=some (.val r)):
   ∃z,(Builtin.min2 x y).run P w= .ok z w/\aj ρ n C r z:=by
 simp only[CI]at hr;split at hr<;>first|(cases hr;done)|skip
 . simp only[H0,ct.val.injEq]at hr;subst hr;rw[h1.gP,h2.gP];refine⟨_,rfl,?_⟩;rw[ej];split
   .rename_i h;rw[Za2 (Zf5 h)];exact .int _ _
   .rename_i h;rw[Za1 (Zl0 h)];exact .int _ _
 . simp only[H0,ct.val.injEq]at hr;subst hr;rename_i sa sb;obtain⟨bx,rfl,e1⟩:=h1.dP;obtain⟨bz,rfl,e2⟩:=h2.dP;have hh:(Op.stringOp .leq bx bz).run P w= .ok (.bool (aA sa sb||iy sa sb)) w:=by
     simp only[Op.stringOp,Sem.run_pure];rw[OB e1 e2,GU e1 e2]
   refine⟨_,by simp only[Builtin.min2,Sem.run_bind,hh,Result.andThen_ok,asBool,Sem.run_pure];rfl,?_⟩;split
   .rename_i h;rw[Za2 h];exact .str _ _ e1
   .rename_i h;rw[Za1 (by rw[h];simp)];exact .str _ _ e2
theorem abV{x y:Value}{ρ:Pos->Loc}{n:Nat}{C:Cells}{u v r:AV}{w:World}{st:St}(h1:aj ρ n C u x)(h2:aj ρ n C v y)(hr:CJ (λb=>st.heap.get b) st.next [u,v]=some (.val r)):
   ∃z,(Builtin.max2 x y).run P w= .ok z w/\aj ρ n C r z:=by
 simp only[CJ]at hr;split at hr<;>first|(cases hr;done)|skip
 . simp only[H0,ct.val.injEq]at hr;subst hr;rw[h1.gP,h2.gP];refine⟨_,rfl,?_⟩;rw[ej];split
   .rename_i h;rw[Za2 (Zf5 h)];exact .int _ _
   .rename_i h;rw[Za1 (Zl0 h)];exact .int _ _
 . simp only[H0,ct.val.injEq]at hr;subst hr;rename_i sa sb;obtain⟨bx,rfl,e1⟩:=h1.dP;obtain⟨bz,rfl,e2⟩:=h2.dP;have hh:(Op.stringOp .geq bx bz).run P w= .ok (.bool (!aA sa sb)) w:=by
     simp only[Op.stringOp,Sem.run_pure];rw[OB e1 e2]
   refine⟨_,by simp only[Builtin.max2,Sem.run_bind,hh,Result.andThen_ok,asBool,Sem.run_pure];rfl,?_⟩;split
   .rename_i h;rw[Za1 (by rw[h];simp)];exact .str _ _ e2
   .rename_i h;rw[Za2 (by rw[h];rfl)];exact .str _ _ e1
theorem fD(xs:Array Operand)(a:Act):xs.toList.map a.eval=(xs.map a.eval).toList:=by simp
end
section
variable{P:Program}{tt:TT}
theorem vs1{ρ:Pos->Loc}{n:Nat}{C:Cells}{bs:List AV}{x:Value}(h:av ρ n C bs [x]):∃b,bs=[b]/\aj ρ n C b x:=by
 match bs,h with
 |[b],h=>exact⟨b,rfl,h.2 0 b x rfl rfl⟩
 |[],h=>have:=h.1;simp at this
 |_::_::_,h=>have:=h.1;simp at this
theorem vs2{ρ:Pos->Loc}{n:Nat}{C:Cells}{bs:List AV}{x y:Value}(h:av ρ n C bs [x,y]):∃b c,bs=[b,c]/\aj ρ n C b x/\aj ρ n C c y:=by
 match bs,h with
 |[b,c],h=>exact⟨b,c,rfl,h.2 0 b x rfl rfl,h.2 1 c y rfl rfl⟩
 |[],h=>have:=h.1;simp at this
 |[_],h=>have:=h.1;simp at this
 |_::_::_::_,h=>have:=h.1;simp at this
theorem vs3{ρ:Pos->Loc}{n:Nat}{C:Cells}{bs:List AV}{x y z:Value}(h:av ρ n C bs [x,y,z]):∃b c d,bs=[b,c,d]/\aj ρ n C b x/\aj ρ n C c y/\aj ρ n C d z:=by
 match bs,h with
 |[b,c,d],h=>exact⟨b,c,d,rfl,h.2 0 b x rfl rfl,h.2 1 c y rfl rfl,h.2 2 d z rfl rfl⟩
 |[],h=>have:=h.1;simp at this
 |[_],h=>have:=h.1;simp at this
 |[_,_],h=>have:=h.1;simp at this
 |_::_::_::_::_,h=>have:=h.1;simp at this
def C7(x:Option Value)(i:Option Nat):Prop:=(x=none/\i=none)\/∃j k,i=some j/\x=some (.int k (j:Int))
theorem PN{ρ:Pos->Loc}{n:Nat}{C:Cells}{lo hi mx:Option Operand}{bs:List AV}{a:Act}{l h m:Option Nat}
   (hb:av ρ n C bs ((yl lo++yl hi++yl mx).map a.eval)) (hr:bounds lo.isSome hi.isSome mx.isSome bs=some (l,h,m)):
   C7 (lo.map a.eval) l/\C7 (hi.map a.eval) h/\C7 (mx.map a.eval) m/\(m.isSome=true->h.isSome=true):=by
 unfold bounds at hr
 cases lo<;>cases hi<;>cases mx<;>simp only[Option.isSome_some,Option.isSome_none,yl,Zg8,Zf4,Ze4,Zb8,Zf2]at hb hr<;>
   first|(cases hr;done)|skip
 . cases bs with
   |cons b bs=>have:=hb.1;simp at this
   |nil=>simp at hr;obtain⟨rfl,rfl,rfl⟩:=hr;exact⟨.inl ⟨rfl,rfl⟩,.inl ⟨rfl,rfl⟩,.inl ⟨rfl,rfl⟩,λh=>by cases h⟩
 .obtain⟨b,rfl,h1⟩:=vs1 hb;simp only at hr;(split at hr<;>first|(cases hr;done)|skip);rename_i j hj;obtain⟨k,hk⟩:=iW h1 hj;simp at hr;obtain⟨rfl,rfl,rfl⟩:=hr;exact⟨.inl ⟨rfl,rfl⟩,.inr ⟨j,k,rfl,by simp[hk]⟩,.inl ⟨rfl,rfl⟩,λh=>by cases h⟩
 .obtain⟨b,c,rfl,h1,h2⟩:=vs2 hb;simp only at hr;(split at hr<;>first|(cases hr;done)|skip);rename_i j j' hj BT;obtain⟨k,hk⟩:=iW h1 hj;obtain⟨k',jX⟩:=iW h2 BT;simp at hr;obtain⟨rfl,rfl,rfl⟩:=hr;exact⟨.inl ⟨rfl,rfl⟩,.inr ⟨j,k,rfl,by simp[hk]⟩,.inr ⟨j',k',rfl,by simp[jX]⟩,λ_=>rfl⟩
 .obtain⟨b,rfl,h1⟩:=vs1 hb;simp only at hr;(split at hr<;>first|(cases hr;done)|skip);rename_i j hj;obtain⟨k,hk⟩:=iW h1 hj;simp at hr;obtain⟨rfl,rfl,rfl⟩:=hr;exact⟨.inr ⟨j,k,rfl,by simp[hk]⟩,.inl ⟨rfl,rfl⟩,.inl ⟨rfl,rfl⟩,λh=>by cases h⟩
 .obtain⟨b,c,rfl,h1,h2⟩:=vs2 hb;simp only at hr;(split at hr<;>first|(cases hr;done)|skip);rename_i j j' hj BT;obtain⟨k,hk⟩:=iW h1 hj;obtain⟨k',jX⟩:=iW h2 BT;simp at hr;obtain⟨rfl,rfl,rfl⟩:=hr;exact⟨.inr ⟨j,k,rfl,by simp[hk]⟩,.inr ⟨j',k',rfl,by simp[jX]⟩,.inl ⟨rfl,rfl⟩,λh=>by cases h⟩
 .obtain⟨b,c,d,rfl,h1,h2,h3⟩:=vs3 hb;simp only at hr;(split at hr<;>first|(cases hr;done)|skip);rename_i j j' j'' hj BT hj'';obtain⟨k,hk⟩:=iW h1 hj;obtain⟨k',jX⟩:=iW h2 BT;obtain⟨k'',hk''⟩:=iW h3 hj'';simp at hr;obtain⟨rfl,rfl,rfl⟩:=hr;exact⟨.inr ⟨j,k,rfl,by simp[hk]⟩,.inr ⟨j',k',rfl,by simp[jX]⟩,.inr ⟨j'',k'',rfl,by simp[hk'']⟩,λ_=>rfl⟩
theorem zS(isS:Bool){len cap:Nat}{xl xh xm:Option Value}{l h m:Option Nat}(h1:C7 xl l)(h2:C7 xh h)(h3:C7 xm m)(hmh:m.isSome=true->h.isSome=true)
  (GV:l.getD 0<=h.getD len) (hhm:h.getD len<=m.getD cap) (hmc:m.getD cap<=cap) (w:World):
  (Instr.sliceBounds isS len cap xl xh xm).run P w= .ok (l.getD 0,h.getD len,m.getD cap) w:=by
 rcases h1 with⟨rfl,rfl⟩|⟨jl,kl,rfl,rfl⟩<;>rcases h2 with⟨rfl,rfl⟩|⟨jh,kh,rfl,rfl⟩<;>rcases h3 with⟨rfl,rfl⟩|⟨jm,km,rfl,rfl⟩<;>
  simp only[Option.getD_none,Zi7,Option.isSome_some,Option.isSome_none]at GV hhm hmc hmh ⊢ <;>
  first
   |(simp at hmh;done)
   |simp[Instr.sliceBounds,Instr.sliceBound,asIntOf,GV,hhm,hmc,Int.ofNat_le]
theorem EZ{ρ:Pos->Loc}{n:Nat}{C:Cells}{b:Pos}{off es aI l h M:Nat}{aa:Addr}{abW:Option Nat}
   (ha:aI≠0->b.toNat<n/\aa=⟨(ρ b).ay,(ρ b).base+off,none⟩/\(ρ b).base+off+aI*es<=(ρ b).size)
   (h1:l<=h) (h2:h<=M) (h3:M<=aI) (hc:∀c,abW=some c->c=M - l) (hk:abW=none->b.toNat<n):
   aj ρ n C (.slice b (off+l*es) (h - l) abW es) (.slice (if M=l then some aa else(some aa).map (·.add (l*es))) (h - l) (M - l)):=by
 by_cases hm:M=l
 .rw[Za2 hm];exact .slice _ _ _ _ _ _ _ (by omega) hc (λh0=>absurd (by omega) h0) hk
 .rw[Za1 hm];obtain⟨hb,rfl,hle⟩:=ha (by omega);refine .slice _ _ _ _ _ _ _ (by omega) hc (λ_=>⟨hb,by show Addr.add _ _=_;rw[ku,Zg7],?_⟩) hk;have e1:l*es+(M - l)*es=M*es:=(by rw[<-Zi2];congr 1;omega);have e2:M*es<=aI*es:=Zg3 _ h3;omega
theorem aav(hT:bM P tt)(t:TypeId)(x:Operand)(lo hi mx:Option Operand):cE P tt (.slice t x lo hi mx):=by
 intro ρ C st w k xs cls fr a o vs res ho hc hW hF hx hr;simp only[fo]at hc;split at hc<;>first|(cases hc;done)|skip
 rename_i ti l0 cI hl;obtain⟨d,hd,bS⟩:=(hT.at cI).und;split at hc<;>first|(cases hc;done)|skip
 . rename_i hk;rw[hk]at bS;rw[kL bS]at hd;(split at hc<;>first|(cases hc;done)|skip);cases hc;have hv:=dG hl hF hx;simp only[yl,Zf4,Ze4,Zg8,Zb8]at hv;simp only[az.run,KH]at hr;(split at hr<;>first|(cases hr;done)|skip);rename_i u bs;(split at hr<;>first|(cases hr;done)|skip);rename_i s l h m' hb;(split at hr<;>first|(cases hr;done)|skip);rename_i h1 h2;have h1:=Za0 h1;have h2:=Za0 h2;simp only[H0]at hr;subst hr;obtain⟨y,ys,CV,hu,JQ⟩:=hv.cons_inv;simp only[Zh4]at CV;obtain⟨rfl,rfl⟩:=CV;have jE:=PN (lo:=lo) (hi:=hi) (mx:=none) (a:=a) (by simpa [yl]using JQ) hb;obtain⟨bs',he,hs⟩:=hu.dP;have eF:=we hs
   have bU:=zS (P:=P) false (len:=bs'.size) (cap:=bs'.size) jE.1 jE.2.1 (.inl ⟨rfl,rfl⟩:C7 none none) (λh=>by cases h)
     (by rw[eF];exact h1) (by rw[eF];simpa using h2) (by simp) w
   refine .pure (x:= .string (bs'.extract (l.getD 0) (h.getD bs'.size))) ?_ (.str _ _ ?_)
   .simp only[execOp,ho,Instr.sliceAt,Sem.run_bind,aM hd,Result.andThen_ok,he,Instr.slice];simp[bU]
   .rw[eF,ByteArray.data_extract,Zn0, <-hs,List.extract,List.map_take,List.map_drop];rw[List.drop_take]
 . rename_i e hk;rw[hk]at bS;rw[kY bS]at hd;(split at hc<;>first|(cases hc;done)|skip);rename_i te eJ;cases hc;obtain⟨i0,kN,jP,_⟩:=(hT.at eJ).info;have hv:=dG hl hF hx;simp only[Ze4,Zg8,Zi4,Zb8]at hv;simp only[az.run,oT]at hr;(split at hr<;>first|(cases hr;done)|skip);rename_i u bs;obtain⟨y,ys,CV,hu,JQ⟩:=hv.cons_inv;simp only[Zh4]at CV;obtain⟨rfl,rfl⟩:=CV
   have mS:∀(sa:Option Addr)(len cap:Nat)(l h m:Option Nat),a.eval x= .slice sa len cap->bounds lo.isSome hi.isSome mx.isSome bs=some (l,h,m)->
        l.getD 0<=h.getD len->h.getD len<=m.getD cap->m.getD cap<=cap->
        (execOp a.eval o).run P w= .ok (.value (.slice (if m.getD cap=l.getD 0 then sa else sa.map (·.add (l.getD 0*te.size))) (h.getD len - l.getD 0) (m.getD cap - l.getD 0))) w:=by
     intro sa len cap l h m he hb h1 h2 h3;have jE:=PN (lo:=lo) (hi:=hi) (mx:=mx) (a:=a) (by simpa [Zi4]using JQ) hb;have bU:=zS (P:=P) true (len:=len) (cap:=cap) jE.1 jE.2.1 jE.2.2.1 jE.2.2.2 h1 h2 h3 w;simp only[execOp,ho,Instr.sliceAt,Sem.run_bind,aM hd,Result.andThen_ok,he,Instr.slice,bU,gH kN,jP,Sem.run_pure]
   split at hr<;>first|(cases hr;done)|skip
   ·
     rename_i b off len cap es' l h m hb;(split at hr<;>first|(cases hr;done)|skip);rename_i di GV;have di:te.size=es':=H3 di;subst di;have GV:=Za0 GV;obtain⟨aa,aI,he,hle,Rp,ha⟩:=hu.cQ;split at hr
     .  rename_i c m';(split at hr<;>first|(cases hr;done)|skip);rename_i e1 e2;have e1:=Za0 e1;have e2:=Za0 e2;have:=Rp c rfl;subst this;simp only[H0]at hr;subst hr;exact .pure (mS _ _ _ _ _ _ he hb GV (by simpa using e1) (by simpa using e2)) (EZ ha GV e1 e2 (λc hc=>by cases hc;rfl) (λh=>by cases h))
     .  rename_i c;(split at hr<;>first|(cases hr;done)|skip);rename_i e1;have e1:=Za0 e1;have:=Rp c rfl;subst this;simp only[H0]at hr;subst hr;exact .pure (mS _ _ _ _ _ _ he hb GV (by simpa using e1) (by simp)) (EZ ha GV e1 (Za3 _) (λc hc=>by cases hc;rfl) (λh=>by cases h))
     .  rename_i m';(split at hr<;>first|(cases hr;done)|skip);rename_i e1 e2;have e1:=Za0 e1;have e2:=Za0 e2;simp only[H0]at hr;subst hr;exact .pure (mS _ _ _ _ _ _ he hb GV (by simpa using e1) (by simp;omega)) (EZ ha GV e1 (by simp;omega) (λc hc=>by cases hc;rfl) (λh=>by cases h))
     .  (split at hr<;>first|(cases hr;done)|skip);rename_i e1;have e1:=Za0 e1;simp only[H0]at hr;subst hr;exact .pure (mS _ _ _ _ _ _ he hb GV (by simp;omega) (by simp)) (EZ ha GV (by simp;omega) (Za3 _) (λc hc=>by cases hc) (λ_=>hu.SH rfl))
   ·
     rename_i uX es' l h m hb;(split at hr<;>first|(cases hr;done)|skip);rename_i di;have di:te.size=es':=H3 di;subst di;obtain⟨aa,aI,cell,he,hle,yp,g1,g2,g3⟩:=hu.rX;split at hr
     .  rename_i m';(split at hr<;>first|(cases hr;done)|skip);rename_i e0 e1 e2;have e0:=H3 e0;have e1:=H3 e1;have e2:=H3 e2;subst e2;simp only[H0]at hr;subst hr;refine .pure (mS _ _ _ _ _ _ he hb (by omega) (by rw[e1];simp) (by simp)) ?_;simp only[e0,e1,Zi7,Zn6,Zf0];exact .slice _ _ _ _ _ _ _ (Za3 _) (λc hc=>by cases hc;rfl) (λh0=>absurd rfl h0) (λh=>by cases h)
     .  (split at hr<;>first|(cases hr;done)|skip);rename_i e0 e1;have e0:=Za0 e0;have e1:=Za0 e1;simp only[H0]at hr;subst hr;refine .pure (mS _ _ _ _ _ _ he hb e0 (by simp;omega) (by simp)) ?_;simp only[Option.getD_none];have hlen:(List.drop (l.getD 0) (List.take (h.getD uX.length) uX)).length=h.getD uX.length - l.getD 0:=(by simp;omega);rw[<-hlen];have qO:∀i cs,(List.drop (l.getD 0) (List.take (h.getD uX.length) uX))[i]? =some cs->uX[l.getD 0+i]? =some cs:=by
          intro i cs hi;rw[Zc6,Zb1]at hi;split at hi
          .exact hi
          .cases hi
        by_cases hcl:aI=l.getD 0
        .rw[Za2 hcl];have hemp:List.drop (l.getD 0) (List.take (h.getD uX.length) uX)=[]:=(by apply Za8;rw[hlen];omega);rw[hemp];exact .fl _ _ _ _ (λ_ _=>undef) (by simp) (λh=>absurd rfl h) (λi cs hi=>by simp at hi) (λi j cs v hi=>by simp at hi) (λi j cs v hi=>by simp at hi)
        . rw[Za1 hcl];by_cases aR:uX=[]
          .subst aR;simp only[List.take_nil,List.drop_nil];exact .fl _ _ _ _ (λ_ _=>undef) (by simp) (λh=>absurd rfl h) (λi cs hi=>by simp at hi) (λi j cs v hi=>by simp at hi) (λi j cs v hi=>by simp at hi)
          .have yp:=yp aR;obtain⟨ab,ao,asp⟩:=aa;simp only at yp;subst yp;simp only[Ze0,ku];refine .fl _ _ _ _ (λi j=>cell (l.getD 0+i) j) (by rw[hlen];omega) (λ_=>rfl) (λi cs hi=>g1 _ _ (qO i cs hi)) (λi j cs v hi hj=> ?_) (λi j cs v hi hj=>g3 _ _ _ _ (qO i cs hi) hj);have:=g2 _ _ _ _ (qO i cs hi) hj;simp only at this ⊢;rw[<-this];congr 2;rw[Zi2];omega
   ·
     rename_i l h m hb;(split at hr<;>first|(cases hr;done)|skip);rename_i e0 e1 e2;have e0:=H3 e0;have e1:=H3 e1;have e2:=H3 e2;simp only[H0]at hr;subst hr;have he:=hu.eV;refine .pure (mS _ _ _ _ _ _ he hb (by omega) (by omega) (by omega)) ?_;simp only[e0,e1,e2,Zn6,Zf0];exact .aq
end
section
variable{P:Program}{tt:TT}
theorem FL{ρ:Pos->Loc}{n:Nat}{C:Cells}:∀{l:List AV}{s:List Nat}{ys:List Value},bytesOf l=some s->av ρ n C l ys->
  ys=(s.map Int.ofNat).map (Value.int .u8)/\∀c,c∈s->c<256
 |[],s,ys,h,hv=>by
  simp[bytesOf]at h;subst h;exact⟨by simpa using hv.mF,λc hc=>by simp at hc⟩
 |v ::l,s,ys,h,hv=>by
  unfold bytesOf at h;split at h<;>first|(cases h;done)|skip
  .rename_i h0;simp at h0
  . rename_i c l' he;simp only[Zh4]at he;obtain⟨rfl,rfl⟩:=he;(split at h<;>first|(cases h;done)|skip);rename_i s' aK kZ;simp only[H0]at h;subst h;obtain⟨y,ys',rfl,h1,h2⟩:=hv.cons_inv;obtain⟨e,bW⟩:=FL kZ h2;have aK:c<256:=(by simpa using aK);refine⟨by rw[h1.gP,e];rfl,λc' hc=> ?_⟩;simp at hc;rcases hc with rfl|hc
    .exact aK
    .exact bW _ hc
theorem E0:∀(s:List Nat)(acc:ByteArray),((s.map Int.ofNat).foldl (λr n=>r.push (UInt8.ofNat n.toNat)) acc).data.toList=acc.data.toList++s.map UInt8.ofNat
 |[],acc=>by simp
 |c::s,acc=>by
  simp only[Zb8,Zo7];rw[E0 s];simp[ByteArray.push]
theorem Xu{P:Program}{e:TypeId}(hc:P.cellsOf e≠0)(count:Nat)(hn:1<=count):liesAt P P.depth e count 0 e 1=true:=by
 have hd:P.depth=(2*(P.types.size+Made.depth)+1)+1:=rfl;rw[hd];simp only[liesAt,Zg9];left;rw[hd];simp[rowAt,hc,hn,sameLayout]
theorem Xv(hT:bM P tt)(src dst:TypeId)(x:Operand)(hnb:∀k xs cls,fo tt (.convert src dst x)=some (k,xs,cls)->k≠ .conv .bytes):cE P tt (.convert src dst x):=by
 intro ρ C st w k xs cls fr a o vs res ho hc hW hF hx hr;have hnb:=hnb _ _ _ hc;simp only[fo]at hc;split at hc<;>first|(cases hc;done)|skip
 rename_i s d b hs hd hb;obtain⟨ds,tZ,BX⟩:=(hT.at hs).und;obtain⟨dd,hdd,bS⟩:=(hT.at hd).und;split at hc<;>first|(cases hc;done)|skip
 . rename_i k1 k2 h1 h2;cases hc;obtain⟨v,rfl,hv⟩:=eA hb hF hx;rw[h1]at BX;rw[h2]at bS;rw[GP BX]at tZ;rw[GP bS]at hdd;simp only[az.run,Ac]at hr;split at hr<;>first|(cases hr;done)|(rename_i heq;cases heq;done)|(rename_i heq;cases heq)
   simp only[H0]at hr;subst hr;refine .pure ?_ (by rw[rY];exact .int _ _);simp[execOp,ho,hv.gP,convert,aM tZ,aM hdd,Conv.intToInt]
 . rename_i h1 h2;cases hc;obtain⟨v,rfl,hv⟩:=eA hb hF hx;rw[h1]at BX;rw[h2]at bS;rw[kL BX]at tZ;rw[kL bS]at hdd;simp only[az.run,Ac]at hr;split at hr<;>first|(cases hr;done)|(rename_i heq;cases heq;done)|(rename_i heq;cases heq)
   simp only[H0]at hr;subst hr;obtain⟨bs,he,hs⟩:=hv.dP;exact .pure (x:= .string bs) (by simp[execOp,ho,he,convert,aM tZ,aM hdd]) (.str _ _ hs)
 . (split at hc<;>first|(cases hc;done)|skip);(split at hc<;>first|(cases hc;done)|skip);cases hc;exact absurd rfl hnb
 . rename_i e h1 h2;(split at hc<;>first|(cases hc;done)|skip);rename_i te eJ;(split at hc<;>first|(cases hc;done)|skip);rename_i hk8;cases hc;obtain⟨v,rfl,hv⟩:=eA hb hF hx;rw[h1]at BX;rw[h2]at bS;rw[kY BX]at tZ;rw[kL bS]at hdd;obtain⟨de,hde,hke⟩:=(hT.at eJ).und;rw[hk8]at hke;rw[GP hke]at hde;have mS:∀y:Option Addr×Nat×Nat,a.eval x= .slice y.1 y.2.1 y.2.2->(execOp a.eval o).run P w=((Conv.bytesToString (a.eval x)).run P w).andThen λv w=>.ok (.value v) w:=by
     intro y he;simp[execOp,ho,he,convert,aM tZ,aM hdd,aM hde]
   simp only[az.run,Ac]at hr;split at hr<;>first|(cases hr;done)|(rename_i heq;cases heq;done)|(rename_i heq;cases heq)
   .simp only[H0]at hr;subst hr;have he:=hv.eV;refine .pure (x:= .string .empty) ?_ (.str _ _ rfl);rw[mS (none,0,0) he,he];simp[Conv.bytesToString]
   . rename_i bb off m cap es;obtain⟨aa,aI,he,hle,_,ha⟩:=hv.cQ;split at hr
     .  rename_i h0;have:=H3 h0;subst this;simp only[H0]at hr;subst hr;refine .pure (x:= .string .empty) ?_ (.str _ _ rfl);rw[mS (some aa,0,aI) he,he];simp[Conv.bytesToString,loadCells,loadCellsFrom]
     .  (rename_i h0;have h0:=Zb2 h0;(split at hr<;>first|(cases hr;done)|skip);rename_i cs fz jE;(split at hr<;>first|(cases hr;done)|skip);rename_i l hcut;(split at hr<;>first|(cases hr;done)|skip);rename_i s' U7;simp only[H0]at hr;subst hr;obtain⟨aK,rfl,_⟩:=ha (by omega);obtain⟨ys,CV,gU⟩:=hW.loadCells (P:=P) jE hcut;obtain⟨e1,e2⟩:=FL U7 gU;rw[e1]at CV;have bU:=run_bytesToString (P:=P) w ⟨(ρ bb).ay,(ρ bb).base+off,none⟩ m aI (s'.map Int.ofNat) CV;refine .pure (x:= .string _) (by rw[mS (some _,m,aI) he,he,bU];rfl) (.str _ _ ?_);rw[E0,Zh3];have e0:ByteArray.empty.data.toList=[]:=rfl;rw[e0,Zf2,Zg8,Zf7];have e3:s'.map (UInt8.toNat∘UInt8.ofNat)=s'.map id:=Zi6 λc hc=>by have:=e2 c hc;simp only[Function.comp,id,UInt8.toNat_ofNat'];omega);rw[e3,List.map_id]
 ·
   rename_i e h1 h2;(split at hc<;>first|(cases hc;done)|skip);rename_i te eJ;(split at hc<;>first|(cases hc;done)|skip);rename_i eF;cases hc;obtain⟨v,rfl,hv⟩:=eA hb hF hx;rw[h1]at BX;rw[h2]at bS;rw[PI BX]at tZ;rw[aar bS]at hdd;obtain⟨i0,kN,jP,_⟩:=(hT.at eJ).info;have eF:=Zb2 eF;simp only[az.run,PA]at hr;split at hr<;>first|(cases hr;done)|skip
   .simp only[H0]at hr;subst hr;refine .pure (x:= .pointer none) ?_ .gR;simp[execOp,ho,hv.pG,convert,aM tZ,aM hdd,Conv.unsafePointer]
   .rename_i bb off;(split at hr<;>first|(cases hr;done)|skip);rename_i t0 cs jE;(split at hr<;>first|(cases hr;done)|skip);rename_i aK;have aK:off<cs.length:=(by simpa using aK);simp only[H0]at hr;subst hr;obtain⟨_,he⟩:=hv.eu;obtain⟨_,_,c,fr,g1,g2,g3,g4,g5,g6⟩:=hW.live _ _ jE;have Pq:w.shape? (ρ bb).ay=some (t0,c.size):=(by simp[World.shape?,g1]);have:=Lib.run_to_unsafe (P:=P) (w:=w) (j:=i0) ⟨(ρ bb).ay,(ρ bb).base+off,none⟩ tZ hdd kN (by rw[jP];exact eF) Pq (by show(ρ bb).base+off<c.size;omega);exact .pure (x:= .pointer (some ⟨(ρ bb).ay,(ρ bb).base+off,none⟩)) (by simp[execOp,ho,he,this]) (he ▸hv)
 ·
   rename_i e h1 h2;(split at hc<;>first|(cases hc;done)|skip);rename_i te eJ;(split at hc<;>first|(cases hc;done)|skip);rename_i eF;cases hc;obtain⟨v,rfl,hv⟩:=eA hb hF hx;rw[h1]at BX;rw[h2]at bS;rw[aar BX]at tZ;rw[PI bS]at hdd;obtain⟨i0,kN,jP,_⟩:=(hT.at eJ).info;have eF:=Zb2 eF;simp only[az.run,H9]at hr;split at hr<;>first|(cases hr;done)|skip
   .simp only[H0]at hr;subst hr;refine .pure (x:= .pointer none) ?_ .gR;simp[execOp,ho,hv.pG,convert,aM tZ,aM hdd,Conv.unsafePointer]
   .rename_i bb;(split at hr<;>first|(cases hr;done)|skip);rename_i t0 cs jE;(split at hr<;>first|(cases hr;done)|skip);rename_i ht hle;have ht:=H3 ht;have hle:=Za0 hle;subst ht;simp only[H0]at hr;subst hr;obtain⟨_,he⟩:=hv.eu;obtain⟨_,_,c,fr,g1,g2,g3,g4,g5,g6⟩:=hW.live _ _ jE;have Pq:w.shape? (ρ bb).ay=some (t0,c.size):=(by simp[World.shape?,g1]);have EX:P.cellsOf t0=te.size:=(by simp[Program.cellsOf,kN,jP]);have hone:1<=c.size / P.cellsOf t0:=(by rw[EX,Nat.le_div_iff_mul_le (by omega)];omega);rw[Zh8]at he;have:=Lib.run_from_unsafe (P:=P) (w:=w) (j:=i0) ⟨(ρ bb).ay,(ρ bb).base,none⟩ tZ hdd kN Pq (by show liesAt P P.depth t0 _ (ρ bb).base t0 1=true;rw[g6];exact Xu (by rw[EX];exact eF) _ hone);exact .pure (x:= .pointer (some ⟨(ρ bb).ay,(ρ bb).base,none⟩)) (by simp[execOp,ho,he,this]) (he ▸hv)
theorem GW{t:TypeId}{d:TypeDesc}(hd:P.underlying t=some d){pk:PK}(hk:pk.fits d=true)(e:Bool)(m:Nat)(x:Value)(w:World):
  (Instr.checkKey e (m+1) t x).run P w= .ok () w:=by
 unfold Instr.checkKey;rw[Sem.run_bind,aM hd,Result.andThen_ok];cases pk<;>cases d<;>simp[PK.fits]at hk<;>rfl
theorem NA{ρ:Pos->Loc}{n:Nat}{C:Cells}{pk:PK}{d:TypeDesc}(hk:pk.fits d=true){u v:AV}{x y:Value}{r:Bool}
   (h1:aj ρ n C u x) (h2:aj ρ n C v y) (h:uE pk u v=some r):Instr.sameNow d x y=some r:=by
 unfold uE at h;split at h<;>first|(cases h;done)|skip
 .simp only[H0]at h;subst h;cases d<;>simp[PK.fits]at hk;rw[h1.fS,h2.fS];rfl
 . (split at h<;>first|(cases h;done)|skip);rename_i BV;have:=wR BV;subst this;simp only[H0]at h;subst h;cases d<;>simp[PK.fits]at hk;rw[h1.gP,h2.gP];simp[Instr.sameNow,iV]
 .simp only[H0]at h;subst h;cases d<;>simp[PK.fits]at hk;obtain⟨bx,rfl,e1⟩:=h1.dP;obtain⟨bz,rfl,e2⟩:=h2.dP;simp only[Instr.sameNow];rw[beq_toListBytes,GU e1 e2]
def E5(ρ:Pos->Loc)(n:Nat)(C:Cells)(es:List (AV×AV×Nat))(es':List MapEntry):Prop:=
 es.length=es'.length/\∀(i:Nat)(e:AV×AV×Nat)(e':MapEntry),es[i]? =some e->es'[i]? =some e'->aj ρ n C e.1 e'.key/\aj ρ n C e.2.1 e'.val/\e.2.2=e'.born
theorem AR{ρ:Pos->Loc}{n:Nat}{C:Cells}{pk:PK}{d:TypeDesc}(hk:pk.fits d=true){u:AV}{x:Value}(hu:aj ρ n C u x):
  ∀{es:List (AV×AV×Nat)}{es':List MapEntry}{i:Nat}{r:Option (Nat×AV)},E5 ρ n C es es'->iT pk u es i=some r->
  ∃r',Instr.findNow d x es' i=some r'/\((r=none/\r'=none)\/∃j v y,r=some (j,v)/\r'=some (j,y)/\aj ρ n C v y/\i<=j/\j<i+es.length)
 |[],es',i,r,he,h=>by
  simp[iT]at h;subst h;cases es' with
  |nil=>exact⟨none,rfl,.inl ⟨rfl,rfl⟩⟩
  |cons e es'=>have:=he.1;simp at this
 |(k',v,born)::es,es',i,r,he,h=>by
  cases es' with
  |nil=>have:=he.1;simp at this
  |cons e' es'=>
   have h0:=he.2 0 (k',v,born) e' rfl rfl;have jN:E5 ρ n C es es':=⟨by have:=he.1;simpa using this,λj e e' h1 h2=>he.2 (j+1) e e' (by simpa using h1) (by simpa using h2)⟩
   unfold iT at h;split at h<;>first|(cases h;done)|skip
   .    rename_i hq;simp only[H0]at h;subst h;refine⟨some (i,e'.val),by simp[Instr.findNow,NA hk hu h0.1 hq],.inr ⟨i,v,e'.val,rfl,rfl,h0.2.1,Za3 _,by simp⟩⟩
   .    rename_i hq;obtain⟨r',h1,h2⟩:=AR hk hu jN h;refine⟨r',by simp[Instr.findNow,NA hk hu h0.1 hq,h1],?_⟩;rcases h2 with h2|⟨j,v',y,e1,e2,e3,e4,e5⟩
        .exact .inl h2
        .exact .inr ⟨j,v',y,e1,e2,e3,by omega,by simp;omega⟩
theorem run_findKey{t:TypeId}{d:TypeDesc}(hd:P.underlying t=some d){x:Value}{es:List MapEntry}{r:Option (Nat×Value)}(h:Instr.findNow d x es 0=some r)(w:World):
  (Instr.findKey t x es).run P w= .ok r w:=by
 simp[Instr.findKey,aM hd,h]
theorem run_getObj_map{r:Nat}{es:Array MapEntry}{c:Nat}{w:World}(h:w.heap[r]? =some (.map es c)):(getObj r).run P w= .ok (.map es c) w:=by
 simp[getObj,Sem.run,h]
theorem adG(k:TK){d:TypeDesc}(h:bB k d=true){pk:PK}(hp:(k= .bool/\pk= .b)\/((∃i,k= .int i)/\pk= .i)\/(k= .string/\pk= .s)):pk.fits d=true:=by
 rcases hp with⟨rfl,rfl⟩|⟨⟨i,rfl⟩,rfl⟩|⟨rfl,rfl⟩
 .rw[Rn h];rfl
 .rw[GP h];rfl
 .rw[kL h];rfl
theorem rZ(hT:bM P tt){t:Nat}{ti:TI}(ht:tt.get (key t)=some ti){z:List AV}(hz:ti.zero=some z){ρ:Pos->Loc}{n:Nat}{C:Cells}(w:World):
   ∃v,(zeroValue t).run P w= .ok v w/\aj ρ n C (fo.GM ti z) v/\av ρ n C z v.cells.toList:=by
 obtain⟨i,hi,jP,_,zT⟩:=(hT.at ht).info;obtain⟨v,hv,hs,hlen,h1,h2⟩:=zT z hz;refine⟨v,abN hi hv w,?_,qw hs⟩;unfold fo.GM;split
 .rename_i ha;obtain⟨cs,rfl⟩:=h1 ha;exact .CW (qw hs)
 .rename_i ha;have hc:=h2 ha;rw[hc]at hs;simp only[mP]at hs;(split at hs<;>first|(cases hs;done)|skip);rename_i a as e1 e2;simp only[H0]at hs e2;subst hs;subst e2;simp only;exact CX e1
theorem Zj(hT:bM P tt)(t:TypeId)(x ix:Operand)(ok:Bool):cE P tt (.lookup t x ix ok):=by
 intro ρ C st w k xs cls fr a o vs res ho hc hW hF hx hr;simp only[fo]at hc;split at hc<;>first|(cases hc;done)|skip
 rename_i ti l cI hl;split at hc<;>first|(cases hc;done)|skip
 rename_i kt et hk;split at hc<;>first|(cases hc;done)|skip
 rename_i tk te zU eJ;obtain⟨d,hd,bS⟩:=(hT.at cI).und;rw[hk]at bS;rw[KN bS]at hd;obtain⟨dk,SI,BV⟩:=(hT.at zU).und;have key:∃pk z,te.zero=some z/\k= .lookup pk (fo.GM te z) ok/\xs=l/\cls= .read/\pk.fits dk=true:=by
  split at hc<;>first|(cases hc;done)|skip
  all_goals
    rename_i z h1 h2;cases hc;refine⟨_,z,h2,rfl,rfl,rfl,adG tk.k BV ?_⟩
  .exact .inr (.inl ⟨⟨_,h1⟩,rfl⟩)
  .exact .inr (.inr ⟨h1,rfl⟩)
  .exact .inl ⟨h1,rfl⟩
 obtain⟨pk,z,hz,rfl,rfl,rfl,FK⟩:=key;obtain⟨m,kk,rfl,h1,h2⟩:=Ro hl hF hx;obtain⟨zv,zV,PO,_⟩:=rZ hT eJ hz (ρ:=ρ) (n:=st.next.toNat) (C:=C) w;have JR:∀e,(Instr.checkKey e 10000 kt (a.eval ix)).run P w= .ok () w:=λe=>GW SI FK e 9999 _ w
 simp only[az.run,wM]at hr;split at hr<;>first|(cases hr;done)|skip
 ·
  rename_i j v hm;simp only[H0]at hr;subst hr;split at hm<;>first|(cases hm;done)|skip
  .split at hm<;>first|(cases hm;done)|(simp at hm;done)
  . rename_i b;(split at hm<;>first|(cases hm;done)|skip);rename_i es c hb;obtain⟨_,he⟩:=h1.wS;obtain⟨_,_,es',di,hlen,bW⟩:=hW.live _ _ hb;have hE:E5 ρ st.next.toNat C es es'.toList:=⟨by simpa using hlen,λi e e' h1 h2=>bW i e e' h1 (by simpa using h2)⟩
    obtain⟨r',hf,qx⟩:=AR FK h2 hE hm;rcases qx with⟨e1,_⟩|⟨j',v',y,e1,e2,e3,_⟩
    .   cases e1
    .   cases e1;subst e2;have bU:(execOp a.eval o).run P w= .ok (.value (if ok then .tuple #[y,.bool true]else y)) w:=by
          simp only[execOp,ho,Instr.lookup,Sem.run_bind,aM hd,Result.andThen_ok,he,run_getObj_map di,JR,run_findKey SI hf,Sem.run_pure]
        refine .pure bU ?_;cases ok
        .exact e3
        .exact .rW (av.cons e3 (av.cons (.bool true) av.nil))
 ·
  rename_i hm;simp only[H0]at hr;subst hr;have bU:(execOp a.eval o).run P w= .ok (.value (if ok then .tuple #[zv,.bool false]else zv)) w:=by
    split at hm<;>first|(cases hm;done)|skip
    .   (split at hm<;>first|(cases hm;done)|skip);have he:=h1.Ah;have hf:(Instr.findKey kt (a.eval ix) []).run P w= .ok none w:=run_findKey SI rfl w;simp only[execOp,ho,Instr.lookup,Sem.run_bind,aM hd,Result.andThen_ok,he,JR,hf,zV,Sem.run_pure]
    .   rename_i b;(split at hm<;>first|(cases hm;done)|skip);rename_i es c hb;obtain⟨_,he⟩:=h1.wS;obtain⟨_,_,es',di,hlen,bW⟩:=hW.live _ _ hb;have hE:E5 ρ st.next.toNat C es es'.toList:=⟨by simpa using hlen,λi e e' h1 h2=>bW i e e' h1 (by simpa using h2)⟩
        obtain⟨r',hf,qx⟩:=AR FK h2 hE hm;rcases qx with⟨_,e2⟩|⟨j',v',y,e1,_⟩
        .subst e2;simp only[execOp,ho,Instr.lookup,Sem.run_bind,aM hd,Result.andThen_ok,he,run_getObj_map di,JR,run_findKey SI hf,zV,Sem.run_pure]
        .cases e1
  refine .pure bU ?_;cases ok
  .exact PO
  .exact .rW (av.cons PO (av.cons (.bool false) av.nil))
end
section
variable{P:Program}{tt:TT}
theorem C8:∀(l:List Value)(off k:Nat)(cs:Array Value),off+k+l.length<=cs.size->
  ((l.zipIdx k).foldl (λcs (c,j)=>cs.setIfInBounds (off+j) c) cs).toList=aH cs.toList (off+k) l
 |[],off,k,cs,_=>by simp[aH,Zk2]
 |v::l,off,k,cs,h=>by
  simp only[Zd7]at h;simp only[List.zipIdx_cons,Zo7];rw[C8 l off (k+1) _ (by simp;omega)];simp only[aH,Zd7,Zn7];rw[List.drop_set_of_lt (by omega)];have:off+(k+1)=(off+k)+1:=by omega
  rw[this,List.take_set,Zl3];have aK:off+k<cs.toList.length:=by simp;omega
  rw[H1 aK];simp only[Option.toList_some,List.set_append,Zj5];have hm:min (off+k) cs.toList.length=off+k:=Zj8 (Nat.le_of_lt aK);rw[hm,Za1 (Zm7 _),Zn6];simp;rw[show off+k+1+l.length=off+k+(l.length+1)from by omega]
theorem OC{ρ:Pos->Loc}{n:Nat}{C:Cells}(pl:Nat->Option (Nat×Nat)):∀{pp:List (Nat×Nat)}{vs cells r:List AV}{ps:List (Nat×Value)}{cs:Array Value},
  bG cells pp vs=some r->av ρ n C cells cs.toList->av ρ n C vs (ps.map (·.2))->ps.map (λx=>pl x.1)=pp.map some->
  ∃kO,Instr.fill pl cs ps=some kO/\av ρ n C r kO.toList
 |[],vs,cells,r,ps,cs,h,hc,hv,hp=>by
  unfold bG at h;split at h<;>first|(cases h;done)|skip
  .simp only[H0]at h;subst h;have:ps=[]:=(by simpa using hv.mF);subst this;exact⟨cs,rfl,hc⟩
  .rename_i hh;cases hh
 |(off  ,size)::pp,vs,cells,r,ps,cs,h,hc,hv,hp=>by
  unfold bG at h;split at h<;>first|(cases h;done)|skip
  .rename_i hh;cases hh
  . rename_i off' size' pp' v vs' hh;simp only[Zh4,Za9]at hh;obtain⟨⟨rfl,rfl⟩,rfl⟩:=hh;(split at h<;>first|(cases h;done)|skip);rename_i h1 h2;have h1:=H3 h1;have h2:=Za0 h2;cases ps with
    |nil=>have:=hv.1;simp at this
    |   cons p ps=>
        obtain⟨i,x⟩:=p;simp only[Zb8,Zh4]at hp hv;obtain⟨dH,AS⟩:=hp;obtain⟨y,ys,CV,hx,gU⟩:=hv.cons_inv;simp only[Zh4]at CV;obtain⟨rfl,rfl⟩:=CV;have hxc:=hx.cells;have hlen:x.cells.size=size:=(by rw[<-h1,hxc.1];simp);have eF:off+size<=cs.size:=(by have:=hc.1;simp at this;omega);have afK:(x.cells.zipIdx.foldl (λcs (c,j)=>cs.setIfInBounds (off+j) c) cs).toList=aH cs.toList off x.cells.toList:=(by rw[<-Array.foldl_toList,Array.toList_zipIdx];have:=C8 x.cells.toList off 0 cs (by simp;omega);simpa using this);obtain⟨kO,e1,e2⟩:=OC pl h (cs:=x.cells.zipIdx.foldl (λcs (c,j)=>cs.setIfInBounds (off+j) c) cs) (by rw[afK];exact hc.aH hxc off) gU AS;refine⟨kO,?_,e2⟩;simp only[Instr.fill,dH];rw[Za1 (by simp[hlen];omega)];exact e1
theorem JS(hT:bM P tt){gs:Array Field}(w:World):∀{fs:List (Nat×Nat×Bool)}(_hm:bB.cW fs gs.toList=true){is:List Nat}{pp:List (Nat×Nat)}
  (_h:fo.places tt fs is=some pp) {KP:List (Nat×Nat)} (_hpl:∀(i:Nat)(f:Field)(inf:TypeInfo),gs.toList[i]? =some f->P.info? f.type=some inf->KP[i]? =some (f.offset,inf.size)),
  is.map (λi=>KP[i]?)=pp.map some
 |fs,hm,[],pp,h,KP,n8=>by simp[fo.places]at h;subst h;rfl
 |fs,hm,i::is,pp,h,KP,n8=>by
  unfold fo.places at h;split at h<;>first|(cases h;done)|skip
  rename_i off t nm l h1 h2;split at h<;>first|(cases h;done)|skip
  rename_i ti SJ;simp only[H0]at h;subst h;obtain⟨f,hf,e1,e2,_⟩:=Ii hm h1;obtain⟨inf,U8,eF,_⟩:=(hT.at SJ).info;simp only at e1 e2;have:=n8 i f inf hf (by rw[e2];exact U8);simp only[Zb8,this,e1,eF];rw[JS hT w hm h2 n8]
theorem PR(hT:bM P tt):∀{fs:List (Nat×Nat×Bool)}{gs:List Field}(_hm:bB.cW fs gs=true)(_ha:fo.Ux tt fs=true),
  ∃KP:List (Nat×Nat),gs.mapM (λf=>(P.info? f.type).map λi=>(f.offset,i.size))=some KP/\
   ∀(i:Nat)(f:Field)(inf:TypeInfo),gs[i]? =some f->P.info? f.type=some inf->KP[i]? =some (f.offset,inf.size)
 |[],gs,hm,ha=>by
  cases gs with
  |cons g gs=>simp[bB.cW]at hm
  |nil=>exact⟨[],rfl,λi f inf h=>by simp at h⟩
 |(off,t,nm)::fs,gs,hm,ha=>by
  cases gs with
  |nil=>simp[bB.cW]at hm
  |cons g gs=>
   simp[bB.cW]at hm;unfold fo.Ux at ha;(split at ha<;>first|(cases ha;done)|skip);rename_i ti SJ;obtain⟨inf,U8,_⟩:=(hT.at SJ).info;obtain⟨KP,h1,h2⟩:=PR hT hm.2 ha;rw[hm.1.1.2]at U8;refine⟨(g.offset,inf.size)::KP,by simp[U8,h1],λi f inf' hi hf=> ?_⟩;cases i with
   |zero=>simp at hi;subst hi;rw[U8]at hf;cases hf;rfl
   |succ i=>simp at hi ⊢; exact h2 i f inf' hi hf
theorem aaw(hT:bM P tt)(t:TypeId)(ps:Array (Nat×Operand)):cE P tt (.build t ps):=by
 intro ρ C st w k xs cls fr a o vs res ho hc hW hF hx hr;simp only[fo]at hc;split at hc<;>first|(cases hc;done)|skip
 rename_i ti l cI hl;obtain⟨d,hd,bS⟩:=(hT.at cI).und;obtain⟨it,JT,_,_,zT⟩:=(hT.at cI).info
 have mS:∀(pp:List (Nat×Nat))(z:List AV)(pl:Nat->Option (Nat×Nat)),ti.zero=some z->k= .build z pp->xs=l->ps.toList.map (λx=>pl x.1)=pp.map some->
    (∀(v:Value)(parts:List (Nat×Value))(cells:Array Value),it.zero=some v->Instr.fill pl v.cells parts=some cells->P.built t parts=some cells)->
    tM P ρ C st w ((execOp a.eval o).run P w) res:=by
   rintro pp z pl hz rfl rfl hpp ae0;have hv:=dG hl hF hx;obtain⟨v,GX,hs,_⟩:=zT z hz;simp only[az.run,HZ]at hr;(split at hr<;>first|(cases hr;done)|skip);rename_i cs yq;simp only[H0]at hr;subst hr;have PO:av ρ st.next.toNat C z v.cells.toList:=qw hs;have X6:(ps.map λ(i,x)=>(i,a.eval x)).toList=ps.toList.map λx=>(x.1,a.eval x.2):=(by simp);obtain⟨kO,e1,e2⟩:=OC pl yq PO (ps:=ps.toList.map λx=>(x.1,a.eval x.2)) (by simpa [Zf7,Zi9]using hv) (by simpa [Zf7,Zi9]using hpp);refine .pure (x:= .agg kO) ?_ (.CW e2);have bU:=run_build w t (ps.map λ(i,x)=>(i,a.eval x)) kO (ae0 v _ _ GX (by rw[X6];exact e1));simp only[execOp,ho,Sem.run_bind];rw[bU];rfl
 split at hc<;>first|(cases hc;done)|skip
 .rename_i fs z hk hz;rw[hk]at bS;obtain⟨gs,rfl,hm⟩:=EV bS;(split at hc<;>first|(cases hc;done)|skip);rename_i pp n8 bW;cases hc;obtain⟨KP,h1,h2⟩:=PR hT hm bW;have hpp:=JS hT w hm n8 h2;(refine mS pp z (λi=>KP.toArray[i]?) hz rfl rfl (by simpa [Zf7,Zi9]using hpp) λv parts cells hv hf=> ?_);unfold Program.built;rw[JT,hd];simp only[hv,h1];exact hf
 .rename_i e z hk hz;rw[hk]at bS;rw[U2 bS]at hd;(split at hc<;>first|(cases hc;done)|skip);rename_i te eJ;cases hc;obtain⟨ie,hie,eF,_⟩:=(hT.at eJ).info;(refine mS _ z (λi=>some (i*te.size,te.size)) hz rfl rfl (by simp[Zf7,Zi9]) λv parts cells hv hf=> ?_);unfold Program.built;rw[JT,hd];simp only[hv,hie,eF];exact hf
end
end
end Go.Ai
