/- Its operations answer as the model does. -/
import Derived.Test.YtlkadmkojjceiaaGreatDoorWEvalA
import Derived.Laws.StructEq
import Derived.Lib.Builder
import Derived.Laws.BytesString
set_option linter.all false
namespace Go.Ai
section
def bD:TK->TypeDesc->Bool
 |.bool,.bool=>true
 |.int k,.int k'=>Bh k k'
 |.string,.string=>true
 |.ptr e,.pointer e'=>Nat.beq e e'
 |.slice e,.slice e'=>Nat.beq e e'
 |.array n e,.array n' e'=>Nat.beq n n'&&Nat.beq e e'
 |.map k e,.map k' e'=>Nat.beq k k'&&Nat.beq e e'
 |.struct fs,.struct fs'=>dB fs fs'.toList
 |.func,.func _ _ _=>true
 |.iface,.interface _=>true
 | .Za,.unsafePointer=>true
 |.other,.interface _=>false
 |.other,.int _=>false
 |.other,.array _ _=>false
 |.other,.struct _=>false
 |.other,_=>true
 |_,_=>false
where
 dB:List (Nat×Nat×Bool)->List Field->Bool
  |[],[]=>true
  |(off,t,named)::l,f::l'=>Nat.beq off f.offset&&Nat.beq t f.type&&(named==(f.name != "_"))&&dB l l'
  |_,_=>false
structure Xo(P:Program)(t:TypeId)(ti:TI):Prop where
 und:∃d,P.underlying t=some d/\bD ti.k d=true
 info:∃i,P.info? t=some i/\i.size=ti.size/\i.bytes=ti.bytes/\
  ∀z,ti.zero=some z->∃v,i.zero=some v/\mS v.cells.toList=some z/\z.length=ti.size/\(ti.k.isAgg=true->∃cs,v= .agg cs)/\(ti.k.isAgg=false->v.cells= #[v])
 elem:∀e,ti.k= .ptr e->∃j,P.info? e=some j
 eqs:ti.uC=true->P.stoodInHeld t=false/\P.eqGuardType P.depth t=false
def bM(P:Program)(tt:TT):Prop:=∀p ti,tt.get p=some ti->Xo P (p.toNat - 1) ti
theorem bM.at{P:Program}{tt:TT}(h:bM P tt){t:Nat}{ti:TI}(ht:tt.get (key t)=some ti):Xo P t ti:=by
 have:=h _ _ ht
 rwa [eO,Ze9]at this
section
variable{P:Program}{tt:TT}{ρ:Pos->Loc}{n:Nat}{C:Cells}
theorem aL{t:TypeId}{d:TypeDesc}(h:P.underlying t=some d)(w:World):(underlying t).run P w= .ok d w:=run_underlying h w
theorem SC{t:TypeId}{i:TypeInfo}(h:P.info? t=some i)(w:World):(typeInfo t).run P w= .ok i w:=by simp[typeInfo,h]
theorem gY{t:TypeId}{i:TypeInfo}(h:P.info? t=some i)(w:World):(sizeOf t).run P w= .ok i.size w:=by simp[sizeOf,typeInfo,h]
theorem aa6{t:TypeId}{i:TypeInfo}{v:Value}(h:P.info? t=some i)(hz:i.zero=some v)(w:World):(zeroValue t).run P w= .ok v w:=by simp[zeroValue,typeInfo,h,hz]
theorem LR{k:TK}{d:TypeDesc}(h:bD k d=true)(w:World){t:TypeId}(ht:P.underlying t=some d):(isAgg t).run P w= .ok k.isAgg w:=by
 cases k<;>cases d<;>first|(simp[bD]at h;done)|simp[isAgg,aL ht,TK.isAgg]
theorem lY{e:Nat}{d:TypeDesc}(h:bD (.slice e) d=true):d= .slice e:=by
 cases d<;>simp[bD]at h;rw[h]
theorem Nd{e:Nat}{d:TypeDesc}(h:bD (.ptr e) d=true):d= .pointer e:=by
 cases d<;>simp[bD]at h;rw[h]
theorem SD{m e:Nat}{d:TypeDesc}(h:bD (.array m e) d=true):d= .array m e:=by
 cases d<;>simp[bD]at h;rw[h.1,h.2]
theorem Ip{k e:Nat}{d:TypeDesc}(h:bD (.map k e) d=true):d= .map k e:=by
 cases d<;>simp[bD]at h;rw[h.1,h.2]
theorem OY{d:TypeDesc}(h:bD .bool d=true):d= .bool:=by cases d<;>simp[bD]at h;rfl
theorem u0{a b:IntKind}(h:Bh a b=true):a=b:=by
 unfold Bh at h;split at h
 .assumption
 .cases h
theorem Ei{k:IntKind}{d:TypeDesc}(h:bD (.int k) d=true):d= .int k:=by
 cases d<;>simp[bD]at h;rw[u0 h]
theorem lC{d:TypeDesc}(h:bD .string d=true):d= .string:=by cases d<;>simp[bD]at h;rfl
theorem CR{fs:List (Nat×Nat×Bool)}{d:TypeDesc}(h:bD (.struct fs) d=true):∃gs,d= .struct gs/\bD.dB fs gs.toList=true:=by
 cases d<;>simp[bD]at h;exact⟨_,rfl,h⟩
theorem adn{d:TypeDesc}(h:bD .func d=true):∃a b c,d= .func a b c:=by
 cases d<;>simp[bD]at h;exact⟨_,_,_,rfl⟩
theorem aa7{d:TypeDesc}(h:bD .iface d=true):∃a,d= .interface a:=by
 cases d<;>simp[bD]at h;exact⟨_,rfl⟩
theorem Zd{d:TypeDesc}(h:bD .Za d=true):d= .unsafePointer:=by cases d<;>simp[bD]at h;rfl
theorem kV{α:Type}:∀(l:List α)(i:Nat),nth l i=l[i]?
 |[],_=>by simp[nth]
 |_::_,0=>rfl
 |_::l,i+1=>by simp[nth,kV l i]
theorem FE:∀{fs:List (Nat×Nat×Bool)}{gs:List Field}{i:Nat}{x:Nat×Nat×Bool},bD.dB fs gs=true->nth fs i=some x->
  ∃f,gs[i]? =some f/\f.offset=x.1/\f.type=x.2.1/\(f.name != "_")=x.2.2
 |[],_,i,_,_,h=>by simp[nth]at h
 |(off,t,named)::l,[],i,_,h,_=>by simp[bD.dB]at h
 |(off,t,named)::l,f::l',0,x,h,hx=>by
  simp[bD.dB]at h;simp[nth]at hx;subst hx;exact⟨f,rfl,h.1.1.1.symm,h.1.1.2.symm,h.1.2.symm⟩
 |(off,t,named)::l,f::l',i+1,x,h,hx=>by
  simp[bD.dB]at h;simp[nth]at hx;obtain⟨f',h1,h2⟩:=FE h.2 hx;exact⟨f',by simpa using h1,h2⟩
theorem Bm{v:Value}{a:AV}(h:Fz v=some a):aj ρ n C a v:=by
 unfold Fz at h
 split at h<;>first
   |(cases h;done)
   |(simp only[H0]at h;subst h)
 .exact .bool _
 .exact .int _ _
 .exact .str _ _ rfl
 .exact .iw
 .exact .ah
 .exact .nX
 .exact .func _ _ _ _ _ rfl rfl (λ_ _ _ h=>by simp at h) (λ_ _ _ h=>by simp at h)
 .exact .jk
 .exact .uG
theorem pY:∀{l:List Value}{as:List AV},mS l=some as->au ρ n C as l
 |[],as,h=>by simp[mS]at h;subst h;exact au.nil
 |v ::l,as,h=>by
  unfold mS at h;split at h
  .rename_i a as' h1 h2;simp only[H0]at h;subst h;exact au.cons (Bm h1) (pY h2)
  .cases h
theorem Vm{v:Value}{a:AV}(h:OV v=some a):aj ρ n C a v:=by
 unfold OV at h;split at h
 . split at h
   .rename_i l hl;simp only[H0]at h;subst h;exact .Bl (pY hl)
   .cases h
 .exact Bm h
theorem oY{x:Operand}{o:dU}{fr:Fr}{a:Act}{v:AV}(h:kG x=some o)(hF:fh ρ n C fr a.tmps)(hv:zi fr o=some v):aj ρ n C v (a.eval x):=by
 unfold kG at h;split at h
 .rename_i t;simp only[H0]at h;subst h;obtain⟨y,hy,hr⟩:=hF _ _ hv;rw[eO,Ze9]at hy;simp only[Act.eval,Zh7,hy,Zj5];exact hr
 . split at h
   .rename_i c hc;simp only[H0]at h;subst h;simp only[zi,H0]at hv;subst hv;exact Vm hc
   .cases h
 .rename_i f;simp only[H0]at h;subst h;simp only[zi,H0]at hv;subst hv;exact .func _ _ _ _ _ rfl rfl (λ_ _ _ h=>by simp at h) (λ_ _ _ h=>by simp at h)
 .cases h
theorem dM:∀{xs:List Operand}{os:List dU}{fr:Fr}{a:Act}{vs:List AV},iT xs=some os->fh ρ n C fr a.tmps->dV fr os=some vs->au ρ n C vs (xs.map a.eval)
 |[],os,fr,a,vs,h,_,hv=>by simp[iT]at h;subst h;simp[dV]at hv;subst hv;exact au.nil
 |x ::xs,os,fr,a,vs,h,hF,hv=>by
  unfold iT at h;split at h
  . rename_i o os' h1 h2;simp only[H0]at h;subst h;unfold dV at hv;split at hv
    .   rename_i v KP;split at hv
        .rename_i vs' Iq;simp only[H0]at hv;subst hv;exact au.cons (oY h1 hF KP) (dM h2 hF Iq)
        .cases hv
    .   cases hv
  .cases h
theorem eP{x:Operand}{o:dU}{fr:Fr}{a:Act}{vs:List AV}(h:kG x=some o)(hF:fh ρ n C fr a.tmps)(hv:dV fr [o]=some vs):
   ∃v,vs=[v]/\aj ρ n C v (a.eval x):=by
 unfold dV at hv;split at hv
 .rename_i v KP;simp only[dV,H0]at hv;subst hv;exact⟨v,rfl,oY h hF KP⟩
 .cases hv
end
def Yields(N:Next)(x:Value):Prop:=N= .value x\/(N= .skip/\x=undef)
def sv(P:Program)(ρ:Pos->Loc)(C:Cells)(st:St)(w:World)(r:Result Next):b6->Prop
 |.val v=>∃N x,r= .ok N w/\Yields N x/\aj ρ st.next.toNat C v x
 |.aE v del set new=>∃N x w' ρ',r= .ok N w'/\Yields N x/\(∀b:Pos,b.toNat<st.next.toNat->ρ' b=ρ b)/\aX ρ' C (st.aE del set new) w'/\
  aj ρ' (st.aE del set new).next.toNat C v x/\jN ρ st w ρ' (st.aE del set new) w'
 |.call f args=>∃bE:List Value,r=(callFunc f bE.toArray).run P w/\au ρ st.next.toNat C args bE
end
section
open Go Go.RowKit
theorem kW(b o i:Nat):(⟨b,o,none⟩:Addr).add i=⟨b,o+i,none⟩:=by
 unfold Addr.add;split
 .rename_i h;subst h;rfl
 .rfl
section
variable{P:Program}{ρ ρ':Pos->Loc}{C:Cells}{st:St}{w w':World}
theorem aX.Xp(hW:aX ρ C st w){Xq:T AB}{next' b0:Pos}{x0:AB}
  (hn:st.next.toNat<=next'.toNat) (hb0:b0.toNat<next'.toNat) (aeY:Xq.get b0=some x0)
  (qq:∀b x,b≠b0->Xq.get b=some x->st.heap.get b=some x/\(ρ b).av≠(ρ' b0).av)
  (aT:∀b:Pos,b.toNat<st.next.toNat->ρ' b=ρ b)
  (hB:lU ρ' next'.toNat C (ρ' b0) w' x0)
  (KQ:∀a v,C a=some v->a.block≠(ρ' b0).av)
  (aN:(ρ' b0).av<w'.heap.size) (aeZ:w.heap.size<=w'.heap.size)
  (tC:∀k,k<w.heap.size->k≠(ρ' b0).av->w'.heap[k]? =w.heap[k]?):
  aX ρ' C ⟨Xq,next'⟩ w' where
 live b x hb:=by
  by_cases h:b=b0
  .  subst h;rw[aeY]at hb;cases hb;exact⟨hb0,aN,hB⟩
  .  obtain⟨h1,h2⟩:=qq b x h hb;obtain⟨h3,h4,h5⟩:=hW.live b x h1;rw[aT b h3];exact⟨Zc7 h3 hn,Zc7 h4 aeZ,(h5.mono aT hn).of_heap (tC _ h4 h2)⟩
 inj b  b' x x' hb iX he:=by
  by_cases h:b=b0
  .  subst h;by_cases h':b'=b
     .  exact h'.symm
     .  obtain⟨h1,h2⟩:=qq b' x' h' iX;rw[aT b' (hW.live b' x' h1).1]at he;exact absurd he.symm h2
  .  obtain⟨h1,h2⟩:=qq b x h hb;rw[aT b (hW.live b x h1).1]at he;by_cases h':b'=b0
     .  subst h';exact absurd he h2
     .  obtain⟨VT,h2'⟩:=qq b' x' h' iX;rw[aT b' (hW.live b' x' VT).1]at he;exact hW.inj b b' x x' h1 VT he
 dx a v ha:=by
  obtain⟨h1,h2⟩:=hW.dx a v ha;have Bn:a.block<w.heap.size:=World.block_lt_of_cell? _ _ h1;refine⟨?_,λb x hb=> ?_⟩
  .  rw[World.cell?_of_block (w:=w) (tC _ Bn (KQ a v ha))];exact h1
  .  by_cases h:b=b0
     .  subst h;exact λe=>KQ a v ha e.symm
     .  obtain⟨h3,_⟩:=qq b x h hb;rw[aT b (hW.live b x h3).1];exact h2 b x h3
 whole a v ha o ho:=by have mU:a.block<w.heap.size:=World.block_lt_of_cell? _ _ (hW.dx a v ha).1;rw[World.cell?_of_block (w:=w) (a:=⟨a.block,o,none⟩) (tC _ mU (KQ a v ha))];exact hW.whole a v ha o ho
theorem aX.cell(hW:aX ρ C st w){b:Pos}{cs:List AV}{fz:Nat}(hb:st.heap.get b=some (.cells cs fz)){i:Nat}{v:AV}(hv:cs[i]? =some v):
  ∃x,w.cell? ⟨(ρ b).av,(ρ b).base+i,none⟩=some x/\aj ρ st.next.toNat C v x:=by
 obtain⟨_,_,c,e,fr,h1,h2,h3,h4,_⟩:=hW.live b _ hb;obtain⟨x,hx,hr⟩:=h4.get hv;have hi:i<cs.length:=(Za0.1 hv).1;rw[Zc0,Za6 hi,Zc6]at hx;exact⟨x,by simp[World.cell?,h1, <-hx],hr⟩
theorem aX.ae0(hW:aX ρ C st w){b:Pos}{cs:List AV}{t:TypeId}(hb:st.heap.get b=some (.typed t cs)){i:Nat}{v:AV}(hv:cs[i]? =some v):
  ∃x,w.cell? ⟨(ρ b).av,(ρ b).base+i,none⟩=some x/\aj ρ st.next.toNat C v x:=by
 obtain⟨_,_,c,fr,h1,h2,h3,h4,_⟩:=hW.live b _ hb;obtain⟨x,hx,hr⟩:=h4.get hv;have hi:i<cs.length:=(Za0.1 hv).1;rw[Zc0,Za6 hi,Zc6]at hx;exact⟨x,by simp[World.cell?,h1, <-hx],hr⟩
theorem Bo{α:Type}{l l':List α}{i n:Nat}(h:cut l i n=some l'):l'=(l.drop i).take n/\i+n<=l.length:=by
 unfold cut at h;split at h
 .rename_i hb;cases h;exact⟨rfl,Za4 hb⟩
 .cases h
theorem sw{α:Type}{l l':List α}{i n:Nat}(h:cut l i n=some l'):l'.length=n:=by obtain⟨rfl,h2⟩:=Bo h;simp;omega
theorem aX.loadCells(hW:aX ρ C st w){b:Pos}{cs vs:List AV}{fz off n:Nat}(hb:st.heap.get b=some (.cells cs fz))(hc:cut cs off n=some vs):
  ∃ys:List Value,(Go.loadCells ⟨(ρ b).av,(ρ b).base+off,none⟩ n).run P w= .ok ys.toArray w/\au ρ st.next.toNat C vs ys:=by
 obtain⟨_,_,c,e,fr,h1,h2,h3,h4,_⟩:=hW.live b _ hb;obtain⟨iz,hle⟩:=Bo hc;have hr:=(h4.drop off).take n;rw[<-iz]at hr;refine⟨_,?_,hr⟩;have hlen:(List.take n (List.drop off (List.take cs.length (List.drop (ρ b).base c.toList)))).length=n:=by rw[<-hr.1];exact sw hc
 conv=>lhs;rw[<-hlen]
 refine run_loadCells_list w _ _ λj v hj=> ?_
 have zj:j<n:=by rw[<-hlen];exact(Za0.1 hj).1
 rw[Zc0,Za6 zj,Zc6,Zc0,Za6 (by omega),Zc6]at hj;rw[kW];simp[World.cell?,h1, <-hj,Zh5]
theorem aX.Nf(hW:aX ρ C st w){b:Pos}{cs vs:List AV}{t:TypeId}{off n:Nat}(hb:st.heap.get b=some (.typed t cs))(hc:cut cs off n=some vs):
  ∃ys:List Value,(Go.loadCells ⟨(ρ b).av,(ρ b).base+off,none⟩ n).run P w= .ok ys.toArray w/\au ρ st.next.toNat C vs ys:=by
 obtain⟨_,_,c,fr,h1,h2,h3,h4,_⟩:=hW.live b _ hb;obtain⟨iz,hle⟩:=Bo hc;have hr:=(h4.drop off).take n;rw[<-iz]at hr;refine⟨_,?_,hr⟩;have hlen:(List.take n (List.drop off (List.take cs.length (List.drop (ρ b).base c.toList)))).length=n:=by rw[<-hr.1];exact sw hc
 conv=>lhs;rw[<-hlen]
 refine run_loadCells_list w _ _ λj v hj=> ?_
 have zj:j<n:=by rw[<-hlen];exact(Za0.1 hj).1
 rw[Zc0,Za6 zj,Zc6,Zc0,Za6 (by omega),Zc6]at hj;rw[kW];simp[World.cell?,h1, <-hj,Zh5]
theorem jZ(g e:Nat)(fr:Nat×Nat):∀(vs:List Value)(i o:Nat)(cur:Array Value)(w:World),w.heap[g]? =some (.cells cur e fr)->o+i+vs.length<=cur.size->
  (∀v∈vs,v.oneCell'=true)->(∀k,o+i<=k->k<cur.size->¬(fr.1<=k/\k<fr.2))->
  ∃ w',(storeCells ⟨g,o,none⟩ vs i).run P w= .ok () w'/\w'.heap[g]? =some (.cells (aH cur.toList (o+i) vs).toArray e fr)/\
    w'.heap.size=w.heap.size/\(∀k,k≠g->w'.heap[k]? =w.heap[k]?)/\w'.os=w.os/\w'.tape=w.tape/\w'.output=w.output
 |[],i,o,cur,w,hg,_,_,_=>⟨w,by simp[storeCells],by rw[hg];simp[aH,Zj0],rfl,λ_ _=>rfl,rfl,rfl,rfl⟩
 |v ::vs,i,o,cur,w,hg,hle,h1,hf=>by
  simp only[Ze2]at hle;have hv:v.oneCell'=true:=h1 v (by simp);have CS:w.cell? ⟨g,o+i,none⟩=some (cur[o+i]'(by omega)):=by simp[World.cell?,hg]
  have YW:w.frozen? ⟨g,o+i,none⟩=false:=by have:=hf (o+i) (Za5 _) (by omega);simp only[World.frozen?,hg];simpa using this
  have Ir:(w.setCell ⟨g,o+i,none⟩ v).heap[g]? =some (.cells (cur.setIfInBounds (o+i) v) e fr):=by
    simp[World.setCell,Zm5,hg]
  obtain⟨w',h2,h3,h4,h5,h6,h7,h8⟩:=jZ g e fr vs (i+1) o _ _ Ir (by simp;omega) (λv hv=>h1 v (by simp[hv])) (by intro k hk kH;simp at kH;exact hf k (by omega) kH);refine⟨w',?_,?_,by simp[h4],λk hk=> ?_,h6,h7,h8⟩
  .simp only[storeCells,Sem.run_bind,kW,run_store P w _ _ _ hv,CS,YW];simpa using h2
  .rw[h3];congr 2;simp only[aH,Ze2,Zo2];rw[List.drop_set_of_lt (by omega)];have:o+(i+1)=(o+i)+1:=(by omega);rw[this,List.take_set,Zp1];have aN:o+i<cur.toList.length:=(by simp;omega);rw[H4 aN];simp only[Option.toList_some,List.set_append,Zh6];have hm:min (o+i) cur.toList.length=o+i:=Zk0 (Nat.le_of_lt aN);rw[hm,Za3 (Zn0 _),Zo0];simp;rw[show o+i+1+vs.length=o+i+(vs.length+1)from by omega]
  .rw[h5 k hk,Below.heap_setCell _ _ _ _ (by simpa using hk)]
end
section
variable{P:Program}{tt:TT}{ρ:Pos->Loc}{C:Cells}{st:St}{w:World}{n:Nat}
theorem Yields.value(x:Value):Yields (.value x) x:= .inl rfl
theorem sv.pure{v:AV}{x:Value}{r:Result Next}(h:r= .ok (.value x) w)(hv:aj ρ st.next.toNat C v x):sv P ρ C st w r (.val v):=
 ⟨_,x,h,Yields.value x,hv⟩
theorem aj.iq{k:IntKind}{i:Int}{x:Value}(h:aj ρ n C (.int k i) x):x= .int k i:=by cases h;rfl
theorem aj.gG{b:Bool}{x:Value}(h:aj ρ n C (.bool b) x):x= .bool b:=by cases h;rfl
theorem aj.dX{s:List Nat}{x:Value}(h:aj ρ n C (.str s) x):∃bs:ByteArray,x= .string bs/\bs.data.toList.map UInt8.toNat=s:=by
 cases h with|str _ bs h=>exact⟨bs,rfl,h⟩
theorem aj.oZ{x:Value}(h:aj ρ n C .iw x):x= .pointer none:=by cases h;rfl
theorem aj.fA{x:Value}(h:aj ρ n C .ah x):x= .slice none 0 0:=by cases h;rfl
theorem aj.yx{x:Value}(h:aj ρ n C .nX x):x= .map none:=by cases h;rfl
theorem aj.FF{x:Value}(h:aj ρ n C .jk x):x= .nilFunc:=by cases h;rfl
theorem aj.SE{x:Value}(h:aj ρ n C .uG x):x= .nilIface:=by cases h;rfl
theorem aj.eG{b:Pos}{off:Nat}{x:Value}(h:aj ρ n C (.ptr b off) x):b.toNat<n/\x= .pointer (some ⟨(ρ b).av,(ρ b).base+off,none⟩):=by
 cases h with|ptr _ _ h=>exact⟨h,rfl⟩
theorem aj.u5{b:Pos}{x:Value}(h:aj ρ n C (.map b) x):b.toNat<n/\x= .map (some (ρ b).av):=by
 cases h with|map _ h=>exact⟨h,rfl⟩
theorem aj.Qp{t:TypeId}{v:AV}{x:Value}(h:aj ρ n C (.iface t v) x):∃y,x= .iface t y/\aj ρ n C v y:=by
 cases h with|iface _ _ y h=>exact⟨y,rfl,h⟩
theorem aj.cW{b:Pos}{off len es:Nat}{cap:Option Nat}{x:Value}(h:aj ρ n C (.slice b off len cap es) x):
  ∃(a:Addr) (aJ:Nat),x= .slice (some a) len aJ/\len<=aJ/\(∀c,cap=some c->c=aJ)/\
   (aJ≠0->b.toNat<n/\a=⟨(ρ b).av,(ρ b).base+off,none⟩/\(ρ b).base+off+aJ*es<=(ρ b).size):=by
 cases h with|slice _ _ _ _ _ aJ a hl hc ha _=>exact⟨a,aJ,rfl,hl,hc,ha⟩
theorem aj.Qq{b:Pos}{off len es:Nat}{cap:Option Nat}{x:Value}(h:aj ρ n C (.slice b off len cap es) x):cap=none->b.toNat<n:=by
 cases h with|slice _ _ _ _ _ _ _ _ _ _ hk=>exact hk
theorem aj.q9{xs:List (List AV)}{es:Nat}{x:Value}(h:aj ρ n C (.fl xs es) x):
  ∃(a:Addr) (aJ:Nat) (cell:Nat->Nat->Value),x= .slice (some a) xs.length aJ/\xs.length<=aJ/\(xs≠[]->a.spot=none)/\
   (∀(i:Nat)(cs:List AV),xs[i]? =some cs->cs.length=es)/\
   (∀(i j:Nat)(cs:List AV)(v:AV),xs[i]? =some cs->cs[j]? =some v->C ⟨a.block,a.off+i*es+j,none⟩=some (cell i j))/\
   (∀(i j:Nat)(cs:List AV)(v:AV),xs[i]? =some cs->cs[j]? =some v->aj ρ n C v (cell i j)):=by
 cases h with|fl _ _ aJ a cell hl hs dc hc hv=>exact⟨a,aJ,cell,rfl,hl,hs,dc,hc,hv⟩
theorem aj.Ej{xs:List (List AV)}{i j:Nat}{x:Value}(h:aj ρ n C (.fp xs i j) x):
  ∃(es av base:Nat) (cell:Nat->Nat->Value),x= .pointer (some ⟨av,base+i*es+j,none⟩)/\
   (∀(i:Nat)(cs:List AV),xs[i]? =some cs->cs.length=es)/\
   (∀(i j:Nat)(cs:List AV)(v:AV),xs[i]? =some cs->cs[j]? =some v->C ⟨av,base+i*es+j,none⟩=some (cell i j))/\
   (∀(i j:Nat)(cs:List AV)(v:AV),xs[i]? =some cs->cs[j]? =some v->aj ρ n C v (cell i j)):=by
 cases h with|fp _ _ _ es av base cell hl hc hv=>exact⟨es,av,base,cell,rfl,hl,hc,hv⟩
theorem ri(k:IntKind)(i:Int):aq k i=k.wrap i:=by
 unfold aq;split
 . rename_i h1 _;split
   .rename_i h2 _;cases k<;>simp only[Qk,Ql]at h1 h2<;>simp only[IntKind.wrap,IntKind.bits,IntKind.signed]<;>simp<;>omega
   .rfl
 .rfl
theorem kj(a b:Int):uB a b=(a==b):=by
 unfold uB;split
 .rename_i h _;subst h;simp
 .rename_i h _;simp[h]
theorem dK(a b:Int):yU a b=decide (a<b):=by
 unfold yU;split<;>(rename_i h _;simp[h])
theorem gZ(a b:Int):R3 a b=decide (a<=b):=by
 unfold R3;split<;>(rename_i h _;simp[h])
theorem kD:∀{a b:List Nat},iF a b=true↔a=b
 |[],[]=>by simp[iF]
 |[],_::_=>by simp[iF]
 |_::_,[]=>by simp[iF]
 |a::x,b::y=>by
  unfold iF;split
  .rename_i h;have:=Za2 h;subst this;simp[kD (a:=x) (b:=y)]
  .rename_i h;have:=Zb7 h;simp[this]
theorem Ek:∀{a b:List UInt8},a.map UInt8.toNat=b.map UInt8.toNat->a=b
 |[],[],_=>rfl
 |[],_::_,h=>by simp at h
 |_::_,[],h=>by simp at h
 |a::x,b::y,h=>by
  simp at h;rw[Zp7.1 h.1,Ek h.2]
theorem toList_data(b:ByteArray):b.toList=b.data.toList:=ByteArray.toList_eq b
theorem qm:∀(x y:List UInt8),az (x.map UInt8.toNat) (y.map UInt8.toNat)=Op.bytesLess x y
 |[],[]=>by simp[az,Op.bytesLess]
 |_::_,[]=>by simp[az,Op.bytesLess]
 |[],_::_=>by simp[az,Op.bytesLess]
 |a ::x,b::y=>by
  simp only[Zd5,az,Op.bytesLess];split
  .rename_i h;have:a<b:=(by rw[Zm6];simpa using h);simp[this]
  . (rename_i h;have h1:¬a<b:=by rw[Zm6];intro h';have h2:Nat.blt a.toNat b.toNat=true:=(by simpa using h');rw[h2]at h;cases h);split
    .   rename_i h2;have:a=b:=Zp7.1 (Za2 h2);subst this;simp only[h1,decide_false,Bool.false_or,beq_self_eq_true,Zf2];exact qm x y
    .   (rename_i h2;have:a≠b:=λe=>Zb7 h2 (by rw[e]));simp[h1,this]
theorem El{a b:List Nat}{x y:ByteArray}(hx:x.data.toList.map UInt8.toNat=a)(hy:y.data.toList.map UInt8.toNat=b):(x.toList==y.toList)=iF a b:=by
 rw[toList_data,toList_data,Zk1,kD,beq_iff_eq, <-hx, <-hy];exact⟨λh=>by rw[h],λh=>Ek h⟩
theorem LS{a b:List Nat}{x y:ByteArray}(hx:x.data.toList.map UInt8.toNat=a)(hy:y.data.toList.map UInt8.toNat=b):Op.bytesLess x.toList y.toList=az a b:=by
 rw[toList_data,toList_data, <-hx, <-hy,qm]
theorem uI{a:List Nat}{x:ByteArray}(hx:x.data.toList.map UInt8.toNat=a):x.size=a.length:=by rw[<-hx,Za9,Zf4];rfl
def PK.fits:PK->TypeDesc->Bool
 |.b,.bool=>true
 |.i,.int _=>true
 |.s,.string=>true
 |_,_=>false
theorem SG{t:TypeId}{d:TypeDesc}(hd:P.underlying t=some d){pk:PK}(hk:pk.fits d=true){a b:AV}{x y:Value}{r:Bool}{m:Nat}
   (ha:aj ρ n C a x) (hb:aj ρ n C b y) (h:yo pk a b=some r) (w:World):(Op.equalIn (m+1) t x y).run P w= .ok r w:=by
 unfold yo at h;split at h
 .simp only[H0]at h;subst h;rw[ha.gG,hb.gG];cases d<;>simp[PK.fits]at hk;rw[run_equalIn_bool' w m t _ _ hd]
 . split at h
   .rename_i kH;have:=u0 kH;subst this;simp only[H0]at h;subst h;rw[ha.iq,hb.iq];cases d<;>simp[PK.fits]at hk;rw[run_equalIn_int w m t _ _ _ _ hd,kj]
   .cases h
 .simp only[H0]at h;subst h;obtain⟨bx,rfl,h1⟩:=ha.dX;obtain⟨bz,rfl,h2⟩:=hb.dX;cases d<;>simp[PK.fits]at hk;rw[run_equalIn_string w m t _ _ hd,El h1 h2]
 .cases h
theorem Is:∀{fs:List (Nat×Nat×Bool)}{l:List (Nat×PK)}{gs:List Field}{xs ys:List AV}{cx cy:Array Value}{r:Bool}{m:Nat}(_hT:bM P tt)
  (_hm:bD.dB fs gs=true) (_hf:vP.fields tt fs=some l) (_hx:au ρ n C xs cx.toList) (_hy:au ρ n C ys cy.toList) (_h:eqFields xs ys l=some r) (w:World),
  (Op.eqFields (m+1) cx cy gs).run P w= .ok r w
 |[],l,gs,xs,ys,cx,cy,r,m,hT,hm,hf,hx,hy,h,w=>by
  cases gs with
  |cons f gs=>simp[bD.dB]at hm
  | nil=>
    simp[vP.fields]at hf;subst hf;simp[eqFields]at h;subst h;simp[Op.eqFields]
 |(off  , t,named)::fs,l,gs,xs,ys,cx,cy,r,m,hT,hm,hf,hx,hy,h,w=>by
  cases gs with
  |nil=>simp[bD.dB]at hm
  | cons f gs=>
    simp[bD.dB]at hm;obtain⟨⟨⟨ho,ht⟩,hn⟩,Ze⟩:=hm;unfold vP.fields at hf;(split at hf<;>first|(cases hf;done)|skip);rename_i ti l' cF hl';obtain⟨d,hd,bU⟩:=(hT.at cF).und;have key:∃pk,l=(off,pk)::l'/\pk.fits d=true/\(isAgg t).run P w= .ok false w:=by
        have nR:=LR bU w hd;split at hf<;>first|(cases hf;done)|skip
        all_goals
          rename_i hk;simp only[H0]at hf;rw[hk]at bU nR;refine⟨_,hf.symm,?_,nR⟩
        .rw[OY bU];rfl
        .rw[Ei bU];rfl
        .rw[lC bU];rfl
    obtain⟨pk,rfl,Dx,nR⟩:=key;have aV:f.name≠ "_" :=(by intro e;rw[e]at hn;simp at hn);unfold eqFields at h;(split at h<;>first|(cases h;done)|skip);rename_i a b ha hb;rw[kV]at ha hb;obtain⟨x,VU,VV⟩:=hx.get ha;obtain⟨y,Aj,Bp⟩:=hy.get hb;have px:(part f.type cx f.offset).run P w= .ok x w:=by
        rw[<-ht, <-ho];simp at VU;simp[part,nR,VU]
    have py:(part f.type cy f.offset).run P w= .ok y w:=by
        rw[<-ht, <-ho];simp at Aj;simp[part,nR,Aj]
    simp only[Op.eqFields,Sem.run_bind,Sem.run_ite,aV,px,py,Result.andThen_ok,ne_eq,not_false_eq_true,Zg3];split at h
    .   rename_i he;rw[<-ht,SG hd Dx VV Bp he w];simpa using Is (m:=m) hT Ze hl' hx hy h w
    .   rename_i he;simp only[H0]at h;subst h;rw[<-ht,SG hd Dx VV Bp he w];simp
    .   cases h
def acZ(tt:TT)(op:BinOp)(q:ey)(t:TypeId):Prop:=vP tt t=some q\/(q= .num/\op≠ .eql/\op≠ .neq)
def ae1(P:Program)(tt:TT)(t:TypeId):ey->Prop
 |.num=>True
 |.bool=>P.underlying t=some .bool
 |.ptr=>∃e,P.underlying t=some (.pointer e)/\∃j,P.info? e=some j
 |.slice=>∃e,P.underlying t=some (.slice e)
 |.map=>∃k e,P.underlying t=some (.map k e)
 |.func=>∃a b c,P.underlying t=some (.func a b c)
 |.iface=>∃a,P.underlying t=some (.interface a)
 |.struct l=>∃fs gs,P.underlying t=some (.struct gs)/\bD.dB fs gs.toList=true/\vP.fields tt fs=some l/\P.stoodInHeld t=false/\P.eqGuardType P.depth t=false
theorem VW(hT:bM P tt){t:TypeId}{q:ey}(hq:vP tt t=some q):ae1 P tt t q:=by
 unfold vP at hq;split at hq<;>first|(cases hq;done)|skip
 rename_i ti cF;obtain⟨d,hd,bU⟩:=(hT.at cF).und;split at hq<;>first|(cases hq;done)|skip
 all_goals rename_i hk
 all_goals rw[hk]at bU
 .simp only[H0]at hq;subst hq;rw[OY bU]at hd;exact hd
 .simp only[H0]at hq;subst hq;trivial
 .simp only[H0]at hq;subst hq;trivial
 .simp only[H0]at hq;subst hq;rw[Nd bU]at hd;exact⟨_,hd,(hT.at cF).elem _ hk⟩
 .simp only[H0]at hq;subst hq;rw[lY bU]at hd;exact⟨_,hd⟩
 .simp only[H0]at hq;subst hq;rw[Ip bU]at hd;exact⟨_,_,hd⟩
 .simp only[H0]at hq;subst hq;obtain⟨_,_,_,rfl⟩:=adn bU;exact⟨_,_,_,hd⟩
 .simp only[H0]at hq;subst hq;obtain⟨_,rfl⟩:=aa7 bU;exact⟨_,hd⟩
 . (split at hq<;>first|(cases hq;done)|skip);rename_i fs _ _ l hp hl;simp only[H0]at hq;subst hq;obtain⟨gs,rfl,hm⟩:=CR bU;exact⟨fs,gs,hd,hm,hl,(hT.at cF).eqs hp⟩
theorem Xr(m:Nat)(hT:bM P tt){t:TypeId}{q:ey}(hq:vP tt t=some q){a b:AV}{x y:Value}{r:Bool}(ha:aj ρ n C a x)(hb:aj ρ n C b y)(h:LJ q a b=some r)(w:World):
   (Op.equalIn (m+1+1) t x y).run P w= .ok r w:=by
 have hi:=VW hT hq;clear hq;unfold LJ at h;split at h<;>first|(cases h;done)|skip
 .simp only[H0]at h;subst h;rw[ha.gG,hb.gG,run_equalIn_bool' w _ t _ _ hi]
 all_goals first
   |(simp only[H0]at h;subst h)
   |skip
 .obtain⟨e,hd,_⟩:=hi;rw[ha.oZ,hb.oZ];(unfold Op.equalIn;rw[Sem.run_bind,aL hd];rfl)
 .obtain⟨e,hd,_⟩:=hi;obtain⟨_,hb⟩:=hb.eG;rw[ha.oZ,hb];(unfold Op.equalIn;rw[Sem.run_bind,aL hd];rfl)
 .obtain⟨e,hd,_⟩:=hi;obtain⟨_,ha⟩:=ha.eG;rw[hb.oZ,ha];(unfold Op.equalIn;rw[Sem.run_bind,aL hd];rfl)
 .obtain⟨e,hd,_⟩:=hi;obtain⟨_,_,_,_,hb,_⟩:=hb.Ej;rw[ha.oZ,hb];(unfold Op.equalIn;rw[Sem.run_bind,aL hd];rfl)
 .obtain⟨e,hd,_⟩:=hi;obtain⟨_,_,_,_,ha,_⟩:=ha.Ej;rw[hb.oZ,ha];(unfold Op.equalIn;rw[Sem.run_bind,aL hd];rfl)
 .obtain⟨e,hd,j,hj⟩:=hi;(split at h<;>first|(cases h;done)|skip);rename_i e1 e2;have e1:=Pos.beq_eq.1 e1;have e2:=Za2 e2;subst e1;subst e2;simp only[H0]at h;subst h;obtain⟨_,ha⟩:=ha.eG;obtain⟨_,hb⟩:=hb.eG;rw[ha,hb];simp[Op.equalIn,aL hd,sizeOf,typeInfo,hj,run_sameAddr_same]
 .obtain⟨e,hd⟩:=hi;rw[ha.fA,hb.fA];(unfold Op.equalIn;rw[Sem.run_bind,aL hd];rfl)
 .obtain⟨e,hd⟩:=hi;obtain⟨_,_,hb,_⟩:=hb.cW;rw[ha.fA,hb];(unfold Op.equalIn;rw[Sem.run_bind,aL hd];rfl)
 .obtain⟨e,hd⟩:=hi;obtain⟨_,_,ha,_⟩:=ha.cW;rw[hb.fA,ha];(unfold Op.equalIn;rw[Sem.run_bind,aL hd];rfl)
 .obtain⟨e,hd⟩:=hi;obtain⟨_,_,_,hb,_⟩:=hb.q9;rw[ha.fA,hb];(unfold Op.equalIn;rw[Sem.run_bind,aL hd];rfl)
 .obtain⟨e,hd⟩:=hi;obtain⟨_,_,_,ha,_⟩:=ha.q9;rw[hb.fA,ha];(unfold Op.equalIn;rw[Sem.run_bind,aL hd];rfl)
 .obtain⟨k,e,hd⟩:=hi;rw[ha.yx,hb.yx];(unfold Op.equalIn;rw[Sem.run_bind,aL hd];rfl)
 .obtain⟨k,e,hd⟩:=hi;obtain⟨_,hb⟩:=hb.u5;rw[ha.yx,hb];(unfold Op.equalIn;rw[Sem.run_bind,aL hd];rfl)
 .obtain⟨k,e,hd⟩:=hi;obtain⟨_,ha⟩:=ha.u5;rw[hb.yx,ha];(unfold Op.equalIn;rw[Sem.run_bind,aL hd];rfl)
 .obtain⟨_,_,_,hd⟩:=hi;rw[ha.FF,hb.FF];(unfold Op.equalIn;rw[Sem.run_bind,aL hd];rfl)
 .obtain⟨_,_,_,hd⟩:=hi;obtain⟨_,_,hb,_⟩:=hb.yq;rw[ha.FF,hb];(unfold Op.equalIn;rw[Sem.run_bind,aL hd];rfl)
 .obtain⟨_,_,_,hd⟩:=hi;obtain⟨_,_,ha,_⟩:=ha.yq;rw[hb.FF,ha];(unfold Op.equalIn;rw[Sem.run_bind,aL hd];rfl)
 .obtain⟨_,hd⟩:=hi;obtain⟨_,hb,_⟩:=hb.Qp;rw[ha.SE,hb];(unfold Op.equalIn;rw[Sem.run_bind,aL hd];rfl)
 .obtain⟨_,hd⟩:=hi;obtain⟨_,ha,_⟩:=ha.Qp;rw[hb.SE,ha];(unfold Op.equalIn;rw[Sem.run_bind,aL hd];rfl)
 .obtain⟨fs,gs,hd,hm,hl,hp,_⟩:=hi;obtain⟨cx,rfl,hx⟩:=ha.Ba;obtain⟨cy,rfl,hy⟩:=hb.Ba;have hfo:P.fieldsOf t=gs:=(by simp[Program.fieldsOf,hd]);rw[run_equalIn_agg w (m+1) t cx cy (by rw[hfo,hd]) hp,hfo];exact Is (m:=m) hT hm hl hx hy h w
theorem SH(hT:bM P tt){t:TypeId}{q:ey}(hq:vP tt t=some q){a b:AV}{x y:Value}{r:Bool}(ha:aj ρ n C a x)(hb:aj ρ n C b y)(h:LJ q a b=some r)(w:World):
 (Op.equal t x y).run P w= .ok r w:=Xr 9998 hT hq ha hb h w
theorem Ng(hT:bM P tt){t:TypeId}{q:ey}(hq:vP tt t=some q){a b:AV}{x y:Value}{r:Bool}(ha:aj ρ n C a x)(hb:aj ρ n C b y)(h:LJ q a b=some r)(op:BinOp)(ox oy:Operand)(w:World):
  (eqGuard op t ox oy x y).run P w= .ok () w:=by
 have hi:=VW hT hq;clear hq;unfold LJ at h;split at h<;>first|(cases h;done)|skip
 all_goals first
  |(obtain⟨fs,gs,hd,hm,hl,hp,hg⟩:=hi
    obtain⟨cx,rfl,hx⟩:=ha.Ba;obtain⟨cy,rfl,hy⟩:=hb.Ba;exact run_eqGuard_agg w op t ox oy cx cy hg)
  |(cases ha<;>cases hb<;>cases op<;>rfl)
end
section
variable{P:Program}{tt:TT}{ρ:Pos->Loc}{C:Cells}{st:St}{w:World}{n:Nat}
theorem RE(op:BinOp)(t:TypeId)(k:IntKind)(i j:Int)(hs:op≠ .shl)(hr:op≠ .shr):(binOp op t (.int k i) (.int k j)).run P w=
  (match op with
   |.add|.sub|.mul=>Op.intArith op k i j
   |.quo|.rem=>Op.intDiv op k i j
   |.and|.or|.xor|.andNot=>Op.intBits op k i j
   |_=>Op.intCmp op i j).run P w:=by
 cases op<;>first|(exact absurd rfl hs)|(exact absurd rfl hr)|simp[binOp]
theorem aa8(hT:bM P tt){op:BinOp}{t:TypeId}{q:ey}(hq:acZ tt op q t){a b v:AV}{x y:Value}(ha:aj ρ n C a x)(hb:aj ρ n C b y)(h:lR op q a b=some v)(ox oy:Operand):
  ∃z,(do eqGuard op t ox oy x y;binOp op t x y:Sem Value).run P w= .ok z w/\aj ρ n C v z:=by
 unfold lR at h;split at h
 ·
  rename_i k i k' j;rw[ha.iq,hb.iq];have hg:∀op,(eqGuard op t ox oy (.int k i) (.int k' j)).run P w= .ok () w:=by intro op;cases op<;>rfl
  rw[Sem.run_bind,hg,Result.andThen_ok];split at h
  . split at h
    .   cases h
    .   rename_i aN;rw[dK]at aN;have aN:=Zl8 aN;simp only[H0]at h;subst h;exact⟨_,by simp[binOp,Op.shift,aN,ri],.int _ _⟩
  . split at h
    .   cases h
    .   rename_i aN;rw[dK]at aN;have aN:=Zl8 aN;simp only[H0]at h;subst h;exact⟨_,by simp[binOp,Op.shift,aN],.int _ _⟩
  . rename_i hs hr;split at h
    .   cases h
    .   rename_i hk;have:=u0 hk;subst this;rw[RE op t k i j (λe=>hs e) (λe=>hr e)];split at h
        .simp only[H0]at h;subst h;exact⟨_,by simp[Op.intArith,ri],.int _ _⟩
        .simp only[H0]at h;subst h;exact⟨_,by simp[Op.intArith,ri],.int _ _⟩
        .simp only[H0]at h;subst h;exact⟨_,by simp[Op.intArith,ri],.int _ _⟩
        . split at h
          .cases h
          . (rename_i h0;rw[kj]at h0;have h0':¬j=0:=by simpa using h0);simp only[H0]at h;subst h;exact⟨_,by simp[Op.intDiv,h0',ri],.int _ _⟩
        . split at h
          .cases h
          . (rename_i h0;rw[kj]at h0;have h0':¬j=0:=by simpa using h0);simp only[H0]at h;subst h;exact⟨_,by simp[Op.intDiv,h0'],.int _ _⟩
        .simp only[H0]at h;subst h;exact⟨_,by simp[Op.intBits],.int _ _⟩
        .simp only[H0]at h;subst h;exact⟨_,by simp[Op.intBits],.int _ _⟩
        .simp only[H0]at h;subst h;exact⟨_,by simp[Op.intBits],.int _ _⟩
        .simp only[H0]at h;subst h;exact⟨_,by simp[Op.intBits],.int _ _⟩
        .simp only[H0]at h;subst h;exact⟨_,by simp[Op.intCmp,kj],.bool _⟩
        .simp only[H0]at h;subst h;refine⟨_,rfl,?_⟩;rw[kj];exact .bool _
        .simp only[H0]at h;subst h;refine⟨_,rfl,?_⟩;rw[dK];exact .bool _
        .simp only[H0]at h;subst h;refine⟨_,rfl,?_⟩;rw[gZ];exact .bool _
        .simp only[H0]at h;subst h;refine⟨_,rfl,?_⟩;rw[dK];exact .bool _
        .simp only[H0]at h;subst h;refine⟨_,rfl,?_⟩;rw[gZ];exact .bool _
        .cases h
 ·
  rename_i s u;obtain⟨bx,rfl,h1⟩:=ha.dX;obtain⟨bz,rfl,h2⟩:=hb.dX;have hg:∀op,(eqGuard op t ox oy (.string bx) (.string bz)).run P w= .ok () w:=by intro op;cases op<;>rfl
  rw[Sem.run_bind,hg,Result.andThen_ok];have hs:(binOp op t (.string bx) (.string bz)).run P w=(Op.stringOp op bx bz).run P w:=by cases op<;>rfl
  rw[hs];have e1:=El h1 h2;have e2:=LS h1 h2;split at h
  . split at h
    .   rename_i hb;have hb:=Za4 hb;simp only[H0]at h;subst h;have j4:¬(((bx.size+bz.size:Nat):Int)>IntKind.i64.max):=(by rw[uI h1,uI h2];simp[IntKind.max,IntKind.signed,IntKind.bits];omega);refine⟨.string (bx++bz),?_,.str _ _ ?_⟩
        .simp only[Op.stringOp];rw[Za3 j4];rfl
        .rw[ByteArray.data_append,Array.toList_append,Ze3,h1,h2]
    .   cases h
  all_goals first|(cases h;done)|skip
  all_goals
    simp only[H0]at h;subst h;refine⟨_,rfl,?_⟩
    first|rw[e1,e2]|rw[e1]|rw[e2]
    exact .bool _
 ·
  rename_i hni hns;have CT:∀op,(op= .eql\/op= .neq)->(binOp op t x y).run P w=((Op.equal t x y).run P w).andThen λr w'=>.ok (.bool (if op= .eql then r else !r)) w':=by
    rintro op (rfl|rfl)
    all_goals
        cases ha<;>cases hb<;>first
          |(exact(hni _ _ _ _ rfl rfl).elim)
          |(exact(hns _ _ rfl rfl).elim)
          |simp[binOp]
  split at h
  . split at h
    .   rename_i r hr;simp only[H0]at h;subst h;rcases hq with hq|⟨_,hq,_⟩
        .refine⟨.bool r,?_,.bool r⟩;rw[Sem.run_bind,Ng hT hq ha hb hr,Result.andThen_ok,CT _ (.inl rfl),SH hT hq ha hb hr];rfl
        .exact absurd rfl hq
    .   cases h
  . split at h
    .   rename_i r hr;simp only[H0]at h;subst h;rcases hq with hq|⟨_,_,hq⟩
        .refine⟨.bool (!r),?_,.bool _⟩;rw[Sem.run_bind,Ng hT hq ha hb hr,Result.andThen_ok,CT _ (.inr rfl),SH hT hq ha hb hr];rfl
        .exact absurd rfl hq
    .   cases h
  .cases h
end
def cJ(P:Program)(tt:TT)(op:Op):Prop:=
 ∀  (ρ:Pos->Loc)(C:Cells)(st:St)(w:World)(k:ay)(xs:List dU)(cls:VS)(fr:Fr)(a:Act)(o:Oper)(vs:List AV)(res:b6),
    o.op=op->fO tt op=some (k,xs,cls)->aX ρ C st w->fh ρ st.next.toNat C fr a.tmps->dV fr xs=some vs->
    k.run (λb=>st.heap.get b) st.next vs=some res->sv P ρ C st w ((execOp a.eval o).run P w) res
section
variable{P:Program}{tt:TT}
theorem OZ{ρ:Pos->Loc}{n:Nat}{C:Cells}{x y:Operand}{os:List dU}{fr:Fr}{a:Act}{vs:List AV}(h:iT [x,y]=some os)(hF:fh ρ n C fr a.tmps)(hv:dV fr os=some vs):
  ∃u v,vs=[u,v]/\aj ρ n C u (a.eval x)/\aj ρ n C v (a.eval y):=by
 have h1:=dM h hF hv;cases vs with
 |nil=>have:=h1.1;simp at this
 |cons u vs=>
  cases vs with
  |nil=>have:=h1.1;simp at this
  |cons v vs=>
   cases vs with
   |nil=>exact⟨u,v,rfl,h1.2 0 u _ rfl rfl,h1.2 1 v _ rfl rfl⟩
   |cons z vs=>have:=h1.1;simp at this
theorem evs3{ρ:Pos->Loc}{n:Nat}{C:Cells}{x y z:Operand}{os:List dU}{fr:Fr}{a:Act}{vs:List AV}(h:iT [x,y,z]=some os)(hF:fh ρ n C fr a.tmps)(hv:dV fr os=some vs):
  ∃u v q,vs=[u,v,q]/\aj ρ n C u (a.eval x)/\aj ρ n C v (a.eval y)/\aj ρ n C q (a.eval z):=by
 have h1:=dM h hF hv
 match vs,h1 with
 |[u,v,q],h1=>exact⟨u,v,q,rfl,h1.2 0 u _ rfl rfl,h1.2 1 v _ rfl rfl,h1.2 2 q _ rfl rfl⟩
 |[],h1=>have:=h1.1;simp at this
 |[_],h1=>have:=h1.1;simp at this
 |[_,_],h1=>have:=h1.1;simp at this
 |_::_::_::_::_,h1=>have:=h1.1;simp at this
theorem aa9(x:Operand):cJ P tt (.move x):=by
 intro ρ C st w k xs cls fr a o vs res ho hc hW hF hx hr;simp only[fO]at hc;split at hc<;>first|(cases hc;done)|skip
 rename_i b hb;cases hc;obtain⟨v,rfl,hv⟩:=eP hb hF hx;simp only[ay.run,J1,H0]at hr;subst hr;exact .pure (by simp[execOp,ho]) hv
theorem Xs(x:Operand):cJ P tt (.assign x):=by
 intro ρ C st w k xs cls fr a o vs res ho hc hW hF hx hr;simp only[fO]at hc;split at hc<;>first|(cases hc;done)|skip
 rename_i b hb;cases hc;obtain⟨v,rfl,hv⟩:=eP hb hF hx;simp only[ay.run,J1,H0]at hr;subst hr;exact .pure (by simp[execOp,ho]) hv
theorem aba(c x y:Operand):cJ P tt (.pick c x y):=by
 intro ρ C st w k xs cls fr a o vs res ho hc hW hF hx hr;simp only[fO]at hc;split at hc<;>first|(cases hc;done)|skip
 rename_i l hl;cases hc;obtain⟨u,v,q,rfl,h1,h2,h3⟩:=evs3 hl hF hx;simp only[ay.run,OU]at hr;split at hr<;>first|(cases hr;done)|skip
 all_goals
   simp only[H0]at hr;subst hr;have h1:=h1.gG
 .exact .pure (by simp[execOp,ho,h1,asBool]) h2
 .exact .pure (by simp[execOp,ho,h1,asBool]) h3
theorem Zf(hT:bM P tt)(op:BinOp)(t:TypeId)(x y:Operand)(yt:TypeId):cJ P tt (.binOp op t x y yt):=by
 intro ρ C st w k xs cls fr a o vs res ho hc hW hF hx hr;have key:∃q,acZ tt op q t/\k= .bin op q/\iT [x,y]=some xs:=by
  simp only[fO]at hc;split at hc
  .rename_i q l hq hl;cases hc;exact⟨q,.inl hq,rfl,hl⟩
  .rename_i l hq hl;(split at hc<;>first|(cases hc;done)|skip);rename_i h1 h2;cases hc;exact⟨.num,.inr ⟨rfl,λe=>h1 e,λe=>h2 e⟩,rfl,hl⟩
  .cases hc
 obtain⟨q,hq,rfl,hl⟩:=key;obtain⟨u,v,rfl,h1,h2⟩:=OZ hl hF hx;simp only[ay.run,gF]at hr;split at hr<;>first|(cases hr;done)|skip
 rename_i r hb;simp only[H0]at hr;subst hr;obtain⟨z,hz,hv⟩:=aa8 hT hq h1 h2 hb x y (w:=w);refine .pure ?_ hv;simp only[execOp,ho];rw[Sem.run_bind,hz];rfl
theorem abb(op:UnOp)(t:TypeId)(x:Operand):cJ P tt (.unOp op t x):=by
 intro ρ C st w k xs cls fr a o vs res ho hc hW hF hx hr;simp only[fO]at hc;split at hc<;>first|(cases hc;done)|skip
 rename_i b hb;cases hc;obtain⟨v,rfl,hv⟩:=eP hb hF hx;simp only[ay.run,Xm]at hr;split at hr<;>first|(cases hr;done)|skip
 rename_i r hu;simp only[H0]at hr;subst hr;unfold unA at hu;split at hu
 . (split at hu<;>first|(cases hu;done)|skip);simp only[H0]at hu;subst hu;exact .pure (by simp[execOp,ho,hv.gG,Op.unary]) (.bool _)
 . (split at hu<;>first|(cases hu;done)|skip);simp only[H0]at hu;subst hu;exact .pure (by simp[execOp,ho,hv.iq,Op.unary,Op.intArith];rfl) (by rw[ri];simpa using aj.int _ _)
 .cases hu
theorem SI(x:Operand):cJ P tt (.nilCheck x):=by
 intro ρ C st w k xs cls fr a o vs res ho hc hW hF hx hr;simp only[fO]at hc;split at hc<;>first|(cases hc;done)|skip
 rename_i b hb;cases hc;obtain⟨v,rfl,hv⟩:=eP hb hF hx;simp only[ay.run,Dv]at hr;split at hr<;>first|(cases hr;done)|skip
 all_goals simp only[H0]at hr;subst hr
 .obtain⟨_,he⟩:=hv.eG;exact .pure (by simp[execOp,ho,he]) hv
 .obtain⟨_,_,_,_,he,_⟩:=hv.Ej;exact .pure (by simp[execOp,ho,he]) hv
 .obtain⟨_,_,he,_⟩:=hv.yq;exact .pure (by simp[execOp,ho,he]) hv
theorem Vn(x:Operand)(i:Nat):cJ P tt (.extract x i):=by
 intro ρ C st w k xs cls fr a o vs res ho hc hW hF hx hr;simp only[fO]at hc;split at hc<;>first|(cases hc;done)|skip
 rename_i b hb;cases hc;obtain⟨v,rfl,hv⟩:=eP hb hF hx;simp only[ay.run,AP]at hr;split at hr<;>first|(cases hr;done)|skip
 split at hr<;>first|(cases hr;done)|skip
 rename_i u hu;simp only[H0]at hr;subst hr;obtain⟨cs,he,hs⟩:=hv.Qm;rw[kV]at hu;obtain⟨y,hy,Bq⟩:=hs.get hu;exact .pure (by simp at hy;simp[execOp,ho,he,Instr.extract,hy]) Bq
theorem Vo(hT:bM P tt)(t:TypeId)(x:Operand):cJ P tt (.makeInterface t x):=by
 intro ρ C st w k xs cls fr a o vs res ho hc hW hF hx hr;simp only[fO]at hc;split at hc<;>first|(cases hc;done)|skip
 rename_i ti b cF hb;split at hc<;>first|(cases hc;done)|skip
 rename_i h1 h2;cases hc;obtain⟨v,rfl,hv⟩:=eP hb hF hx;simp only[ay.run,Fu,H0]at hr;subst hr;obtain⟨d,hd,hk⟩:=(hT.at cF).und;refine .pure (x:= .iface t (a.eval x)) ?_ (.iface _ _ _ hv);have hni:∀ms,d≠ .interface ms:=by
  rintro ms rfl;cases Ak:ti.k<;>rw[Ak]at hk<;>first|(simp[bD]at hk;done)|(exact h1 Ak)|(exact h2 Ak)
 simp only[execOp,ho,Instr.makeInterface,Sem.run_bind,aL hd,Result.andThen_ok];cases d<;>first|rfl|(exact absurd rfl (hni _))
theorem Xt(fn:Fn)(first captured:Array Operand):cJ P tt (.makeFunc fn first captured):=by
 intro ρ C st w k xs cls fr a o vs res ho hc hW hF hx hr;simp only[fO]at hc;split at hc<;>first|(cases hc;done)|skip
 rename_i f l hl;cases hc;have h:=dM hl hF hx;simp only[ay.run,CM,H0]at hr;subst hr;have e1:vs.take first.size=vs.take first.size:=rfl
 have h1:=h.take first.size
 have h2:=h.drop first.size
 simp only[Ze3]at h1 h2;rw[Zk2 (by simp)]at h1;rw[List.drop_left' (by simp)]at h2;refine .pure (x:= .func (.func f) (first.map a.eval) (captured.map a.eval)) (by simp[execOp,ho,Instr.makeFunc]) ?_;exact .func _ _ _ _ _ (by simpa using h1.1) (by simpa using h2.1) (λi v v' hv xT=>h1.2 i v v' hv (by simpa using xT)) (λi v v' hv xT=>h2.2 i v v' hv (by simpa using xT))
theorem RF(hT:bM P tt)(t:TypeId)(x:Operand)(f:Nat):cJ P tt (.fieldAddr t x f):=by
 intro ρ C st w k xs cls fr a o vs res ho hc hW hF hx hr;simp only[fO]at hc;split at hc<;>first|(cases hc;done)|skip
 rename_i ti b cF hb;split at hc<;>first|(cases hc;done)|skip
 rename_i fs hk;split at hc<;>first|(cases hc;done)|skip
 rename_i off ft nm hf;split at hc<;>first|(cases hc;done)|skip
 rename_i fi hfi;split at hc<;>first|(cases hc;done)|skip
 rename_i eW;cases hc;obtain⟨v,rfl,hv⟩:=eP hb hF hx;obtain⟨d,hd,bU⟩:=(hT.at cF).und;rw[hk]at bU;obtain⟨gs,rfl,hm⟩:=CR bU;obtain⟨g,hg,mV,xU,_⟩:=FE hm hf;simp only at mV xU;obtain⟨i,hi,kz,_⟩:=(hT.at hfi).info;have hs0:¬i.size=0:=by rw[kz];exact Zb7 eW
 simp only[ay.run,Il]at hr;split at hr<;>first|(cases hr;done)|skip
 .simp only[H0]at hr;subst hr;obtain⟨aN,he⟩:=hv.eG;refine .pure (x:= .pointer (some ⟨(ρ _).av,(ρ _).base+(_+off),none⟩)) ?_ (.ptr _ _ aN);simp at hg;simp[execOp,ho,he,Instr.fieldAt,aL hd,hg,Instr.sureAddr,fieldPlace,xU,gY hi,hs0,kW,mV,Zh5]
 .simp only[H0]at hr;subst hr;obtain⟨es,av,base,cell,he,h1,h2,h3⟩:=hv.Ej;rename_i tT i' j';refine .pure (x:= .pointer (some ⟨av,base+i'*es+(j'+off),none⟩)) ?_ (.fp _ _ _ es av base cell h1 h2 h3);simp at hg;simp[execOp,ho,he,Instr.fieldAt,aL hd,hg,Instr.sureAddr,fieldPlace,xU,gY hi,hs0,kW,mV,Zh5]
theorem jt{ρ:Pos->Loc}{n:Nat}{C:Cells}{v:AV}{x:Value}{i:Nat}(h:aj ρ n C v x)(hi:tu v=some i):∃k,x= .int k (i:Int):=by
 unfold tu at hi;split at hi<;>first|(cases hi;done)|skip
 split at hi<;>first|(cases hi;done)|skip
 simp only[H0]at hi;subst hi;exact⟨_,h.iq⟩
theorem RH(hT:bM P tt)(t:TypeId)(x ix:Operand):cJ P tt (.indexAddr t x ix):=by
 intro ρ C st w k xs cls fr a o vs res ho hc hW hF hx hr;simp only[fO]at hc;split at hc<;>first|(cases hc;done)|skip
 rename_i ti l cF hl;obtain⟨d,hd,bU⟩:=(hT.at cF).und;obtain⟨u,v,rfl,h1,h2⟩:=OZ hl hF (by
   split at hc<;>first|(cases hc;done)|skip
   all_goals
     (split at hc<;>first|(cases hc;done)|skip);cases hc;exact hx)
 split at hc<;>first|(cases hc;done)|skip
 . rename_i e hk;rw[hk]at bU;rw[lY bU]at hd;(split at hc<;>first|(cases hc;done)|skip);rename_i te fc;cases hc;obtain⟨i0,lF,kz,_⟩:=(hT.at fc).info;simp only[ay.run,mK]at hr;(split at hr<;>first|(cases hr;done)|skip);rename_i i hi;obtain⟨kk,u6⟩:=jt h2 hi;split at hr<;>first|(cases hr;done)|skip
   .rename_i b off len cap es' _;(split at hr<;>first|(cases hr;done)|skip);rename_i aN;have aN:i<len:=(by simpa using aN);simp only[H0]at hr;subst hr;obtain⟨aa,aJ,he,hle,_,ha⟩:=h1.cW;obtain⟨hb,rfl,_⟩:=ha (by omega);refine .pure (x:= .pointer (some ⟨(ρ b).av,(ρ b).base+(off+i*te.size),none⟩)) ?_ (.ptr _ _ hb);simp[execOp,ho,he,u6,Instr.indexAt,aL hd,asIntOf,aN,gY lF,kW,kz,Zh5]
   .rename_i tT es' _;(split at hr<;>first|(cases hr;done)|skip);rename_i aN dc;have aN:i<tT.length:=(by simpa using aN);have dc:te.size=es':=Za2 dc;simp only[H0]at hr;subst hr;obtain⟨aa,aJ,cell,he,hle,vU,g1,g2,g3⟩:=h1.q9;have vU:=vU (by intro e;rw[e]at aN;simp at aN);obtain⟨ab,ao,asp⟩:=aa;simp only at vU;subst vU;refine .pure (x:= .pointer (some ⟨ab,ao+i*es'+0,none⟩)) ?_ (.fp _ _ _ es' ab ao cell g1 g2 g3);simp[execOp,ho,he,u6,Instr.indexAt,aL hd,asIntOf,aN,gY lF,kW,kz,dc]
   .rename_i hh;cases hh
 . rename_i m e hk;rw[hk]at bU;rw[SD bU]at hd;(split at hc<;>first|(cases hc;done)|skip);rename_i te fc;cases hc;obtain⟨i0,lF,kz,_⟩:=(hT.at fc).info;simp only[ay.run,mK]at hr;(split at hr<;>first|(cases hr;done)|skip);rename_i i hi;obtain⟨kk,u6⟩:=jt h2 hi;split at hr<;>first|(cases hr;done)|skip
   .rename_i hh;cases hh
   .rename_i hh;cases hh
   .rename_i m' b off hh;cases hh;(split at hr<;>first|(cases hr;done)|skip);rename_i aN;have aN:i<m:=(by simpa using aN);simp only[H0]at hr;subst hr;obtain⟨hb,he⟩:=h1.eG;refine .pure (x:= .pointer (some ⟨(ρ b).av,(ρ b).base+(off+i*te.size),none⟩)) ?_ (.ptr _ _ hb);simp[execOp,ho,he,u6,Instr.indexAt,aL hd,asIntOf,aN,gY lF,kW,kz,Zh5,Instr.sureAddr]
end
section
variable{P:Program}{tt:TT}
theorem Zg(hT:bM P tt)(t:TypeId)(x:Operand)(f:Nat):cJ P tt (.field t x f):=by
 intro ρ C st w k xs cls fr a o vs res ho hc hW hF hx hr;simp only[fO]at hc;split at hc<;>first|(cases hc;done)|skip
 rename_i ti b cF hb;split at hc<;>first|(cases hc;done)|skip
 rename_i fs hk;split at hc<;>first|(cases hc;done)|skip
 rename_i off ft nm hf;split at hc<;>first|(cases hc;done)|skip
 rename_i fi hfi;cases hc;obtain⟨v,rfl,hv⟩:=eP hb hF hx;obtain⟨d,hd,bU⟩:=(hT.at cF).und;rw[hk]at bU;obtain⟨gs,rfl,hm⟩:=CR bU;obtain⟨g,hg,mV,xU,_⟩:=FE hm hf;simp only at mV xU;obtain⟨i,hi,kz,_⟩:=(hT.at hfi).info;obtain⟨fd,hfd,hfk⟩:=(hT.at hfi).und;have nR:=LR hfk w hfd;simp only[ay.run,LM]at hr;split at hr<;>first|(cases hr;done)|skip
 rename_i cs;obtain⟨cx,he,hs⟩:=hv.Ba;simp at hg;split at hr
 . rename_i hn;(split at hr<;>first|(cases hr;done)|skip);rename_i u hu;simp only[H0]at hr;subst hr;rw[kV]at hu;obtain⟨y,hy,Bq⟩:=hs.get hu;have Xu:fi.k.isAgg=false:=by
     unfold vQ at hn;split at hn
     .cases hn
     .assumption
   rw[Xu]at nR;refine .pure (x:=y) ?_ Bq;simp at hy;simp[execOp,ho,he,Instr.field,aL hd,hg,part,xU,nR,asAgg,mV,hy]
 . rename_i m hn;simp only[H0]at hr;subst hr;have Xu:fi.k.isAgg=true/\m=fi.size:=by
     unfold vQ at hn;split at hn
     .cases hn;exact⟨by assumption,rfl⟩
     .cases hn
   rw[Xu.1]at nR;refine .pure (x:= .agg (cx.extract off (off+m))) ?_ (.Bl ?_)
   .simp[execOp,ho,he,Instr.field,aL hd,hg,part,xU,nR,asAgg,mV,gY hi,kz,Xu.2]
   .have:=(hs.drop off).take m;simpa [Zn4,List.extract]using this
theorem Zh(hT:bM P tt)(t:TypeId)(x ix:Operand):cJ P tt (.index t x ix):=by
 intro ρ C st w k xs cls fr a o vs res ho hc hW hF hx hr;simp only[fO]at hc;split at hc<;>first|(cases hc;done)|skip
 rename_i ti l cF hl;split at hc<;>first|(cases hc;done)|skip
 rename_i hk;cases hc;obtain⟨u,v,rfl,h1,h2⟩:=OZ hl hF hx;obtain⟨d,hd,bU⟩:=(hT.at cF).und;rw[hk]at bU;rw[lC bU]at hd;simp only[ay.run,J2]at hr;split at hr<;>first|(cases hr;done)|skip
 rename_i s i hi;split at hr<;>first|(cases hr;done)|skip
 rename_i c hcx;simp only[H0]at hr;subst hr;obtain⟨bs,he,hs⟩:=h1.dX;obtain⟨kk,u6⟩:=jt h2 hi;rw[kV, <-hs,Zb8]at hcx;obtain⟨b,hb,hbc⟩:=Zd4.1 hcx;have iX:bs[i]? =some b:=by
  obtain⟨aN,j5⟩:=Za0.1 hb;have Bn:i<bs.size:=by rw[Zf4]at aN;exact aN
  rw[getElem?_pos bs i Bn];congr 1
 refine .pure (x:= .int .u8 (.ofNat c)) ?_ (.int _ _);simp[execOp,ho,he,u6,Instr.index,aL hd,asIntOf,iX, <-hbc]
theorem abc(hT:bM P tt)(t:TypeId)(x:Operand):cJ P tt (.load t x):=by
 intro ρ C st w k xs cls fr a o vs res ho hc hW hF hx hr;simp only[fO]at hc;split at hc<;>first|(cases hc;done)|skip
 rename_i ti b cF hb;cases hc;obtain⟨v,rfl,hv⟩:=eP hb hF hx;obtain⟨d,hd,bU⟩:=(hT.at cF).und;obtain⟨i,hi,kz,_⟩:=(hT.at cF).info;have nR:=LR bU w hd;have hn:(vQ ti=none/\ti.k.isAgg=false)\/(vQ ti=some ti.size/\ti.k.isAgg=true):=by unfold vQ;split<;>simp_all
 simp only[ay.run,sg]at hr;split at hr<;>first|(cases hr;done)|skip
 . rename_i bb off;(split at hr<;>first|(cases hr;done)|skip);rename_i cs fz j5;obtain⟨_,he⟩:=hv.eG;rcases hn with⟨hn,hf⟩|⟨hn,hf⟩
   .rw[hn]at hr;rw[hf]at nR;simp only at hr;(split at hr<;>first|(cases hr;done)|skip);rename_i u hu;simp only[H0]at hr;subst hr;rw[kV]at hu;obtain⟨y,hy,Bq⟩:=hW.cell j5 hu;refine .pure (x:=y) ?_ Bq;simp[execOp,ho,he,Instr.loadAt,Instr.sureAddr,loadVar,nR,hy]
   .rw[hn]at hr;rw[hf]at nR;simp only at hr;(split at hr<;>first|(cases hr;done)|skip);rename_i us hu;simp only[H0]at hr;subst hr;obtain⟨ys,hy,Bq⟩:=hW.loadCells (P:=P) j5 hu;refine .pure (x:= .agg ys.toArray) ?_ (.Bl (by simpa using Bq));simp[execOp,ho,he,Instr.loadAt,Instr.sureAddr,loadVar,nR,gY hi,kz,hy]
   rename_i tt0 cs j5;obtain⟨_,he⟩:=hv.eG;rcases hn with⟨hn,hf⟩|⟨hn,hf⟩
   .rw[hn]at hr;rw[hf]at nR;simp only at hr;(split at hr<;>first|(cases hr;done)|skip);rename_i u hu;simp only[H0]at hr;subst hr;rw[kV]at hu;obtain⟨y,hy,Bq⟩:=hW.ae0 j5 hu;refine .pure (x:=y) ?_ Bq;simp[execOp,ho,he,Instr.loadAt,Instr.sureAddr,loadVar,nR,hy]
   .rw[hn]at hr;rw[hf]at nR;simp only at hr;(split at hr<;>first|(cases hr;done)|skip);rename_i us hu;simp only[H0]at hr;subst hr;obtain⟨ys,hy,Bq⟩:=hW.Nf (P:=P) j5 hu;refine .pure (x:= .agg ys.toArray) ?_ (.Bl (by simpa using Bq));simp[execOp,ho,he,Instr.loadAt,Instr.sureAddr,loadVar,nR,gY hi,kz,hy]
 . rename_i tT i' j';(split at hr<;>first|(cases hr;done)|skip);rename_i cs fH;rw[kV]at fH;obtain⟨es,av,base,cell,he,g1,g2,g3⟩:=hv.Ej;rcases hn with⟨hn,hf⟩|⟨hn,hf⟩
   .rw[hn]at hr;rw[hf]at nR;simp only at hr;(split at hr<;>first|(cases hr;done)|skip);rename_i u hu;simp only[H0]at hr;subst hr;rw[kV]at hu;have CS:=(hW.dx _ _ (g2 _ _ _ _ fH hu)).1;refine .pure (x:=cell i' j') ?_ (g3 _ _ _ _ fH hu);simp[execOp,ho,he,Instr.loadAt,Instr.sureAddr,loadVar,nR,CS]
   . rw[hn]at hr;rw[hf]at nR;simp only at hr;(split at hr<;>first|(cases hr;done)|skip);rename_i us hu;simp only[H0]at hr;subst hr;obtain⟨Zi,hle⟩:=Bo hu;have hlen:=sw hu;have bN:(loadCells ⟨av,base+i'*es+j',none⟩ ti.size).run P w= .ok ((List.range ti.size).map λq=>cell i' (j'+q)).toArray w:=by
        (refine run_loadCells w _ _ _ λq hq=> ?_);rw[kW];have:cs[j'+q]? =some (cs[j'+q]'(by omega)):=H4 (by omega);rw[Zh5];exact(hW.dx _ _ (g2 _ _ _ _ fH this)).1
     refine .pure (x:= .agg ((List.range ti.size).map λq=>cell i' (j'+q)).toArray) ?_ (.Bl ⟨by simp[hlen],λq u y hu' hy=> ?_⟩)
     .  simp[execOp,ho,he,Instr.loadAt,Instr.sureAddr,loadVar,nR,gY hi,kz,bN]
     .  have hq:q<ti.size:=(by rw[<-hlen];exact(Za0.1 hu').1);rw[Zi,Zc0,Za6 hq,Zc6]at hu';simp[hq]at hy;subst hy;exact g3 _ _ _ _ fH hu'
theorem abd{x y:Value}{ρ:Pos->Loc}{n:Nat}{C:Cells}{u v r:AV}{w:World}{st:St}(h1:aj ρ n C u x)(h2:aj ρ n C v y)(hr:A8 (λb=>st.heap.get b) st.next [u,v]=some (.val r)):
   ∃z,(Builtin.min2 x y).run P w= .ok z w/\aj ρ n C r z:=by
 simp only[A8]at hr;split at hr<;>first|(cases hr;done)|skip
 . simp only[H0,b6.val.injEq]at hr;subst hr;rw[h1.iq,h2.iq];refine⟨_,rfl,?_⟩;rw[dK];split
   .rename_i h;rw[Za6 (Zg5 h)];exact .int _ _
   .rename_i h;rw[Za3 (Zl8 h)];exact .int _ _
 . simp only[H0,b6.val.injEq]at hr;subst hr;rename_i sa sb;obtain⟨bx,rfl,e1⟩:=h1.dX;obtain⟨bz,rfl,e2⟩:=h2.dX;have hh:(Op.stringOp .leq bx bz).run P w= .ok (.bool (az sa sb||iF sa sb)) w:=by
     simp only[Op.stringOp,Sem.run_pure];rw[LS e1 e2,El e1 e2]
   refine⟨_,by simp only[Builtin.min2,Sem.run_bind,hh,Result.andThen_ok,asBool,Sem.run_pure];rfl,?_⟩;split
   .rename_i h;rw[Za6 h];exact .str _ _ e1
   .rename_i h;rw[Za3 (by rw[h];simp)];exact .str _ _ e2
theorem abe{x y:Value}{ρ:Pos->Loc}{n:Nat}{C:Cells}{u v r:AV}{w:World}{st:St}(h1:aj ρ n C u x)(h2:aj ρ n C v y)(hr:A9 (λb=>st.heap.get b) st.next [u,v]=some (.val r)):
   ∃z,(Builtin.max2 x y).run P w= .ok z w/\aj ρ n C r z:=by
 simp only[A9]at hr;split at hr<;>first|(cases hr;done)|skip
 . simp only[H0,b6.val.injEq]at hr;subst hr;rw[h1.iq,h2.iq];refine⟨_,rfl,?_⟩;rw[dK];split
   .rename_i h;rw[Za6 (Zg5 h)];exact .int _ _
   .rename_i h;rw[Za3 (Zl8 h)];exact .int _ _
 . simp only[H0,b6.val.injEq]at hr;subst hr;rename_i sa sb;obtain⟨bx,rfl,e1⟩:=h1.dX;obtain⟨bz,rfl,e2⟩:=h2.dX;have hh:(Op.stringOp .geq bx bz).run P w= .ok (.bool (!az sa sb)) w:=by
     simp only[Op.stringOp,Sem.run_pure];rw[LS e1 e2]
   refine⟨_,by simp only[Builtin.max2,Sem.run_bind,hh,Result.andThen_ok,asBool,Sem.run_pure];rfl,?_⟩;split
   .rename_i h;rw[Za3 (by rw[h];simp)];exact .str _ _ e2
   .rename_i h;rw[Za6 (by rw[h];rfl)];exact .str _ _ e1
theorem fV(xs:Array Operand)(a:Act):xs.toList.map a.eval=(xs.map a.eval).toList:=by simp
end
section
variable{P:Program}{tt:TT}
theorem vs1{ρ:Pos->Loc}{n:Nat}{C:Cells}{bs:List AV}{x:Value}(h:au ρ n C bs [x]):∃b,bs=[b]/\aj ρ n C b x:=by
 match bs,h with
 |[b],h=>exact⟨b,rfl,h.2 0 b x rfl rfl⟩
 |[],h=>have:=h.1;simp at this
 |_::_::_,h=>have:=h.1;simp at this
theorem vs2{ρ:Pos->Loc}{n:Nat}{C:Cells}{bs:List AV}{x y:Value}(h:au ρ n C bs [x,y]):∃b c,bs=[b,c]/\aj ρ n C b x/\aj ρ n C c y:=by
 match bs,h with
 |[b,c],h=>exact⟨b,c,rfl,h.2 0 b x rfl rfl,h.2 1 c y rfl rfl⟩
 |[],h=>have:=h.1;simp at this
 |[_],h=>have:=h.1;simp at this
 |_::_::_::_,h=>have:=h.1;simp at this
theorem vs3{ρ:Pos->Loc}{n:Nat}{C:Cells}{bs:List AV}{x y z:Value}(h:au ρ n C bs [x,y,z]):∃b c d,bs=[b,c,d]/\aj ρ n C b x/\aj ρ n C c y/\aj ρ n C d z:=by
 match bs,h with
 |[b,c,d],h=>exact⟨b,c,d,rfl,h.2 0 b x rfl rfl,h.2 1 c y rfl rfl,h.2 2 d z rfl rfl⟩
 |[],h=>have:=h.1;simp at this
 |[_],h=>have:=h.1;simp at this
 |[_,_],h=>have:=h.1;simp at this
 |_::_::_::_::_,h=>have:=h.1;simp at this
def Br(x:Option Value)(i:Option Nat):Prop:=(x=none/\i=none)\/∃j k,i=some j/\x=some (.int k (j:Int))
theorem Nh{ρ:Pos->Loc}{n:Nat}{C:Cells}{lo hi mx:Option Operand}{bs:List AV}{a:Act}{l h m:Option Nat}
   (hb:au ρ n C bs ((vR lo++vR hi++vR mx).map a.eval)) (hr:bounds lo.isSome hi.isSome mx.isSome bs=some (l,h,m)):
   Br (lo.map a.eval) l/\Br (hi.map a.eval) h/\Br (mx.map a.eval) m/\(m.isSome=true->h.isSome=true):=by
 unfold bounds at hr
 cases lo<;>cases hi<;>cases mx<;>simp only[Option.isSome_some,Option.isSome_none,vR,Zg9,Zf3,Ze8,Zd5,Zh9]at hb hr<;>
   first|(cases hr;done)|skip
 . cases bs with
   |cons b bs=>have:=hb.1;simp at this
   |nil=>simp at hr;obtain⟨rfl,rfl,rfl⟩:=hr;exact⟨.inl ⟨rfl,rfl⟩,.inl ⟨rfl,rfl⟩,.inl ⟨rfl,rfl⟩,λh=>by cases h⟩
 .obtain⟨b,rfl,h1⟩:=vs1 hb;simp only at hr;(split at hr<;>first|(cases hr;done)|skip);rename_i j hj;obtain⟨k,hk⟩:=jt h1 hj;simp at hr;obtain⟨rfl,rfl,rfl⟩:=hr;exact⟨.inl ⟨rfl,rfl⟩,.inr ⟨j,k,rfl,by simp[hk]⟩,.inl ⟨rfl,rfl⟩,λh=>by cases h⟩
 .obtain⟨b,c,rfl,h1,h2⟩:=vs2 hb;simp only at hr;(split at hr<;>first|(cases hr;done)|skip);rename_i j j' hj zj;obtain⟨k,hk⟩:=jt h1 hj;obtain⟨k',kH⟩:=jt h2 zj;simp at hr;obtain⟨rfl,rfl,rfl⟩:=hr;exact⟨.inl ⟨rfl,rfl⟩,.inr ⟨j,k,rfl,by simp[hk]⟩,.inr ⟨j',k',rfl,by simp[kH]⟩,λ_=>rfl⟩
 .obtain⟨b,rfl,h1⟩:=vs1 hb;simp only at hr;(split at hr<;>first|(cases hr;done)|skip);rename_i j hj;obtain⟨k,hk⟩:=jt h1 hj;simp at hr;obtain⟨rfl,rfl,rfl⟩:=hr;exact⟨.inr ⟨j,k,rfl,by simp[hk]⟩,.inl ⟨rfl,rfl⟩,.inl ⟨rfl,rfl⟩,λh=>by cases h⟩
 .obtain⟨b,c,rfl,h1,h2⟩:=vs2 hb;simp only at hr;(split at hr<;>first|(cases hr;done)|skip);rename_i j j' hj zj;obtain⟨k,hk⟩:=jt h1 hj;obtain⟨k',kH⟩:=jt h2 zj;simp at hr;obtain⟨rfl,rfl,rfl⟩:=hr;exact⟨.inr ⟨j,k,rfl,by simp[hk]⟩,.inr ⟨j',k',rfl,by simp[kH]⟩,.inl ⟨rfl,rfl⟩,λh=>by cases h⟩
 .obtain⟨b,c,d,rfl,h1,h2,h3⟩:=vs3 hb;simp only at hr;(split at hr<;>first|(cases hr;done)|skip);rename_i j j' j'' hj zj hj'';obtain⟨k,hk⟩:=jt h1 hj;obtain⟨k',kH⟩:=jt h2 zj;obtain⟨k'',hk''⟩:=jt h3 hj'';simp at hr;obtain⟨rfl,rfl,rfl⟩:=hr;exact⟨.inr ⟨j,k,rfl,by simp[hk]⟩,.inr ⟨j',k',rfl,by simp[kH]⟩,.inr ⟨j'',k'',rfl,by simp[hk'']⟩,λ_=>rfl⟩
theorem xV(isS:Bool){len cap:Nat}{xl xh xm:Option Value}{l h m:Option Nat}(h1:Br xl l)(h2:Br xh h)(h3:Br xm m)(hmh:m.isSome=true->h.isSome=true)
  (Em:l.getD 0<=h.getD len) (hhm:h.getD len<=m.getD cap) (hmc:m.getD cap<=cap) (w:World):
  (Instr.sliceBounds isS len cap xl xh xm).run P w= .ok (l.getD 0,h.getD len,m.getD cap) w:=by
 rcases h1 with⟨rfl,rfl⟩|⟨jl,kl,rfl,rfl⟩<;>rcases h2 with⟨rfl,rfl⟩|⟨jh,kh,rfl,rfl⟩<;>rcases h3 with⟨rfl,rfl⟩|⟨jm,km,rfl,rfl⟩<;>
  simp only[Option.getD_none,Zj5,Option.isSome_some,Option.isSome_none]at Em hhm hmc hmh ⊢ <;>
  first
   |(simp at hmh;done)
   |simp[Instr.sliceBounds,Instr.sliceBound,asIntOf,Em,hhm,hmc,Int.ofNat_le]
theorem CU{ρ:Pos->Loc}{n:Nat}{C:Cells}{b:Pos}{off es aJ l h M:Nat}{aa:Addr}{Xv:Option Nat}
   (ha:aJ≠0->b.toNat<n/\aa=⟨(ρ b).av,(ρ b).base+off,none⟩/\(ρ b).base+off+aJ*es<=(ρ b).size)
   (h1:l<=h) (h2:h<=M) (h3:M<=aJ) (hc:∀c,Xv=some c->c=M - l) (hk:Xv=none->b.toNat<n):
   aj ρ n C (.slice b (off+l*es) (h - l) Xv es) (.slice (if M=l then some aa else(some aa).map (·.add (l*es))) (h - l) (M - l)):=by
 by_cases hm:M=l
 .rw[Za6 hm];exact .slice _ _ _ _ _ _ _ (by omega) hc (λh0=>absurd (by omega) h0) hk
 .rw[Za3 hm];obtain⟨hb,rfl,hle⟩:=ha (by omega);refine .slice _ _ _ _ _ _ _ (by omega) hc (λ_=>⟨hb,by show Addr.add _ _=_;rw[kW,Zh5],?_⟩) hk;have e1:l*es+(M - l)*es=M*es:=(by rw[<-Zi5];congr 1;omega);have e2:M*es<=aJ*es:=Zf9 _ h3;omega
theorem Zj(hT:bM P tt)(t:TypeId)(x:Operand)(lo hi mx:Option Operand):cJ P tt (.slice t x lo hi mx):=by
 intro ρ C st w k xs cls fr a o vs res ho hc hW hF hx hr;simp only[fO]at hc;split at hc<;>first|(cases hc;done)|skip
 rename_i ti l0 cF hl;obtain⟨d,hd,bU⟩:=(hT.at cF).und;split at hc<;>first|(cases hc;done)|skip
 . rename_i hk;rw[hk]at bU;rw[lC bU]at hd;(split at hc<;>first|(cases hc;done)|skip);cases hc;have hv:=dM hl hF hx;simp only[vR,Zf3,Ze8,Zg9,Zd5]at hv;simp only[ay.run,Ik]at hr;(split at hr<;>first|(cases hr;done)|skip);rename_i u bs;(split at hr<;>first|(cases hr;done)|skip);rename_i s l h m' hb;(split at hr<;>first|(cases hr;done)|skip);rename_i h1 h2;have h1:=Za4 h1;have h2:=Za4 h2;simp only[H0]at hr;subst hr;obtain⟨y,ys,Bk,hu,Hh⟩:=hv.cons_inv;simp only[Zf8]at Bk;obtain⟨rfl,rfl⟩:=Bk;have j5:=Nh (lo:=lo) (hi:=hi) (mx:=none) (a:=a) (by simpa [vR]using Hh) hb;obtain⟨bs',he,hs⟩:=hu.dX;have eW:=uI hs
   have bN:=xV (P:=P) false (len:=bs'.size) (cap:=bs'.size) j5.1 j5.2.1 (.inl ⟨rfl,rfl⟩:Br none none) (λh=>by cases h)
     (by rw[eW];exact h1) (by rw[eW];simpa using h2) (by simp) w
   refine .pure (x:= .string (bs'.extract (l.getD 0) (h.getD bs'.size))) ?_ (.str _ _ ?_)
   .simp only[execOp,ho,Instr.sliceAt,Sem.run_bind,aL hd,Result.andThen_ok,he,Instr.slice];simp[bN]
   .rw[eW,ByteArray.data_extract,Zn4, <-hs,List.extract,Zn1,List.map_drop];rw[List.drop_take]
 . rename_i e hk;rw[hk]at bU;rw[lY bU]at hd;(split at hc<;>first|(cases hc;done)|skip);rename_i te fc;cases hc;obtain⟨i0,lF,kz,_⟩:=(hT.at fc).info;have hv:=dM hl hF hx;simp only[Ze8,Zg9,Zi6,Zd5]at hv;simp only[ay.run,oI]at hr;(split at hr<;>first|(cases hr;done)|skip);rename_i u bs;obtain⟨y,ys,Bk,hu,Hh⟩:=hv.cons_inv;simp only[Zf8]at Bk;obtain⟨rfl,rfl⟩:=Bk
   have mV:∀(sa:Option Addr)(len cap:Nat)(l h m:Option Nat),a.eval x= .slice sa len cap->bounds lo.isSome hi.isSome mx.isSome bs=some (l,h,m)->
        l.getD 0<=h.getD len->h.getD len<=m.getD cap->m.getD cap<=cap->
        (execOp a.eval o).run P w= .ok (.value (.slice (if m.getD cap=l.getD 0 then sa else sa.map (·.add (l.getD 0*te.size))) (h.getD len - l.getD 0) (m.getD cap - l.getD 0))) w:=by
     intro sa len cap l h m he hb h1 h2 h3;have j5:=Nh (lo:=lo) (hi:=hi) (mx:=mx) (a:=a) (by simpa [Zi6]using Hh) hb;have bN:=xV (P:=P) true (len:=len) (cap:=cap) j5.1 j5.2.1 j5.2.2.1 j5.2.2.2 h1 h2 h3 w;simp only[execOp,ho,Instr.sliceAt,Sem.run_bind,aL hd,Result.andThen_ok,he,Instr.slice,bN,gY lF,kz,Sem.run_pure]
   split at hr<;>first|(cases hr;done)|skip
   ·
     rename_i b off len cap es' l h m hb;(split at hr<;>first|(cases hr;done)|skip);rename_i dc Em;have dc:te.size=es':=Za2 dc;subst dc;have Em:=Za4 Em;obtain⟨aa,aJ,he,hle,O0,ha⟩:=hu.cW;split at hr
     .  rename_i c m';(split at hr<;>first|(cases hr;done)|skip);rename_i e1 e2;have e1:=Za4 e1;have e2:=Za4 e2;have:=O0 c rfl;subst this;simp only[H0]at hr;subst hr;exact .pure (mV _ _ _ _ _ _ he hb Em (by simpa using e1) (by simpa using e2)) (CU ha Em e1 e2 (λc hc=>by cases hc;rfl) (λh=>by cases h))
     .  rename_i c;(split at hr<;>first|(cases hr;done)|skip);rename_i e1;have e1:=Za4 e1;have:=O0 c rfl;subst this;simp only[H0]at hr;subst hr;exact .pure (mV _ _ _ _ _ _ he hb Em (by simpa using e1) (by simp)) (CU ha Em e1 (Za5 _) (λc hc=>by cases hc;rfl) (λh=>by cases h))
     .  rename_i m';(split at hr<;>first|(cases hr;done)|skip);rename_i e1 e2;have e1:=Za4 e1;have e2:=Za4 e2;simp only[H0]at hr;subst hr;exact .pure (mV _ _ _ _ _ _ he hb Em (by simpa using e1) (by simp;omega)) (CU ha Em e1 (by simp;omega) (λc hc=>by cases hc;rfl) (λh=>by cases h))
     .  (split at hr<;>first|(cases hr;done)|skip);rename_i e1;have e1:=Za4 e1;simp only[H0]at hr;subst hr;exact .pure (mV _ _ _ _ _ _ he hb Em (by simp;omega) (by simp)) (CU ha Em (by simp;omega) (Za5 _) (λc hc=>by cases hc) (λ_=>hu.Qq rfl))
   ·
     rename_i tT es' l h m hb;(split at hr<;>first|(cases hr;done)|skip);rename_i dc;have dc:te.size=es':=Za2 dc;subst dc;obtain⟨aa,aJ,cell,he,hle,vU,g1,g2,g3⟩:=hu.q9;split at hr
     .  rename_i m';(split at hr<;>first|(cases hr;done)|skip);rename_i e0 e1 e2;have e0:=Za2 e0;have e1:=Za2 e1;have e2:=Za2 e2;subst e2;simp only[H0]at hr;subst hr;refine .pure (mV _ _ _ _ _ _ he hb (by omega) (by rw[e1];simp) (by simp)) ?_;simp only[e0,e1,Zj5,Zo0,Zg3];exact .slice _ _ _ _ _ _ _ (Za5 _) (λc hc=>by cases hc;rfl) (λh0=>absurd rfl h0) (λh=>by cases h)
     .  (split at hr<;>first|(cases hr;done)|skip);rename_i e0 e1;have e0:=Za4 e0;have e1:=Za4 e1;simp only[H0]at hr;subst hr;refine .pure (mV _ _ _ _ _ _ he hb e0 (by simp;omega) (by simp)) ?_;simp only[Option.getD_none];have hlen:(List.drop (l.getD 0) (List.take (h.getD tT.length) tT)).length=h.getD tT.length - l.getD 0:=(by simp;omega);rw[<-hlen];have qq:∀i cs,(List.drop (l.getD 0) (List.take (h.getD tT.length) tT))[i]? =some cs->tT[l.getD 0+i]? =some cs:=by
          intro i cs hi;rw[Zc6,Zc0]at hi;split at hi
          .exact hi
          .cases hi
        by_cases hcl:aJ=l.getD 0
        .rw[Za6 hcl];have hemp:List.drop (l.getD 0) (List.take (h.getD tT.length) tT)=[]:=(by apply Zb1;rw[hlen];omega);rw[hemp];exact .fl _ _ _ _ (λ_ _=>undef) (by simp) (λh=>absurd rfl h) (λi cs hi=>by simp at hi) (λi j cs v hi=>by simp at hi) (λi j cs v hi=>by simp at hi)
        . rw[Za3 hcl];by_cases aV:tT=[]
          .subst aV;simp only[List.take_nil,List.drop_nil];exact .fl _ _ _ _ (λ_ _=>undef) (by simp) (λh=>absurd rfl h) (λi cs hi=>by simp at hi) (λi j cs v hi=>by simp at hi) (λi j cs v hi=>by simp at hi)
          .have vU:=vU aV;obtain⟨ab,ao,asp⟩:=aa;simp only at vU;subst vU;simp only[Ze7,kW];refine .fl _ _ _ _ (λi j=>cell (l.getD 0+i) j) (by rw[hlen];omega) (λ_=>rfl) (λi cs hi=>g1 _ _ (qq i cs hi)) (λi j cs v hi hj=> ?_) (λi j cs v hi hj=>g3 _ _ _ _ (qq i cs hi) hj);have:=g2 _ _ _ _ (qq i cs hi) hj;simp only at this ⊢;rw[<-this];congr 2;rw[Zi5];omega
   ·
     rename_i l h m hb;(split at hr<;>first|(cases hr;done)|skip);rename_i e0 e1 e2;have e0:=Za2 e0;have e1:=Za2 e1;have e2:=Za2 e2;simp only[H0]at hr;subst hr;have he:=hu.fA;refine .pure (mV _ _ _ _ _ _ he hb (by omega) (by omega) (by omega)) ?_;simp only[e0,e1,e2,Zo0,Zg3];exact .ah
end
section
variable{P:Program}{tt:TT}
theorem Dy{ρ:Pos->Loc}{n:Nat}{C:Cells}:∀{l:List AV}{s:List Nat}{ys:List Value},bytesOf l=some s->au ρ n C l ys->
  ys=(s.map Int.ofNat).map (Value.int .u8)/\∀c,c∈s->c<256
 |[],s,ys,h,hv=>by
  simp[bytesOf]at h;subst h;exact⟨by simpa using hv.mL,λc hc=>by simp at hc⟩
 |v ::l,s,ys,h,hv=>by
  unfold bytesOf at h;split at h<;>first|(cases h;done)|skip
  .rename_i h0;simp at h0
  . rename_i c l' he;simp only[Zf8]at he;obtain⟨rfl,rfl⟩:=he;(split at h<;>first|(cases h;done)|skip);rename_i s' aN lZ;simp only[H0]at h;subst h;obtain⟨y,ys',rfl,h1,h2⟩:=hv.cons_inv;obtain⟨e,cG⟩:=Dy lZ h2;have aN:c<256:=(by simpa using aN);refine⟨by rw[h1.iq,e];rfl,λc' hc=> ?_⟩;simp at hc;rcases hc with rfl|hc
    .exact aN
    .exact cG _ hc
theorem CV:∀(s:List Nat)(acc:ByteArray),((s.map Int.ofNat).foldl (λr n=>r.push (UInt8.ofNat n.toNat)) acc).data.toList=acc.data.toList++s.map UInt8.ofNat
 |[],acc=>by simp
 |c::s,acc=>by
  simp only[Zd5,Zp8];rw[CV s];simp[ByteArray.push]
theorem Vp{P:Program}{e:TypeId}(hc:P.cellsOf e≠0)(count:Nat)(hn:1<=count):liesAt P P.depth e count 0 e 1=true:=by
 have hd:P.depth=(2*(P.types.size+Made.depth)+1)+1:=rfl;rw[hd];simp only[liesAt,Zh0];left;rw[hd];simp[rowAt,hc,hn,sameLayout]
theorem Vq(hT:bM P tt)(src dst:TypeId)(x:Operand)(hnb:∀k xs cls,fO tt (.convert src dst x)=some (k,xs,cls)->k≠ .conv .bytes):cJ P tt (.convert src dst x):=by
 intro ρ C st w k xs cls fr a o vs res ho hc hW hF hx hr;have hnb:=hnb _ _ _ hc;simp only[fO]at hc;split at hc<;>first|(cases hc;done)|skip
 rename_i s d b hs hd hb;obtain⟨ds,sS,Al⟩:=(hT.at hs).und;obtain⟨dd,hdd,bU⟩:=(hT.at hd).und;split at hc<;>first|(cases hc;done)|skip
 . rename_i k1 k2 h1 h2;cases hc;obtain⟨v,rfl,hv⟩:=eP hb hF hx;rw[h1]at Al;rw[h2]at bU;rw[Ei Al]at sS;rw[Ei bU]at hdd;simp only[ay.run,uV]at hr;split at hr<;>first|(cases hr;done)|(rename_i heq;cases heq;done)|(rename_i heq;cases heq)
   simp only[H0]at hr;subst hr;refine .pure ?_ (by rw[ri];exact .int _ _);simp[execOp,ho,hv.iq,convert,aL sS,aL hdd,Conv.intToInt]
 . rename_i h1 h2;cases hc;obtain⟨v,rfl,hv⟩:=eP hb hF hx;rw[h1]at Al;rw[h2]at bU;rw[lC Al]at sS;rw[lC bU]at hdd;simp only[ay.run,uV]at hr;split at hr<;>first|(cases hr;done)|(rename_i heq;cases heq;done)|(rename_i heq;cases heq)
   simp only[H0]at hr;subst hr;obtain⟨bs,he,hs⟩:=hv.dX;exact .pure (x:= .string bs) (by simp[execOp,ho,he,convert,aL sS,aL hdd]) (.str _ _ hs)
 . (split at hc<;>first|(cases hc;done)|skip);(split at hc<;>first|(cases hc;done)|skip);cases hc;exact absurd rfl hnb
 . rename_i e h1 h2;(split at hc<;>first|(cases hc;done)|skip);rename_i te fc;(split at hc<;>first|(cases hc;done)|skip);rename_i Zk;cases hc;obtain⟨v,rfl,hv⟩:=eP hb hF hx;rw[h1]at Al;rw[h2]at bU;rw[lY Al]at sS;rw[lC bU]at hdd;obtain⟨de,Zl,Zm⟩:=(hT.at fc).und;rw[Zk]at Zm;rw[Ei Zm]at Zl;have mV:∀y:Option Addr×Nat×Nat,a.eval x= .slice y.1 y.2.1 y.2.2->(execOp a.eval o).run P w=((Conv.bytesToString (a.eval x)).run P w).andThen λv w=>.ok (.value v) w:=by
     intro y he;simp[execOp,ho,he,convert,aL sS,aL hdd,aL Zl]
   simp only[ay.run,uV]at hr;split at hr<;>first|(cases hr;done)|(rename_i heq;cases heq;done)|(rename_i heq;cases heq)
   .simp only[H0]at hr;subst hr;have he:=hv.fA;refine .pure (x:= .string .empty) ?_ (.str _ _ rfl);rw[mV (none,0,0) he,he];simp[Conv.bytesToString]
   . rename_i bb off m cap es;obtain⟨aa,aJ,he,hle,_,ha⟩:=hv.cW;split at hr
     .  rename_i h0;have:=Za2 h0;subst this;simp only[H0]at hr;subst hr;refine .pure (x:= .string .empty) ?_ (.str _ _ rfl);rw[mV (some aa,0,aJ) he,he];simp[Conv.bytesToString,loadCells,loadCellsFrom]
     .  (rename_i h0;have h0:=Zb7 h0;(split at hr<;>first|(cases hr;done)|skip);rename_i cs fz j5;(split at hr<;>first|(cases hr;done)|skip);rename_i l hcut;(split at hr<;>first|(cases hr;done)|skip);rename_i s' SJ;simp only[H0]at hr;subst hr;obtain⟨aN,rfl,_⟩:=ha (by omega);obtain⟨ys,Bk,iz⟩:=hW.loadCells (P:=P) j5 hcut;obtain⟨e1,e2⟩:=Dy SJ iz;rw[e1]at Bk;have bN:=run_bytesToString (P:=P) w ⟨(ρ bb).av,(ρ bb).base+off,none⟩ m aJ (s'.map Int.ofNat) Bk;refine .pure (x:= .string _) (by rw[mV (some _,m,aJ) he,he,bN];rfl) (.str _ _ ?_);rw[CV,Ze3];have e0:ByteArray.empty.data.toList=[]:=rfl;rw[e0,Zh9,Zg9,Zg1];have e3:s'.map (UInt8.toNat∘UInt8.ofNat)=s'.map id:=Zi8 λc hc=>by have:=e2 c hc;simp only[Function.comp,id,UInt8.toNat_ofNat'];omega);rw[e3,List.map_id]
 ·
   rename_i e h1 h2;(split at hc<;>first|(cases hc;done)|skip);rename_i te fc;(split at hc<;>first|(cases hc;done)|skip);rename_i eW;cases hc;obtain⟨v,rfl,hv⟩:=eP hb hF hx;rw[h1]at Al;rw[h2]at bU;rw[Nd Al]at sS;rw[Zd bU]at hdd;obtain⟨i0,lF,kz,_⟩:=(hT.at fc).info;have eW:=Zb7 eW;simp only[ay.run,MZ]at hr;split at hr<;>first|(cases hr;done)|skip
   .simp only[H0]at hr;subst hr;refine .pure (x:= .pointer none) ?_ .iw;simp[execOp,ho,hv.oZ,convert,aL sS,aL hdd,Conv.unsafePointer]
   .rename_i bb off;(split at hr<;>first|(cases hr;done)|skip);rename_i t0 cs j5;(split at hr<;>first|(cases hr;done)|skip);rename_i aN;have aN:off<cs.length:=(by simpa using aN);simp only[H0]at hr;subst hr;obtain⟨_,he⟩:=hv.eG;obtain⟨_,_,c,fr,g1,g2,g3,g4,g5,g6⟩:=hW.live _ _ j5;have MS:w.shape? (ρ bb).av=some (t0,c.size):=(by simp[World.shape?,g1]);have:=Lib.run_to_unsafe (P:=P) (w:=w) (j:=i0) ⟨(ρ bb).av,(ρ bb).base+off,none⟩ sS hdd lF (by rw[kz];exact eW) MS (by show(ρ bb).base+off<c.size;omega);exact .pure (x:= .pointer (some ⟨(ρ bb).av,(ρ bb).base+off,none⟩)) (by simp[execOp,ho,he,this]) (he ▸hv)
 ·
   rename_i e h1 h2;(split at hc<;>first|(cases hc;done)|skip);rename_i te fc;(split at hc<;>first|(cases hc;done)|skip);rename_i eW;cases hc;obtain⟨v,rfl,hv⟩:=eP hb hF hx;rw[h1]at Al;rw[h2]at bU;rw[Zd Al]at sS;rw[Nd bU]at hdd;obtain⟨i0,lF,kz,_⟩:=(hT.at fc).info;have eW:=Zb7 eW;simp only[ay.run,Fx]at hr;split at hr<;>first|(cases hr;done)|skip
   .simp only[H0]at hr;subst hr;refine .pure (x:= .pointer none) ?_ .iw;simp[execOp,ho,hv.oZ,convert,aL sS,aL hdd,Conv.unsafePointer]
   .rename_i bb;(split at hr<;>first|(cases hr;done)|skip);rename_i t0 cs j5;(split at hr<;>first|(cases hr;done)|skip);rename_i ht hle;have ht:=Za2 ht;have hle:=Za4 hle;subst ht;simp only[H0]at hr;subst hr;obtain⟨_,he⟩:=hv.eG;obtain⟨_,_,c,fr,g1,g2,g3,g4,g5,g6⟩:=hW.live _ _ j5;have MS:w.shape? (ρ bb).av=some (t0,c.size):=(by simp[World.shape?,g1]);have CS:P.cellsOf t0=te.size:=(by simp[Program.cellsOf,lF,kz]);have abf:1<=c.size / P.cellsOf t0:=(by rw[CS,Nat.le_div_iff_mul_le (by omega)];omega);rw[Zg6]at he;have:=Lib.run_from_unsafe (P:=P) (w:=w) (j:=i0) ⟨(ρ bb).av,(ρ bb).base,none⟩ sS hdd lF MS (by show liesAt P P.depth t0 _ (ρ bb).base t0 1=true;rw[g6];exact Vp (by rw[CS];exact eW) _ abf);exact .pure (x:= .pointer (some ⟨(ρ bb).av,(ρ bb).base,none⟩)) (by simp[execOp,ho,he,this]) (he ▸hv)
theorem Eo{t:TypeId}{d:TypeDesc}(hd:P.underlying t=some d){pk:PK}(hk:pk.fits d=true)(e:Bool)(m:Nat)(x:Value)(w:World):
  (Instr.checkKey e (m+1) t x).run P w= .ok () w:=by
 unfold Instr.checkKey;rw[Sem.run_bind,aL hd,Result.andThen_ok];cases pk<;>cases d<;>simp[PK.fits]at hk<;>rfl
theorem KR{ρ:Pos->Loc}{n:Nat}{C:Cells}{pk:PK}{d:TypeDesc}(hk:pk.fits d=true){u v:AV}{x y:Value}{r:Bool}
   (h1:aj ρ n C u x) (h2:aj ρ n C v y) (h:yo pk u v=some r):Instr.sameNow d x y=some r:=by
 unfold yo at h;split at h<;>first|(cases h;done)|skip
 .simp only[H0]at h;subst h;cases d<;>simp[PK.fits]at hk;rw[h1.gG,h2.gG];rfl
 . (split at h<;>first|(cases h;done)|skip);rename_i Ak;have:=u0 Ak;subst this;simp only[H0]at h;subst h;cases d<;>simp[PK.fits]at hk;rw[h1.iq,h2.iq];simp[Instr.sameNow,kj]
 .simp only[H0]at h;subst h;cases d<;>simp[PK.fits]at hk;obtain⟨bx,rfl,e1⟩:=h1.dX;obtain⟨bz,rfl,e2⟩:=h2.dX;simp only[Instr.sameNow];rw[beq_toListBytes,El e1 e2]
def CW(ρ:Pos->Loc)(n:Nat)(C:Cells)(es:List (AV×AV×Nat))(es':List MapEntry):Prop:=
 es.length=es'.length/\∀(i:Nat)(e:AV×AV×Nat)(e':MapEntry),es[i]? =some e->es'[i]? =some e'->aj ρ n C e.1 e'.key/\aj ρ n C e.2.1 e'.val/\e.2.2=e'.born
theorem zk{ρ:Pos->Loc}{n:Nat}{C:Cells}{pk:PK}{d:TypeDesc}(hk:pk.fits d=true){u:AV}{x:Value}(hu:aj ρ n C u x):
  ∀{es:List (AV×AV×Nat)}{es':List MapEntry}{i:Nat}{r:Option (Nat×AV)},CW ρ n C es es'->jr pk u es i=some r->
  ∃r',Instr.findNow d x es' i=some r'/\((r=none/\r'=none)\/∃j v y,r=some (j,v)/\r'=some (j,y)/\aj ρ n C v y/\i<=j/\j<i+es.length)
 |[],es',i,r,he,h=>by
  simp[jr]at h;subst h;cases es' with
  |nil=>exact⟨none,rfl,.inl ⟨rfl,rfl⟩⟩
  |cons e es'=>have:=he.1;simp at this
 |(k',v,born)::es,es',i,r,he,h=>by
  cases es' with
  |nil=>have:=he.1;simp at this
  |cons e' es'=>
   have h0:=he.2 0 (k',v,born) e' rfl rfl;have ku:CW ρ n C es es':=⟨by have:=he.1;simpa using this,λj e e' h1 h2=>he.2 (j+1) e e' (by simpa using h1) (by simpa using h2)⟩
   unfold jr at h;split at h<;>first|(cases h;done)|skip
   .    rename_i hq;simp only[H0]at h;subst h;refine⟨some (i,e'.val),by simp[Instr.findNow,KR hk hu h0.1 hq],.inr ⟨i,v,e'.val,rfl,rfl,h0.2.1,Za5 _,by simp⟩⟩
   .    rename_i hq;obtain⟨r',h1,h2⟩:=zk hk hu ku h;refine⟨r',by simp[Instr.findNow,KR hk hu h0.1 hq,h1],?_⟩;rcases h2 with h2|⟨j,v',y,e1,e2,e3,e4,e5⟩
        .exact .inl h2
        .exact .inr ⟨j,v',y,e1,e2,e3,by omega,by simp;omega⟩
theorem run_findKey{t:TypeId}{d:TypeDesc}(hd:P.underlying t=some d){x:Value}{es:List MapEntry}{r:Option (Nat×Value)}(h:Instr.findNow d x es 0=some r)(w:World):
  (Instr.findKey t x es).run P w= .ok r w:=by
 simp[Instr.findKey,aL hd,h]
theorem run_getObj_map{r:Nat}{es:Array MapEntry}{c:Nat}{w:World}(h:w.heap[r]? =some (.map es c)):(getObj r).run P w= .ok (.map es c) w:=by
 simp[getObj,Sem.run,h]
theorem ac0(k:TK){d:TypeDesc}(h:bD k d=true){pk:PK}(hp:(k= .bool/\pk= .b)\/((∃i,k= .int i)/\pk= .i)\/(k= .string/\pk= .s)):pk.fits d=true:=by
 rcases hp with⟨rfl,rfl⟩|⟨⟨i,rfl⟩,rfl⟩|⟨rfl,rfl⟩
 .rw[OY h];rfl
 .rw[Ei h];rfl
 .rw[lC h];rfl
theorem rj(hT:bM P tt){t:Nat}{ti:TI}(ht:tt.get (key t)=some ti){z:List AV}(hz:ti.zero=some z){ρ:Pos->Loc}{n:Nat}{C:Cells}(w:World):
   ∃v,(zeroValue t).run P w= .ok v w/\aj ρ n C (fO.Ef ti z) v/\au ρ n C z v.cells.toList:=by
 obtain⟨i,hi,kz,_,xW⟩:=(hT.at ht).info;obtain⟨v,hv,hs,hlen,h1,h2⟩:=xW z hz;refine⟨v,aa6 hi hv w,?_,pY hs⟩;unfold fO.Ef;split
 .rename_i ha;obtain⟨cs,rfl⟩:=h1 ha;exact .Bl (pY hs)
 .rename_i ha;have hc:=h2 ha;rw[hc]at hs;simp only[mS]at hs;(split at hs<;>first|(cases hs;done)|skip);rename_i a as e1 e2;simp only[H0]at hs e2;subst hs;subst e2;simp only;exact Bm e1
theorem Xw(hT:bM P tt)(t:TypeId)(x ix:Operand)(ok:Bool):cJ P tt (.lookup t x ix ok):=by
 intro ρ C st w k xs cls fr a o vs res ho hc hW hF hx hr;simp only[fO]at hc;split at hc<;>first|(cases hc;done)|skip
 rename_i ti l cF hl;split at hc<;>first|(cases hc;done)|skip
 rename_i kt et hk;split at hc<;>first|(cases hc;done)|skip
 rename_i tk te Hi fc;obtain⟨d,hd,bU⟩:=(hT.at cF).und;rw[hk]at bU;rw[Ip bU]at hd;obtain⟨dk,Qr,Ak⟩:=(hT.at Hi).und;have key:∃pk z,te.zero=some z/\k= .lookup pk (fO.Ef te z) ok/\xs=l/\cls= .read/\pk.fits dk=true:=by
  split at hc<;>first|(cases hc;done)|skip
  all_goals
    rename_i z h1 h2;cases hc;refine⟨_,z,h2,rfl,rfl,rfl,ac0 tk.k Ak ?_⟩
  .exact .inr (.inl ⟨⟨_,h1⟩,rfl⟩)
  .exact .inr (.inr ⟨h1,rfl⟩)
  .exact .inl ⟨h1,rfl⟩
 obtain⟨pk,z,hz,rfl,rfl,rfl,Dx⟩:=key;obtain⟨m,kk,rfl,h1,h2⟩:=OZ hl hF hx;obtain⟨zv,xX,Ni,_⟩:=rj hT fc hz (ρ:=ρ) (n:=st.next.toNat) (C:=C) w;have Hj:∀e,(Instr.checkKey e 10000 kt (a.eval ix)).run P w= .ok () w:=λe=>Eo Qr Dx e 9999 _ w
 simp only[ay.run,uW]at hr;split at hr<;>first|(cases hr;done)|skip
 ·
  rename_i j v hm;simp only[H0]at hr;subst hr;split at hm<;>first|(cases hm;done)|skip
  .split at hm<;>first|(cases hm;done)|(simp at hm;done)
  . rename_i b;(split at hm<;>first|(cases hm;done)|skip);rename_i es c hb;obtain⟨_,he⟩:=h1.u5;obtain⟨_,_,es',dc,hlen,cG⟩:=hW.live _ _ hb;have hE:CW ρ st.next.toNat C es es'.toList:=⟨by simpa using hlen,λi e e' h1 h2=>cG i e e' h1 (by simpa using h2)⟩
    obtain⟨r',hf,pZ⟩:=zk Dx h2 hE hm;rcases pZ with⟨e1,_⟩|⟨j',v',y,e1,e2,e3,_⟩
    .   cases e1
    .   cases e1;subst e2;have bN:(execOp a.eval o).run P w= .ok (.value (if ok then .tuple #[y,.bool true]else y)) w:=by
          simp only[execOp,ho,Instr.lookup,Sem.run_bind,aL hd,Result.andThen_ok,he,run_getObj_map dc,Hj,run_findKey Qr hf,Sem.run_pure]
        refine .pure bN ?_;cases ok
        .exact e3
        .exact .q8 (au.cons e3 (au.cons (.bool true) au.nil))
 ·
  rename_i hm;simp only[H0]at hr;subst hr;have bN:(execOp a.eval o).run P w= .ok (.value (if ok then .tuple #[zv,.bool false]else zv)) w:=by
    split at hm<;>first|(cases hm;done)|skip
    .   (split at hm<;>first|(cases hm;done)|skip);have he:=h1.yx;have hf:(Instr.findKey kt (a.eval ix) []).run P w= .ok none w:=run_findKey Qr rfl w;simp only[execOp,ho,Instr.lookup,Sem.run_bind,aL hd,Result.andThen_ok,he,Hj,hf,xX,Sem.run_pure]
    .   rename_i b;(split at hm<;>first|(cases hm;done)|skip);rename_i es c hb;obtain⟨_,he⟩:=h1.u5;obtain⟨_,_,es',dc,hlen,cG⟩:=hW.live _ _ hb;have hE:CW ρ st.next.toNat C es es'.toList:=⟨by simpa using hlen,λi e e' h1 h2=>cG i e e' h1 (by simpa using h2)⟩
        obtain⟨r',hf,pZ⟩:=zk Dx h2 hE hm;rcases pZ with⟨_,e2⟩|⟨j',v',y,e1,_⟩
        .subst e2;simp only[execOp,ho,Instr.lookup,Sem.run_bind,aL hd,Result.andThen_ok,he,run_getObj_map dc,Hj,run_findKey Qr hf,xX,Sem.run_pure]
        .cases e1
  refine .pure bN ?_;cases ok
  .exact Ni
  .exact .q8 (au.cons Ni (au.cons (.bool false) au.nil))
end
section
variable{P:Program}{tt:TT}
theorem Bs:∀(l:List Value)(off k:Nat)(cs:Array Value),off+k+l.length<=cs.size->
  ((l.zipIdx k).foldl (λcs (c,j)=>cs.setIfInBounds (off+j) c) cs).toList=aH cs.toList (off+k) l
 |[],off,k,cs,_=>by simp[aH,Zj0]
 |v::l,off,k,cs,h=>by
  simp only[Ze2]at h;simp only[List.zipIdx_cons,Zp8];rw[Bs l off (k+1) _ (by simp;omega)];simp only[aH,Ze2,Zo2];rw[List.drop_set_of_lt (by omega)];have:off+(k+1)=(off+k)+1:=by omega
  rw[this,List.take_set,Zp1];have aN:off+k<cs.toList.length:=by simp;omega
  rw[H4 aN];simp only[Option.toList_some,List.set_append,Zh6];have hm:min (off+k) cs.toList.length=off+k:=Zk0 (Nat.le_of_lt aN);rw[hm,Za3 (Zn0 _),Zo0];simp;rw[show off+k+1+l.length=off+k+(l.length+1)from by omega]
theorem LU{ρ:Pos->Loc}{n:Nat}{C:Cells}(pl:Nat->Option (Nat×Nat)):∀{pp:List (Nat×Nat)}{vs cells r:List AV}{ps:List (Nat×Value)}{cs:Array Value},
  bY cells pp vs=some r->au ρ n C cells cs.toList->au ρ n C vs (ps.map (·.2))->ps.map (λx=>pl x.1)=pp.map some->
  ∃lH,Instr.fill pl cs ps=some lH/\au ρ n C r lH.toList
 |[],vs,cells,r,ps,cs,h,hc,hv,hp=>by
  unfold bY at h;split at h<;>first|(cases h;done)|skip
  .simp only[H0]at h;subst h;have:ps=[]:=(by simpa using hv.mL);subst this;exact⟨cs,rfl,hc⟩
  .rename_i hh;cases hh
 |(off  ,size)::pp,vs,cells,r,ps,cs,h,hc,hv,hp=>by
  unfold bY at h;split at h<;>first|(cases h;done)|skip
  .rename_i hh;cases hh
  . rename_i off' size' pp' v vs' hh;simp only[Zf8,Zb3]at hh;obtain⟨⟨rfl,rfl⟩,rfl⟩:=hh;(split at h<;>first|(cases h;done)|skip);rename_i h1 h2;have h1:=Za2 h1;have h2:=Za4 h2;cases ps with
    |nil=>have:=hv.1;simp at this
    |   cons p ps=>
        obtain⟨i,x⟩:=p;simp only[Zd5,Zf8]at hp hv;obtain⟨eD,xY⟩:=hp;obtain⟨y,ys,Bk,hx,iz⟩:=hv.cons_inv;simp only[Zf8]at Bk;obtain⟨rfl,rfl⟩:=Bk;have hxc:=hx.cells;have hlen:x.cells.size=size:=(by rw[<-h1,hxc.1];simp);have eW:off+size<=cs.size:=(by have:=hc.1;simp at this;omega);have ae2:(x.cells.zipIdx.foldl (λcs (c,j)=>cs.setIfInBounds (off+j) c) cs).toList=aH cs.toList off x.cells.toList:=(by rw[<-Array.foldl_toList,Array.toList_zipIdx];have:=Bs x.cells.toList off 0 cs (by simp;omega);simpa using this);obtain⟨lH,e1,e2⟩:=LU pl h (cs:=x.cells.zipIdx.foldl (λcs (c,j)=>cs.setIfInBounds (off+j) c) cs) (by rw[ae2];exact hc.aH hxc off) iz xY;refine⟨lH,?_,e2⟩;simp only[Instr.fill,eD];rw[Za3 (by simp[hlen];omega)];exact e1
theorem Hl(hT:bM P tt){gs:Array Field}(w:World):∀{fs:List (Nat×Nat×Bool)}(_hm:bD.dB fs gs.toList=true){is:List Nat}{pp:List (Nat×Nat)}
  (_h:fO.places tt fs is=some pp) {It:List (Nat×Nat)} (_hpl:∀(i:Nat)(f:Field)(inf:TypeInfo),gs.toList[i]? =some f->P.info? f.type=some inf->It[i]? =some (f.offset,inf.size)),
  is.map (λi=>It[i]?)=pp.map some
 |fs,hm,[],pp,h,It,p7=>by simp[fO.places]at h;subst h;rfl
 |fs,hm,i::is,pp,h,It,p7=>by
  unfold fO.places at h;split at h<;>first|(cases h;done)|skip
  rename_i off t nm l h1 h2;split at h<;>first|(cases h;done)|skip
  rename_i ti Zn;simp only[H0]at h;subst h;obtain⟨f,hf,e1,e2,_⟩:=FE hm h1;obtain⟨inf,SK,eW,_⟩:=(hT.at Zn).info;simp only at e1 e2;have:=p7 i f inf hf (by rw[e2];exact SK);simp only[Zd5,this,e1,eW];rw[Hl hT w hm h2 p7]
theorem Nj(hT:bM P tt):∀{fs:List (Nat×Nat×Bool)}{gs:List Field}(_hm:bD.dB fs gs=true)(_ha:fO.R4 tt fs=true),
  ∃It:List (Nat×Nat),gs.mapM (λf=>(P.info? f.type).map λi=>(f.offset,i.size))=some It/\
   ∀(i:Nat)(f:Field)(inf:TypeInfo),gs[i]? =some f->P.info? f.type=some inf->It[i]? =some (f.offset,inf.size)
 |[],gs,hm,ha=>by
  cases gs with
  |cons g gs=>simp[bD.dB]at hm
  |nil=>exact⟨[],rfl,λi f inf h=>by simp at h⟩
 |(off,t,nm)::fs,gs,hm,ha=>by
  cases gs with
  |nil=>simp[bD.dB]at hm
  |cons g gs=>
   simp[bD.dB]at hm;unfold fO.R4 at ha;(split at ha<;>first|(cases ha;done)|skip);rename_i ti Zn;obtain⟨inf,SK,_⟩:=(hT.at Zn).info;obtain⟨It,h1,h2⟩:=Nj hT hm.2 ha;rw[hm.1.1.2]at SK;refine⟨(g.offset,inf.size)::It,by simp[SK,h1],λi f inf' hi hf=> ?_⟩;cases i with
   |zero=>simp at hi;subst hi;rw[SK]at hf;cases hf;rfl
   |succ i=>simp at hi ⊢; exact h2 i f inf' hi hf
theorem Zo(hT:bM P tt)(t:TypeId)(ps:Array (Nat×Operand)):cJ P tt (.build t ps):=by
 intro ρ C st w k xs cls fr a o vs res ho hc hW hF hx hr;simp only[fO]at hc;split at hc<;>first|(cases hc;done)|skip
 rename_i ti l cF hl;obtain⟨d,hd,bU⟩:=(hT.at cF).und;obtain⟨it,Qt,_,_,xW⟩:=(hT.at cF).info
 have mV:∀(pp:List (Nat×Nat))(z:List AV)(pl:Nat->Option (Nat×Nat)),ti.zero=some z->k= .build z pp->xs=l->ps.toList.map (λx=>pl x.1)=pp.map some->
    (∀(v:Value)(parts:List (Nat×Value))(cells:Array Value),it.zero=some v->Instr.fill pl v.cells parts=some cells->P.built t parts=some cells)->
    sv P ρ C st w ((execOp a.eval o).run P w) res:=by
   rintro pp z pl hz rfl rfl hpp aeg;have hv:=dM hl hF hx;obtain⟨v,Ep,hs,_⟩:=xW z hz;simp only[ay.run,Ft]at hr;(split at hr<;>first|(cases hr;done)|skip);rename_i cs AQ;simp only[H0]at hr;subst hr;have Ni:au ρ st.next.toNat C z v.cells.toList:=pY hs;have VX:(ps.map λ(i,x)=>(i,a.eval x)).toList=ps.toList.map λx=>(x.1,a.eval x.2):=(by simp);obtain⟨lH,e1,e2⟩:=LU pl AQ Ni (ps:=ps.toList.map λx=>(x.1,a.eval x.2)) (by simpa [Zg1,Zj2]using hv) (by simpa [Zg1,Zj2]using hpp);refine .pure (x:= .agg lH) ?_ (.Bl e2);have bN:=run_build w t (ps.map λ(i,x)=>(i,a.eval x)) lH (aeg v _ _ Ep (by rw[VX];exact e1));simp only[execOp,ho,Sem.run_bind];rw[bN];rfl
 split at hc<;>first|(cases hc;done)|skip
 .rename_i fs z hk hz;rw[hk]at bU;obtain⟨gs,rfl,hm⟩:=CR bU;(split at hc<;>first|(cases hc;done)|skip);rename_i pp p7 cG;cases hc;obtain⟨It,h1,h2⟩:=Nj hT hm cG;have hpp:=Hl hT w hm p7 h2;(refine mV pp z (λi=>It.toArray[i]?) hz rfl rfl (by simpa [Zg1,Zj2]using hpp) λv parts cells hv hf=> ?_);unfold Program.built;rw[Qt,hd];simp only[hv,h1];exact hf
 .rename_i e z hk hz;rw[hk]at bU;rw[SD bU]at hd;(split at hc<;>first|(cases hc;done)|skip);rename_i te fc;cases hc;obtain⟨ie,hie,eW,_⟩:=(hT.at fc).info;(refine mV _ z (λi=>some (i*te.size,te.size)) hz rfl rfl (by simp[Zg1,Zj2]) λv parts cells hv hf=> ?_);unfold Program.built;rw[Qt,hd];simp only[hv,hie,eW];exact hf
end
end
end Go.Ai
