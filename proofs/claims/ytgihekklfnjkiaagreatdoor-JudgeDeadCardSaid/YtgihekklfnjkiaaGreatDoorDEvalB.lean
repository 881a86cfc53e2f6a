/- Its operations answer as the model does. -/
import Derived.Test.YtgihekklfnjkiaaGreatDoorDEvalA
import Derived.Laws.StructEq
import Derived.Lib.Builder
import Derived.Laws.BytesString
set_option linter.all false
set_option linter.unusedSectionVars false
set_option linter.deprecated false
namespace Go.Ai
section
def cm:TK->TypeDesc->Bool
 | .bool,.bool=>true
 | .int k,.int k'=>K8 k k'
 | .string,.string=>true
 | .ptr e,.pointer e'=>Nat.beq e e'
 | .slice e,.slice e'=>Nat.beq e e'
 | .array n e,.array n' e'=>Nat.beq n n'&&Nat.beq e e'
 | .map k e,.map k' e'=>Nat.beq k k'&&Nat.beq e e'
 | .struct fs,.struct fs'=>fq fs fs'.toList
 | .func,.func _ _ _=>true
 | .iface,.interface _=>true
 | .upt,.unsafePointer=>true
 | .other,.interface _=>false
 | .other,.int _=>false
 | .other,.array _ _=>false
 | .other,.struct _=>false
 | .other,_=>true
 |_,_=>false
where
 fq:List (Nat×Nat×Bool)->List Field->Bool
  |[],[]=>true
  |(off,t,named)::l,f::l'=>Nat.beq off f.offset&&Nat.beq t f.type&&(named==(f.name != "_"))&&fq l l'
  |_,_=>false
structure akB(P:Program)(t:TypeId)(ti:TI):Prop where
 und:∃d,P.underlying t=some d/\cm ti.k d=true
 info:∃i,P.info? t=some i/\i.size=ti.size/\i.bytes=ti.bytes/\
  ∀z,ti.zero=some z->∃v,i.zero=some v/\td v.cells.toList=some z/\z.length=ti.size/\(ti.k.isAgg=true->∃cs,v= .agg cs)/\(ti.k.isAgg=false->v.cells= #[v])
 elem:∀e,ti.k= .ptr e->∃j,P.info? e=some j
 eqs:ti.Bk=true->P.stoodInHeld t=false/\P.eqGuardType P.depth t=false
def dH(P:Program)(tt:TT):Prop:=∀p ti,tt.get p=some ti->akB P (p.toNat - 1) ti
theorem dH.at{P:Program}{tt:TT}(h:dH P tt){t:Nat}{ti:TI}(ht:tt.get (key t)=some ti):akB P t ti:=by
 have:=h _ _ ht
 rwa [iN,Zh3]at this
section
variable{P : Program}{tt : TT}{ρ : Pos -> Loc}{n : Nat}{C : Cells}
theorem bu{t:TypeId}{d:TypeDesc}(h:P.underlying t=some d)(w:World):(underlying t).run P w= .ok d w:=run_underlying h w
theorem agy{t:TypeId}{i:TypeInfo}(h:P.info? t=some i)(w:World):(typeInfo t).run P w= .ok i w:=by simp[typeInfo,h]
theorem mG{t:TypeId}{i:TypeInfo}(h:P.info? t=some i)(w:World):(sizeOf t).run P w= .ok i.size w:=by simp[sizeOf,typeInfo,h]
theorem aoP{t:TypeId}{i:TypeInfo}{v:Value}(h:P.info? t=some i)(hz:i.zero=some v)(w:World):(zeroValue t).run P w= .ok v w:=by simp[zeroValue,typeInfo,h,hz]
theorem aaF{k:TK}{d:TypeDesc}(h:cm k d=true)(w:World){t:TypeId}(ht:P.underlying t=some d):(isAgg t).run P w= .ok k.isAgg w:=by
 cases k<;>cases d<;>first|(simp[cm]at h;done)|simp[isAgg,bu ht,TK.isAgg]
theorem tX{e:Nat}{d:TypeDesc}(h:cm (.slice e) d=true):d= .slice e:=by
 cases d<;>simp[cm]at h;rw[h]
theorem atv{e:Nat}{d:TypeDesc}(h:cm (.ptr e) d=true):d= .pointer e:=by
 cases d<;>simp[cm]at h;rw[h]
theorem agz{m e:Nat}{d:TypeDesc}(h:cm (.array m e) d=true):d= .array m e:=by
 cases d<;>simp[cm]at h;rw[h.1,h.2]
theorem Vy{k e:Nat}{d:TypeDesc}(h:cm (.map k e) d=true):d= .map k e:=by
 cases d<;>simp[cm]at h;rw[h.1,h.2]
theorem ado{d:TypeDesc}(h:cm .bool d=true):d= .bool:=by cases d<;>simp[cm]at h;rfl
theorem B6{a b:IntKind}(h:K8 a b=true):a=b:=by
 unfold K8 at h;split at h
 . assumption
 . cases h
theorem Vz{k:IntKind}{d:TypeDesc}(h:cm (.int k) d=true):d= .int k:=by
 cases d<;>simp[cm]at h;rw[B6 h]
theorem vn{d:TypeDesc}(h:cm .string d=true):d= .string:=by cases d<;>simp[cm]at h;rfl
theorem M7{fs:List (Nat×Nat×Bool)}{d:TypeDesc}(h:cm (.struct fs) d=true):∃gs,d= .struct gs/\cm.fq fs gs.toList=true:=by
 cases d<;>simp[cm]at h;exact⟨_,rfl,h⟩
theorem arM{d:TypeDesc}(h:cm .func d=true):∃a b c,d= .func a b c:=by
 cases d<;>simp[cm]at h;exact⟨_,_,_,rfl⟩
theorem aoQ{d:TypeDesc}(h:cm .iface d=true):∃a,d= .interface a:=by
 cases d<;>simp[cm]at h;exact⟨_,rfl⟩
theorem qX{α:Type}:∀(l:List α)(i:Nat),nth l i=l[i]?
 |[],_=>by simp[nth]
 |_::_,0=>rfl
 |_::l,i+1=>by simp[nth,qX l i]
theorem Ri:∀{fs:List (Nat×Nat×Bool)}{gs:List Field}{i:Nat}{x:Nat×Nat×Bool},cm.fq fs gs=true->nth fs i=some x->
  ∃f,gs[i]? =some f/\f.offset=x.1/\f.type=x.2.1/\(f.name != "_")=x.2.2
 |[],_,i,_,_,h=>by simp[nth]at h
 |(off,t,named)::l,[],i,_,h,_=>by simp[cm.fq]at h
 |(off,t,named)::l,f::l',0,x,h,hx=>by
  simp[cm.fq]at h;simp[nth]at hx;subst hx;exact⟨f,rfl,h.1.1.1.symm,h.1.1.2.symm,h.1.2.symm⟩
 |(off,t,named)::l,f::l',i+1,x,h,hx=>by
  simp[cm.fq]at h;simp[nth]at hx;obtain⟨f',h1,h2⟩:=Ri h.2 hx;exact⟨f',by simpa using h1,h2⟩
theorem Ld{v:Value}{a:AV}(h:Rb v=some a):aD ρ n C a v:=by
 unfold Rb at h
 split at h<;>first
   |(cases h;done)
   |(simp only[H5]at h;subst h)
 . exact .bool _
 . exact .int _ _
 . exact .str _ _ rfl
 . exact .iR
 . exact .af
 . exact .qV
 . exact .func _ _ _ _ _ rfl rfl (λ_ _ _ h=>by simp at h) (λ_ _ _ h=>by simp at h)
 . exact .jK
 . exact .Bu
theorem wM:∀{l:List Value}{as:List AV},td l=some as->aL ρ n C as l
 |[],as,h=>by simp[td]at h;subst h;exact aL.nil
 |v ::l,as,h=>by
  unfold td at h;split at h
  . rename_i a as' h1 h2;simp only[H5]at h;subst h;exact aL.cons (Ld h1) (wM h2)
  . cases h
theorem ai4{v:Value}{a:AV}(h:adl v=some a):aD ρ n C a v:=by
 unfold adl at h;split at h
 . split at h
   . rename_i l hl;simp only[H5]at h;subst h;exact .Pa (wM hl)
   . cases h
 . exact Ld h
theorem By{x:Operand}{o:gZ}{fr:Fr}{a:Act}{v:AV}(h:uF x=some o)(hF:kT ρ n C fr a.tmps)(hv:Gy fr o=some v):aD ρ n C v (a.eval x):=by
 unfold uF at h;split at h
 . rename_i t;simp only[H5]at h;subst h;obtain⟨y,hy,hr⟩:=hF _ _ hv;rw[iN,Zh3]at hy;simp only[Act.eval,Zm0,hy,Zf2];exact hr
 . split at h
   . rename_i c hc;simp only[H5]at h;subst h;simp only[Gy,H5]at hv;subst hv;exact ai4 hc
   . cases h
 . rename_i f;simp only[H5]at h;subst h;simp only[Gy,H5]at hv;subst hv;exact .func _ _ _ _ _ rfl rfl (λ_ _ _ h=>by simp at h) (λ_ _ _ h=>by simp at h)
 . cases h
theorem iO:∀{xs:List Operand}{os:List gZ}{fr:Fr}{a:Act}{vs:List AV},mF xs=some os->kT ρ n C fr a.tmps->fT fr os=some vs->aL ρ n C vs (xs.map a.eval)
 |[],os,fr,a,vs,h,_,hv=>by simp[mF]at h;subst h;simp[fT]at hv;subst hv;exact aL.nil
 |x ::xs,os,fr,a,vs,h,hF,hv=>by
  unfold mF at h;split at h
  . rename_i o os' h1 h2;simp only[H5]at h;subst h;unfold fT at hv;split at hv
    .   rename_i v hv1;split at hv
        . rename_i vs' Pc;simp only[H5]at hv;subst hv;exact aL.cons (By h1 hF hv1) (iO h2 hF Pc)
        . cases hv
    .   cases hv
  . cases h
theorem lK{x:Operand}{o:gZ}{fr:Fr}{a:Act}{vs:List AV}(h:uF x=some o)(hF:kT ρ n C fr a.tmps)(hv:fT fr [o]=some vs):
   ∃v,vs=[v]/\aD ρ n C v (a.eval x):=by
 unfold fT at hv;split at hv
 . rename_i v hv1;simp only[fT,H5]at hv;subst hv;exact⟨v,rfl,By h hF hv1⟩
 . cases hv
end
def Yields(N:Next)(x:Value):Prop:=N= .value x\/(N= .skip/\x=undef)
def Gp(P:Program)(ρ:Pos->Loc)(C:Cells)(st:St)(w:World)(r:Result Next):eR->Prop
 | .val v=>∃N x,r= .ok N w/\Yields N x/\aD ρ st.next.toNat C v x
 | .bh v del set new=>∃N x w' ρ',r= .ok N w'/\Yields N x/\(∀b:Pos,b.toNat<st.next.toNat->ρ' b=ρ b)/\cC ρ' C (st.bh del set new) w'/\
  aD ρ' (st.bh del set new).next.toNat C v x/\qI ρ st w ρ' (st.bh del set new) w'
 | .call f args=>∃cQ:List Value,r=(callFunc f cQ.toArray).run P w/\aL ρ st.next.toNat C args cQ
end
section
open Go Go.RowKit
theorem uH(b o i:Nat):(⟨b,o,none⟩:Addr).add i=⟨b,o+i,none⟩:=by
 unfold Addr.add;split
 . rename_i h;subst h;rfl
 . rfl
section
variable{P : Program}{ρ ρ' : Pos -> Loc}{C : Cells}{st : St}{w w' : World}
theorem cC.akC(hW:cC ρ C st w){akD:T AB}{next' b0:Pos}{x0:AB}
  (hn:st.next.toNat<=next'.toNat) (yo:b0.toNat<next'.toNat) (aut:akD.get b0=some x0)
  (Rj:∀b x,b≠b0->akD.get b=some x->st.heap.get b=some x/\(ρ b).aN≠(ρ' b0).aN)
  (bF:∀b:Pos,b.toNat<st.next.toNat->ρ' b=ρ b)
  (hB:tW ρ' next'.toNat C (ρ' b0) w' x0)
  (vq:∀a v,C a=some v->a.block≠(ρ' b0).aN)
  (aT:(ρ' b0).aN<w'.heap.size) (akE:w.heap.size<=w'.heap.size)
  (VC:∀k,k<w.heap.size->k≠(ρ' b0).aN->w'.heap[k]? =w.heap[k]?):
  cC ρ' C ⟨akD,next'⟩ w' where
 live b x hb:=by
  by_cases h:b=b0
  .  subst h;rw[aut]at hb;cases hb;exact⟨yo,aT,hB⟩
  .  obtain⟨h1,h2⟩:=Rj b x h hb;obtain⟨h3,h4,h5⟩:=hW.live b x h1;rw[bF b h3];exact⟨Zc7 h3 hn,Zc7 h4 akE,(h5.mono bF hn).of_heap (VC _ h4 h2)⟩
 inj b  b' x x' hb e8 he:=by
  by_cases h:b=b0
  .  subst h;by_cases h':b'=b
     .  exact h'.symm
     .  obtain⟨h1,h2⟩:=Rj b' x' h' e8;rw[bF b' (hW.live b' x' h1).1]at he;exact absurd he.symm h2
  .  obtain⟨h1,h2⟩:=Rj b x h hb;rw[bF b (hW.live b x h1).1]at he;by_cases h':b'=b0
     .  subst h';exact absurd he h2
     .  obtain⟨h1',h2'⟩:=Rj b' x' h' e8;rw[bF b' (hW.live b' x' h1').1]at he;exact hW.inj b b' x x' h1 h1' he
 eI a v ha:=by
  obtain⟨h1,h2⟩:=hW.eI a v ha;have aoR:a.block<w.heap.size:=World.block_lt_of_cell? _ _ h1;refine⟨?_,λb x hb=> ?_⟩
  .  rw[World.cell?_of_block (w:=w) (VC _ aoR (vq a v ha))];exact h1
  .  by_cases h:b=b0
     .  subst h;exact λe=>vq a v ha e.symm
     .  obtain⟨h3,_⟩:=Rj b x h hb;rw[bF b (hW.live b x h3).1];exact h2 b x h3
 whole a v ha o ho:=by have vr:a.block<w.heap.size:=World.block_lt_of_cell? _ _ (hW.eI a v ha).1;rw[World.cell?_of_block (w:=w) (a:=⟨a.block,o,none⟩) (VC _ vr (vq a v ha))];exact hW.whole a v ha o ho
theorem cC.cell(hW:cC ρ C st w){b:Pos}{cs:List AV}{fz:Nat}(hb:st.heap.get b=some (.cells cs fz)){i:Nat}{v:AV}(hv:cs[i]? =some v):
  ∃x,w.cell? ⟨(ρ b).aN,(ρ b).base+i,none⟩=some x/\aD ρ st.next.toNat C v x:=by
 obtain⟨_,_,c,e,fr,h1,h2,h3,h4,_⟩:=hW.live b _ hb;obtain⟨x,hx,hr⟩:=h4.get hv;have hi:i<cs.length:=(Za2.1 hv).1;rw[Ze0,Zb2 hi,Ze8]at hx;exact⟨x,by simp[World.cell?,h1, <-hx],hr⟩
theorem abJ{α:Type}{l l':List α}{i n:Nat}(h:cut l i n=some l'):l'=(l.drop i).take n/\i+n<=l.length:=by
 unfold cut at h;split at h
 . rename_i hb;cases h;exact⟨rfl,Zb3 hb⟩
 . cases h
theorem Rk{α:Type}{l l':List α}{i n:Nat}(h:cut l i n=some l'):l'.length=n:=by obtain⟨rfl,h2⟩:=abJ h;simp;omega
theorem cC.loadCells(hW:cC ρ C st w){b:Pos}{cs vs:List AV}{fz off n:Nat}(hb:st.heap.get b=some (.cells cs fz))(hc:cut cs off n=some vs):
  ∃ys:List Value,(Go.loadCells ⟨(ρ b).aN,(ρ b).base+off,none⟩ n).run P w= .ok ys.toArray w/\aL ρ st.next.toNat C vs ys:=by
 obtain⟨_,_,c,e,fr,h1,h2,h3,h4,_⟩:=hW.live b _ hb;obtain⟨CN,hle⟩:=abJ hc;have hr:=(h4.drop off).take n;rw[<-CN]at hr;refine⟨_,?_,hr⟩;have hlen:(List.take n (List.drop off (List.take cs.length (List.drop (ρ b).base c.toList)))).length=n:=by rw[<-hr.1];exact Rk hc
 conv=>lhs;rw[<-hlen]
 refine run_loadCells_list w _ _ λj v hj=> ?_
 have Le:j<n:=by rw[<-hlen];exact(Za2.1 hj).1
 rw[Ze0,Zb2 Le,Ze8,Ze0,Zb2 (by omega),Ze8]at hj;rw[uH];simp[World.cell?,h1, <-hj,Zk0]
theorem xe(g e:Nat)(fr:Nat×Nat):∀(vs:List Value)(i o:Nat)(cur:Array Value)(w:World),w.heap[g]? =some (.cells cur e fr)->o+i+vs.length<=cur.size->
  (∀v∈vs,v.oneCell'=true)->(∀k,o+i<=k->k<cur.size->¬(fr.1<=k/\k<fr.2))->
  ∃ w',(storeCells ⟨g,o,none⟩ vs i).run P w= .ok () w'/\w'.heap[g]? =some (.cells (aX cur.toList (o+i) vs).toArray e fr)/\
    w'.heap.size=w.heap.size/\(∀k,k≠g->w'.heap[k]? =w.heap[k]?)/\w'.os=w.os/\w'.tape=w.tape/\w'.output=w.output
 |[],i,o,cur,w,hg,_,_,_=>⟨w,by simp[storeCells],by rw[hg];simp[aX,Zl8],rfl,λ_ _=>rfl,rfl,rfl,rfl⟩
 |v ::vs,i,o,cur,w,hg,hle,h1,hf=>by
  simp only[Zc6]at hle;have hv:v.oneCell'=true:=h1 v (by simp);have CO:w.cell? ⟨g,o+i,none⟩=some (cur[o+i]'(by omega)):=by simp[World.cell?,hg]
  have hfz:w.frozen? ⟨g,o+i,none⟩=false:=by have:=hf (o+i) (Za3 _) (by omega);simp only[World.frozen?,hg];simpa using this
  have CP:(w.setCell ⟨g,o+i,none⟩ v).heap[g]? =some (.cells (cur.setIfInBounds (o+i) v) e fr):=by
    simp[World.setCell,Zk9,hg]
  obtain⟨w',h2,h3,h4,h5,h6,h7,h8⟩:=xe g e fr vs (i+1) o _ _ CP (by simp;omega) (λv hv=>h1 v (by simp[hv])) (by intro k hk uq;simp at uq;exact hf k (by omega) uq);refine⟨w',?_,?_,by simp[h4],λk hk=> ?_,h6,h7,h8⟩
  . simp only[storeCells,Sem.run_bind,uH,run_store P w _ _ _ hv,CO,hfz];simpa using h2
  . rw[h3];congr 2;simp only[aX,Zc6,Zp6];rw[List.drop_set_of_lt (by omega)];have:o+(i+1)=(o+i)+1:=(by omega);rw[this,List.take_set,List.take_add_one];have aT:o+i<cur.toList.length:=(by simp;omega);rw[H0 aT];simp only[Option.toList_some,List.set_append,Zh5];have hm:min (o+i) cur.toList.length=o+i:=Zk3 (Zn4 aT);rw[hm,Za7 (Zo6 _),Zk6];simp;rw[show o+i+1+vs.length=o+i+(vs.length+1)from by omega]
  . rw[h5 k hk,Below.heap_setCell _ _ _ _ (by simpa using hk)]
end
section
variable{P : Program}{tt : TT}{ρ : Pos -> Loc}{C : Cells}{st : St}{w : World}{n : Nat}
theorem Yields.value(x:Value):Yields (.value x) x:= .inl rfl
theorem Gp.pure{v:AV}{x:Value}{r:Result Next}(h:r= .ok (.value x) w)(hv:aD ρ st.next.toNat C v x):Gp P ρ C st w r (.val v):=
 ⟨_,x,h,Yields.value x,hv⟩
theorem aD.iI{k:IntKind}{i:Int}{x:Value}(h:aD ρ n C (.int k i) x):x= .int k i:=by cases h;rfl
theorem aD.kV{b:Bool}{x:Value}(h:aD ρ n C (.bool b) x):x= .bool b:=by cases h;rfl
theorem aD.fC{s:List Nat}{x:Value}(h:aD ρ n C (.str s) x):∃bs:ByteArray,x= .string bs/\bs.data.toList.map UInt8.toNat=s:=by
 cases h with|str _ bs h=>exact⟨bs,rfl,h⟩
theorem aD.FG{x:Value}(h:aD ρ n C .iR x):x= .pointer none:=by cases h;rfl
theorem aD.js{x:Value}(h:aD ρ n C .af x):x= .slice none 0 0:=by cases h;rfl
theorem aD.FH{x:Value}(h:aD ρ n C .qV x):x= .map none:=by cases h;rfl
theorem aD.Rm{x:Value}(h:aD ρ n C .jK x):x= .nilFunc:=by cases h;rfl
theorem aD.agA{x:Value}(h:aD ρ n C .Bu x):x= .nilIface:=by cases h;rfl
theorem aD.qP{b:Pos}{off:Nat}{x:Value}(h:aD ρ n C (.ptr b off) x):b.toNat<n/\x= .pointer (some ⟨(ρ b).aN,(ρ b).base+off,none⟩):=by
 cases h with|ptr _ _ h=>exact⟨h,rfl⟩
theorem aD.B7{b:Pos}{x:Value}(h:aD ρ n C (.map b) x):b.toNat<n/\x= .map (some (ρ b).aN):=by
 cases h with|map _ h=>exact⟨h,rfl⟩
theorem aD.aeq{t:TypeId}{v:AV}{x:Value}(h:aD ρ n C (.iface t v) x):∃y,x= .iface t y/\aD ρ n C v y:=by
 cases h with|iface _ _ y h=>exact⟨y,rfl,h⟩
theorem aD.gL{b:Pos}{off len es:Nat}{cap:Option Nat}{x:Value}(h:aD ρ n C (.slice b off len cap es) x):
  ∃(a:Addr) (bC:Nat),x= .slice (some a) len bC/\len<=bC/\(∀c,cap=some c->c=bC)/\
   (bC≠0->b.toNat<n/\a=⟨(ρ b).aN,(ρ b).base+off,none⟩/\(ρ b).base+off+bC*es<=(ρ b).size):=by
 cases h with|slice _ _ _ _ _ bC a hl hc ha _=>exact⟨a,bC,rfl,hl,hc,ha⟩
theorem aD.aer{b:Pos}{off len es:Nat}{cap:Option Nat}{x:Value}(h:aD ρ n C (.slice b off len cap es) x):cap=none->b.toNat<n:=by
 cases h with|slice _ _ _ _ _ _ _ _ _ _ hk=>exact hk
theorem aD.yp{xs:List (List AV)}{es:Nat}{x:Value}(h:aD ρ n C (.fl xs es) x):
  ∃(a:Addr) (bC:Nat) (cell:Nat->Nat->Value),x= .slice (some a) xs.length bC/\xs.length<=bC/\(xs≠[]->a.spot=none)/\
   (∀(i:Nat)(cs:List AV),xs[i]? =some cs->cs.length=es)/\
   (∀(i j:Nat)(cs:List AV)(v:AV),xs[i]? =some cs->cs[j]? =some v->C ⟨a.block,a.off+i*es+j,none⟩=some (cell i j))/\
   (∀(i j:Nat)(cs:List AV)(v:AV),xs[i]? =some cs->cs[j]? =some v->aD ρ n C v (cell i j)):=by
 cases h with|fl _ _ bC a cell hl hs eD hc hv=>exact⟨a,bC,cell,rfl,hl,hs,eD,hc,hv⟩
theorem aD.Pd{xs:List (List AV)}{i j:Nat}{x:Value}(h:aD ρ n C (.fp xs i j) x):
  ∃(es aN base:Nat) (cell:Nat->Nat->Value),x= .pointer (some ⟨aN,base+i*es+j,none⟩)/\
   (∀(i:Nat)(cs:List AV),xs[i]? =some cs->cs.length=es)/\
   (∀(i j:Nat)(cs:List AV)(v:AV),xs[i]? =some cs->cs[j]? =some v->C ⟨aN,base+i*es+j,none⟩=some (cell i j))/\
   (∀(i j:Nat)(cs:List AV)(v:AV),xs[i]? =some cs->cs[j]? =some v->aD ρ n C v (cell i j)):=by
 cases h with|fp _ _ _ es aN base cell hl hc hv=>exact⟨es,aN,base,cell,rfl,hl,hc,hv⟩
theorem yq(k:IntKind)(i:Int):av k i=k.wrap i:=by
 unfold av;split
 . rename_i h1 _;split
   . rename_i h2 _;cases k<;>simp only[loI,hiI]at h1 h2<;>simp only[IntKind.wrap,IntKind.bits,IntKind.signed]<;>simp<;>omega
   . rfl
 . rfl
theorem mH(a b:Int):Bi a b=(a==b):=by
 unfold Bi;split
 . rename_i h _;subst h;simp
 . rename_i h _;simp[h]
theorem fo(a b:Int):Bj a b=decide (a<b):=by
 unfold Bj;split<;>(rename_i h _;simp[h])
theorem kW(a b:Int):af5 a b=decide (a<=b):=by
 unfold af5;split<;>(rename_i h _;simp[h])
theorem mI:∀{a b:List Nat},kg a b=true↔a=b
 |[],[]=>by simp[kg]
 |[],_::_=>by simp[kg]
 |_::_,[]=>by simp[kg]
 |a::x,b::y=>by
  unfold kg;split
  . rename_i h;have:=Za6 h;subst this;simp[mI (a:=x) (b:=y)]
  . rename_i h;have:=Ze9 h;simp[this]
theorem Pe:∀{a b:List UInt8},a.map UInt8.toNat=b.map UInt8.toNat->a=b
 |[],[],_=>rfl
 |[],_::_,h=>by simp at h
 |_::_,[],h=>by simp at h
 |a::x,b::y,h=>by
  simp at h;rw[Zr3.1 h.1,Pe h.2]
theorem toList_data(b:ByteArray):b.toList=b.data.toList:=ByteArray.toList_eq b
theorem wU:∀(x y:List UInt8),aO (x.map UInt8.toNat) (y.map UInt8.toNat)=Op.bytesLess x y
 |[],[]=>by simp[aO,Op.bytesLess]
 |_::_,[]=>by simp[aO,Op.bytesLess]
 |[],_::_=>by simp[aO,Op.bytesLess]
 |a ::x,b::y=>by
  simp only[Zd6,aO,Op.bytesLess];split
  . rename_i h;have:a<b:=(by rw[Zo1];simpa using h);simp[this]
  . (rename_i h;have h1:¬a<b:=by rw[Zo1];intro h';have h2:Nat.blt a.toNat b.toNat=true:=(by simpa using h');rw[h2]at h;cases h);split
    .   rename_i h2;have:a=b:=Zr3.1 (Za6 h2);subst this;simp only[h1,decide_false,Zl7,beq_self_eq_true,Zg1];exact wU x y
    .   (rename_i h2;have:a≠b:=λe=>Ze9 h2 (by rw[e]));simp[h1,this]
theorem Pg{a b:List Nat}{x y:ByteArray}(hx:x.data.toList.map UInt8.toNat=a)(hy:y.data.toList.map UInt8.toNat=b):(x.toList==y.toList)=kg a b:=by
 rw[toList_data,toList_data,Zm8,mI,beq_iff_eq, <-hx, <-hy];exact⟨λh=>by rw[h],λh=>Pe h⟩
theorem aaG{a b:List Nat}{x y:ByteArray}(hx:x.data.toList.map UInt8.toNat=a)(hy:y.data.toList.map UInt8.toNat=b):Op.bytesLess x.toList y.toList=aO a b:=by
 rw[toList_data,toList_data, <-hx, <-hy,wU]
theorem Lf{a:List Nat}{x:ByteArray}(hx:x.data.toList.map UInt8.toNat=a):x.size=a.length:=by rw[<-hx,Za5,Zi3];rfl
def PK.fits:PK->TypeDesc->Bool
 | .b,.bool=>true
 | .i,.int _=>true
 | .s,.string=>true
 |_,_=>false
theorem agB{t:TypeId}{d:TypeDesc}(hd:P.underlying t=some d){pk:PK}(hk:pk.fits d=true){a b:AV}{x y:Value}{r:Bool}{m:Nat}
   (ha:aD ρ n C a x) (hb:aD ρ n C b y) (h:Bv pk a b=some r) (w:World):(Op.equalIn (m+1) t x y).run P w= .ok r w:=by
 unfold Bv at h;split at h
 . simp only[H5]at h;subst h;rw[ha.kV,hb.kV];cases d<;>simp[PK.fits]at hk;rw[run_equalIn_bool' w m t _ _ hd]
 . split at h
   . rename_i uq;have:=B6 uq;subst this;simp only[H5]at h;subst h;rw[ha.iI,hb.iI];cases d<;>simp[PK.fits]at hk;rw[run_equalIn_int w m t _ _ _ _ hd,mH]
   . cases h
 . simp only[H5]at h;subst h;obtain⟨bx,rfl,h1⟩:=ha.fC;obtain⟨bz,rfl,h2⟩:=hb.fC;cases d<;>simp[PK.fits]at hk;rw[run_equalIn_string w m t _ _ hd,Pg h1 h2]
 . cases h
theorem VD:∀{fs:List (Nat×Nat×Bool)}{l:List (Nat×PK)}{gs:List Field}{xs ys:List AV}{cx cy:Array Value}{r:Bool}{m:Nat}(_hT:dH P tt)
  (_hm:cm.fq fs gs=true) (_hf:CJ.fields tt fs=some l) (_hx:aL ρ n C xs cx.toList) (_hy:aL ρ n C ys cy.toList) (_h:eqFields xs ys l=some r) (w:World),
  (Op.eqFields (m+1) cx cy gs).run P w= .ok r w
 |[],l,gs,xs,ys,cx,cy,r,m,hT,hm,hf,hx,hy,h,w=>by
  cases gs with
  |cons f gs=>simp[cm.fq]at hm
  | nil=>
    simp[CJ.fields]at hf;subst hf;simp[eqFields]at h;subst h;simp[Op.eqFields]
 |(off  , t,named)::fs,l,gs,xs,ys,cx,cy,r,m,hT,hm,hf,hx,hy,h,w=>by
  cases gs with
  |nil=>simp[cm.fq]at hm
  | cons f gs=>
    simp[cm.fq]at hm;obtain⟨⟨⟨ho,ht⟩,hn⟩,hm'⟩:=hm;unfold CJ.fields at hf;(split at hf<;>first|(cases hf;done)|skip);rename_i ti l' fK hl';obtain⟨d,hd,dS⟩:=(hT.at fK).und;have key:∃pk,l=(off,pk)::l'/\pk.fits d=true/\(isAgg t).run P w= .ok false w:=by
        have xO:=aaF dS w hd;split at hf<;>first|(cases hf;done)|skip
        all_goals
          rename_i hk;simp only[H5]at hf;rw[hk]at dS xO;refine⟨_,hf.symm,?_,xO⟩
        . rw[ado dS];rfl
        . rw[Vz dS];rfl
        . rw[vn dS];rfl
    obtain⟨pk,rfl,Oc,xO⟩:=key;have dP:f.name≠ "_" :=(by intro e;rw[e]at hn;simp at hn);unfold eqFields at h;(split at h<;>first|(cases h;done)|skip);rename_i a b ha hb;rw[qX]at ha hb;obtain⟨x,hx1,ZE⟩:=hx.get ha;obtain⟨y,VE,hy2⟩:=hy.get hb;have px:(part f.type cx f.offset).run P w= .ok x w:=by
        rw[<-ht, <-ho];simp at hx1;simp[part,xO,hx1]
    have py:(part f.type cy f.offset).run P w= .ok y w:=by
        rw[<-ht, <-ho];simp at VE;simp[part,xO,VE]
    simp only[Op.eqFields,Sem.run_bind,Sem.run_ite,dP,px,py,Result.andThen_ok,ne_eq,not_false_eq_true,Zh6];split at h
    .   rename_i he;rw[<-ht,agB hd Oc ZE hy2 he w];simpa using VD (m:=m) hT hm' hl' hx hy h w
    .   rename_i he;simp only[H5]at h;subst h;rw[<-ht,agB hd Oc ZE hy2 he w];simp
    .   cases h
def ara(tt:TT)(op:BinOp)(q:gP)(t:TypeId):Prop:=CJ tt t=some q\/(q= .num/\op≠ .eql/\op≠ .neq)
def auu(P:Program)(tt:TT)(t:TypeId):gP->Prop
 | .num=>True
 | .bool=>P.underlying t=some .bool
 | .ptr=>∃e,P.underlying t=some (.pointer e)/\∃j,P.info? e=some j
 | .slice=>∃e,P.underlying t=some (.slice e)
 | .map=>∃k e,P.underlying t=some (.map k e)
 | .func=>∃a b c,P.underlying t=some (.func a b c)
 | .iface=>∃a,P.underlying t=some (.interface a)
 | .struct l=>∃fs gs,P.underlying t=some (.struct gs)/\cm.fq fs gs.toList=true/\CJ.fields tt fs=some l/\P.stoodInHeld t=false/\P.eqGuardType P.depth t=false
theorem ajJ(hT:dH P tt){t:TypeId}{q:gP}(hq:CJ tt t=some q):auu P tt t q:=by
 unfold CJ at hq;split at hq<;>first|(cases hq;done)|skip
 rename_i ti fK;obtain⟨d,hd,dS⟩:=(hT.at fK).und;split at hq<;>first|(cases hq;done)|skip
 all_goals rename_i hk
 all_goals rw[hk]at dS
 . simp only[H5]at hq;subst hq;rw[ado dS]at hd;exact hd
 . simp only[H5]at hq;subst hq;trivial
 . simp only[H5]at hq;subst hq;trivial
 . simp only[H5]at hq;subst hq;rw[atv dS]at hd;exact⟨_,hd,(hT.at fK).elem _ hk⟩
 . simp only[H5]at hq;subst hq;rw[tX dS]at hd;exact⟨_,hd⟩
 . simp only[H5]at hq;subst hq;rw[Vy dS]at hd;exact⟨_,_,hd⟩
 . simp only[H5]at hq;subst hq;obtain⟨_,_,_,rfl⟩:=arM dS;exact⟨_,_,_,hd⟩
 . simp only[H5]at hq;subst hq;obtain⟨_,rfl⟩:=aoQ dS;exact⟨_,hd⟩
 . (split at hq<;>first|(cases hq;done)|skip);rename_i fs _ _ l hp hl;simp only[H5]at hq;subst hq;obtain⟨gs,rfl,hm⟩:=M7 dS;exact⟨fs,gs,hd,hm,hl,(hT.at fK).eqs hp⟩
theorem akF(m:Nat)(hT:dH P tt){t:TypeId}{q:gP}(hq:CJ tt t=some q){a b:AV}{x y:Value}{r:Bool}(ha:aD ρ n C a x)(hb:aD ρ n C b y)(h:aaB q a b=some r)(w:World):
   (Op.equalIn (m+1+1) t x y).run P w= .ok r w:=by
 have hi:=ajJ hT hq;clear hq;unfold aaB at h;split at h<;>first|(cases h;done)|skip
 . simp only[H5]at h;subst h;rw[ha.kV,hb.kV,run_equalIn_bool' w _ t _ _ hi]
 all_goals first
   |(simp only[H5]at h;subst h)
   |skip
 . obtain⟨e,hd,_⟩:=hi;rw[ha.FG,hb.FG];(unfold Op.equalIn;rw[Sem.run_bind,bu hd];rfl)
 . obtain⟨e,hd,_⟩:=hi;obtain⟨_,hb⟩:=hb.qP;rw[ha.FG,hb];(unfold Op.equalIn;rw[Sem.run_bind,bu hd];rfl)
 . obtain⟨e,hd,_⟩:=hi;obtain⟨_,ha⟩:=ha.qP;rw[hb.FG,ha];(unfold Op.equalIn;rw[Sem.run_bind,bu hd];rfl)
 . obtain⟨e,hd,_⟩:=hi;obtain⟨_,_,_,_,hb,_⟩:=hb.Pd;rw[ha.FG,hb];(unfold Op.equalIn;rw[Sem.run_bind,bu hd];rfl)
 . obtain⟨e,hd,_⟩:=hi;obtain⟨_,_,_,_,ha,_⟩:=ha.Pd;rw[hb.FG,ha];(unfold Op.equalIn;rw[Sem.run_bind,bu hd];rfl)
 . obtain⟨e,hd,j,hj⟩:=hi;(split at h<;>first|(cases h;done)|skip);rename_i e1 e2;have e1:=Pos.beq_eq.1 e1;have e2:=Za6 e2;subst e1;subst e2;simp only[H5]at h;subst h;obtain⟨_,ha⟩:=ha.qP;obtain⟨_,hb⟩:=hb.qP;rw[ha,hb];simp[Op.equalIn,bu hd,sizeOf,typeInfo,hj,run_sameAddr_same]
 . obtain⟨e,hd⟩:=hi;rw[ha.js,hb.js];(unfold Op.equalIn;rw[Sem.run_bind,bu hd];rfl)
 . obtain⟨e,hd⟩:=hi;obtain⟨_,_,hb,_⟩:=hb.gL;rw[ha.js,hb];(unfold Op.equalIn;rw[Sem.run_bind,bu hd];rfl)
 . obtain⟨e,hd⟩:=hi;obtain⟨_,_,ha,_⟩:=ha.gL;rw[hb.js,ha];(unfold Op.equalIn;rw[Sem.run_bind,bu hd];rfl)
 . obtain⟨e,hd⟩:=hi;obtain⟨_,_,_,hb,_⟩:=hb.yp;rw[ha.js,hb];(unfold Op.equalIn;rw[Sem.run_bind,bu hd];rfl)
 . obtain⟨e,hd⟩:=hi;obtain⟨_,_,_,ha,_⟩:=ha.yp;rw[hb.js,ha];(unfold Op.equalIn;rw[Sem.run_bind,bu hd];rfl)
 . obtain⟨k,e,hd⟩:=hi;rw[ha.FH,hb.FH];(unfold Op.equalIn;rw[Sem.run_bind,bu hd];rfl)
 . obtain⟨k,e,hd⟩:=hi;obtain⟨_,hb⟩:=hb.B7;rw[ha.FH,hb];(unfold Op.equalIn;rw[Sem.run_bind,bu hd];rfl)
 . obtain⟨k,e,hd⟩:=hi;obtain⟨_,ha⟩:=ha.B7;rw[hb.FH,ha];(unfold Op.equalIn;rw[Sem.run_bind,bu hd];rfl)
 . obtain⟨_,_,_,hd⟩:=hi;rw[ha.Rm,hb.Rm];(unfold Op.equalIn;rw[Sem.run_bind,bu hd];rfl)
 . obtain⟨_,_,_,hd⟩:=hi;obtain⟨_,_,hb,_⟩:=hb.Rc;rw[ha.Rm,hb];(unfold Op.equalIn;rw[Sem.run_bind,bu hd];rfl)
 . obtain⟨_,_,_,hd⟩:=hi;obtain⟨_,_,ha,_⟩:=ha.Rc;rw[hb.Rm,ha];(unfold Op.equalIn;rw[Sem.run_bind,bu hd];rfl)
 . obtain⟨_,hd⟩:=hi;obtain⟨_,hb,_⟩:=hb.aeq;rw[ha.agA,hb];(unfold Op.equalIn;rw[Sem.run_bind,bu hd];rfl)
 . obtain⟨_,hd⟩:=hi;obtain⟨_,ha,_⟩:=ha.aeq;rw[hb.agA,ha];(unfold Op.equalIn;rw[Sem.run_bind,bu hd];rfl)
 . obtain⟨fs,gs,hd,hm,hl,hp,_⟩:=hi;obtain⟨cx,rfl,hx⟩:=ha.FE;obtain⟨cy,rfl,hy⟩:=hb.FE;have hfo:P.fieldsOf t=gs:=(by simp[Program.fieldsOf,hd]);rw[run_equalIn_agg w (m+1) t cx cy (by rw[hfo,hd]) hp,hfo];exact VD (m:=m) hT hm hl hx hy h w
theorem agC(hT:dH P tt){t:TypeId}{q:gP}(hq:CJ tt t=some q){a b:AV}{x y:Value}{r:Bool}(ha:aD ρ n C a x)(hb:aD ρ n C b y)(h:aaB q a b=some r)(w:World):
 (Op.equal t x y).run P w= .ok r w:=akF 9998 hT hq ha hb h w
theorem abK(hT:dH P tt){t:TypeId}{q:gP}(hq:CJ tt t=some q){a b:AV}{x y:Value}{r:Bool}(ha:aD ρ n C a x)(hb:aD ρ n C b y)(h:aaB q a b=some r)(op:BinOp)(ox oy:Operand)(w:World):
  (eqGuard op t ox oy x y).run P w= .ok () w:=by
 have hi:=ajJ hT hq;clear hq;unfold aaB at h;split at h<;>first|(cases h;done)|skip
 all_goals first
  |(obtain⟨fs,gs,hd,hm,hl,hp,hg⟩:=hi
    obtain⟨cx,rfl,hx⟩:=ha.FE;obtain⟨cy,rfl,hy⟩:=hb.FE;exact run_eqGuard_agg w op t ox oy cx cy hg)
  |(cases ha<;>cases hb<;>cases op<;>rfl)
end
section
variable{P : Program}{tt : TT}{ρ : Pos -> Loc}{C : Cells}{st : St}{w : World}{n : Nat}
theorem afu(op:BinOp)(t:TypeId)(k:IntKind)(i j:Int)(hs:op≠ .shl)(hr:op≠ .shr):(binOp op t (.int k i) (.int k j)).run P w=
  (match op with
   | .add| .sub| .mul=>Op.intArith op k i j
   | .quo| .rem=>Op.intDiv op k i j
   | .and| .or| .xor| .andNot=>Op.intBits op k i j
   |_=>Op.intCmp op i j).run P w:=by
 cases op<;>first|(exact absurd rfl hs)|(exact absurd rfl hr)|simp[binOp]
theorem aoS(hT:dH P tt){op:BinOp}{t:TypeId}{q:gP}(hq:ara tt op q t){a b v:AV}{x y:Value}(ha:aD ρ n C a x)(hb:aD ρ n C b y)(h:pL op q a b=some v)(ox oy:Operand):
  ∃z,(do eqGuard op t ox oy x y;binOp op t x y:Sem Value).run P w= .ok z w/\aD ρ n C v z:=by
 unfold pL at h;split at h
 ·
  rename_i k i k' j;rw[ha.iI,hb.iI];have hg:∀op,(eqGuard op t ox oy (.int k i) (.int k' j)).run P w= .ok () w:=by intro op;cases op<;>rfl
  rw[Sem.run_bind,hg,Result.andThen_ok];split at h
  . split at h
    .   cases h
    .   rename_i aT;rw[fo]at aT;have aT:=Zm9 aT;simp only[H5]at h;subst h;exact⟨_,by simp[binOp,Op.shift,aT,yq],.int _ _⟩
  . split at h
    .   cases h
    .   rename_i aT;rw[fo]at aT;have aT:=Zm9 aT;simp only[H5]at h;subst h;exact⟨_,by simp[binOp,Op.shift,aT],.int _ _⟩
  . rename_i hs hr;split at h
    .   cases h
    .   rename_i hk;have:=B6 hk;subst this;rw[afu op t k i j (λe=>hs e) (λe=>hr e)];split at h
        . simp only[H5]at h;subst h;exact⟨_,by simp[Op.intArith,yq],.int _ _⟩
        . simp only[H5]at h;subst h;exact⟨_,by simp[Op.intArith,yq],.int _ _⟩
        . simp only[H5]at h;subst h;exact⟨_,by simp[Op.intArith,yq],.int _ _⟩
        . split at h
          . cases h
          . (rename_i h0;rw[mH]at h0;have h0':¬j=0:=by simpa using h0);simp only[H5]at h;subst h;exact⟨_,by simp[Op.intDiv,h0',yq],.int _ _⟩
        . split at h
          . cases h
          . (rename_i h0;rw[mH]at h0;have h0':¬j=0:=by simpa using h0);simp only[H5]at h;subst h;exact⟨_,by simp[Op.intDiv,h0'],.int _ _⟩
        . simp only[H5]at h;subst h;exact⟨_,by simp[Op.intBits],.int _ _⟩
        . simp only[H5]at h;subst h;exact⟨_,by simp[Op.intBits],.int _ _⟩
        . simp only[H5]at h;subst h;exact⟨_,by simp[Op.intBits],.int _ _⟩
        . simp only[H5]at h;subst h;exact⟨_,by simp[Op.intBits],.int _ _⟩
        . simp only[H5]at h;subst h;exact⟨_,by simp[Op.intCmp,mH],.bool _⟩
        . simp only[H5]at h;subst h;refine⟨_,rfl,?_⟩;rw[mH];exact .bool _
        . simp only[H5]at h;subst h;refine⟨_,rfl,?_⟩;rw[fo];exact .bool _
        . simp only[H5]at h;subst h;refine⟨_,rfl,?_⟩;rw[kW];exact .bool _
        . simp only[H5]at h;subst h;refine⟨_,rfl,?_⟩;rw[fo];exact .bool _
        . simp only[H5]at h;subst h;refine⟨_,rfl,?_⟩;rw[kW];exact .bool _
        . cases h
 ·
  rename_i s u;obtain⟨bx,rfl,h1⟩:=ha.fC;obtain⟨bz,rfl,h2⟩:=hb.fC;have hg:∀op,(eqGuard op t ox oy (.string bx) (.string bz)).run P w= .ok () w:=by intro op;cases op<;>rfl
  rw[Sem.run_bind,hg,Result.andThen_ok];have hs:(binOp op t (.string bx) (.string bz)).run P w=(Op.stringOp op bx bz).run P w:=by cases op<;>rfl
  rw[hs];have e1:=Pg h1 h2;have e2:=aaG h1 h2;split at h
  . split at h
    .   rename_i hb;have hb:=Zb3 hb;simp only[H5]at h;subst h;have nQ:¬(((bx.size+bz.size:Nat):Int)>IntKind.i64.max):=(by rw[Lf h1,Lf h2];simp[IntKind.max,IntKind.signed,IntKind.bits];omega);refine⟨.string (bx++bz),?_,.str _ _ ?_⟩
        . simp only[Op.stringOp];rw[Za7 nQ];rfl
        . rw[ByteArray.data_append,Array.toList_append,Zd4,h1,h2]
    .   cases h
  all_goals first|(cases h;done)|skip
  all_goals
    simp only[H5]at h;subst h;refine⟨_,rfl,?_⟩
    first|rw[e1,e2]|rw[e1]|rw[e2]
    exact .bool _
 ·
  rename_i hni hns;have af8:∀op,(op= .eql\/op= .neq)->(binOp op t x y).run P w=((Op.equal t x y).run P w).andThen λr w'=> .ok (.bool (if op= .eql then r else !r)) w':=by
    rintro op (rfl|rfl)
    all_goals
        cases ha<;>cases hb<;>first
          |(exact(hni _ _ _ _ rfl rfl).elim)
          |(exact(hns _ _ rfl rfl).elim)
          |simp[binOp]
  split at h
  . split at h
    .   rename_i r hr;simp only[H5]at h;subst h;rcases hq with hq|⟨_,hq,_⟩
        . refine⟨.bool r,?_,.bool r⟩;rw[Sem.run_bind,abK hT hq ha hb hr,Result.andThen_ok,af8 _ (.inl rfl),agC hT hq ha hb hr];rfl
        . exact absurd rfl hq
    .   cases h
  . split at h
    .   rename_i r hr;simp only[H5]at h;subst h;rcases hq with hq|⟨_,_,hq⟩
        . refine⟨.bool (!r),?_,.bool _⟩;rw[Sem.run_bind,abK hT hq ha hb hr,Result.andThen_ok,af8 _ (.inr rfl),agC hT hq ha hb hr];rfl
        . exact absurd rfl hq
    .   cases h
  . cases h
end
def fD(P:Program)(tt:TT)(op:Op):Prop:=
 ∀  (ρ:Pos->Loc)(C:Cells)(st:St)(w:World)(k:aH)(xs:List gZ)(cls:Cls)(fr:Fr)(a:Act)(o:Oper)(vs:List AV)(res:eR),
    o.op=op->j7 tt op=some (k,xs,cls)->cC ρ C st w->kT ρ st.next.toNat C fr a.tmps->fT fr xs=some vs->
    k.run (λb=>st.heap.get b) st.next vs=some res->Gp P ρ C st w ((execOp a.eval o).run P w) res
section
variable{P : Program}{tt : TT}
theorem adp{ρ:Pos->Loc}{n:Nat}{C:Cells}{x y:Operand}{os:List gZ}{fr:Fr}{a:Act}{vs:List AV}(h:mF [x,y]=some os)(hF:kT ρ n C fr a.tmps)(hv:fT fr os=some vs):
  ∃u v,vs=[u,v]/\aD ρ n C u (a.eval x)/\aD ρ n C v (a.eval y):=by
 have h1:=iO h hF hv;cases vs with
 |nil=>have:=h1.1;simp at this
 |cons u vs=>
  cases vs with
  |nil=>have:=h1.1;simp at this
  |cons v vs=>
   cases vs with
   |nil=>exact⟨u,v,rfl,h1.2 0 u _ rfl rfl,h1.2 1 v _ rfl rfl⟩
   |cons z vs=>have:=h1.1;simp at this
theorem evs3{ρ:Pos->Loc}{n:Nat}{C:Cells}{x y z:Operand}{os:List gZ}{fr:Fr}{a:Act}{vs:List AV}(h:mF [x,y,z]=some os)(hF:kT ρ n C fr a.tmps)(hv:fT fr os=some vs):
  ∃u v q,vs=[u,v,q]/\aD ρ n C u (a.eval x)/\aD ρ n C v (a.eval y)/\aD ρ n C q (a.eval z):=by
 have h1:=iO h hF hv
 match vs,h1 with
 |[u,v,q],h1=>exact⟨u,v,q,rfl,h1.2 0 u _ rfl rfl,h1.2 1 v _ rfl rfl,h1.2 2 q _ rfl rfl⟩
 |[],h1=>have:=h1.1;simp at this
 |[_],h1=>have:=h1.1;simp at this
 |[_,_],h1=>have:=h1.1;simp at this
 |_::_::_::_::_,h1=>have:=h1.1;simp at this
theorem aoT(x:Operand):fD P tt (.move x):=by
 intro ρ C st w k xs cls fr a o vs res ho hc hW hF hx hr;simp only[j7]at hc;split at hc<;>first|(cases hc;done)|skip
 rename_i b hb;cases hc;obtain⟨v,rfl,hv⟩:=lK hb hF hx;simp only[aH.run,Yo,H5]at hr;subst hr;exact .pure (by simp[execOp,ho]) hv
theorem akG(x:Operand):fD P tt (.assign x):=by
 intro ρ C st w k xs cls fr a o vs res ho hc hW hF hx hr;simp only[j7]at hc;split at hc<;>first|(cases hc;done)|skip
 rename_i b hb;cases hc;obtain⟨v,rfl,hv⟩:=lK hb hF hx;simp only[aH.run,Yo,H5]at hr;subst hr;exact .pure (by simp[execOp,ho]) hv
theorem aoU(c x y:Operand):fD P tt (.pick c x y):=by
 intro ρ C st w k xs cls fr a o vs res ho hc hW hF hx hr;simp only[j7]at hc;split at hc<;>first|(cases hc;done)|skip
 rename_i l hl;cases hc;obtain⟨u,v,q,rfl,h1,h2,h3⟩:=evs3 hl hF hx;simp only[aH.run,adk]at hr;split at hr<;>first|(cases hr;done)|skip
 all_goals
   simp only[H5]at hr;subst hr;have h1:=h1.kV
 . exact .pure (by simp[execOp,ho,h1,asBool]) h2
 . exact .pure (by simp[execOp,ho,h1,asBool]) h3
theorem amz(hT:dH P tt)(op:BinOp)(t:TypeId)(x y:Operand)(yt:TypeId):fD P tt (.binOp op t x y yt):=by
 intro ρ C st w k xs cls fr a o vs res ho hc hW hF hx hr;have key:∃q,ara tt op q t/\k= .bin op q/\mF [x,y]=some xs:=by
  simp only[j7]at hc;split at hc
  . rename_i q l hq hl;cases hc;exact⟨q,.inl hq,rfl,hl⟩
  . rename_i l hq hl;(split at hc<;>first|(cases hc;done)|skip);rename_i h1 h2;cases hc;exact⟨.num,.inr ⟨rfl,λe=>h1 e,λe=>h2 e⟩,rfl,hl⟩
  . cases hc
 obtain⟨q,hq,rfl,hl⟩:=key;obtain⟨u,v,rfl,h1,h2⟩:=adp hl hF hx;simp only[aH.run,jr]at hr;split at hr<;>first|(cases hr;done)|skip
 rename_i r hb;simp only[H5]at hr;subst hr;obtain⟨z,hz,hv⟩:=aoS hT hq h1 h2 hb x y (w:=w);refine .pure ?_ hv;simp only[execOp,ho];rw[Sem.run_bind,hz];rfl
theorem aoV(op:UnOp)(t:TypeId)(x:Operand):fD P tt (.unOp op t x):=by
 intro ρ C st w k xs cls fr a o vs res ho hc hW hF hx hr;simp only[j7]at hc;split at hc<;>first|(cases hc;done)|skip
 rename_i b hb;cases hc;obtain⟨v,rfl,hv⟩:=lK hb hF hx;simp only[aH.run,aky]at hr;split at hr<;>first|(cases hr;done)|skip
 rename_i r hu;simp only[H5]at hr;subst hr;unfold unA at hu;split at hu
 . (split at hu<;>first|(cases hu;done)|skip);simp only[H5]at hu;subst hu;exact .pure (by simp[execOp,ho,hv.kV,Op.unary]) (.bool _)
 . (split at hu<;>first|(cases hu;done)|skip);simp only[H5]at hu;subst hu;exact .pure (by simp[execOp,ho,hv.iI,Op.unary,Op.intArith];rfl) (by rw[yq];simpa using aD.int _ _)
 . cases hu
theorem agD(x:Operand):fD P tt (.nilCheck x):=by
 intro ρ C st w k xs cls fr a o vs res ho hc hW hF hx hr;simp only[j7]at hc;split at hc<;>first|(cases hc;done)|skip
 rename_i b hb;cases hc;obtain⟨v,rfl,hv⟩:=lK hb hF hx;simp only[aH.run,Oa]at hr;split at hr<;>first|(cases hr;done)|skip
 all_goals simp only[H5]at hr;subst hr
 . obtain⟨_,he⟩:=hv.qP;exact .pure (by simp[execOp,ho,he]) hv
 . obtain⟨_,_,_,_,he,_⟩:=hv.Pd;exact .pure (by simp[execOp,ho,he]) hv
 . obtain⟨_,_,he,_⟩:=hv.Rc;exact .pure (by simp[execOp,ho,he]) hv
theorem ai5(x:Operand)(i:Nat):fD P tt (.extract x i):=by
 intro ρ C st w k xs cls fr a o vs res ho hc hW hF hx hr;simp only[j7]at hc;split at hc<;>first|(cases hc;done)|skip
 rename_i b hb;cases hc;obtain⟨v,rfl,hv⟩:=lK hb hF hx;simp only[aH.run,Kv]at hr;split at hr<;>first|(cases hr;done)|skip
 split at hr<;>first|(cases hr;done)|skip
 rename_i u hu;simp only[H5]at hr;subst hr;obtain⟨cs,he,hs⟩:=hv.Vv;rw[qX]at hu;obtain⟨y,hy,VF⟩:=hs.get hu;exact .pure (by simp at hy;simp[execOp,ho,he,Instr.extract,hy]) VF
theorem ai6(hT:dH P tt)(t:TypeId)(x:Operand):fD P tt (.makeInterface t x):=by
 intro ρ C st w k xs cls fr a o vs res ho hc hW hF hx hr;simp only[j7]at hc;split at hc<;>first|(cases hc;done)|skip
 rename_i ti b fK hb;split at hc<;>first|(cases hc;done)|skip
 rename_i h1 h2;cases hc;obtain⟨v,rfl,hv⟩:=lK hb hF hx;simp only[aH.run,Q8,H5]at hr;subst hr;obtain⟨d,hd,hk⟩:=(hT.at fK).und;refine .pure (x:= .iface t (a.eval x)) ?_ (.iface _ _ _ hv);have hni:∀ms,d≠ .interface ms:=by
  rintro ms rfl;cases M8:ti.k<;>rw[M8]at hk<;>first|(simp[cm]at hk;done)|(exact h1 M8)|(exact h2 M8)
 simp only[execOp,ho,Instr.makeInterface,Sem.run_bind,bu hd,Result.andThen_ok];cases d<;>first|rfl|(exact absurd rfl (hni _))
theorem akH(fn:Fn)(first captured:Array Operand):fD P tt (.makeFunc fn first captured):=by
 intro ρ C st w k xs cls fr a o vs res ho hc hW hF hx hr;simp only[j7]at hc;split at hc<;>first|(cases hc;done)|skip
 rename_i f l hl;cases hc;have h:=iO hl hF hx;simp only[aH.run,Gx,H5]at hr;subst hr;have e1:vs.take first.size=vs.take first.size:=rfl
 have h1:=h.take first.size
 have h2:=h.drop first.size
 simp only[Zd4]at h1 h2;rw[Zr4 (by simp)]at h1;rw[List.drop_left' (by simp)]at h2;refine .pure (x:= .func (.func f) (first.map a.eval) (captured.map a.eval)) (by simp[execOp,ho,Instr.makeFunc]) ?_;exact .func _ _ _ _ _ (by simpa using h1.1) (by simpa using h2.1) (λi v v' hv Ph=>h1.2 i v v' hv (by simpa using Ph)) (λi v v' hv Ph=>h2.2 i v v' hv (by simpa using Ph))
theorem afv(hT:dH P tt)(t:TypeId)(x:Operand)(f:Nat):fD P tt (.fieldAddr t x f):=by
 intro ρ C st w k xs cls fr a o vs res ho hc hW hF hx hr;simp only[j7]at hc;split at hc<;>first|(cases hc;done)|skip
 rename_i ti b fK hb;split at hc<;>first|(cases hc;done)|skip
 rename_i fs hk;split at hc<;>first|(cases hc;done)|skip
 rename_i off ft nm hf;split at hc<;>first|(cases hc;done)|skip
 rename_i fi hfi;split at hc<;>first|(cases hc;done)|skip
 rename_i gR;cases hc;obtain⟨v,rfl,hv⟩:=lK hb hF hx;obtain⟨d,hd,dS⟩:=(hT.at fK).und;rw[hk]at dS;obtain⟨gs,rfl,hm⟩:=M7 dS;obtain⟨g,hg,vt,ET,_⟩:=Ri hm hf;simp only at vt ET;obtain⟨i,hi,vu,_⟩:=(hT.at hfi).info;have hs0:¬i.size=0:=by rw[vu];exact Ze9 gR
 simp only[aH.run,Vt]at hr;split at hr<;>first|(cases hr;done)|skip
 . simp only[H5]at hr;subst hr;obtain⟨aT,he⟩:=hv.qP;refine .pure (x:= .pointer (some ⟨(ρ _).aN,(ρ _).base+(_+off),none⟩)) ?_ (.ptr _ _ aT);simp at hg;simp[execOp,ho,he,Instr.fieldAt,bu hd,hg,Instr.sureAddr,fieldPlace,ET,mG hi,hs0,uH,vt,Zk0]
 . simp only[H5]at hr;subst hr;obtain⟨es,aN,base,cell,he,h1,h2,h3⟩:=hv.Pd;rename_i B5 i' j';refine .pure (x:= .pointer (some ⟨aN,base+i'*es+(j'+off),none⟩)) ?_ (.fp _ _ _ es aN base cell h1 h2 h3);simp at hg;simp[execOp,ho,he,Instr.fieldAt,bu hd,hg,Instr.sureAddr,fieldPlace,ET,mG hi,hs0,uH,vt,Zk0]
theorem mJ{ρ:Pos->Loc}{n:Nat}{C:Cells}{v:AV}{x:Value}{i:Nat}(h:aD ρ n C v x)(hi:zX v=some i):∃k,x= .int k (i:Int):=by
 unfold zX at hi;split at hi<;>first|(cases hi;done)|skip
 split at hi<;>first|(cases hi;done)|skip
 simp only[H5]at hi;subst hi;exact⟨_,h.iI⟩
theorem afw(hT:dH P tt)(t:TypeId)(x ix:Operand):fD P tt (.indexAddr t x ix):=by
 intro ρ C st w k xs cls fr a o vs res ho hc hW hF hx hr;simp only[j7]at hc;split at hc<;>first|(cases hc;done)|skip
 rename_i ti l fK hl;obtain⟨d,hd,dS⟩:=(hT.at fK).und;obtain⟨u,v,rfl,h1,h2⟩:=adp hl hF (by
   split at hc<;>first|(cases hc;done)|skip
   all_goals
     (split at hc<;>first|(cases hc;done)|skip);cases hc;exact hx)
 split at hc<;>first|(cases hc;done)|skip
 . rename_i e hk;rw[hk]at dS;rw[tX dS]at hd;(split at hc<;>first|(cases hc;done)|skip);rename_i te pz;cases hc;obtain⟨i0,tj,vu,_⟩:=(hT.at pz).info;simp only[aH.run,sP]at hr;(split at hr<;>first|(cases hr;done)|skip);rename_i i hi;obtain⟨kk,EU⟩:=mJ h2 hi;split at hr<;>first|(cases hr;done)|skip
   . rename_i b off len cap es' _;(split at hr<;>first|(cases hr;done)|skip);rename_i aT;have aT:i<len:=(by simpa using aT);simp only[H5]at hr;subst hr;obtain⟨aa,bC,he,hle,_,ha⟩:=h1.gL;obtain⟨hb,rfl,_⟩:=ha (by omega);refine .pure (x:= .pointer (some ⟨(ρ b).aN,(ρ b).base+(off+i*te.size),none⟩)) ?_ (.ptr _ _ hb);simp[execOp,ho,he,EU,Instr.indexAt,bu hd,asIntOf,aT,mG tj,uH,vu,Zk0]
   . rename_i B5 es' _;(split at hr<;>first|(cases hr;done)|skip);rename_i aT eD;have aT:i<B5.length:=(by simpa using aT);have eD:te.size=es':=Za6 eD;simp only[H5]at hr;subst hr;obtain⟨aa,bC,cell,he,hle,AH,g1,g2,g3⟩:=h1.yp;have AH:=AH (by intro e;rw[e]at aT;simp at aT);obtain⟨ab,ao,asp⟩:=aa;simp only at AH;subst AH;refine .pure (x:= .pointer (some ⟨ab,ao+i*es'+0,none⟩)) ?_ (.fp _ _ _ es' ab ao cell g1 g2 g3);simp[execOp,ho,he,EU,Instr.indexAt,bu hd,asIntOf,aT,mG tj,uH,vu,eD]
   . rename_i hh;cases hh
 . rename_i m e hk;rw[hk]at dS;rw[agz dS]at hd;(split at hc<;>first|(cases hc;done)|skip);rename_i te pz;cases hc;obtain⟨i0,tj,vu,_⟩:=(hT.at pz).info;simp only[aH.run,sP]at hr;(split at hr<;>first|(cases hr;done)|skip);rename_i i hi;obtain⟨kk,EU⟩:=mJ h2 hi;split at hr<;>first|(cases hr;done)|skip
   . rename_i hh;cases hh
   . rename_i hh;cases hh
   . rename_i m' b off hh;cases hh;(split at hr<;>first|(cases hr;done)|skip);rename_i aT;have aT:i<m:=(by simpa using aT);simp only[H5]at hr;subst hr;obtain⟨hb,he⟩:=h1.qP;refine .pure (x:= .pointer (some ⟨(ρ b).aN,(ρ b).base+(off+i*te.size),none⟩)) ?_ (.ptr _ _ hb);simp[execOp,ho,he,EU,Instr.indexAt,bu hd,asIntOf,aT,mG tj,uH,vu,Zk0,Instr.sureAddr]
end
section
variable{P : Program}{tt : TT}
theorem amA(hT:dH P tt)(t:TypeId)(x:Operand)(f:Nat):fD P tt (.field t x f):=by
 intro ρ C st w k xs cls fr a o vs res ho hc hW hF hx hr;simp only[j7]at hc;split at hc<;>first|(cases hc;done)|skip
 rename_i ti b fK hb;split at hc<;>first|(cases hc;done)|skip
 rename_i fs hk;split at hc<;>first|(cases hc;done)|skip
 rename_i off ft nm hf;split at hc<;>first|(cases hc;done)|skip
 rename_i fi hfi;cases hc;obtain⟨v,rfl,hv⟩:=lK hb hF hx;obtain⟨d,hd,dS⟩:=(hT.at fK).und;rw[hk]at dS;obtain⟨gs,rfl,hm⟩:=M7 dS;obtain⟨g,hg,vt,ET,_⟩:=Ri hm hf;simp only at vt ET;obtain⟨i,hi,vu,_⟩:=(hT.at hfi).info;obtain⟨fd,hfd,hfk⟩:=(hT.at hfi).und;have xO:=aaF hfk w hfd;simp only[aH.run,Ra]at hr;split at hr<;>first|(cases hr;done)|skip
 rename_i cs;obtain⟨cx,he,hs⟩:=hv.FE;simp at hg;split at hr
 . rename_i hn;(split at hr<;>first|(cases hr;done)|skip);rename_i u hu;simp only[H5]at hr;subst hr;rw[qX]at hu;obtain⟨y,hy,VF⟩:=hs.get hu;have akI:fi.k.isAgg=false:=by
     unfold CL at hn;split at hn
     . cases hn
     . assumption
   rw[akI]at xO;refine .pure (x:=y) ?_ VF;simp at hy;simp[execOp,ho,he,Instr.field,bu hd,hg,part,ET,xO,asAgg,vt,hy]
 . rename_i m hn;simp only[H5]at hr;subst hr;have akI:fi.k.isAgg=true/\m=fi.size:=by
     unfold CL at hn;split at hn
     . cases hn;exact⟨by assumption,rfl⟩
     . cases hn
   rw[akI.1]at xO;refine .pure (x:= .agg (cx.extract off (off+m))) ?_ (.Pa ?_)
   . simp[execOp,ho,he,Instr.field,bu hd,hg,part,ET,xO,asAgg,vt,mG hi,vu,akI.2]
   . have:=(hs.drop off).take m;simpa [Zo8,List.extract]using this
theorem amB(hT:dH P tt)(t:TypeId)(x ix:Operand):fD P tt (.index t x ix):=by
 intro ρ C st w k xs cls fr a o vs res ho hc hW hF hx hr;simp only[j7]at hc;split at hc<;>first|(cases hc;done)|skip
 rename_i ti l fK hl;split at hc<;>first|(cases hc;done)|skip
 rename_i hk;cases hc;obtain⟨u,v,rfl,h1,h2⟩:=adp hl hF hx;obtain⟨d,hd,dS⟩:=(hT.at fK).und;rw[hk]at dS;rw[vn dS]at hd;simp only[aH.run,Yp]at hr;split at hr<;>first|(cases hr;done)|skip
 rename_i s i hi;split at hr<;>first|(cases hr;done)|skip
 rename_i c hcx;simp only[H5]at hr;subst hr;obtain⟨bs,he,hs⟩:=h1.fC;obtain⟨kk,EU⟩:=mJ h2 hi;rw[qX, <-hs,Zb8]at hcx;obtain⟨b,hb,hbc⟩:=Zf4.1 hcx;have e8:bs[i]? =some b:=by
  obtain⟨aT,vw⟩:=Za2.1 hb;have aoR:i<bs.size:=by rw[Zi3]at aT;exact aT
  rw[getElem?_pos bs i aoR];congr 1
 refine .pure (x:= .int .u8 (.ofNat c)) ?_ (.int _ _);simp[execOp,ho,he,EU,Instr.index,bu hd,asIntOf,e8, <-hbc]
theorem aoW(hT:dH P tt)(t:TypeId)(x:Operand):fD P tt (.load t x):=by
 intro ρ C st w k xs cls fr a o vs res ho hc hW hF hx hr;simp only[j7]at hc;split at hc<;>first|(cases hc;done)|skip
 rename_i ti b fK hb;cases hc;obtain⟨v,rfl,hv⟩:=lK hb hF hx;obtain⟨d,hd,dS⟩:=(hT.at fK).und;obtain⟨i,hi,vu,_⟩:=(hT.at fK).info;have xO:=aaF dS w hd;have hn:(CL ti=none/\ti.k.isAgg=false)\/(CL ti=some ti.size/\ti.k.isAgg=true):=by unfold CL;split<;>simp_all
 simp only[aH.run,zo]at hr;split at hr<;>first|(cases hr;done)|skip
 . rename_i bb off;(split at hr<;>first|(cases hr;done)|skip);rename_i cs fz vw;obtain⟨_,he⟩:=hv.qP;rcases hn with⟨hn,hf⟩|⟨hn,hf⟩
   . rw[hn]at hr;rw[hf]at xO;simp only at hr;(split at hr<;>first|(cases hr;done)|skip);rename_i u hu;simp only[H5]at hr;subst hr;rw[qX]at hu;obtain⟨y,hy,VF⟩:=hW.cell vw hu;refine .pure (x:=y) ?_ VF;simp[execOp,ho,he,Instr.loadAt,Instr.sureAddr,loadVar,xO,hy]
   . rw[hn]at hr;rw[hf]at xO;simp only at hr;(split at hr<;>first|(cases hr;done)|skip);rename_i us hu;simp only[H5]at hr;subst hr;obtain⟨ys,hy,VF⟩:=hW.loadCells (P:=P) vw hu;refine .pure (x:= .agg ys.toArray) ?_ (.Pa (by simpa using VF));simp[execOp,ho,he,Instr.loadAt,Instr.sureAddr,loadVar,xO,mG hi,vu,hy]
 . rename_i B5 i' j';(split at hr<;>first|(cases hr;done)|skip);rename_i cs fh;rw[qX]at fh;obtain⟨es,aN,base,cell,he,g1,g2,g3⟩:=hv.Pd;rcases hn with⟨hn,hf⟩|⟨hn,hf⟩
   . rw[hn]at hr;rw[hf]at xO;simp only at hr;(split at hr<;>first|(cases hr;done)|skip);rename_i u hu;simp only[H5]at hr;subst hr;rw[qX]at hu;have CO:=(hW.eI _ _ (g2 _ _ _ _ fh hu)).1;refine .pure (x:=cell i' j') ?_ (g3 _ _ _ _ fh hu);simp[execOp,ho,he,Instr.loadAt,Instr.sureAddr,loadVar,xO,CO]
   . rw[hn]at hr;rw[hf]at xO;simp only at hr;(split at hr<;>first|(cases hr;done)|skip);rename_i us hu;simp only[H5]at hr;subst hr;obtain⟨hus,hle⟩:=abJ hu;have hlen:=Rk hu;have dX:(loadCells ⟨aN,base+i'*es+j',none⟩ ti.size).run P w= .ok ((List.range ti.size).map λq=>cell i' (j'+q)).toArray w:=by
        (refine run_loadCells w _ _ _ λq hq=> ?_);rw[uH];have:cs[j'+q]? =some (cs[j'+q]'(by omega)):=H0 (by omega);rw[Zk0];exact(hW.eI _ _ (g2 _ _ _ _ fh this)).1
     refine .pure (x:= .agg ((List.range ti.size).map λq=>cell i' (j'+q)).toArray) ?_ (.Pa ⟨by simp[hlen],λq u y hu' hy=> ?_⟩)
     .  simp[execOp,ho,he,Instr.loadAt,Instr.sureAddr,loadVar,xO,mG hi,vu,dX]
     .  have hq:q<ti.size:=(by rw[<-hlen];exact(Za2.1 hu').1);rw[hus,Ze0,Zb2 hq,Ze8]at hu';simp[hq]at hy;subst hy;exact g3 _ _ _ _ fh hu'
theorem aoX{x y:Value}{ρ:Pos->Loc}{n:Nat}{C:Cells}{u v r:AV}{w:World}{st:St}(h1:aD ρ n C u x)(h2:aD ρ n C v y)(hr:KN (λb=>st.heap.get b) st.next [u,v]=some (.val r)):
   ∃z,(Builtin.min2 x y).run P w= .ok z w/\aD ρ n C r z:=by
 simp only[KN]at hr;split at hr<;>first|(cases hr;done)|skip
 . simp only[H5,eR.val.injEq]at hr;subst hr;rw[h1.iI,h2.iI];refine⟨_,rfl,?_⟩;rw[fo];split
   . rename_i h;rw[Zb2 (Zf7 h)];exact .int _ _
   . rename_i h;rw[Za7 (Zm9 h)];exact .int _ _
 . simp only[H5,eR.val.injEq]at hr;subst hr;rename_i sa sb;obtain⟨bx,rfl,e1⟩:=h1.fC;obtain⟨bz,rfl,e2⟩:=h2.fC;have hh:(Op.stringOp .leq bx bz).run P w= .ok (.bool (aO sa sb||kg sa sb)) w:=by
     simp only[Op.stringOp,Sem.run_pure];rw[aaG e1 e2,Pg e1 e2]
   refine⟨_,by simp only[Builtin.min2,Sem.run_bind,hh,Result.andThen_ok,asBool,Sem.run_pure];rfl,?_⟩;split
   . rename_i h;rw[Zb2 h];exact .str _ _ e1
   . rename_i h;rw[Za7 (by rw[h];simp)];exact .str _ _ e2
theorem aoY{x y:Value}{ρ:Pos->Loc}{n:Nat}{C:Cells}{u v r:AV}{w:World}{st:St}(h1:aD ρ n C u x)(h2:aD ρ n C v y)(hr:KO (λb=>st.heap.get b) st.next [u,v]=some (.val r)):
   ∃z,(Builtin.max2 x y).run P w= .ok z w/\aD ρ n C r z:=by
 simp only[KO]at hr;split at hr<;>first|(cases hr;done)|skip
 . simp only[H5,eR.val.injEq]at hr;subst hr;rw[h1.iI,h2.iI];refine⟨_,rfl,?_⟩;rw[fo];split
   . rename_i h;rw[Zb2 (Zf7 h)];exact .int _ _
   . rename_i h;rw[Za7 (Zm9 h)];exact .int _ _
 . simp only[H5,eR.val.injEq]at hr;subst hr;rename_i sa sb;obtain⟨bx,rfl,e1⟩:=h1.fC;obtain⟨bz,rfl,e2⟩:=h2.fC;have hh:(Op.stringOp .geq bx bz).run P w= .ok (.bool (!aO sa sb)) w:=by
     simp only[Op.stringOp,Sem.run_pure];rw[aaG e1 e2]
   refine⟨_,by simp only[Builtin.max2,Sem.run_bind,hh,Result.andThen_ok,asBool,Sem.run_pure];rfl,?_⟩;split
   . rename_i h;rw[Za7 (by rw[h];simp)];exact .str _ _ e2
   . rename_i h;rw[Zb2 (by rw[h];rfl)];exact .str _ _ e1
theorem pE(xs:Array Operand)(a:Act):xs.toList.map a.eval=(xs.map a.eval).toList:=by simp
end
section
variable{P : Program}{tt : TT}
theorem vs1{ρ:Pos->Loc}{n:Nat}{C:Cells}{bs:List AV}{x:Value}(h:aL ρ n C bs [x]):∃b,bs=[b]/\aD ρ n C b x:=by
 match bs,h with
 |[b],h=>exact⟨b,rfl,h.2 0 b x rfl rfl⟩
 |[],h=>have:=h.1;simp at this
 |_::_::_,h=>have:=h.1;simp at this
theorem vs2{ρ:Pos->Loc}{n:Nat}{C:Cells}{bs:List AV}{x y:Value}(h:aL ρ n C bs [x,y]):∃b c,bs=[b,c]/\aD ρ n C b x/\aD ρ n C c y:=by
 match bs,h with
 |[b,c],h=>exact⟨b,c,rfl,h.2 0 b x rfl rfl,h.2 1 c y rfl rfl⟩
 |[],h=>have:=h.1;simp at this
 |[_],h=>have:=h.1;simp at this
 |_::_::_::_,h=>have:=h.1;simp at this
theorem vs3{ρ:Pos->Loc}{n:Nat}{C:Cells}{bs:List AV}{x y z:Value}(h:aL ρ n C bs [x,y,z]):∃b c d,bs=[b,c,d]/\aD ρ n C b x/\aD ρ n C c y/\aD ρ n C d z:=by
 match bs,h with
 |[b,c,d],h=>exact⟨b,c,d,rfl,h.2 0 b x rfl rfl,h.2 1 c y rfl rfl,h.2 2 d z rfl rfl⟩
 |[],h=>have:=h.1;simp at this
 |[_],h=>have:=h.1;simp at this
 |[_,_],h=>have:=h.1;simp at this
 |_::_::_::_::_,h=>have:=h.1;simp at this
def Lg(x:Option Value)(i:Option Nat):Prop:=(x=none/\i=none)\/∃j k,i=some j/\x=some (.int k (j:Int))
theorem abL{ρ:Pos->Loc}{n:Nat}{C:Cells}{lo hi mx:Option Operand}{bs:List AV}{a:Act}{l h m:Option Nat}
   (hb:aL ρ n C bs ((CM lo++CM hi++CM mx).map a.eval)) (hr:bounds lo.isSome hi.isSome mx.isSome bs=some (l,h,m)):
   Lg (lo.map a.eval) l/\Lg (hi.map a.eval) h/\Lg (mx.map a.eval) m/\(m.isSome=true->h.isSome=true):=by
 unfold bounds at hr
 cases lo<;>cases hi<;>cases mx<;>simp only[Option.isSome_some,Option.isSome_none,CM,Ze1,Zd9,Zd7,Zd6,Zi1]at hb hr<;>
   first|(cases hr;done)|skip
 . cases bs with
   |cons b bs=>have:=hb.1;simp at this
   |nil=>simp at hr;obtain⟨rfl,rfl,rfl⟩:=hr;exact⟨.inl ⟨rfl,rfl⟩,.inl ⟨rfl,rfl⟩,.inl ⟨rfl,rfl⟩,λh=>by cases h⟩
 . obtain⟨b,rfl,h1⟩:=vs1 hb;simp only at hr;(split at hr<;>first|(cases hr;done)|skip);rename_i j hj;obtain⟨k,hk⟩:=mJ h1 hj;simp at hr;obtain⟨rfl,rfl,rfl⟩:=hr;exact⟨.inl ⟨rfl,rfl⟩,.inr ⟨j,k,rfl,by simp[hk]⟩,.inl ⟨rfl,rfl⟩,λh=>by cases h⟩
 . obtain⟨b,c,rfl,h1,h2⟩:=vs2 hb;simp only at hr;(split at hr<;>first|(cases hr;done)|skip);rename_i j j' hj Le;obtain⟨k,hk⟩:=mJ h1 hj;obtain⟨k',uq⟩:=mJ h2 Le;simp at hr;obtain⟨rfl,rfl,rfl⟩:=hr;exact⟨.inl ⟨rfl,rfl⟩,.inr ⟨j,k,rfl,by simp[hk]⟩,.inr ⟨j',k',rfl,by simp[uq]⟩,λ_=>rfl⟩
 . obtain⟨b,rfl,h1⟩:=vs1 hb;simp only at hr;(split at hr<;>first|(cases hr;done)|skip);rename_i j hj;obtain⟨k,hk⟩:=mJ h1 hj;simp at hr;obtain⟨rfl,rfl,rfl⟩:=hr;exact⟨.inr ⟨j,k,rfl,by simp[hk]⟩,.inl ⟨rfl,rfl⟩,.inl ⟨rfl,rfl⟩,λh=>by cases h⟩
 . obtain⟨b,c,rfl,h1,h2⟩:=vs2 hb;simp only at hr;(split at hr<;>first|(cases hr;done)|skip);rename_i j j' hj Le;obtain⟨k,hk⟩:=mJ h1 hj;obtain⟨k',uq⟩:=mJ h2 Le;simp at hr;obtain⟨rfl,rfl,rfl⟩:=hr;exact⟨.inr ⟨j,k,rfl,by simp[hk]⟩,.inr ⟨j',k',rfl,by simp[uq]⟩,.inl ⟨rfl,rfl⟩,λh=>by cases h⟩
 . obtain⟨b,c,d,rfl,h1,h2,h3⟩:=vs3 hb;simp only at hr;(split at hr<;>first|(cases hr;done)|skip);rename_i j j' j'' hj Le hj'';obtain⟨k,hk⟩:=mJ h1 hj;obtain⟨k',uq⟩:=mJ h2 Le;obtain⟨k'',hk''⟩:=mJ h3 hj'';simp at hr;obtain⟨rfl,rfl,rfl⟩:=hr;exact⟨.inr ⟨j,k,rfl,by simp[hk]⟩,.inr ⟨j',k',rfl,by simp[uq]⟩,.inr ⟨j'',k'',rfl,by simp[hk'']⟩,λ_=>rfl⟩
theorem EV(isS:Bool){len cap:Nat}{xl xh xm:Option Value}{l h m:Option Nat}(h1:Lg xl l)(h2:Lg xh h)(h3:Lg xm m)(hmh:m.isSome=true->h.isSome=true)
  (Pj:l.getD 0<=h.getD len) (hhm:h.getD len<=m.getD cap) (hmc:m.getD cap<=cap) (w:World):
  (Instr.sliceBounds isS len cap xl xh xm).run P w= .ok (l.getD 0,h.getD len,m.getD cap) w:=by
 rcases h1 with⟨rfl,rfl⟩|⟨jl,kl,rfl,rfl⟩<;>rcases h2 with⟨rfl,rfl⟩|⟨jh,kh,rfl,rfl⟩<;>rcases h3 with⟨rfl,rfl⟩|⟨jm,km,rfl,rfl⟩<;>
  simp only[Zi9,Zf2,Option.isSome_some,Option.isSome_none]at Pj hhm hmc hmh ⊢ <;>
  first
   |(simp at hmh;done)
   |simp[Instr.sliceBounds,Instr.sliceBound,asIntOf,Pj,hhm,hmc,Int.ofNat_le]
theorem M9{ρ:Pos->Loc}{n:Nat}{C:Cells}{b:Pos}{off es bC l h M:Nat}{aa:Addr}{akJ:Option Nat}
   (ha:bC≠0->b.toNat<n/\aa=⟨(ρ b).aN,(ρ b).base+off,none⟩/\(ρ b).base+off+bC*es<=(ρ b).size)
   (h1:l<=h) (h2:h<=M) (h3:M<=bC) (hc:∀c,akJ=some c->c=M - l) (hk:akJ=none->b.toNat<n):
   aD ρ n C (.slice b (off+l*es) (h - l) akJ es) (.slice (if M=l then some aa else(some aa).map (·.add (l*es))) (h - l) (M - l)):=by
 by_cases hm:M=l
 . rw[Zb2 hm];exact .slice _ _ _ _ _ _ _ (by omega) hc (λh0=>absurd (by omega) h0) hk
 . rw[Za7 hm];obtain⟨hb,rfl,hle⟩:=ha (by omega);refine .slice _ _ _ _ _ _ _ (by omega) hc (λ_=>⟨hb,by show Addr.add _ _=_;rw[uH,Zk0],?_⟩) hk;have e1:l*es+(M - l)*es=M*es:=(by rw[<-Zj4];congr 1;omega);have e2:M*es<=bC*es:=Zg9 _ h3;omega
theorem amC(hT:dH P tt)(t:TypeId)(x:Operand)(lo hi mx:Option Operand):fD P tt (.slice t x lo hi mx):=by
 intro ρ C st w k xs cls fr a o vs res ho hc hW hF hx hr;simp only[j7]at hc;split at hc<;>first|(cases hc;done)|skip
 rename_i ti l0 fK hl;obtain⟨d,hd,dS⟩:=(hT.at fK).und;split at hc<;>first|(cases hc;done)|skip
 . rename_i hk;rw[hk]at dS;rw[vn dS]at hd;(split at hc<;>first|(cases hc;done)|skip);cases hc;have hv:=iO hl hF hx;simp only[CM,Zd9,Zd7,Ze1,Zd6]at hv;simp only[aH.run,Vr]at hr;(split at hr<;>first|(cases hr;done)|skip);rename_i u bs;(split at hr<;>first|(cases hr;done)|skip);rename_i s l h m' hb;(split at hr<;>first|(cases hr;done)|skip);rename_i h1 h2;have h1:=Zb3 h1;have h2:=Zb3 h2;simp only[H5]at hr;subst hr;obtain⟨y,ys,zI,hu,GF⟩:=hv.cons_inv;simp only[Zg3]at zI;obtain⟨rfl,rfl⟩:=zI;have vw:=abL (lo:=lo) (hi:=hi) (mx:=none) (a:=a) (by simpa [CM]using GF) hb;obtain⟨bs',he,hs⟩:=hu.fC;have gR:=Lf hs
   have dX:=EV (P:=P) false (len:=bs'.size) (cap:=bs'.size) vw.1 vw.2.1 (.inl ⟨rfl,rfl⟩:Lg none none) (λh=>by cases h)
     (by rw[gR];exact h1) (by rw[gR];simpa using h2) (by simp) w
   refine .pure (x:= .string (bs'.extract (l.getD 0) (h.getD bs'.size))) ?_ (.str _ _ ?_)
   . simp only[execOp,ho,Instr.sliceAt,Sem.run_bind,bu hd,Result.andThen_ok,he,Instr.slice];simp[dX]
   . rw[gR,ByteArray.data_extract,Zo8, <-hs,List.extract,List.map_take,List.map_drop];rw[Zn5]
 . rename_i e hk;rw[hk]at dS;rw[tX dS]at hd;(split at hc<;>first|(cases hc;done)|skip);rename_i te pz;cases hc;obtain⟨i0,tj,vu,_⟩:=(hT.at pz).info;have hv:=iO hl hF hx;simp only[Zd7,Ze1,Zf1,Zd6]at hv;simp only[aH.run,iM]at hr;(split at hr<;>first|(cases hr;done)|skip);rename_i u bs;obtain⟨y,ys,zI,hu,GF⟩:=hv.cons_inv;simp only[Zg3]at zI;obtain⟨rfl,rfl⟩:=zI
   have vt:∀(sa:Option Addr)(len cap:Nat)(l h m:Option Nat),a.eval x= .slice sa len cap->bounds lo.isSome hi.isSome mx.isSome bs=some (l,h,m)->
        l.getD 0<=h.getD len->h.getD len<=m.getD cap->m.getD cap<=cap->
        (execOp a.eval o).run P w= .ok (.value (.slice (if m.getD cap=l.getD 0 then sa else sa.map (·.add (l.getD 0*te.size))) (h.getD len - l.getD 0) (m.getD cap - l.getD 0))) w:=by
     intro sa len cap l h m he hb h1 h2 h3;have vw:=abL (lo:=lo) (hi:=hi) (mx:=mx) (a:=a) (by simpa [Zf1]using GF) hb;have dX:=EV (P:=P) true (len:=len) (cap:=cap) vw.1 vw.2.1 vw.2.2.1 vw.2.2.2 h1 h2 h3 w;simp only[execOp,ho,Instr.sliceAt,Sem.run_bind,bu hd,Result.andThen_ok,he,Instr.slice,dX,mG tj,vu,Sem.run_pure]
   split at hr<;>first|(cases hr;done)|skip
   ·
     rename_i b off len cap es' l h m hb;(split at hr<;>first|(cases hr;done)|skip);rename_i eD Pj;have eD:te.size=es':=Za6 eD;subst eD;have Pj:=Zb3 Pj;obtain⟨aa,bC,he,hle,agE,ha⟩:=hu.gL;split at hr
     .  rename_i c m';(split at hr<;>first|(cases hr;done)|skip);rename_i e1 e2;have e1:=Zb3 e1;have e2:=Zb3 e2;have:=agE c rfl;subst this;simp only[H5]at hr;subst hr;exact .pure (vt _ _ _ _ _ _ he hb Pj (by simpa using e1) (by simpa using e2)) (M9 ha Pj e1 e2 (λc hc=>by cases hc;rfl) (λh=>by cases h))
     .  rename_i c;(split at hr<;>first|(cases hr;done)|skip);rename_i e1;have e1:=Zb3 e1;have:=agE c rfl;subst this;simp only[H5]at hr;subst hr;exact .pure (vt _ _ _ _ _ _ he hb Pj (by simpa using e1) (by simp)) (M9 ha Pj e1 (Za3 _) (λc hc=>by cases hc;rfl) (λh=>by cases h))
     .  rename_i m';(split at hr<;>first|(cases hr;done)|skip);rename_i e1 e2;have e1:=Zb3 e1;have e2:=Zb3 e2;simp only[H5]at hr;subst hr;exact .pure (vt _ _ _ _ _ _ he hb Pj (by simpa using e1) (by simp;omega)) (M9 ha Pj e1 (by simp;omega) (λc hc=>by cases hc;rfl) (λh=>by cases h))
     .  (split at hr<;>first|(cases hr;done)|skip);rename_i e1;have e1:=Zb3 e1;simp only[H5]at hr;subst hr;exact .pure (vt _ _ _ _ _ _ he hb Pj (by simp;omega) (by simp)) (M9 ha Pj (by simp;omega) (Za3 _) (λc hc=>by cases hc) (λ_=>hu.aer rfl))
   ·
     rename_i B5 es' l h m hb;(split at hr<;>first|(cases hr;done)|skip);rename_i eD;have eD:te.size=es':=Za6 eD;subst eD;obtain⟨aa,bC,cell,he,hle,AH,g1,g2,g3⟩:=hu.yp;split at hr
     .  rename_i m';(split at hr<;>first|(cases hr;done)|skip);rename_i e0 e1 e2;have e0:=Za6 e0;have e1:=Za6 e1;have e2:=Za6 e2;subst e2;simp only[H5]at hr;subst hr;refine .pure (vt _ _ _ _ _ _ he hb (by omega) (by rw[e1];simp) (by simp)) ?_;simp only[e0,e1,Zf2,Zk6,Zh6];exact .slice _ _ _ _ _ _ _ (Za3 _) (λc hc=>by cases hc;rfl) (λh0=>absurd rfl h0) (λh=>by cases h)
     .  (split at hr<;>first|(cases hr;done)|skip);rename_i e0 e1;have e0:=Zb3 e0;have e1:=Zb3 e1;simp only[H5]at hr;subst hr;refine .pure (vt _ _ _ _ _ _ he hb e0 (by simp;omega) (by simp)) ?_;simp only[Zi9];have hlen:(List.drop (l.getD 0) (List.take (h.getD B5.length) B5)).length=h.getD B5.length - l.getD 0:=(by simp;omega);rw[<-hlen];have Rj:∀i cs,(List.drop (l.getD 0) (List.take (h.getD B5.length) B5))[i]? =some cs->B5[l.getD 0+i]? =some cs:=by
          intro i cs hi;rw[Ze8,Ze0]at hi;split at hi
          . exact hi
          . cases hi
        by_cases hcl:bC=l.getD 0
        . rw[Zb2 hcl];have hemp:List.drop (l.getD 0) (List.take (h.getD B5.length) B5)=[]:=(by apply Zc4;rw[hlen];omega);rw[hemp];exact .fl _ _ _ _ (λ_ _=>undef) (by simp) (λh=>absurd rfl h) (λi cs hi=>by simp at hi) (λi j cs v hi=>by simp at hi) (λi j cs v hi=>by simp at hi)
        . rw[Za7 hcl];by_cases dP:B5=[]
          . subst dP;simp only[List.take_nil,List.drop_nil];exact .fl _ _ _ _ (λ_ _=>undef) (by simp) (λh=>absurd rfl h) (λi cs hi=>by simp at hi) (λi j cs v hi=>by simp at hi) (λi j cs v hi=>by simp at hi)
          . have AH:=AH dP;obtain⟨ab,ao,asp⟩:=aa;simp only at AH;subst AH;simp only[Ze6,uH];refine .fl _ _ _ _ (λi j=>cell (l.getD 0+i) j) (by rw[hlen];omega) (λ_=>rfl) (λi cs hi=>g1 _ _ (Rj i cs hi)) (λi j cs v hi hj=> ?_) (λi j cs v hi hj=>g3 _ _ _ _ (Rj i cs hi) hj);have:=g2 _ _ _ _ (Rj i cs hi) hj;simp only at this ⊢;rw[<-this];congr 2;rw[Zj4];omega
   ·
     rename_i l h m hb;(split at hr<;>first|(cases hr;done)|skip);rename_i e0 e1 e2;have e0:=Za6 e0;have e1:=Za6 e1;have e2:=Za6 e2;simp only[H5]at hr;subst hr;have he:=hu.js;refine .pure (vt _ _ _ _ _ _ he hb (by omega) (by omega) (by omega)) ?_;simp only[e0,e1,e2,Zk6,Zh6];exact .af
end
section
variable{P : Program}{tt : TT}
theorem ZF{ρ:Pos->Loc}{n:Nat}{C:Cells}:∀{l:List AV}{s:List Nat}{ys:List Value},bytesOf l=some s->aL ρ n C l ys->
  ys=(s.map Int.ofNat).map (Value.int .u8)/\∀c,c∈s->c<256
 |[],s,ys,h,hv=>by
  simp[bytesOf]at h;subst h;exact⟨by simpa using hv.qO,λc hc=>by simp at hc⟩
 |v ::l,s,ys,h,hv=>by
  unfold bytesOf at h;split at h<;>first|(cases h;done)|skip
  . rename_i h0;simp at h0
  . rename_i c l' he;simp only[Zg3]at he;obtain⟨rfl,rfl⟩:=he;(split at h<;>first|(cases h;done)|skip);rename_i s' aT qY;simp only[H5]at h;subst h;obtain⟨y,ys',rfl,h1,h2⟩:=hv.cons_inv;obtain⟨e,pN⟩:=ZF qY h2;have aT:c<256:=(by simpa using aT);refine⟨by rw[h1.iI,e];rfl,λc' hc=> ?_⟩;simp at hc;rcases hc with rfl|hc
    . exact aT
    . exact pN _ hc
theorem Na:∀(s:List Nat)(acc:ByteArray),((s.map Int.ofNat).foldl (λr n=>r.push (UInt8.ofNat n.toNat)) acc).data.toList=acc.data.toList++s.map UInt8.ofNat
 |[],acc=>by simp
 |c::s,acc=>by
  simp only[Zd6,Zr5];rw[Na s];simp[ByteArray.push]
theorem ai7(hT:dH P tt)(src dst:TypeId)(x:Operand):fD P tt (.convert src dst x):=by
 intro ρ C st w k xs cls fr a o vs res ho hc hW hF hx hr;simp only[j7]at hc;split at hc<;>first|(cases hc;done)|skip
 rename_i s d b hs hd hb;obtain⟨ds,Pk,hks⟩:=(hT.at hs).und;obtain⟨dd,hdd,dS⟩:=(hT.at hd).und;split at hc<;>first|(cases hc;done)|skip
 . rename_i k1 k2 h1 h2;cases hc;obtain⟨v,rfl,hv⟩:=lK hb hF hx;rw[h1]at hks;rw[h2]at dS;rw[Vz hks]at Pk;rw[Vz dS]at hdd;simp only[aH.run,FD]at hr;split at hr<;>first|(cases hr;done)|(rename_i heq;cases heq;done)|(rename_i heq;cases heq)
   simp only[H5]at hr;subst hr;refine .pure ?_ (by rw[yq];exact .int _ _);simp[execOp,ho,hv.iI,convert,bu Pk,bu hdd,Conv.intToInt]
 . rename_i h1 h2;cases hc;obtain⟨v,rfl,hv⟩:=lK hb hF hx;rw[h1]at hks;rw[h2]at dS;rw[vn hks]at Pk;rw[vn dS]at hdd;simp only[aH.run,FD]at hr;split at hr<;>first|(cases hr;done)|(rename_i heq;cases heq;done)|(rename_i heq;cases heq)
   simp only[H5]at hr;subst hr;obtain⟨bs,he,hs⟩:=hv.fC;exact .pure (x:= .string bs) (by simp[execOp,ho,he,convert,bu Pk,bu hdd]) (.str _ _ hs)
 . rename_i e h1 h2;(split at hc<;>first|(cases hc;done)|skip);rename_i te pz;(split at hc<;>first|(cases hc;done)|skip);rename_i hk8;cases hc;obtain⟨v,rfl,hv⟩:=lK hb hF hx;rw[h1]at hks;rw[h2]at dS;rw[tX hks]at Pk;rw[vn dS]at hdd;obtain⟨de,hde,hke⟩:=(hT.at pz).und;rw[hk8]at hke;rw[Vz hke]at hde;have vt:∀y:Option Addr×Nat×Nat,a.eval x= .slice y.1 y.2.1 y.2.2->(execOp a.eval o).run P w=((Conv.bytesToString (a.eval x)).run P w).andThen λv w=> .ok (.value v) w:=by
     intro y he;simp[execOp,ho,he,convert,bu Pk,bu hdd,bu hde]
   simp only[aH.run,FD]at hr;split at hr<;>first|(cases hr;done)|(rename_i heq;cases heq;done)|(rename_i heq;cases heq)
   . simp only[H5]at hr;subst hr;have he:=hv.js;refine .pure (x:= .string .empty) ?_ (.str _ _ rfl);rw[vt (none,0,0) he,he];simp[Conv.bytesToString]
   . rename_i bb off m cap es;obtain⟨aa,bC,he,hle,_,ha⟩:=hv.gL;split at hr
     .  rename_i h0;have:=Za6 h0;subst this;simp only[H5]at hr;subst hr;refine .pure (x:= .string .empty) ?_ (.str _ _ rfl);rw[vt (some aa,0,bC) he,he];simp[Conv.bytesToString,loadCells,loadCellsFrom]
     .  (rename_i h0;have h0:=Ze9 h0;(split at hr<;>first|(cases hr;done)|skip);rename_i cs fz vw;(split at hr<;>first|(cases hr;done)|skip);rename_i l hcut;(split at hr<;>first|(cases hr;done)|skip);rename_i s' atw;simp only[H5]at hr;subst hr;obtain⟨aT,rfl,_⟩:=ha (by omega);obtain⟨ys,zI,CN⟩:=hW.loadCells (P:=P) vw hcut;obtain⟨e1,e2⟩:=ZF atw CN;rw[e1]at zI;have dX:=run_bytesToString (P:=P) w ⟨(ρ bb).aN,(ρ bb).base+off,none⟩ m bC (s'.map Int.ofNat) zI;refine .pure (x:= .string _) (by rw[vt (some _,m,bC) he,he,dX];rfl) (.str _ _ ?_);rw[Na,Zd4];have e0:ByteArray.empty.data.toList=[]:=rfl;rw[e0,Zi1,Ze1,Zh7];have e3:s'.map (UInt8.toNat∘UInt8.ofNat)=s'.map id:=Zj3 λc hc=>by have:=e2 c hc;simp only[Function.comp,id,UInt8.toNat_ofNat'];omega);rw[e3,Zr9]
theorem Pm{t:TypeId}{d:TypeDesc}(hd:P.underlying t=some d){pk:PK}(hk:pk.fits d=true)(e:Bool)(m:Nat)(x:Value)(w:World):
  (Instr.checkKey e (m+1) t x).run P w= .ok () w:=by
 unfold Instr.checkKey;rw[Sem.run_bind,bu hd,Result.andThen_ok];cases pk<;>cases d<;>simp[PK.fits]at hk<;>rfl
theorem ZG{ρ:Pos->Loc}{n:Nat}{C:Cells}{pk:PK}{d:TypeDesc}(hk:pk.fits d=true){u v:AV}{x y:Value}{r:Bool}
   (h1:aD ρ n C u x) (h2:aD ρ n C v y) (h:Bv pk u v=some r):Instr.sameNow d x y=some r:=by
 unfold Bv at h;split at h<;>first|(cases h;done)|skip
 . simp only[H5]at h;subst h;cases d<;>simp[PK.fits]at hk;rw[h1.kV,h2.kV];rfl
 . (split at h<;>first|(cases h;done)|skip);rename_i M8;have:=B6 M8;subst this;simp only[H5]at h;subst h;cases d<;>simp[PK.fits]at hk;rw[h1.iI,h2.iI];simp[Instr.sameNow,mH]
 . simp only[H5]at h;subst h;cases d<;>simp[PK.fits]at hk;obtain⟨bx,rfl,e1⟩:=h1.fC;obtain⟨bz,rfl,e2⟩:=h2.fC;simp only[Instr.sameNow];rw[beq_toListBytes,Pg e1 e2]
def Nb(ρ:Pos->Loc)(n:Nat)(C:Cells)(es:List (AV×AV×Nat))(es':List MapEntry):Prop:=
 es.length=es'.length/\∀(i:Nat)(e:AV×AV×Nat)(e':MapEntry),es[i]? =some e->es'[i]? =some e'->aD ρ n C e.1 e'.key/\aD ρ n C e.2.1 e'.val/\e.2.2=e'.born
theorem GG{ρ:Pos->Loc}{n:Nat}{C:Cells}{pk:PK}{d:TypeDesc}(hk:pk.fits d=true){u:AV}{x:Value}(hu:aD ρ n C u x):
  ∀{es:List (AV×AV×Nat)}{es':List MapEntry}{i:Nat}{r:Option (Nat×AV)},Nb ρ n C es es'->ir pk u es i=some r->
  ∃r',Instr.findNow d x es' i=some r'/\((r=none/\r'=none)\/∃j v y,r=some (j,v)/\r'=some (j,y)/\aD ρ n C v y/\i<=j/\j<i+es.length)
 |[],es',i,r,he,h=>by
  simp[ir]at h;subst h;cases es' with
  |nil=>exact⟨none,rfl,.inl ⟨rfl,rfl⟩⟩
  |cons e es'=>have:=he.1;simp at this
 |(k',v,born)::es,es',i,r,he,h=>by
  cases es' with
  |nil=>have:=he.1;simp at this
  |cons e' es'=>
   have h0:=he.2 0 (k',v,born) e' rfl rfl;have su:Nb ρ n C es es':=⟨by have:=he.1;simpa using this,λj e e' h1 h2=>he.2 (j+1) e e' (by simpa using h1) (by simpa using h2)⟩
   unfold ir at h;split at h<;>first|(cases h;done)|skip
   .    rename_i hq;simp only[H5]at h;subst h;refine⟨some (i,e'.val),by simp[Instr.findNow,ZG hk hu h0.1 hq],.inr ⟨i,v,e'.val,rfl,rfl,h0.2.1,Za3 _,by simp⟩⟩
   .    rename_i hq;obtain⟨r',h1,h2⟩:=GG hk hu su h;refine⟨r',by simp[Instr.findNow,ZG hk hu h0.1 hq,h1],?_⟩;rcases h2 with h2|⟨j,v',y,e1,e2,e3,e4,e5⟩
        . exact .inl h2
        . exact .inr ⟨j,v',y,e1,e2,e3,by omega,by simp;omega⟩
theorem run_findKey{t:TypeId}{d:TypeDesc}(hd:P.underlying t=some d){x:Value}{es:List MapEntry}{r:Option (Nat×Value)}(h:Instr.findNow d x es 0=some r)(w:World):
  (Instr.findKey t x es).run P w= .ok r w:=by
 simp[Instr.findKey,bu hd,h]
theorem run_getObj_map{r:Nat}{es:Array MapEntry}{c:Nat}{w:World}(h:w.heap[r]? =some (.map es c)):(getObj r).run P w= .ok (.map es c) w:=by
 simp[getObj,Sem.run,h]
theorem arb(k:TK){d:TypeDesc}(h:cm k d=true){pk:PK}(hp:(k= .bool/\pk= .b)\/((∃i,k= .int i)/\pk= .i)\/(k= .string/\pk= .s)):pk.fits d=true:=by
 rcases hp with⟨rfl,rfl⟩|⟨⟨i,rfl⟩,rfl⟩|⟨rfl,rfl⟩
 . rw[ado h];rfl
 . rw[Vz h];rfl
 . rw[vn h];rfl
theorem FJ(hT:dH P tt){t:Nat}{ti:TI}(ht:tt.get (key t)=some ti){z:List AV}(hz:ti.zero=some z){ρ:Pos->Loc}{n:Nat}{C:Cells}(w:World):
   ∃v,(zeroValue t).run P w= .ok v w/\aD ρ n C (j7.OZ ti z) v/\aL ρ n C z v.cells.toList:=by
 obtain⟨i,hi,vu,_,Nc⟩:=(hT.at ht).info;obtain⟨v,hv,hs,hlen,h1,h2⟩:=Nc z hz;refine⟨v,aoP hi hv w,?_,wM hs⟩;unfold j7.OZ;split
 . rename_i ha;obtain⟨cs,rfl⟩:=h1 ha;exact .Pa (wM hs)
 . rename_i ha;have hc:=h2 ha;rw[hc]at hs;simp only[td]at hs;(split at hs<;>first|(cases hs;done)|skip);rename_i a as e1 e2;simp only[H5]at hs e2;subst hs;subst e2;simp only;exact Ld e1
theorem akK(hT:dH P tt)(t:TypeId)(x ix:Operand)(ok:Bool):fD P tt (.lookup t x ix ok):=by
 intro ρ C st w k xs cls fr a o vs res ho hc hW hF hx hr;simp only[j7]at hc;split at hc<;>first|(cases hc;done)|skip
 rename_i ti l fK hl;split at hc<;>first|(cases hc;done)|skip
 rename_i kt et hk;split at hc<;>first|(cases hc;done)|skip
 rename_i tk te htk pz;obtain⟨d,hd,dS⟩:=(hT.at fK).und;rw[hk]at dS;rw[Vy dS]at hd;obtain⟨dk,hdk,M8⟩:=(hT.at htk).und;have key:∃pk z,te.zero=some z/\k= .lookup pk (j7.OZ te z) ok/\xs=l/\cls= .read/\pk.fits dk=true:=by
  split at hc<;>first|(cases hc;done)|skip
  all_goals
    rename_i z h1 h2;cases hc;refine⟨_,z,h2,rfl,rfl,rfl,arb tk.k M8 ?_⟩
  . exact .inr (.inl ⟨⟨_,h1⟩,rfl⟩)
  . exact .inr (.inr ⟨h1,rfl⟩)
  . exact .inl ⟨h1,rfl⟩
 obtain⟨pk,z,hz,rfl,rfl,rfl,Oc⟩:=key;obtain⟨m,kk,rfl,h1,h2⟩:=adp hl hF hx;obtain⟨zv,TN,hzr,_⟩:=FJ hT pz hz (ρ:=ρ) (n:=st.next.toNat) (C:=C) w;have hck:∀e,(Instr.checkKey e 10000 kt (a.eval ix)).run P w= .ok () w:=λe=>Pm hdk Oc e 9999 _ w
 simp only[aH.run,lC]at hr;split at hr<;>first|(cases hr;done)|skip
 ·
  rename_i j v hm;simp only[H5]at hr;subst hr;split at hm<;>first|(cases hm;done)|skip
  . split at hm<;>first|(cases hm;done)|(simp at hm;done)
  . rename_i b;(split at hm<;>first|(cases hm;done)|skip);rename_i es c hb;obtain⟨_,he⟩:=h1.B7;obtain⟨_,_,es',eD,hlen,pN⟩:=hW.live _ _ hb;have hE:Nb ρ st.next.toNat C es es'.toList:=⟨by simpa using hlen,λi e e' h1 h2=>pN i e e' h1 (by simpa using h2)⟩
    obtain⟨r',hf,nR⟩:=GG Oc h2 hE hm;rcases nR with⟨e1,_⟩|⟨j',v',y,e1,e2,e3,_⟩
    .   cases e1
    .   cases e1;subst e2;have dX:(execOp a.eval o).run P w= .ok (.value (if ok then .tuple #[y,.bool true]else y)) w:=by
          simp only[execOp,ho,Instr.lookup,Sem.run_bind,bu hd,Result.andThen_ok,he,run_getObj_map eD,hck,run_findKey hdk hf,Sem.run_pure]
        refine .pure dX ?_;cases ok
        . exact e3
        . exact .yl (aL.cons e3 (aL.cons (.bool true) aL.nil))
 ·
  rename_i hm;simp only[H5]at hr;subst hr;have dX:(execOp a.eval o).run P w= .ok (.value (if ok then .tuple #[zv,.bool false]else zv)) w:=by
    split at hm<;>first|(cases hm;done)|skip
    .   (split at hm<;>first|(cases hm;done)|skip);have he:=h1.FH;have hf:(Instr.findKey kt (a.eval ix) []).run P w= .ok none w:=run_findKey hdk rfl w;simp only[execOp,ho,Instr.lookup,Sem.run_bind,bu hd,Result.andThen_ok,he,hck,hf,TN,Sem.run_pure]
    .   rename_i b;(split at hm<;>first|(cases hm;done)|skip);rename_i es c hb;obtain⟨_,he⟩:=h1.B7;obtain⟨_,_,es',eD,hlen,pN⟩:=hW.live _ _ hb;have hE:Nb ρ st.next.toNat C es es'.toList:=⟨by simpa using hlen,λi e e' h1 h2=>pN i e e' h1 (by simpa using h2)⟩
        obtain⟨r',hf,nR⟩:=GG Oc h2 hE hm;rcases nR with⟨_,e2⟩|⟨j',v',y,e1,_⟩
        . subst e2;simp only[execOp,ho,Instr.lookup,Sem.run_bind,bu hd,Result.andThen_ok,he,run_getObj_map eD,hck,run_findKey hdk hf,TN,Sem.run_pure]
        . cases e1
  refine .pure dX ?_;cases ok
  . exact hzr
  . exact .yl (aL.cons hzr (aL.cons (.bool false) aL.nil))
end
section
variable{P : Program}{tt : TT}
theorem Lh:∀(l:List Value)(off k:Nat)(cs:Array Value),off+k+l.length<=cs.size->
  ((l.zipIdx k).foldl (λcs (c,j)=>cs.setIfInBounds (off+j) c) cs).toList=aX cs.toList (off+k) l
 |[],off,k,cs,_=>by simp[aX,Zl8]
 |v::l,off,k,cs,h=>by
  simp only[Zc6]at h;simp only[List.zipIdx_cons,Zr5];rw[Lh l off (k+1) _ (by simp;omega)];simp only[aX,Zc6,Zp6];rw[List.drop_set_of_lt (by omega)];have:off+(k+1)=(off+k)+1:=by omega
  rw[this,List.take_set,List.take_add_one];have aT:off+k<cs.toList.length:=by simp;omega
  rw[H0 aT];simp only[Option.toList_some,List.set_append,Zh5];have hm:min (off+k) cs.toList.length=off+k:=Zk3 (Zn4 aT);rw[hm,Za7 (Zo6 _),Zk6];simp;rw[show off+k+1+l.length=off+k+(l.length+1)from by omega]
theorem aaH{ρ:Pos->Loc}{n:Nat}{C:Cells}(pl:Nat->Option (Nat×Nat)):∀{pp:List (Nat×Nat)}{vs cells r:List AV}{ps:List (Nat×Value)}{cs:Array Value},
  cF cells pp vs=some r->aL ρ n C cells cs.toList->aL ρ n C vs (ps.map (·.2))->ps.map (λx=>pl x.1)=pp.map some->
  ∃nu,Instr.fill pl cs ps=some nu/\aL ρ n C r nu.toList
 |[],vs,cells,r,ps,cs,h,hc,hv,hp=>by
  unfold cF at h;split at h<;>first|(cases h;done)|skip
  . simp only[H5]at h;subst h;have:ps=[]:=(by simpa using hv.qO);subst this;exact⟨cs,rfl,hc⟩
  . rename_i hh;cases hh
 |(off  ,size)::pp,vs,cells,r,ps,cs,h,hc,hv,hp=>by
  unfold cF at h;split at h<;>first|(cases h;done)|skip
  . rename_i hh;cases hh
  . rename_i off' size' pp' v vs' hh;simp only[Zg3,Zd0]at hh;obtain⟨⟨rfl,rfl⟩,rfl⟩:=hh;(split at h<;>first|(cases h;done)|skip);rename_i h1 h2;have h1:=Za6 h1;have h2:=Zb3 h2;cases ps with
    |nil=>have:=hv.1;simp at this
    |   cons p ps=>
        obtain⟨i,x⟩:=p;simp only[Zd6,Zg3]at hp hv;obtain⟨j8,GH⟩:=hp;obtain⟨y,ys,zI,hx,CN⟩:=hv.cons_inv;simp only[Zg3]at zI;obtain⟨rfl,rfl⟩:=zI;have hxc:=hx.cells;have hlen:x.cells.size=size:=(by rw[<-h1,hxc.1];simp);have gR:off+size<=cs.size:=(by have:=hc.1;simp at this;omega);have auv:(x.cells.zipIdx.foldl (λcs (c,j)=>cs.setIfInBounds (off+j) c) cs).toList=aX cs.toList off x.cells.toList:=(by rw[<-Array.foldl_toList,Array.toList_zipIdx];have:=Lh x.cells.toList off 0 cs (by simp;omega);simpa using this);obtain⟨nu,e1,e2⟩:=aaH pl h (cs:=x.cells.zipIdx.foldl (λcs (c,j)=>cs.setIfInBounds (off+j) c) cs) (by rw[auv];exact hc.aX hxc off) CN GH;refine⟨nu,?_,e2⟩;simp only[Instr.fill,j8];rw[Za7 (by simp[hlen];omega)];exact e1
theorem TO(hT:dH P tt){gs:Array Field}(w:World):∀{fs:List (Nat×Nat×Bool)}(_hm:cm.fq fs gs.toList=true){is:List Nat}{pp:List (Nat×Nat)}
  (_h:j7.places tt fs is=some pp) {VG:List (Nat×Nat)} (_hpl:∀(i:Nat)(f:Field)(inf:TypeInfo),gs.toList[i]? =some f->P.info? f.type=some inf->VG[i]? =some (f.offset,inf.size)),
  is.map (λi=>VG[i]?)=pp.map some
 |fs,hm,[],pp,h,VG,zJ=>by simp[j7.places]at h;subst h;rfl
 |fs,hm,i::is,pp,h,VG,zJ=>by
  unfold j7.places at h;split at h<;>first|(cases h;done)|skip
  rename_i off t nm l h1 h2;split at h<;>first|(cases h;done)|skip
  rename_i ti hti;simp only[H5]at h;subst h;obtain⟨f,hf,e1,e2,_⟩:=Ri hm h1;obtain⟨inf,agF,gR,_⟩:=(hT.at hti).info;simp only at e1 e2;have:=zJ i f inf hf (by rw[e2];exact agF);simp only[Zd6,this,e1,gR];rw[TO hT w hm h2 zJ]
theorem abM(hT:dH P tt):∀{fs:List (Nat×Nat×Bool)}{gs:List Field}(_hm:cm.fq fs gs=true)(_ha:j7.af6 tt fs=true),
  ∃VG:List (Nat×Nat),gs.mapM (λf=>(P.info? f.type).map λi=>(f.offset,i.size))=some VG/\
   ∀(i:Nat)(f:Field)(inf:TypeInfo),gs[i]? =some f->P.info? f.type=some inf->VG[i]? =some (f.offset,inf.size)
 |[],gs,hm,ha=>by
  cases gs with
  |cons g gs=>simp[cm.fq]at hm
  |nil=>exact⟨[],rfl,λi f inf h=>by simp at h⟩
 |(off,t,nm)::fs,gs,hm,ha=>by
  cases gs with
  |nil=>simp[cm.fq]at hm
  |cons g gs=>
   simp[cm.fq]at hm;unfold j7.af6 at ha;(split at ha<;>first|(cases ha;done)|skip);rename_i ti hti;obtain⟨inf,agF,_⟩:=(hT.at hti).info;obtain⟨VG,h1,h2⟩:=abM hT hm.2 ha;rw[hm.1.1.2]at agF;refine⟨(g.offset,inf.size)::VG,by simp[agF,h1],λi f inf' hi hf=> ?_⟩;cases i with
   |zero=>simp at hi;subst hi;rw[agF]at hf;cases hf;rfl
   |succ i=>simp at hi ⊢; exact h2 i f inf' hi hf
theorem amD(hT:dH P tt)(t:TypeId)(ps:Array (Nat×Operand)):fD P tt (.build t ps):=by
 intro ρ C st w k xs cls fr a o vs res ho hc hW hF hx hr;simp only[j7]at hc;split at hc<;>first|(cases hc;done)|skip
 rename_i ti l fK hl;obtain⟨d,hd,dS⟩:=(hT.at fK).und;obtain⟨it,hit,_,_,Nc⟩:=(hT.at fK).info
 have vt:∀(pp:List (Nat×Nat))(z:List AV)(pl:Nat->Option (Nat×Nat)),ti.zero=some z->k= .build z pp->xs=l->ps.toList.map (λx=>pl x.1)=pp.map some->
    (∀(v:Value)(parts:List (Nat×Value))(cells:Array Value),it.zero=some v->Instr.fill pl v.cells parts=some cells->P.built t parts=some cells)->
    Gp P ρ C st w ((execOp a.eval o).run P w) res:=by
   rintro pp z pl hz rfl rfl ZH atx;have hv:=iO hl hF hx;obtain⟨v,hv0,hs,_⟩:=Nc z hz;simp only[aH.run,Q7]at hr;(split at hr<;>first|(cases hr;done)|skip);rename_i cs CQ;simp only[H5]at hr;subst hr;have hzr:aL ρ st.next.toNat C z v.cells.toList:=wM hs;have hps:(ps.map λ(i,x)=>(i,a.eval x)).toList=ps.toList.map λx=>(x.1,a.eval x.2):=(by simp);obtain⟨nu,e1,e2⟩:=aaH pl CQ hzr (ps:=ps.toList.map λx=>(x.1,a.eval x.2)) (by simpa [Zh7,Zl1]using hv) (by simpa [Zh7,Zl1]using ZH);refine .pure (x:= .agg nu) ?_ (.Pa e2);have dX:=run_build w t (ps.map λ(i,x)=>(i,a.eval x)) nu (atx v _ _ hv0 (by rw[hps];exact e1));simp only[execOp,ho,Sem.run_bind];rw[dX];rfl
 split at hc<;>first|(cases hc;done)|skip
 . rename_i fs z hk hz;rw[hk]at dS;obtain⟨gs,rfl,hm⟩:=M7 dS;(split at hc<;>first|(cases hc;done)|skip);rename_i pp zJ pN;cases hc;obtain⟨VG,h1,h2⟩:=abM hT hm pN;have ZH:=TO hT w hm zJ h2;(refine vt pp z (λi=>VG.toArray[i]?) hz rfl rfl (by simpa [Zh7,Zl1]using ZH) λv parts cells hv hf=> ?_);unfold Program.built;rw[hit,hd];simp only[hv,h1];exact hf
 . rename_i e z hk hz;rw[hk]at dS;rw[agz dS]at hd;(split at hc<;>first|(cases hc;done)|skip);rename_i te pz;cases hc;obtain⟨ie,hie,gR,_⟩:=(hT.at pz).info;(refine vt _ z (λi=>some (i*te.size,te.size)) hz rfl rfl (by simp[Zh7,Zl1]) λv parts cells hv hf=> ?_);unfold Program.built;rw[hit,hd];simp only[hv,hie,gR];exact hf
end
end
end Go.Ai
