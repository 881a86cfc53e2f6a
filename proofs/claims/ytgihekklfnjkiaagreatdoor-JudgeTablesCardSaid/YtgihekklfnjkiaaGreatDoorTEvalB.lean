/- Its operations answer as the model does. -/
import Derived.Test.YtgihekklfnjkiaaGreatDoorTEvalA
import Derived.Laws.StructEq
import Derived.Lib.Builder
import Derived.Laws.BytesString
set_option linter.all false
set_option linter.unusedSectionVars false
set_option linter.deprecated false
namespace Go.Ai
section
def b9:TK->TypeDesc->Bool
 | .bool,.bool=>true
 | .int k,.int k'=>Lu k k'
 | .string,.string=>true
 | .ptr e,.pointer e'=>Nat.beq e e'
 | .slice e,.slice e'=>Nat.beq e e'
 | .array n e,.array n' e'=>Nat.beq n n'&&Nat.beq e e'
 | .map k e,.map k' e'=>Nat.beq k k'&&Nat.beq e e'
 | .struct fs,.struct fs'=>fk fs fs'.toList
 | .func,.func _ _ _=>true
 | .iface,.interface _=>true
 | .upt,.unsafePointer=>true
 | .other,.interface _=>false
 | .other,.int _=>false
 | .other,.array _ _=>false
 | .other,.struct _=>false
 | .other,_=>true
 |_,_=>false
where
 fk:List (Nat×Nat×Bool)->List Field->Bool
  |[],[]=>true
  |(off,t,named)::l,f::l'=>Nat.beq off f.offset&&Nat.beq t f.type&&(named==(f.name != "_"))&&fk l l'
  |_,_=>false
structure akJ(P:Program)(t:TypeId)(ti:TI):Prop where
 und:∃d,P.underlying t=some d/\b9 ti.k d=true
 info:∃i,P.info? t=some i/\i.size=ti.size/\i.bytes=ti.bytes/\
  ∀z,ti.zero=some z->∃v,i.zero=some v/\sQ v.cells.toList=some z/\z.length=ti.size/\(ti.k.isAgg=true->∃cs,v= .agg cs)/\(ti.k.isAgg=false->v.cells= #[v])
 elem:∀e,ti.k= .ptr e->∃j,P.info? e=some j
 eqs:ti.BK=true->P.stoodInHeld t=false/\P.eqGuardType P.depth t=false
def di(P:Program)(tt:TT):Prop:=∀p ti,tt.get p=some ti->akJ P (p.toNat - 1) ti
theorem di.at{P:Program}{tt:TT}(h:di P tt){t:Nat}{ti:TI}(ht:tt.get (key t)=some ti):akJ P t ti:=by
 have:=h _ _ ht
 rwa [iQ,Zh3]at this
section
variable{P : Program}{tt : TT}{ρ : Pos -> Loc}{n : Nat}{C : Cells}
theorem bt{t:TypeId}{d:TypeDesc}(h:P.underlying t=some d)(w:World):(underlying t).run P w= .ok d w:=run_underlying h w
theorem agy{t:TypeId}{i:TypeInfo}(h:P.info? t=some i)(w:World):(typeInfo t).run P w= .ok i w:=by simp[typeInfo,h]
theorem mF{t:TypeId}{i:TypeInfo}(h:P.info? t=some i)(w:World):(sizeOf t).run P w= .ok i.size w:=by simp[sizeOf,typeInfo,h]
theorem ao0{t:TypeId}{i:TypeInfo}{v:Value}(h:P.info? t=some i)(hz:i.zero=some v)(w:World):(zeroValue t).run P w= .ok v w:=by simp[zeroValue,typeInfo,h,hz]
theorem aaN{k:TK}{d:TypeDesc}(h:b9 k d=true)(w:World){t:TypeId}(ht:P.underlying t=some d):(isAgg t).run P w= .ok k.isAgg w:=by
 cases k<;>cases d<;>first|(simp[b9]at h;done)|simp[isAgg,bt ht,TK.isAgg]
theorem tP{e:Nat}{d:TypeDesc}(h:b9 (.slice e) d=true):d= .slice e:=by
 cases d<;>simp[b9]at h;rw[h]
theorem atC{e:Nat}{d:TypeDesc}(h:b9 (.ptr e) d=true):d= .pointer e:=by
 cases d<;>simp[b9]at h;rw[h]
theorem agz{m e:Nat}{d:TypeDesc}(h:b9 (.array m e) d=true):d= .array m e:=by
 cases d<;>simp[b9]at h;rw[h.1,h.2]
theorem VX{k e:Nat}{d:TypeDesc}(h:b9 (.map k e) d=true):d= .map k e:=by
 cases d<;>simp[b9]at h;rw[h.1,h.2]
theorem adp{d:TypeDesc}(h:b9 .bool d=true):d= .bool:=by cases d<;>simp[b9]at h;rfl
theorem Cu{a b:IntKind}(h:Lu a b=true):a=b:=by
 unfold Lu at h;split at h
 . assumption
 . cases h
theorem VY{k:IntKind}{d:TypeDesc}(h:b9 (.int k) d=true):d= .int k:=by
 cases d<;>simp[b9]at h;rw[Cu h]
theorem vu{d:TypeDesc}(h:b9 .string d=true):d= .string:=by cases d<;>simp[b9]at h;rfl
theorem NI{fs:List (Nat×Nat×Bool)}{d:TypeDesc}(h:b9 (.struct fs) d=true):∃gs,d= .struct gs/\b9.fk fs gs.toList=true:=by
 cases d<;>simp[b9]at h;exact⟨_,rfl,h⟩
theorem arV{d:TypeDesc}(h:b9 .func d=true):∃a b c,d= .func a b c:=by
 cases d<;>simp[b9]at h;exact⟨_,_,_,rfl⟩
theorem ao1{d:TypeDesc}(h:b9 .iface d=true):∃a,d= .interface a:=by
 cases d<;>simp[b9]at h;exact⟨_,rfl⟩
theorem qH{α:Type}:∀(l:List α)(i:Nat),nth l i=l[i]?
 |[],_=>by simp[nth]
 |_::_,0=>rfl
 |_::l,i+1=>by simp[nth,qH l i]
theorem RP:∀{fs:List (Nat×Nat×Bool)}{gs:List Field}{i:Nat}{x:Nat×Nat×Bool},b9.fk fs gs=true->nth fs i=some x->
  ∃f,gs[i]? =some f/\f.offset=x.1/\f.type=x.2.1/\(f.name != "_")=x.2.2
 |[],_,i,_,_,h=>by simp[nth]at h
 |(off,t,named)::l,[],i,_,h,_=>by simp[b9.fk]at h
 |(off,t,named)::l,f::l',0,x,h,hx=>by
  simp[b9.fk]at h;simp[nth]at hx;subst hx;exact⟨f,rfl,h.1.1.1.symm,h.1.1.2.symm,h.1.2.symm⟩
 |(off,t,named)::l,f::l',i+1,x,h,hx=>by
  simp[b9.fk]at h;simp[nth]at hx;obtain⟨f',h1,h2⟩:=RP h.2 hx;exact⟨f',by simpa using h1,h2⟩
theorem Lz{v:Value}{a:AV}(h:RF v=some a):aD ρ n C a v:=by
 unfold RF at h
 split at h<;>first
   |(cases h;done)
   |(simp only[H5]at h;subst h)
 . exact .bool _
 . exact .int _ _
 . exact .str _ _ rfl
 . exact .ju
 . exact .af
 . exact .qE
 . exact .func _ _ _ _ _ rfl rfl (λ_ _ _ h=>by simp at h) (λ_ _ _ h=>by simp at h)
 . exact .iI
 . exact .BW
theorem xe:∀{l:List Value}{as:List AV},sQ l=some as->aL ρ n C as l
 |[],as,h=>by simp[sQ]at h;subst h;exact aL.nil
 |v ::l,as,h=>by
  unfold sQ at h;split at h
  . rename_i a as' h1 h2;simp only[H5]at h;subst h;exact aL.cons (Lz h1) (xe h2)
  . cases h
theorem ai6{v:Value}{a:AV}(h:adm v=some a):aD ρ n C a v:=by
 unfold adm at h;split at h
 . split at h
   . rename_i l hl;simp only[H5]at h;subst h;exact .PY (xe hl)
   . cases h
 . exact Lz h
theorem B4{x:Operand}{o:ij}{fr:Fr}{a:Act}{v:AV}(h:uD x=some o)(hF:kY ρ n C fr a.tmps)(hv:He fr o=some v):aD ρ n C v (a.eval x):=by
 unfold uD at h;split at h
 . rename_i t;simp only[H5]at h;subst h;obtain⟨y,hy,hr⟩:=hF _ _ hv;rw[iQ,Zh3]at hy;simp only[Act.eval,Zl7,hy,Ze9];exact hr
 . split at h
   . rename_i c hc;simp only[H5]at h;subst h;simp only[He,H5]at hv;subst hv;exact ai6 hc
   . cases h
 . rename_i f;simp only[H5]at h;subst h;simp only[He,H5]at hv;subst hv;exact .func _ _ _ _ _ rfl rfl (λ_ _ _ h=>by simp at h) (λ_ _ _ h=>by simp at h)
 . cases h
theorem iR:∀{xs:List Operand}{os:List ij}{fr:Fr}{a:Act}{vs:List AV},mE xs=some os->kY ρ n C fr a.tmps->fU fr os=some vs->aL ρ n C vs (xs.map a.eval)
 |[],os,fr,a,vs,h,_,hv=>by simp[mE]at h;subst h;simp[fU]at hv;subst hv;exact aL.nil
 |x ::xs,os,fr,a,vs,h,hF,hv=>by
  unfold mE at h;split at h
  . rename_i o os' h1 h2;simp only[H5]at h;subst h;unfold fU at hv;split at hv
    .   rename_i v hv1;split at hv
        . rename_i vs' P5;simp only[H5]at hv;subst hv;exact aL.cons (B4 h1 hF hv1) (iR h2 hF P5)
        . cases hv
    .   cases hv
  . cases h
theorem lM{x:Operand}{o:ij}{fr:Fr}{a:Act}{vs:List AV}(h:uD x=some o)(hF:kY ρ n C fr a.tmps)(hv:fU fr [o]=some vs):
   ∃v,vs=[v]/\aD ρ n C v (a.eval x):=by
 unfold fU at hv;split at hv
 . rename_i v hv1;simp only[fU,H5]at hv;subst hv;exact⟨v,rfl,B4 h hF hv1⟩
 . cases hv
end
def Yields(N:Next)(x:Value):Prop:=N= .value x\/(N= .skip/\x=undef)
def GN(P:Program)(ρ:Pos->Loc)(C:Cells)(st:St)(w:World)(r:Result Next):eI->Prop
 | .val v=>∃N x,r= .ok N w/\Yields N x/\aD ρ st.next.toNat C v x
 | .bh v del set new=>∃N x w' ρ',r= .ok N w'/\Yields N x/\(∀b:Pos,b.toNat<st.next.toNat->ρ' b=ρ b)/\cq ρ' C (st.bh del set new) w'/\
  aD ρ' (st.bh del set new).next.toNat C v x/\qi ρ st w ρ' (st.bh del set new) w'
 | .call f args=>∃cL:List Value,r=(callFunc f cL.toArray).run P w/\aL ρ st.next.toNat C args cL
end
section
open Go Go.RowKit
theorem uF(b o i:Nat):(⟨b,o,none⟩:Addr).add i=⟨b,o+i,none⟩:=by
 unfold Addr.add;split
 . rename_i h;subst h;rfl
 . rfl
section
variable{P : Program}{ρ ρ' : Pos -> Loc}{C : Cells}{st : St}{w w' : World}
theorem cq.akK(hW:cq ρ C st w){akL:T AB}{next' b0:Pos}{x0:AB}
  (hn:st.next.toNat<=next'.toNat) (yJ:b0.toNat<next'.toNat) (auz:akL.get b0=some x0)
  (RT:∀b x,b≠b0->akL.get b=some x->st.heap.get b=some x/\(ρ b).aN≠(ρ' b0).aN)
  (bF:∀b:Pos,b.toNat<st.next.toNat->ρ' b=ρ b)
  (hB:tO ρ' next'.toNat C (ρ' b0) w' x0)
  (Ff:∀a v,C a=some v->a.block≠(ρ' b0).aN)
  (aV:(ρ' b0).aN<w'.heap.size) (akM:w.heap.size<=w'.heap.size)
  (VZ:∀k,k<w.heap.size->k≠(ρ' b0).aN->w'.heap[k]? =w.heap[k]?):
  cq ρ' C ⟨akL,next'⟩ w' where
 live b x hb:=by
  by_cases h:b=b0
  .  subst h;rw[auz]at hb;cases hb;exact⟨yJ,aV,hB⟩
  .  obtain⟨h1,h2⟩:=RT b x h hb;obtain⟨h3,h4,h5⟩:=hW.live b x h1;rw[bF b h3];exact⟨Zd0 h3 hn,Zd0 h4 akM,(h5.mono bF hn).of_heap (VZ _ h4 h2)⟩
 inj b  b' x x' hb dZ he:=by
  by_cases h:b=b0
  .  subst h;by_cases h':b'=b
     .  exact h'.symm
     .  obtain⟨h1,h2⟩:=RT b' x' h' dZ;rw[bF b' (hW.live b' x' h1).1]at he;exact absurd he.symm h2
  .  obtain⟨h1,h2⟩:=RT b x h hb;rw[bF b (hW.live b x h1).1]at he;by_cases h':b'=b0
     .  subst h';exact absurd he h2
     .  obtain⟨h1',h2'⟩:=RT b' x' h' dZ;rw[bF b' (hW.live b' x' h1').1]at he;exact hW.inj b b' x x' h1 h1' he
 eD a v ha:=by
  obtain⟨h1,h2⟩:=hW.eD a v ha;have ao2:a.block<w.heap.size:=World.block_lt_of_cell? _ _ h1;refine⟨?_,λb x hb=> ?_⟩
  .  rw[World.cell?_of_block (w:=w) (VZ _ ao2 (Ff a v ha))];exact h1
  .  by_cases h:b=b0
     .  subst h;exact λe=>Ff a v ha e.symm
     .  obtain⟨h3,_⟩:=RT b x h hb;rw[bF b (hW.live b x h3).1];exact h2 b x h3
 whole a v ha o ho:=by have rI:a.block<w.heap.size:=World.block_lt_of_cell? _ _ (hW.eD a v ha).1;rw[World.cell?_of_block (w:=w) (a:=⟨a.block,o,none⟩) (VZ _ rI (Ff a v ha))];exact hW.whole a v ha o ho
theorem cq.cell(hW:cq ρ C st w){b:Pos}{cs:List AV}{fz:Nat}(hb:st.heap.get b=some (.cells cs fz)){i:Nat}{v:AV}(hv:cs[i]? =some v):
  ∃x,w.cell? ⟨(ρ b).aN,(ρ b).base+i,none⟩=some x/\aD ρ st.next.toNat C v x:=by
 obtain⟨_,_,c,e,fr,h1,h2,h3,h4,_⟩:=hW.live b _ hb;obtain⟨x,hx,hr⟩:=h4.get hv;have hi:i<cs.length:=(Za1.1 hv).1;rw[Zd5,Zb3 hi,Ze5]at hx;exact⟨x,by simp[World.cell?,h1, <-hx],hr⟩
theorem abN{α:Type}{l l':List α}{i n:Nat}(h:cut l i n=some l'):l'=(l.drop i).take n/\i+n<=l.length:=by
 unfold cut at h;split at h
 . rename_i hb;cases h;exact⟨rfl,Zb2 hb⟩
 . cases h
theorem RU{α:Type}{l l':List α}{i n:Nat}(h:cut l i n=some l'):l'.length=n:=by obtain⟨rfl,h2⟩:=abN h;simp;omega
theorem cq.loadCells(hW:cq ρ C st w){b:Pos}{cs vs:List AV}{fz off n:Nat}(hb:st.heap.get b=some (.cells cs fz))(hc:cut cs off n=some vs):
  ∃ys:List Value,(Go.loadCells ⟨(ρ b).aN,(ρ b).base+off,none⟩ n).run P w= .ok ys.toArray w/\aL ρ st.next.toNat C vs ys:=by
 obtain⟨_,_,c,e,fr,h1,h2,h3,h4,_⟩:=hW.live b _ hb;obtain⟨Dg,hle⟩:=abN hc;have hr:=(h4.drop off).take n;rw[<-Dg]at hr;refine⟨_,?_,hr⟩;have hlen:(List.take n (List.drop off (List.take cs.length (List.drop (ρ b).base c.toList)))).length=n:=by rw[<-hr.1];exact RU hc
 conv=>lhs;rw[<-hlen]
 refine run_loadCells_list w _ _ λj v hj=> ?_
 have LA:j<n:=by rw[<-hlen];exact(Za1.1 hj).1
 rw[Zd5,Zb3 LA,Ze5,Zd5,Zb3 (by omega),Ze5]at hj;rw[uF];simp[World.cell?,h1, <-hj,Zj9]
theorem xJ(g e:Nat)(fr:Nat×Nat):∀(vs:List Value)(i o:Nat)(cur:Array Value)(w:World),w.heap[g]? =some (.cells cur e fr)->o+i+vs.length<=cur.size->
  (∀v∈vs,v.oneCell'=true)->(∀k,o+i<=k->k<cur.size->¬(fr.1<=k/\k<fr.2))->
  ∃ w',(storeCells ⟨g,o,none⟩ vs i).run P w= .ok () w'/\w'.heap[g]? =some (.cells (aU cur.toList (o+i) vs).toArray e fr)/\
    w'.heap.size=w.heap.size/\(∀k,k≠g->w'.heap[k]? =w.heap[k]?)/\w'.os=w.os/\w'.tape=w.tape/\w'.output=w.output
 |[],i,o,cur,w,hg,_,_,_=>⟨w,by simp[storeCells],by rw[hg];simp[aU,Zl5],rfl,λ_ _=>rfl,rfl,rfl,rfl⟩
 |v ::vs,i,o,cur,w,hg,hle,h1,hf=>by
  simp only[Zc9]at hle;have hv:v.oneCell'=true:=h1 v (by simp);have KF:w.cell? ⟨g,o+i,none⟩=some (cur[o+i]'(by omega)):=by simp[World.cell?,hg]
  have hfz:w.frozen? ⟨g,o+i,none⟩=false:=by have:=hf (o+i) (Za3 _) (by omega);simp only[World.frozen?,hg];simpa using this
  have Dh:(w.setCell ⟨g,o+i,none⟩ v).heap[g]? =some (.cells (cur.setIfInBounds (o+i) v) e fr):=by
    simp[World.setCell,Zk6,hg]
  obtain⟨w',h2,h3,h4,h5,h6,h7,h8⟩:=xJ g e fr vs (i+1) o _ _ Dh (by simp;omega) (λv hv=>h1 v (by simp[hv])) (by intro k hk uj;simp at uj;exact hf k (by omega) uj);refine⟨w',?_,?_,by simp[h4],λk hk=> ?_,h6,h7,h8⟩
  . simp only[storeCells,Sem.run_bind,uF,run_store P w _ _ _ hv,KF,hfz];simpa using h2
  . rw[h3];congr 2;simp only[aU,Zc9,Zp3];rw[List.drop_set_of_lt (by omega)];have:o+(i+1)=(o+i)+1:=(by omega);rw[this,List.take_set,List.take_add_one];have aV:o+i<cur.toList.length:=(by simp;omega);rw[H0 aV];simp only[Option.toList_some,List.set_append,Zh9];have hm:min (o+i) cur.toList.length=o+i:=Zk8 (Zn1 aV);rw[hm,Za7 (Zo4 _),Zk3];simp;rw[show o+i+1+vs.length=o+i+(vs.length+1)from by omega]
  . rw[h5 k hk,Below.heap_setCell _ _ _ _ (by simpa using hk)]
end
section
variable{P : Program}{tt : TT}{ρ : Pos -> Loc}{C : Cells}{st : St}{w : World}{n : Nat}
theorem Yields.value(x:Value):Yields (.value x) x:= .inl rfl
theorem GN.pure{v:AV}{x:Value}{r:Result Next}(h:r= .ok (.value x) w)(hv:aD ρ st.next.toNat C v x):GN P ρ C st w r (.val v):=
 ⟨_,x,h,Yields.value x,hv⟩
theorem aD.iM{k:IntKind}{i:Int}{x:Value}(h:aD ρ n C (.int k i) x):x= .int k i:=by cases h;rfl
theorem aD.kZ{b:Bool}{x:Value}(h:aD ρ n C (.bool b) x):x= .bool b:=by cases h;rfl
theorem aD.fu{s:List Nat}{x:Value}(h:aD ρ n C (.str s) x):∃bs:ByteArray,x= .string bs/\bs.data.toList.map UInt8.toNat=s:=by
 cases h with|str _ bs h=>exact⟨bs,rfl,h⟩
theorem aD.FT{x:Value}(h:aD ρ n C .ju x):x= .pointer none:=by cases h;rfl
theorem aD.jx{x:Value}(h:aD ρ n C .af x):x= .slice none 0 0:=by cases h;rfl
theorem aD.FU{x:Value}(h:aD ρ n C .qE x):x= .map none:=by cases h;rfl
theorem aD.RV{x:Value}(h:aD ρ n C .iI x):x= .nilFunc:=by cases h;rfl
theorem aD.agA{x:Value}(h:aD ρ n C .BW x):x= .nilIface:=by cases h;rfl
theorem aD.qy{b:Pos}{off:Nat}{x:Value}(h:aD ρ n C (.ptr b off) x):b.toNat<n/\x= .pointer (some ⟨(ρ b).aN,(ρ b).base+off,none⟩):=by
 cases h with|ptr _ _ h=>exact⟨h,rfl⟩
theorem aD.Cv{b:Pos}{x:Value}(h:aD ρ n C (.map b) x):b.toNat<n/\x= .map (some (ρ b).aN):=by
 cases h with|map _ h=>exact⟨h,rfl⟩
theorem aD.aet{t:TypeId}{v:AV}{x:Value}(h:aD ρ n C (.iface t v) x):∃y,x= .iface t y/\aD ρ n C v y:=by
 cases h with|iface _ _ y h=>exact⟨y,rfl,h⟩
theorem aD.gM{b:Pos}{off len es:Nat}{cap:Option Nat}{x:Value}(h:aD ρ n C (.slice b off len cap es) x):
  ∃(a:Addr) (bC:Nat),x= .slice (some a) len bC/\len<=bC/\(∀c,cap=some c->c=bC)/\
   (bC≠0->b.toNat<n/\a=⟨(ρ b).aN,(ρ b).base+off,none⟩/\(ρ b).base+off+bC*es<=(ρ b).size):=by
 cases h with|slice _ _ _ _ _ bC a hl hc ha _=>exact⟨a,bC,rfl,hl,hc,ha⟩
theorem aD.aeu{b:Pos}{off len es:Nat}{cap:Option Nat}{x:Value}(h:aD ρ n C (.slice b off len cap es) x):cap=none->b.toNat<n:=by
 cases h with|slice _ _ _ _ _ _ _ _ _ _ hk=>exact hk
theorem aD.yK{xs:List (List AV)}{es:Nat}{x:Value}(h:aD ρ n C (.fl xs es) x):
  ∃(a:Addr) (bC:Nat) (cell:Nat->Nat->Value),x= .slice (some a) xs.length bC/\xs.length<=bC/\(xs≠[]->a.spot=none)/\
   (∀(i:Nat)(cs:List AV),xs[i]? =some cs->cs.length=es)/\
   (∀(i j:Nat)(cs:List AV)(v:AV),xs[i]? =some cs->cs[j]? =some v->C ⟨a.block,a.off+i*es+j,none⟩=some (cell i j))/\
   (∀(i j:Nat)(cs:List AV)(v:AV),xs[i]? =some cs->cs[j]? =some v->aD ρ n C v (cell i j)):=by
 cases h with|fl _ _ bC a cell hl hs dY hc hv=>exact⟨a,bC,cell,rfl,hl,hs,dY,hc,hv⟩
theorem aD.P6{xs:List (List AV)}{i j:Nat}{x:Value}(h:aD ρ n C (.fp xs i j) x):
  ∃(es aN base:Nat) (cell:Nat->Nat->Value),x= .pointer (some ⟨aN,base+i*es+j,none⟩)/\
   (∀(i:Nat)(cs:List AV),xs[i]? =some cs->cs.length=es)/\
   (∀(i j:Nat)(cs:List AV)(v:AV),xs[i]? =some cs->cs[j]? =some v->C ⟨aN,base+i*es+j,none⟩=some (cell i j))/\
   (∀(i j:Nat)(cs:List AV)(v:AV),xs[i]? =some cs->cs[j]? =some v->aD ρ n C v (cell i j)):=by
 cases h with|fp _ _ _ es aN base cell hl hc hv=>exact⟨es,aN,base,cell,rfl,hl,hc,hv⟩
theorem yL(k:IntKind)(i:Int):ax k i=k.wrap i:=by
 unfold ax;split
 . rename_i h1 _;split
   . rename_i h2 _;cases k<;>simp only[loI,hiI]at h1 h2<;>simp only[IntKind.wrap,IntKind.bits,IntKind.signed]<;>simp<;>omega
   . rfl
 . rfl
theorem mG(a b:Int):zO a b=(a==b):=by
 unfold zO;split
 . rename_i h _;subst h;simp
 . rename_i h _;simp[h]
theorem fj(a b:Int):BJ a b=decide (a<b):=by
 unfold BJ;split<;>(rename_i h _;simp[h])
theorem lf(a b:Int):af4 a b=decide (a<=b):=by
 unfold af4;split<;>(rename_i h _;simp[h])
theorem mH:∀{a b:List Nat},kA a b=true↔a=b
 |[],[]=>by simp[kA]
 |[],_::_=>by simp[kA]
 |_::_,[]=>by simp[kA]
 |a::x,b::y=>by
  unfold kA;split
  . rename_i h;have:=Za6 h;subst this;simp[mH (a:=x) (b:=y)]
  . rename_i h;have:=Ze8 h;simp[this]
theorem P7:∀{a b:List UInt8},a.map UInt8.toNat=b.map UInt8.toNat->a=b
 |[],[],_=>rfl
 |[],_::_,h=>by simp at h
 |_::_,[],h=>by simp at h
 |a::x,b::y,h=>by
  simp at h;rw[Zq6.1 h.1,P7 h.2]
theorem toList_data(b:ByteArray):b.toList=b.data.toList:=ByteArray.toList_eq b
theorem xC:∀(x y:List UInt8),aO (x.map UInt8.toNat) (y.map UInt8.toNat)=Op.bytesLess x y
 |[],[]=>by simp[aO,Op.bytesLess]
 |_::_,[]=>by simp[aO,Op.bytesLess]
 |[],_::_=>by simp[aO,Op.bytesLess]
 |a ::x,b::y=>by
  simp only[Zd2,aO,Op.bytesLess];split
  . rename_i h;have:a<b:=(by rw[Zn9];simpa using h);simp[this]
  . (rename_i h;have h1:¬a<b:=by rw[Zn9];intro h';have h2:Nat.blt a.toNat b.toNat=true:=(by simpa using h');rw[h2]at h;cases h);split
    .   rename_i h2;have:a=b:=Zq6.1 (Za6 h2);subst this;simp only[h1,Zp2,Zp8,beq_self_eq_true,Zf6];exact xC x y
    .   (rename_i h2;have:a≠b:=λe=>Ze8 h2 (by rw[e]));simp[h1,this]
theorem P8{a b:List Nat}{x y:ByteArray}(hx:x.data.toList.map UInt8.toNat=a)(hy:y.data.toList.map UInt8.toNat=b):(x.toList==y.toList)=kA a b:=by
 rw[toList_data,toList_data,Zm6,mH,beq_iff_eq, <-hx, <-hy];exact⟨λh=>by rw[h],λh=>P7 h⟩
theorem aaO{a b:List Nat}{x y:ByteArray}(hx:x.data.toList.map UInt8.toNat=a)(hy:y.data.toList.map UInt8.toNat=b):Op.bytesLess x.toList y.toList=aO a b:=by
 rw[toList_data,toList_data, <-hx, <-hy,xC]
theorem LB{a:List Nat}{x:ByteArray}(hx:x.data.toList.map UInt8.toNat=a):x.size=a.length:=by rw[<-hx,Za5,Zi6];rfl
def PK.fits:PK->TypeDesc->Bool
 | .b,.bool=>true
 | .i,.int _=>true
 | .s,.string=>true
 |_,_=>false
theorem agB{t:TypeId}{d:TypeDesc}(hd:P.underlying t=some d){pk:PK}(hk:pk.fits d=true){a b:AV}{x y:Value}{r:Bool}{m:Nat}
   (ha:aD ρ n C a x) (hb:aD ρ n C b y) (h:AD pk a b=some r) (w:World):(Op.equalIn (m+1) t x y).run P w= .ok r w:=by
 unfold AD at h;split at h
 . simp only[H5]at h;subst h;rw[ha.kZ,hb.kZ];cases d<;>simp[PK.fits]at hk;rw[run_equalIn_bool' w m t _ _ hd]
 . split at h
   . rename_i uj;have:=Cu uj;subst this;simp only[H5]at h;subst h;rw[ha.iM,hb.iM];cases d<;>simp[PK.fits]at hk;rw[run_equalIn_int w m t _ _ _ _ hd,mG]
   . cases h
 . simp only[H5]at h;subst h;obtain⟨bx,rfl,h1⟩:=ha.fu;obtain⟨bz,rfl,h2⟩:=hb.fu;cases d<;>simp[PK.fits]at hk;rw[run_equalIn_string w m t _ _ hd,P8 h1 h2]
 . cases h
theorem V8:∀{fs:List (Nat×Nat×Bool)}{l:List (Nat×PK)}{gs:List Field}{xs ys:List AV}{cx cy:Array Value}{r:Bool}{m:Nat}(_hT:di P tt)
  (_hm:b9.fk fs gs=true) (_hf:Dd.fields tt fs=some l) (_hx:aL ρ n C xs cx.toList) (_hy:aL ρ n C ys cy.toList) (_h:eqFields xs ys l=some r) (w:World),
  (Op.eqFields (m+1) cx cy gs).run P w= .ok r w
 |[],l,gs,xs,ys,cx,cy,r,m,hT,hm,hf,hx,hy,h,w=>by
  cases gs with
  |cons f gs=>simp[b9.fk]at hm
  | nil=>
    simp[Dd.fields]at hf;subst hf;simp[eqFields]at h;subst h;simp[Op.eqFields]
 |(off  , t,named)::fs,l,gs,xs,ys,cx,cy,r,m,hT,hm,hf,hx,hy,h,w=>by
  cases gs with
  |nil=>simp[b9.fk]at hm
  | cons f gs=>
    simp[b9.fk]at hm;obtain⟨⟨⟨ho,ht⟩,hn⟩,hm'⟩:=hm;unfold Dd.fields at hf;(split at hf<;>first|(cases hf;done)|skip);rename_i ti l' gI hl';obtain⟨d,hd,dM⟩:=(hT.at gI).und;have key:∃pk,l=(off,pk)::l'/\pk.fits d=true/\(isAgg t).run P w= .ok false w:=by
        have ye:=aaN dM w hd;split at hf<;>first|(cases hf;done)|skip
        all_goals
          rename_i hk;simp only[H5]at hf;rw[hk]at dM ye;refine⟨_,hf.symm,?_,ye⟩
        . rw[adp dM];rfl
        . rw[VY dM];rfl
        . rw[vu dM];rfl
    obtain⟨pk,rfl,FV,ye⟩:=key;have cZ:f.name≠ "_" :=(by intro e;rw[e]at hn;simp at hn);unfold eqFields at h;(split at h<;>first|(cases h;done)|skip);rename_i a b ha hb;rw[qH]at ha hb;obtain⟨x,hx1,ZQ⟩:=hx.get ha;obtain⟨y,V9,hy2⟩:=hy.get hb;have px:(part f.type cx f.offset).run P w= .ok x w:=by
        rw[<-ht, <-ho];simp at hx1;simp[part,ye,hx1]
    have py:(part f.type cy f.offset).run P w= .ok y w:=by
        rw[<-ht, <-ho];simp at V9;simp[part,ye,V9]
    simp only[Op.eqFields,Sem.run_bind,Sem.run_ite,cZ,px,py,Result.andThen_ok,ne_eq,not_false_eq_true,Zh7];split at h
    .   rename_i he;rw[<-ht,agB hd FV ZQ hy2 he w];simpa using V8 (m:=m) hT hm' hl' hx hy h w
    .   rename_i he;simp only[H5]at h;subst h;rw[<-ht,agB hd FV ZQ hy2 he w];simp
    .   cases h
def aro(tt:TT)(op:BinOp)(q:gZ)(t:TypeId):Prop:=Dd tt t=some q\/(q= .num/\op≠ .eql/\op≠ .neq)
def auA(P:Program)(tt:TT)(t:TypeId):gZ->Prop
 | .num=>True
 | .bool=>P.underlying t=some .bool
 | .ptr=>∃e,P.underlying t=some (.pointer e)/\∃j,P.info? e=some j
 | .slice=>∃e,P.underlying t=some (.slice e)
 | .map=>∃k e,P.underlying t=some (.map k e)
 | .func=>∃a b c,P.underlying t=some (.func a b c)
 | .iface=>∃a,P.underlying t=some (.interface a)
 | .struct l=>∃fs gs,P.underlying t=some (.struct gs)/\b9.fk fs gs.toList=true/\Dd.fields tt fs=some l/\P.stoodInHeld t=false/\P.eqGuardType P.depth t=false
theorem ajP(hT:di P tt){t:TypeId}{q:gZ}(hq:Dd tt t=some q):auA P tt t q:=by
 unfold Dd at hq;split at hq<;>first|(cases hq;done)|skip
 rename_i ti gI;obtain⟨d,hd,dM⟩:=(hT.at gI).und;split at hq<;>first|(cases hq;done)|skip
 all_goals rename_i hk
 all_goals rw[hk]at dM
 . simp only[H5]at hq;subst hq;rw[adp dM]at hd;exact hd
 . simp only[H5]at hq;subst hq;trivial
 . simp only[H5]at hq;subst hq;trivial
 . simp only[H5]at hq;subst hq;rw[atC dM]at hd;exact⟨_,hd,(hT.at gI).elem _ hk⟩
 . simp only[H5]at hq;subst hq;rw[tP dM]at hd;exact⟨_,hd⟩
 . simp only[H5]at hq;subst hq;rw[VX dM]at hd;exact⟨_,_,hd⟩
 . simp only[H5]at hq;subst hq;obtain⟨_,_,_,rfl⟩:=arV dM;exact⟨_,_,_,hd⟩
 . simp only[H5]at hq;subst hq;obtain⟨_,rfl⟩:=ao1 dM;exact⟨_,hd⟩
 . (split at hq<;>first|(cases hq;done)|skip);rename_i fs _ _ l hp hl;simp only[H5]at hq;subst hq;obtain⟨gs,rfl,hm⟩:=NI dM;exact⟨fs,gs,hd,hm,hl,(hT.at gI).eqs hp⟩
theorem akN(m:Nat)(hT:di P tt){t:TypeId}{q:gZ}(hq:Dd tt t=some q){a b:AV}{x y:Value}{r:Bool}(ha:aD ρ n C a x)(hb:aD ρ n C b y)(h:aaJ q a b=some r)(w:World):
   (Op.equalIn (m+1+1) t x y).run P w= .ok r w:=by
 have hi:=ajP hT hq;clear hq;unfold aaJ at h;split at h<;>first|(cases h;done)|skip
 . simp only[H5]at h;subst h;rw[ha.kZ,hb.kZ,run_equalIn_bool' w _ t _ _ hi]
 all_goals first
   |(simp only[H5]at h;subst h)
   |skip
 . obtain⟨e,hd,_⟩:=hi;rw[ha.FT,hb.FT];(unfold Op.equalIn;rw[Sem.run_bind,bt hd];rfl)
 . obtain⟨e,hd,_⟩:=hi;obtain⟨_,hb⟩:=hb.qy;rw[ha.FT,hb];(unfold Op.equalIn;rw[Sem.run_bind,bt hd];rfl)
 . obtain⟨e,hd,_⟩:=hi;obtain⟨_,ha⟩:=ha.qy;rw[hb.FT,ha];(unfold Op.equalIn;rw[Sem.run_bind,bt hd];rfl)
 . obtain⟨e,hd,_⟩:=hi;obtain⟨_,_,_,_,hb,_⟩:=hb.P6;rw[ha.FT,hb];(unfold Op.equalIn;rw[Sem.run_bind,bt hd];rfl)
 . obtain⟨e,hd,_⟩:=hi;obtain⟨_,_,_,_,ha,_⟩:=ha.P6;rw[hb.FT,ha];(unfold Op.equalIn;rw[Sem.run_bind,bt hd];rfl)
 . obtain⟨e,hd,j,hj⟩:=hi;(split at h<;>first|(cases h;done)|skip);rename_i e1 e2;have e1:=Pos.beq_eq.1 e1;have e2:=Za6 e2;subst e1;subst e2;simp only[H5]at h;subst h;obtain⟨_,ha⟩:=ha.qy;obtain⟨_,hb⟩:=hb.qy;rw[ha,hb];simp[Op.equalIn,bt hd,sizeOf,typeInfo,hj,run_sameAddr_same]
 . obtain⟨e,hd⟩:=hi;rw[ha.jx,hb.jx];(unfold Op.equalIn;rw[Sem.run_bind,bt hd];rfl)
 . obtain⟨e,hd⟩:=hi;obtain⟨_,_,hb,_⟩:=hb.gM;rw[ha.jx,hb];(unfold Op.equalIn;rw[Sem.run_bind,bt hd];rfl)
 . obtain⟨e,hd⟩:=hi;obtain⟨_,_,ha,_⟩:=ha.gM;rw[hb.jx,ha];(unfold Op.equalIn;rw[Sem.run_bind,bt hd];rfl)
 . obtain⟨e,hd⟩:=hi;obtain⟨_,_,_,hb,_⟩:=hb.yK;rw[ha.jx,hb];(unfold Op.equalIn;rw[Sem.run_bind,bt hd];rfl)
 . obtain⟨e,hd⟩:=hi;obtain⟨_,_,_,ha,_⟩:=ha.yK;rw[hb.jx,ha];(unfold Op.equalIn;rw[Sem.run_bind,bt hd];rfl)
 . obtain⟨k,e,hd⟩:=hi;rw[ha.FU,hb.FU];(unfold Op.equalIn;rw[Sem.run_bind,bt hd];rfl)
 . obtain⟨k,e,hd⟩:=hi;obtain⟨_,hb⟩:=hb.Cv;rw[ha.FU,hb];(unfold Op.equalIn;rw[Sem.run_bind,bt hd];rfl)
 . obtain⟨k,e,hd⟩:=hi;obtain⟨_,ha⟩:=ha.Cv;rw[hb.FU,ha];(unfold Op.equalIn;rw[Sem.run_bind,bt hd];rfl)
 . obtain⟨_,_,_,hd⟩:=hi;rw[ha.RV,hb.RV];(unfold Op.equalIn;rw[Sem.run_bind,bt hd];rfl)
 . obtain⟨_,_,_,hd⟩:=hi;obtain⟨_,_,hb,_⟩:=hb.RH;rw[ha.RV,hb];(unfold Op.equalIn;rw[Sem.run_bind,bt hd];rfl)
 . obtain⟨_,_,_,hd⟩:=hi;obtain⟨_,_,ha,_⟩:=ha.RH;rw[hb.RV,ha];(unfold Op.equalIn;rw[Sem.run_bind,bt hd];rfl)
 . obtain⟨_,hd⟩:=hi;obtain⟨_,hb,_⟩:=hb.aet;rw[ha.agA,hb];(unfold Op.equalIn;rw[Sem.run_bind,bt hd];rfl)
 . obtain⟨_,hd⟩:=hi;obtain⟨_,ha,_⟩:=ha.aet;rw[hb.agA,ha];(unfold Op.equalIn;rw[Sem.run_bind,bt hd];rfl)
 . obtain⟨fs,gs,hd,hm,hl,hp,_⟩:=hi;obtain⟨cx,rfl,hx⟩:=ha.FQ;obtain⟨cy,rfl,hy⟩:=hb.FQ;have hfo:P.fieldsOf t=gs:=(by simp[Program.fieldsOf,hd]);rw[run_equalIn_agg w (m+1) t cx cy (by rw[hfo,hd]) hp,hfo];exact V8 (m:=m) hT hm hl hx hy h w
theorem agC(hT:di P tt){t:TypeId}{q:gZ}(hq:Dd tt t=some q){a b:AV}{x y:Value}{r:Bool}(ha:aD ρ n C a x)(hb:aD ρ n C b y)(h:aaJ q a b=some r)(w:World):
 (Op.equal t x y).run P w= .ok r w:=akN 9998 hT hq ha hb h w
theorem abO(hT:di P tt){t:TypeId}{q:gZ}(hq:Dd tt t=some q){a b:AV}{x y:Value}{r:Bool}(ha:aD ρ n C a x)(hb:aD ρ n C b y)(h:aaJ q a b=some r)(op:BinOp)(ox oy:Operand)(w:World):
  (eqGuard op t ox oy x y).run P w= .ok () w:=by
 have hi:=ajP hT hq;clear hq;unfold aaJ at h;split at h<;>first|(cases h;done)|skip
 all_goals first
  |(obtain⟨fs,gs,hd,hm,hl,hp,hg⟩:=hi
    obtain⟨cx,rfl,hx⟩:=ha.FQ;obtain⟨cy,rfl,hy⟩:=hb.FQ;exact run_eqGuard_agg w op t ox oy cx cy hg)
  |(cases ha<;>cases hb<;>cases op<;>rfl)
end
section
variable{P : Program}{tt : TT}{ρ : Pos -> Loc}{C : Cells}{st : St}{w : World}{n : Nat}
theorem afp(op:BinOp)(t:TypeId)(k:IntKind)(i j:Int)(hs:op≠ .shl)(hr:op≠ .shr):(binOp op t (.int k i) (.int k j)).run P w=
  (match op with
   | .add| .sub| .mul=>Op.intArith op k i j
   | .quo| .rem=>Op.intDiv op k i j
   | .and| .or| .xor| .andNot=>Op.intBits op k i j
   |_=>Op.intCmp op i j).run P w:=by
 cases op<;>first|(exact absurd rfl hs)|(exact absurd rfl hr)|simp[binOp]
theorem ao3(hT:di P tt){op:BinOp}{t:TypeId}{q:gZ}(hq:aro tt op q t){a b v:AV}{x y:Value}(ha:aD ρ n C a x)(hb:aD ρ n C b y)(h:oW op q a b=some v)(ox oy:Operand):
  ∃z,(do eqGuard op t ox oy x y;binOp op t x y:Sem Value).run P w= .ok z w/\aD ρ n C v z:=by
 unfold oW at h;split at h
 ·
  rename_i k i k' j;rw[ha.iM,hb.iM];have hg:∀op,(eqGuard op t ox oy (.int k i) (.int k' j)).run P w= .ok () w:=by intro op;cases op<;>rfl
  rw[Sem.run_bind,hg,Result.andThen_ok];split at h
  . split at h
    .   cases h
    .   rename_i aV;rw[fj]at aV;have aV:=Zm7 aV;simp only[H5]at h;subst h;exact⟨_,by simp[binOp,Op.shift,aV,yL],.int _ _⟩
  . split at h
    .   cases h
    .   rename_i aV;rw[fj]at aV;have aV:=Zm7 aV;simp only[H5]at h;subst h;exact⟨_,by simp[binOp,Op.shift,aV],.int _ _⟩
  . rename_i hs hr;split at h
    .   cases h
    .   rename_i hk;have:=Cu hk;subst this;rw[afp op t k i j (λe=>hs e) (λe=>hr e)];split at h
        . simp only[H5]at h;subst h;exact⟨_,by simp[Op.intArith,yL],.int _ _⟩
        . simp only[H5]at h;subst h;exact⟨_,by simp[Op.intArith,yL],.int _ _⟩
        . simp only[H5]at h;subst h;exact⟨_,by simp[Op.intArith,yL],.int _ _⟩
        . split at h
          . cases h
          . (rename_i h0;rw[mG]at h0;have h0':¬j=0:=by simpa using h0);simp only[H5]at h;subst h;exact⟨_,by simp[Op.intDiv,h0',yL],.int _ _⟩
        . split at h
          . cases h
          . (rename_i h0;rw[mG]at h0;have h0':¬j=0:=by simpa using h0);simp only[H5]at h;subst h;exact⟨_,by simp[Op.intDiv,h0'],.int _ _⟩
        . simp only[H5]at h;subst h;exact⟨_,by simp[Op.intBits],.int _ _⟩
        . simp only[H5]at h;subst h;exact⟨_,by simp[Op.intBits],.int _ _⟩
        . simp only[H5]at h;subst h;exact⟨_,by simp[Op.intBits],.int _ _⟩
        . simp only[H5]at h;subst h;exact⟨_,by simp[Op.intBits],.int _ _⟩
        . simp only[H5]at h;subst h;exact⟨_,by simp[Op.intCmp,mG],.bool _⟩
        . simp only[H5]at h;subst h;refine⟨_,rfl,?_⟩;rw[mG];exact .bool _
        . simp only[H5]at h;subst h;refine⟨_,rfl,?_⟩;rw[fj];exact .bool _
        . simp only[H5]at h;subst h;refine⟨_,rfl,?_⟩;rw[lf];exact .bool _
        . simp only[H5]at h;subst h;refine⟨_,rfl,?_⟩;rw[fj];exact .bool _
        . simp only[H5]at h;subst h;refine⟨_,rfl,?_⟩;rw[lf];exact .bool _
        . cases h
 ·
  rename_i s u;obtain⟨bx,rfl,h1⟩:=ha.fu;obtain⟨bz,rfl,h2⟩:=hb.fu;have hg:∀op,(eqGuard op t ox oy (.string bx) (.string bz)).run P w= .ok () w:=by intro op;cases op<;>rfl
  rw[Sem.run_bind,hg,Result.andThen_ok];have hs:(binOp op t (.string bx) (.string bz)).run P w=(Op.stringOp op bx bz).run P w:=by cases op<;>rfl
  rw[hs];have e1:=P8 h1 h2;have e2:=aaO h1 h2;split at h
  . split at h
    .   rename_i hb;have hb:=Zb2 hb;simp only[H5]at h;subst h;have nG:¬(((bx.size+bz.size:Nat):Int)>IntKind.i64.max):=(by rw[LB h1,LB h2];simp[IntKind.max,IntKind.signed,IntKind.bits];omega);refine⟨.string (bx++bz),?_,.str _ _ ?_⟩
        . simp only[Op.stringOp];rw[Za7 nG];rfl
        . rw[ByteArray.data_append,Array.toList_append,Zc8,h1,h2]
    .   cases h
  all_goals first|(cases h;done)|skip
  all_goals
    simp only[H5]at h;subst h;refine⟨_,rfl,?_⟩
    first|rw[e1,e2]|rw[e1]|rw[e2]
    exact .bool _
 ·
  rename_i hni hns;have af7:∀op,(op= .eql\/op= .neq)->(binOp op t x y).run P w=((Op.equal t x y).run P w).andThen λr w'=> .ok (.bool (if op= .eql then r else !r)) w':=by
    rintro op (rfl|rfl)
    all_goals
        cases ha<;>cases hb<;>first
          |(exact(hni _ _ _ _ rfl rfl).elim)
          |(exact(hns _ _ rfl rfl).elim)
          |simp[binOp]
  split at h
  . split at h
    .   rename_i r hr;simp only[H5]at h;subst h;rcases hq with hq|⟨_,hq,_⟩
        . refine⟨.bool r,?_,.bool r⟩;rw[Sem.run_bind,abO hT hq ha hb hr,Result.andThen_ok,af7 _ (.inl rfl),agC hT hq ha hb hr];rfl
        . exact absurd rfl hq
    .   cases h
  . split at h
    .   rename_i r hr;simp only[H5]at h;subst h;rcases hq with hq|⟨_,_,hq⟩
        . refine⟨.bool (!r),?_,.bool _⟩;rw[Sem.run_bind,abO hT hq ha hb hr,Result.andThen_ok,af7 _ (.inr rfl),agC hT hq ha hb hr];rfl
        . exact absurd rfl hq
    .   cases h
  . cases h
end
def fy(P:Program)(tt:TT)(op:Op):Prop:=
 ∀  (ρ:Pos->Loc)(C:Cells)(st:St)(w:World)(k:aF)(xs:List ij)(cls:Cls)(fr:Fr)(a:Act)(o:Oper)(vs:List AV)(res:eI),
    o.op=op->ku tt op=some (k,xs,cls)->cq ρ C st w->kY ρ st.next.toNat C fr a.tmps->fU fr xs=some vs->
    k.run (λb=>st.heap.get b) st.next vs=some res->GN P ρ C st w ((execOp a.eval o).run P w) res
section
variable{P : Program}{tt : TT}
theorem adq{ρ:Pos->Loc}{n:Nat}{C:Cells}{x y:Operand}{os:List ij}{fr:Fr}{a:Act}{vs:List AV}(h:mE [x,y]=some os)(hF:kY ρ n C fr a.tmps)(hv:fU fr os=some vs):
  ∃u v,vs=[u,v]/\aD ρ n C u (a.eval x)/\aD ρ n C v (a.eval y):=by
 have h1:=iR h hF hv;cases vs with
 |nil=>have:=h1.1;simp at this
 |cons u vs=>
  cases vs with
  |nil=>have:=h1.1;simp at this
  |cons v vs=>
   cases vs with
   |nil=>exact⟨u,v,rfl,h1.2 0 u _ rfl rfl,h1.2 1 v _ rfl rfl⟩
   |cons z vs=>have:=h1.1;simp at this
theorem evs3{ρ:Pos->Loc}{n:Nat}{C:Cells}{x y z:Operand}{os:List ij}{fr:Fr}{a:Act}{vs:List AV}(h:mE [x,y,z]=some os)(hF:kY ρ n C fr a.tmps)(hv:fU fr os=some vs):
  ∃u v q,vs=[u,v,q]/\aD ρ n C u (a.eval x)/\aD ρ n C v (a.eval y)/\aD ρ n C q (a.eval z):=by
 have h1:=iR h hF hv
 match vs,h1 with
 |[u,v,q],h1=>exact⟨u,v,q,rfl,h1.2 0 u _ rfl rfl,h1.2 1 v _ rfl rfl,h1.2 2 q _ rfl rfl⟩
 |[],h1=>have:=h1.1;simp at this
 |[_],h1=>have:=h1.1;simp at this
 |[_,_],h1=>have:=h1.1;simp at this
 |_::_::_::_::_,h1=>have:=h1.1;simp at this
theorem ao4(x:Operand):fy P tt (.move x):=by
 intro ρ C st w k xs cls fr a o vs res ho hc hW hF hx hr;simp only[ku]at hc;split at hc<;>first|(cases hc;done)|skip
 rename_i b hb;cases hc;obtain⟨v,rfl,hv⟩:=lM hb hF hx;simp only[aF.run,YJ,H5]at hr;subst hr;exact .pure (by simp[execOp,ho]) hv
theorem akO(x:Operand):fy P tt (.assign x):=by
 intro ρ C st w k xs cls fr a o vs res ho hc hW hF hx hr;simp only[ku]at hc;split at hc<;>first|(cases hc;done)|skip
 rename_i b hb;cases hc;obtain⟨v,rfl,hv⟩:=lM hb hF hx;simp only[aF.run,YJ,H5]at hr;subst hr;exact .pure (by simp[execOp,ho]) hv
theorem ao5(c x y:Operand):fy P tt (.pick c x y):=by
 intro ρ C st w k xs cls fr a o vs res ho hc hW hF hx hr;simp only[ku]at hc;split at hc<;>first|(cases hc;done)|skip
 rename_i l hl;cases hc;obtain⟨u,v,q,rfl,h1,h2,h3⟩:=evs3 hl hF hx;simp only[aF.run,adl]at hr;split at hr<;>first|(cases hr;done)|skip
 all_goals
   simp only[H5]at hr;subst hr;have h1:=h1.kZ
 . exact .pure (by simp[execOp,ho,h1,asBool]) h2
 . exact .pure (by simp[execOp,ho,h1,asBool]) h3
theorem amK(hT:di P tt)(op:BinOp)(t:TypeId)(x y:Operand)(yt:TypeId):fy P tt (.binOp op t x y yt):=by
 intro ρ C st w k xs cls fr a o vs res ho hc hW hF hx hr;have key:∃q,aro tt op q t/\k= .bin op q/\mE [x,y]=some xs:=by
  simp only[ku]at hc;split at hc
  . rename_i q l hq hl;cases hc;exact⟨q,.inl hq,rfl,hl⟩
  . rename_i l hq hl;(split at hc<;>first|(cases hc;done)|skip);rename_i h1 h2;cases hc;exact⟨.num,.inr ⟨rfl,λe=>h1 e,λe=>h2 e⟩,rfl,hl⟩
  . cases hc
 obtain⟨q,hq,rfl,hl⟩:=key;obtain⟨u,v,rfl,h1,h2⟩:=adq hl hF hx;simp only[aF.run,jv]at hr;split at hr<;>first|(cases hr;done)|skip
 rename_i r hb;simp only[H5]at hr;subst hr;obtain⟨z,hz,hv⟩:=ao3 hT hq h1 h2 hb x y (w:=w);refine .pure ?_ hv;simp only[execOp,ho];rw[Sem.run_bind,hz];rfl
theorem ao6(op:UnOp)(t:TypeId)(x:Operand):fy P tt (.unOp op t x):=by
 intro ρ C st w k xs cls fr a o vs res ho hc hW hF hx hr;simp only[ku]at hc;split at hc<;>first|(cases hc;done)|skip
 rename_i b hb;cases hc;obtain⟨v,rfl,hv⟩:=lM hb hF hx;simp only[aF.run,akG]at hr;split at hr<;>first|(cases hr;done)|skip
 rename_i r hu;simp only[H5]at hr;subst hr;unfold unA at hu;split at hu
 . (split at hu<;>first|(cases hu;done)|skip);simp only[H5]at hu;subst hu;exact .pure (by simp[execOp,ho,hv.kZ,Op.unary]) (.bool _)
 . (split at hu<;>first|(cases hu;done)|skip);simp only[H5]at hu;subst hu;exact .pure (by simp[execOp,ho,hv.iM,Op.unary,Op.intArith];rfl) (by rw[yL];simpa using aD.int _ _)
 . cases hu
theorem agD(x:Operand):fy P tt (.nilCheck x):=by
 intro ρ C st w k xs cls fr a o vs res ho hc hW hF hx hr;simp only[ku]at hc;split at hc<;>first|(cases hc;done)|skip
 rename_i b hb;cases hc;obtain⟨v,rfl,hv⟩:=lM hb hF hx;simp only[aF.run,OM]at hr;split at hr<;>first|(cases hr;done)|skip
 all_goals simp only[H5]at hr;subst hr
 . obtain⟨_,he⟩:=hv.qy;exact .pure (by simp[execOp,ho,he]) hv
 . obtain⟨_,_,_,_,he,_⟩:=hv.P6;exact .pure (by simp[execOp,ho,he]) hv
 . obtain⟨_,_,he,_⟩:=hv.RH;exact .pure (by simp[execOp,ho,he]) hv
theorem ai7(x:Operand)(i:Nat):fy P tt (.extract x i):=by
 intro ρ C st w k xs cls fr a o vs res ho hc hW hF hx hr;simp only[ku]at hc;split at hc<;>first|(cases hc;done)|skip
 rename_i b hb;cases hc;obtain⟨v,rfl,hv⟩:=lM hb hF hx;simp only[aF.run,KE]at hr;split at hr<;>first|(cases hr;done)|skip
 split at hr<;>first|(cases hr;done)|skip
 rename_i u hu;simp only[H5]at hr;subst hr;obtain⟨cs,he,hs⟩:=hv.VV;rw[qH]at hu;obtain⟨y,hy,Wc⟩:=hs.get hu;exact .pure (by simp at hy;simp[execOp,ho,he,Instr.extract,hy]) Wc
theorem ai8(hT:di P tt)(t:TypeId)(x:Operand):fy P tt (.makeInterface t x):=by
 intro ρ C st w k xs cls fr a o vs res ho hc hW hF hx hr;simp only[ku]at hc;split at hc<;>first|(cases hc;done)|skip
 rename_i ti b gI hb;split at hc<;>first|(cases hc;done)|skip
 rename_i h1 h2;cases hc;obtain⟨v,rfl,hv⟩:=lM hb hF hx;simp only[aF.run,RB,H5]at hr;subst hr;obtain⟨d,hd,hk⟩:=(hT.at gI).und;refine .pure (x:= .iface t (a.eval x)) ?_ (.iface _ _ _ hv);have hni:∀ms,d≠ .interface ms:=by
  rintro ms rfl;cases NJ:ti.k<;>rw[NJ]at hk<;>first|(simp[b9]at hk;done)|(exact h1 NJ)|(exact h2 NJ)
 simp only[execOp,ho,Instr.makeInterface,Sem.run_bind,bt hd,Result.andThen_ok];cases d<;>first|rfl|(exact absurd rfl (hni _))
theorem akP(fn:Fn)(first captured:Array Operand):fy P tt (.makeFunc fn first captured):=by
 intro ρ C st w k xs cls fr a o vs res ho hc hW hF hx hr;simp only[ku]at hc;split at hc<;>first|(cases hc;done)|skip
 rename_i f l hl;cases hc;have h:=iR hl hF hx;simp only[aF.run,G8,H5]at hr;subst hr;have e1:vs.take first.size=vs.take first.size:=rfl
 have h1:=h.take first.size
 have h2:=h.drop first.size
 simp only[Zc8]at h1 h2;rw[Zq7 (by simp)]at h1;rw[List.drop_left' (by simp)]at h2;refine .pure (x:= .func (.func f) (first.map a.eval) (captured.map a.eval)) (by simp[execOp,ho,Instr.makeFunc]) ?_;exact .func _ _ _ _ _ (by simpa using h1.1) (by simpa using h2.1) (λi v v' hv P9=>h1.2 i v v' hv (by simpa using P9)) (λi v v' hv P9=>h2.2 i v v' hv (by simpa using P9))
theorem afq(hT:di P tt)(t:TypeId)(x:Operand)(f:Nat):fy P tt (.fieldAddr t x f):=by
 intro ρ C st w k xs cls fr a o vs res ho hc hW hF hx hr;simp only[ku]at hc;split at hc<;>first|(cases hc;done)|skip
 rename_i ti b gI hb;split at hc<;>first|(cases hc;done)|skip
 rename_i fs hk;split at hc<;>first|(cases hc;done)|skip
 rename_i off ft nm hf;split at hc<;>first|(cases hc;done)|skip
 rename_i fi hfi;split at hc<;>first|(cases hc;done)|skip
 rename_i gU;cases hc;obtain⟨v,rfl,hv⟩:=lM hb hF hx;obtain⟨d,hd,dM⟩:=(hT.at gI).und;rw[hk]at dM;obtain⟨gs,rfl,hm⟩:=NI dM;obtain⟨g,hg,vw,Fg,_⟩:=RP hm hf;simp only at vw Fg;obtain⟨i,hi,vz,_⟩:=(hT.at hfi).info;have hs0:¬i.size=0:=by rw[vz];exact Ze8 gU
 simp only[aF.run,VT]at hr;split at hr<;>first|(cases hr;done)|skip
 . simp only[H5]at hr;subst hr;obtain⟨aV,he⟩:=hv.qy;refine .pure (x:= .pointer (some ⟨(ρ _).aN,(ρ _).base+(_+off),none⟩)) ?_ (.ptr _ _ aV);simp at hg;simp[execOp,ho,he,Instr.fieldAt,bt hd,hg,Instr.sureAddr,fieldPlace,Fg,mF hi,hs0,uF,vw,Zj9]
 . simp only[H5]at hr;subst hr;obtain⟨es,aN,base,cell,he,h1,h2,h3⟩:=hv.P6;rename_i Ct i' j';refine .pure (x:= .pointer (some ⟨aN,base+i'*es+(j'+off),none⟩)) ?_ (.fp _ _ _ es aN base cell h1 h2 h3);simp at hg;simp[execOp,ho,he,Instr.fieldAt,bt hd,hg,Instr.sureAddr,fieldPlace,Fg,mF hi,hs0,uF,vw,Zj9]
theorem mI{ρ:Pos->Loc}{n:Nat}{C:Cells}{v:AV}{x:Value}{i:Nat}(h:aD ρ n C v x)(hi:AE v=some i):∃k,x= .int k (i:Int):=by
 unfold AE at hi;split at hi<;>first|(cases hi;done)|skip
 split at hi<;>first|(cases hi;done)|skip
 simp only[H5]at hi;subst hi;exact⟨_,h.iM⟩
theorem afr(hT:di P tt)(t:TypeId)(x ix:Operand):fy P tt (.indexAddr t x ix):=by
 intro ρ C st w k xs cls fr a o vs res ho hc hW hF hx hr;simp only[ku]at hc;split at hc<;>first|(cases hc;done)|skip
 rename_i ti l gI hl;obtain⟨d,hd,dM⟩:=(hT.at gI).und;obtain⟨u,v,rfl,h1,h2⟩:=adq hl hF (by
   split at hc<;>first|(cases hc;done)|skip
   all_goals
     (split at hc<;>first|(cases hc;done)|skip);cases hc;exact hx)
 split at hc<;>first|(cases hc;done)|skip
 . rename_i e hk;rw[hk]at dM;rw[tP dM]at hd;(split at hc<;>first|(cases hc;done)|skip);rename_i te oK;cases hc;obtain⟨i0,sV,vz,_⟩:=(hT.at oK).info;simp only[aF.run,sH]at hr;(split at hr<;>first|(cases hr;done)|skip);rename_i i hi;obtain⟨kk,Ad⟩:=mI h2 hi;split at hr<;>first|(cases hr;done)|skip
   . rename_i b off len cap es' _;(split at hr<;>first|(cases hr;done)|skip);rename_i aV;have aV:i<len:=(by simpa using aV);simp only[H5]at hr;subst hr;obtain⟨aa,bC,he,hle,_,ha⟩:=h1.gM;obtain⟨hb,rfl,_⟩:=ha (by omega);refine .pure (x:= .pointer (some ⟨(ρ b).aN,(ρ b).base+(off+i*te.size),none⟩)) ?_ (.ptr _ _ hb);simp[execOp,ho,he,Ad,Instr.indexAt,bt hd,asIntOf,aV,mF sV,uF,vz,Zj9]
   . rename_i Ct es' _;(split at hr<;>first|(cases hr;done)|skip);rename_i aV dY;have aV:i<Ct.length:=(by simpa using aV);have dY:te.size=es':=Za6 dY;simp only[H5]at hr;subst hr;obtain⟨aa,bC,cell,he,hle,A7,g1,g2,g3⟩:=h1.yK;have A7:=A7 (by intro e;rw[e]at aV;simp at aV);obtain⟨ab,ao,asp⟩:=aa;simp only at A7;subst A7;refine .pure (x:= .pointer (some ⟨ab,ao+i*es'+0,none⟩)) ?_ (.fp _ _ _ es' ab ao cell g1 g2 g3);simp[execOp,ho,he,Ad,Instr.indexAt,bt hd,asIntOf,aV,mF sV,uF,vz,dY]
   . rename_i hh;cases hh
 . rename_i m e hk;rw[hk]at dM;rw[agz dM]at hd;(split at hc<;>first|(cases hc;done)|skip);rename_i te oK;cases hc;obtain⟨i0,sV,vz,_⟩:=(hT.at oK).info;simp only[aF.run,sH]at hr;(split at hr<;>first|(cases hr;done)|skip);rename_i i hi;obtain⟨kk,Ad⟩:=mI h2 hi;split at hr<;>first|(cases hr;done)|skip
   . rename_i hh;cases hh
   . rename_i hh;cases hh
   . rename_i m' b off hh;cases hh;(split at hr<;>first|(cases hr;done)|skip);rename_i aV;have aV:i<m:=(by simpa using aV);simp only[H5]at hr;subst hr;obtain⟨hb,he⟩:=h1.qy;refine .pure (x:= .pointer (some ⟨(ρ b).aN,(ρ b).base+(off+i*te.size),none⟩)) ?_ (.ptr _ _ hb);simp[execOp,ho,he,Ad,Instr.indexAt,bt hd,asIntOf,aV,mF sV,uF,vz,Zj9,Instr.sureAddr]
end
section
variable{P : Program}{tt : TT}
theorem amL(hT:di P tt)(t:TypeId)(x:Operand)(f:Nat):fy P tt (.field t x f):=by
 intro ρ C st w k xs cls fr a o vs res ho hc hW hF hx hr;simp only[ku]at hc;split at hc<;>first|(cases hc;done)|skip
 rename_i ti b gI hb;split at hc<;>first|(cases hc;done)|skip
 rename_i fs hk;split at hc<;>first|(cases hc;done)|skip
 rename_i off ft nm hf;split at hc<;>first|(cases hc;done)|skip
 rename_i fi hfi;cases hc;obtain⟨v,rfl,hv⟩:=lM hb hF hx;obtain⟨d,hd,dM⟩:=(hT.at gI).und;rw[hk]at dM;obtain⟨gs,rfl,hm⟩:=NI dM;obtain⟨g,hg,vw,Fg,_⟩:=RP hm hf;simp only at vw Fg;obtain⟨i,hi,vz,_⟩:=(hT.at hfi).info;obtain⟨fd,hfd,hfk⟩:=(hT.at hfi).und;have ye:=aaN hfk w hfd;simp only[aF.run,RE]at hr;split at hr<;>first|(cases hr;done)|skip
 rename_i cs;obtain⟨cx,he,hs⟩:=hv.FQ;simp at hg;split at hr
 . rename_i hn;(split at hr<;>first|(cases hr;done)|skip);rename_i u hu;simp only[H5]at hr;subst hr;rw[qH]at hu;obtain⟨y,hy,Wc⟩:=hs.get hu;have akQ:fi.k.isAgg=false:=by
     unfold De at hn;split at hn
     . cases hn
     . assumption
   rw[akQ]at ye;refine .pure (x:=y) ?_ Wc;simp at hy;simp[execOp,ho,he,Instr.field,bt hd,hg,part,Fg,ye,asAgg,vw,hy]
 . rename_i m hn;simp only[H5]at hr;subst hr;have akQ:fi.k.isAgg=true/\m=fi.size:=by
     unfold De at hn;split at hn
     . cases hn;exact⟨by assumption,rfl⟩
     . cases hn
   rw[akQ.1]at ye;refine .pure (x:= .agg (cx.extract off (off+m))) ?_ (.PY ?_)
   . simp[execOp,ho,he,Instr.field,bt hd,hg,part,Fg,ye,asAgg,vw,mF hi,vz,akQ.2]
   . have:=(hs.drop off).take m;simpa [Zo6,List.extract]using this
theorem amM(hT:di P tt)(t:TypeId)(x ix:Operand):fy P tt (.index t x ix):=by
 intro ρ C st w k xs cls fr a o vs res ho hc hW hF hx hr;simp only[ku]at hc;split at hc<;>first|(cases hc;done)|skip
 rename_i ti l gI hl;split at hc<;>first|(cases hc;done)|skip
 rename_i hk;cases hc;obtain⟨u,v,rfl,h1,h2⟩:=adq hl hF hx;obtain⟨d,hd,dM⟩:=(hT.at gI).und;rw[hk]at dM;rw[vu dM]at hd;simp only[aF.run,YK]at hr;split at hr<;>first|(cases hr;done)|skip
 rename_i s i hi;split at hr<;>first|(cases hr;done)|skip
 rename_i c hcx;simp only[H5]at hr;subst hr;obtain⟨bs,he,hs⟩:=h1.fu;obtain⟨kk,Ad⟩:=mI h2 hi;rw[qH, <-hs,Zb4]at hcx;obtain⟨b,hb,hbc⟩:=Zf1.1 hcx;have dZ:bs[i]? =some b:=by
  obtain⟨aV,vC⟩:=Za1.1 hb;have ao2:i<bs.size:=by rw[Zi6]at aV;exact aV
  rw[getElem?_pos bs i ao2];congr 1
 refine .pure (x:= .int .u8 (.ofNat c)) ?_ (.int _ _);simp[execOp,ho,he,Ad,Instr.index,bt hd,asIntOf,dZ, <-hbc]
theorem ao7(hT:di P tt)(t:TypeId)(x:Operand):fy P tt (.load t x):=by
 intro ρ C st w k xs cls fr a o vs res ho hc hW hF hx hr;simp only[ku]at hc;split at hc<;>first|(cases hc;done)|skip
 rename_i ti b gI hb;cases hc;obtain⟨v,rfl,hv⟩:=lM hb hF hx;obtain⟨d,hd,dM⟩:=(hT.at gI).und;obtain⟨i,hi,vz,_⟩:=(hT.at gI).info;have ye:=aaN dM w hd;have hn:(De ti=none/\ti.k.isAgg=false)\/(De ti=some ti.size/\ti.k.isAgg=true):=by unfold De;split<;>simp_all
 simp only[aF.run,zP]at hr;split at hr<;>first|(cases hr;done)|skip
 . rename_i bb off;(split at hr<;>first|(cases hr;done)|skip);rename_i cs fz vC;obtain⟨_,he⟩:=hv.qy;rcases hn with⟨hn,hf⟩|⟨hn,hf⟩
   . rw[hn]at hr;rw[hf]at ye;simp only at hr;(split at hr<;>first|(cases hr;done)|skip);rename_i u hu;simp only[H5]at hr;subst hr;rw[qH]at hu;obtain⟨y,hy,Wc⟩:=hW.cell vC hu;refine .pure (x:=y) ?_ Wc;simp[execOp,ho,he,Instr.loadAt,Instr.sureAddr,loadVar,ye,hy]
   . rw[hn]at hr;rw[hf]at ye;simp only at hr;(split at hr<;>first|(cases hr;done)|skip);rename_i us hu;simp only[H5]at hr;subst hr;obtain⟨ys,hy,Wc⟩:=hW.loadCells (P:=P) vC hu;refine .pure (x:= .agg ys.toArray) ?_ (.PY (by simpa using Wc));simp[execOp,ho,he,Instr.loadAt,Instr.sureAddr,loadVar,ye,mF hi,vz,hy]
 . rename_i Ct i' j';(split at hr<;>first|(cases hr;done)|skip);rename_i cs fC;rw[qH]at fC;obtain⟨es,aN,base,cell,he,g1,g2,g3⟩:=hv.P6;rcases hn with⟨hn,hf⟩|⟨hn,hf⟩
   . rw[hn]at hr;rw[hf]at ye;simp only at hr;(split at hr<;>first|(cases hr;done)|skip);rename_i u hu;simp only[H5]at hr;subst hr;rw[qH]at hu;have KF:=(hW.eD _ _ (g2 _ _ _ _ fC hu)).1;refine .pure (x:=cell i' j') ?_ (g3 _ _ _ _ fC hu);simp[execOp,ho,he,Instr.loadAt,Instr.sureAddr,loadVar,ye,KF]
   . rw[hn]at hr;rw[hf]at ye;simp only at hr;(split at hr<;>first|(cases hr;done)|skip);rename_i us hu;simp only[H5]at hr;subst hr;obtain⟨hus,hle⟩:=abN hu;have hlen:=RU hu;have dR:(loadCells ⟨aN,base+i'*es+j',none⟩ ti.size).run P w= .ok ((List.range ti.size).map λq=>cell i' (j'+q)).toArray w:=by
        (refine run_loadCells w _ _ _ λq hq=> ?_);rw[uF];have:cs[j'+q]? =some (cs[j'+q]'(by omega)):=H0 (by omega);rw[Zj9];exact(hW.eD _ _ (g2 _ _ _ _ fC this)).1
     refine .pure (x:= .agg ((List.range ti.size).map λq=>cell i' (j'+q)).toArray) ?_ (.PY ⟨by simp[hlen],λq u y hu' hy=> ?_⟩)
     .  simp[execOp,ho,he,Instr.loadAt,Instr.sureAddr,loadVar,ye,mF hi,vz,dR]
     .  have hq:q<ti.size:=(by rw[<-hlen];exact(Za1.1 hu').1);rw[hus,Zd5,Zb3 hq,Ze5]at hu';simp[hq]at hy;subst hy;exact g3 _ _ _ _ fC hu'
theorem ao8{x y:Value}{ρ:Pos->Loc}{n:Nat}{C:Cells}{u v r:AV}{w:World}{st:St}(h1:aD ρ n C u x)(h2:aD ρ n C v y)(hr:La (λb=>st.heap.get b) st.next [u,v]=some (.val r)):
   ∃z,(Builtin.min2 x y).run P w= .ok z w/\aD ρ n C r z:=by
 simp only[La]at hr;split at hr<;>first|(cases hr;done)|skip
 . simp only[H5,eI.val.injEq]at hr;subst hr;rw[h1.iM,h2.iM];refine⟨_,rfl,?_⟩;rw[fj];split
   . rename_i h;rw[Zb3 (Zg9 h)];exact .int _ _
   . rename_i h;rw[Za7 (Zm7 h)];exact .int _ _
 . simp only[H5,eI.val.injEq]at hr;subst hr;rename_i sa sb;obtain⟨bx,rfl,e1⟩:=h1.fu;obtain⟨bz,rfl,e2⟩:=h2.fu;have hh:(Op.stringOp .leq bx bz).run P w= .ok (.bool (aO sa sb||kA sa sb)) w:=by
     simp only[Op.stringOp,Sem.run_pure];rw[aaO e1 e2,P8 e1 e2]
   refine⟨_,by simp only[Builtin.min2,Sem.run_bind,hh,Result.andThen_ok,asBool,Sem.run_pure];rfl,?_⟩;split
   . rename_i h;rw[Zb3 h];exact .str _ _ e1
   . rename_i h;rw[Za7 (by rw[h];simp)];exact .str _ _ e2
theorem ao9{x y:Value}{ρ:Pos->Loc}{n:Nat}{C:Cells}{u v r:AV}{w:World}{st:St}(h1:aD ρ n C u x)(h2:aD ρ n C v y)(hr:Lb (λb=>st.heap.get b) st.next [u,v]=some (.val r)):
   ∃z,(Builtin.max2 x y).run P w= .ok z w/\aD ρ n C r z:=by
 simp only[Lb]at hr;split at hr<;>first|(cases hr;done)|skip
 . simp only[H5,eI.val.injEq]at hr;subst hr;rw[h1.iM,h2.iM];refine⟨_,rfl,?_⟩;rw[fj];split
   . rename_i h;rw[Zb3 (Zg9 h)];exact .int _ _
   . rename_i h;rw[Za7 (Zm7 h)];exact .int _ _
 . simp only[H5,eI.val.injEq]at hr;subst hr;rename_i sa sb;obtain⟨bx,rfl,e1⟩:=h1.fu;obtain⟨bz,rfl,e2⟩:=h2.fu;have hh:(Op.stringOp .geq bx bz).run P w= .ok (.bool (!aO sa sb)) w:=by
     simp only[Op.stringOp,Sem.run_pure];rw[aaO e1 e2]
   refine⟨_,by simp only[Builtin.max2,Sem.run_bind,hh,Result.andThen_ok,asBool,Sem.run_pure];rfl,?_⟩;split
   . rename_i h;rw[Za7 (by rw[h];simp)];exact .str _ _ e2
   . rename_i h;rw[Zb3 (by rw[h];rfl)];exact .str _ _ e1
theorem oM(xs:Array Operand)(a:Act):xs.toList.map a.eval=(xs.map a.eval).toList:=by simp
end
section
variable{P : Program}{tt : TT}
theorem vs1{ρ:Pos->Loc}{n:Nat}{C:Cells}{bs:List AV}{x:Value}(h:aL ρ n C bs [x]):∃b,bs=[b]/\aD ρ n C b x:=by
 match bs,h with
 |[b],h=>exact⟨b,rfl,h.2 0 b x rfl rfl⟩
 |[],h=>have:=h.1;simp at this
 |_::_::_,h=>have:=h.1;simp at this
theorem vs2{ρ:Pos->Loc}{n:Nat}{C:Cells}{bs:List AV}{x y:Value}(h:aL ρ n C bs [x,y]):∃b c,bs=[b,c]/\aD ρ n C b x/\aD ρ n C c y:=by
 match bs,h with
 |[b,c],h=>exact⟨b,c,rfl,h.2 0 b x rfl rfl,h.2 1 c y rfl rfl⟩
 |[],h=>have:=h.1;simp at this
 |[_],h=>have:=h.1;simp at this
 |_::_::_::_,h=>have:=h.1;simp at this
theorem vs3{ρ:Pos->Loc}{n:Nat}{C:Cells}{bs:List AV}{x y z:Value}(h:aL ρ n C bs [x,y,z]):∃b c d,bs=[b,c,d]/\aD ρ n C b x/\aD ρ n C c y/\aD ρ n C d z:=by
 match bs,h with
 |[b,c,d],h=>exact⟨b,c,d,rfl,h.2 0 b x rfl rfl,h.2 1 c y rfl rfl,h.2 2 d z rfl rfl⟩
 |[],h=>have:=h.1;simp at this
 |[_],h=>have:=h.1;simp at this
 |[_,_],h=>have:=h.1;simp at this
 |_::_::_::_::_,h=>have:=h.1;simp at this
def LC(x:Option Value)(i:Option Nat):Prop:=(x=none/\i=none)\/∃j k,i=some j/\x=some (.int k (j:Int))
theorem abP{ρ:Pos->Loc}{n:Nat}{C:Cells}{lo hi mx:Option Operand}{bs:List AV}{a:Act}{l h m:Option Nat}
   (hb:aL ρ n C bs ((Df lo++Df hi++Df mx).map a.eval)) (hr:bounds lo.isSome hi.isSome mx.isSome bs=some (l,h,m)):
   LC (lo.map a.eval) l/\LC (hi.map a.eval) h/\LC (mx.map a.eval) m/\(m.isSome=true->h.isSome=true):=by
 unfold bounds at hr
 cases lo<;>cases hi<;>cases mx<;>simp only[Option.isSome_some,Option.isSome_none,Df,Ze1,Ze0,Zd7,Zd2,Zg3]at hb hr<;>
   first|(cases hr;done)|skip
 . cases bs with
   |cons b bs=>have:=hb.1;simp at this
   |nil=>simp at hr;obtain⟨rfl,rfl,rfl⟩:=hr;exact⟨.inl ⟨rfl,rfl⟩,.inl ⟨rfl,rfl⟩,.inl ⟨rfl,rfl⟩,λh=>by cases h⟩
 . obtain⟨b,rfl,h1⟩:=vs1 hb;simp only at hr;(split at hr<;>first|(cases hr;done)|skip);rename_i j hj;obtain⟨k,hk⟩:=mI h1 hj;simp at hr;obtain⟨rfl,rfl,rfl⟩:=hr;exact⟨.inl ⟨rfl,rfl⟩,.inr ⟨j,k,rfl,by simp[hk]⟩,.inl ⟨rfl,rfl⟩,λh=>by cases h⟩
 . obtain⟨b,c,rfl,h1,h2⟩:=vs2 hb;simp only at hr;(split at hr<;>first|(cases hr;done)|skip);rename_i j j' hj LA;obtain⟨k,hk⟩:=mI h1 hj;obtain⟨k',uj⟩:=mI h2 LA;simp at hr;obtain⟨rfl,rfl,rfl⟩:=hr;exact⟨.inl ⟨rfl,rfl⟩,.inr ⟨j,k,rfl,by simp[hk]⟩,.inr ⟨j',k',rfl,by simp[uj]⟩,λ_=>rfl⟩
 . obtain⟨b,rfl,h1⟩:=vs1 hb;simp only at hr;(split at hr<;>first|(cases hr;done)|skip);rename_i j hj;obtain⟨k,hk⟩:=mI h1 hj;simp at hr;obtain⟨rfl,rfl,rfl⟩:=hr;exact⟨.inr ⟨j,k,rfl,by simp[hk]⟩,.inl ⟨rfl,rfl⟩,.inl ⟨rfl,rfl⟩,λh=>by cases h⟩
 . obtain⟨b,c,rfl,h1,h2⟩:=vs2 hb;simp only at hr;(split at hr<;>first|(cases hr;done)|skip);rename_i j j' hj LA;obtain⟨k,hk⟩:=mI h1 hj;obtain⟨k',uj⟩:=mI h2 LA;simp at hr;obtain⟨rfl,rfl,rfl⟩:=hr;exact⟨.inr ⟨j,k,rfl,by simp[hk]⟩,.inr ⟨j',k',rfl,by simp[uj]⟩,.inl ⟨rfl,rfl⟩,λh=>by cases h⟩
 . obtain⟨b,c,d,rfl,h1,h2,h3⟩:=vs3 hb;simp only at hr;(split at hr<;>first|(cases hr;done)|skip);rename_i j j' j'' hj LA hj'';obtain⟨k,hk⟩:=mI h1 hj;obtain⟨k',uj⟩:=mI h2 LA;obtain⟨k'',hk''⟩:=mI h3 hj'';simp at hr;obtain⟨rfl,rfl,rfl⟩:=hr;exact⟨.inr ⟨j,k,rfl,by simp[hk]⟩,.inr ⟨j',k',rfl,by simp[uj]⟩,.inr ⟨j'',k'',rfl,by simp[hk'']⟩,λ_=>rfl⟩
theorem Fh(isS:Bool){len cap:Nat}{xl xh xm:Option Value}{l h m:Option Nat}(h1:LC xl l)(h2:LC xh h)(h3:LC xm m)(hmh:m.isSome=true->h.isSome=true)
  (Qa:l.getD 0<=h.getD len) (hhm:h.getD len<=m.getD cap) (hmc:m.getD cap<=cap) (w:World):
  (Instr.sliceBounds isS len cap xl xh xm).run P w= .ok (l.getD 0,h.getD len,m.getD cap) w:=by
 rcases h1 with⟨rfl,rfl⟩|⟨jl,kl,rfl,rfl⟩<;>rcases h2 with⟨rfl,rfl⟩|⟨jh,kh,rfl,rfl⟩<;>rcases h3 with⟨rfl,rfl⟩|⟨jm,km,rfl,rfl⟩<;>
  simp only[Zj0,Ze9,Option.isSome_some,Option.isSome_none]at Qa hhm hmc hmh ⊢ <;>
  first
   |(simp at hmh;done)
   |simp[Instr.sliceBounds,Instr.sliceBound,asIntOf,Qa,hhm,hmc,Int.ofNat_le]
theorem NK{ρ:Pos->Loc}{n:Nat}{C:Cells}{b:Pos}{off es bC l h M:Nat}{aa:Addr}{akR:Option Nat}
   (ha:bC≠0->b.toNat<n/\aa=⟨(ρ b).aN,(ρ b).base+off,none⟩/\(ρ b).base+off+bC*es<=(ρ b).size)
   (h1:l<=h) (h2:h<=M) (h3:M<=bC) (hc:∀c,akR=some c->c=M - l) (hk:akR=none->b.toNat<n):
   aD ρ n C (.slice b (off+l*es) (h - l) akR es) (.slice (if M=l then some aa else(some aa).map (·.add (l*es))) (h - l) (M - l)):=by
 by_cases hm:M=l
 . rw[Zb3 hm];exact .slice _ _ _ _ _ _ _ (by omega) hc (λh0=>absurd (by omega) h0) hk
 . rw[Za7 hm];obtain⟨hb,rfl,hle⟩:=ha (by omega);refine .slice _ _ _ _ _ _ _ (by omega) hc (λ_=>⟨hb,by show Addr.add _ _=_;rw[uF,Zj9],?_⟩) hk;have e1:l*es+(M - l)*es=M*es:=(by rw[<-Zj3];congr 1;omega);have e2:M*es<=bC*es:=Zg8 _ h3;omega
theorem amN(hT:di P tt)(t:TypeId)(x:Operand)(lo hi mx:Option Operand):fy P tt (.slice t x lo hi mx):=by
 intro ρ C st w k xs cls fr a o vs res ho hc hW hF hx hr;simp only[ku]at hc;split at hc<;>first|(cases hc;done)|skip
 rename_i ti l0 gI hl;obtain⟨d,hd,dM⟩:=(hT.at gI).und;split at hc<;>first|(cases hc;done)|skip
 . rename_i hk;rw[hk]at dM;rw[vu dM]at hd;(split at hc<;>first|(cases hc;done)|skip);cases hc;have hv:=iR hl hF hx;simp only[Df,Ze0,Zd7,Ze1,Zd2]at hv;simp only[aF.run,VS]at hr;(split at hr<;>first|(cases hr;done)|skip);rename_i u bs;(split at hr<;>first|(cases hr;done)|skip);rename_i s l h m' hb;(split at hr<;>first|(cases hr;done)|skip);rename_i h1 h2;have h1:=Zb2 h1;have h2:=Zb2 h2;simp only[H5]at hr;subst hr;obtain⟨y,ys,Ac,hu,Hg⟩:=hv.cons_inv;simp only[Zf7]at Ac;obtain⟨rfl,rfl⟩:=Ac;have vC:=abP (lo:=lo) (hi:=hi) (mx:=none) (a:=a) (by simpa [Df]using Hg) hb;obtain⟨bs',he,hs⟩:=hu.fu;have gU:=LB hs
   have dR:=Fh (P:=P) false (len:=bs'.size) (cap:=bs'.size) vC.1 vC.2.1 (.inl ⟨rfl,rfl⟩:LC none none) (λh=>by cases h)
     (by rw[gU];exact h1) (by rw[gU];simpa using h2) (by simp) w
   refine .pure (x:= .string (bs'.extract (l.getD 0) (h.getD bs'.size))) ?_ (.str _ _ ?_)
   . simp only[execOp,ho,Instr.sliceAt,Sem.run_bind,bt hd,Result.andThen_ok,he,Instr.slice];simp[dR]
   . rw[gU,ByteArray.data_extract,Zo6, <-hs,List.extract,List.map_take,List.map_drop];rw[Zn2]
 . rename_i e hk;rw[hk]at dM;rw[tP dM]at hd;(split at hc<;>first|(cases hc;done)|skip);rename_i te oK;cases hc;obtain⟨i0,sV,vz,_⟩:=(hT.at oK).info;have hv:=iR hl hF hx;simp only[Zd7,Ze1,Zf2,Zd2]at hv;simp only[aF.run,iP]at hr;(split at hr<;>first|(cases hr;done)|skip);rename_i u bs;obtain⟨y,ys,Ac,hu,Hg⟩:=hv.cons_inv;simp only[Zf7]at Ac;obtain⟨rfl,rfl⟩:=Ac
   have vw:∀(sa:Option Addr)(len cap:Nat)(l h m:Option Nat),a.eval x= .slice sa len cap->bounds lo.isSome hi.isSome mx.isSome bs=some (l,h,m)->
        l.getD 0<=h.getD len->h.getD len<=m.getD cap->m.getD cap<=cap->
        (execOp a.eval o).run P w= .ok (.value (.slice (if m.getD cap=l.getD 0 then sa else sa.map (·.add (l.getD 0*te.size))) (h.getD len - l.getD 0) (m.getD cap - l.getD 0))) w:=by
     intro sa len cap l h m he hb h1 h2 h3;have vC:=abP (lo:=lo) (hi:=hi) (mx:=mx) (a:=a) (by simpa [Zf2]using Hg) hb;have dR:=Fh (P:=P) true (len:=len) (cap:=cap) vC.1 vC.2.1 vC.2.2.1 vC.2.2.2 h1 h2 h3 w;simp only[execOp,ho,Instr.sliceAt,Sem.run_bind,bt hd,Result.andThen_ok,he,Instr.slice,dR,mF sV,vz,Sem.run_pure]
   split at hr<;>first|(cases hr;done)|skip
   ·
     rename_i b off len cap es' l h m hb;(split at hr<;>first|(cases hr;done)|skip);rename_i dY Qa;have dY:te.size=es':=Za6 dY;subst dY;have Qa:=Zb2 Qa;obtain⟨aa,bC,he,hle,agE,ha⟩:=hu.gM;split at hr
     .  rename_i c m';(split at hr<;>first|(cases hr;done)|skip);rename_i e1 e2;have e1:=Zb2 e1;have e2:=Zb2 e2;have:=agE c rfl;subst this;simp only[H5]at hr;subst hr;exact .pure (vw _ _ _ _ _ _ he hb Qa (by simpa using e1) (by simpa using e2)) (NK ha Qa e1 e2 (λc hc=>by cases hc;rfl) (λh=>by cases h))
     .  rename_i c;(split at hr<;>first|(cases hr;done)|skip);rename_i e1;have e1:=Zb2 e1;have:=agE c rfl;subst this;simp only[H5]at hr;subst hr;exact .pure (vw _ _ _ _ _ _ he hb Qa (by simpa using e1) (by simp)) (NK ha Qa e1 (Za3 _) (λc hc=>by cases hc;rfl) (λh=>by cases h))
     .  rename_i m';(split at hr<;>first|(cases hr;done)|skip);rename_i e1 e2;have e1:=Zb2 e1;have e2:=Zb2 e2;simp only[H5]at hr;subst hr;exact .pure (vw _ _ _ _ _ _ he hb Qa (by simpa using e1) (by simp;omega)) (NK ha Qa e1 (by simp;omega) (λc hc=>by cases hc;rfl) (λh=>by cases h))
     .  (split at hr<;>first|(cases hr;done)|skip);rename_i e1;have e1:=Zb2 e1;simp only[H5]at hr;subst hr;exact .pure (vw _ _ _ _ _ _ he hb Qa (by simp;omega) (by simp)) (NK ha Qa (by simp;omega) (Za3 _) (λc hc=>by cases hc) (λ_=>hu.aeu rfl))
   ·
     rename_i Ct es' l h m hb;(split at hr<;>first|(cases hr;done)|skip);rename_i dY;have dY:te.size=es':=Za6 dY;subst dY;obtain⟨aa,bC,cell,he,hle,A7,g1,g2,g3⟩:=hu.yK;split at hr
     .  rename_i m';(split at hr<;>first|(cases hr;done)|skip);rename_i e0 e1 e2;have e0:=Za6 e0;have e1:=Za6 e1;have e2:=Za6 e2;subst e2;simp only[H5]at hr;subst hr;refine .pure (vw _ _ _ _ _ _ he hb (by omega) (by rw[e1];simp) (by simp)) ?_;simp only[e0,e1,Ze9,Zk3,Zh7];exact .slice _ _ _ _ _ _ _ (Za3 _) (λc hc=>by cases hc;rfl) (λh0=>absurd rfl h0) (λh=>by cases h)
     .  (split at hr<;>first|(cases hr;done)|skip);rename_i e0 e1;have e0:=Zb2 e0;have e1:=Zb2 e1;simp only[H5]at hr;subst hr;refine .pure (vw _ _ _ _ _ _ he hb e0 (by simp;omega) (by simp)) ?_;simp only[Zj0];have hlen:(List.drop (l.getD 0) (List.take (h.getD Ct.length) Ct)).length=h.getD Ct.length - l.getD 0:=(by simp;omega);rw[<-hlen];have RT:∀i cs,(List.drop (l.getD 0) (List.take (h.getD Ct.length) Ct))[i]? =some cs->Ct[l.getD 0+i]? =some cs:=by
          intro i cs hi;rw[Ze5,Zd5]at hi;split at hi
          . exact hi
          . cases hi
        by_cases hcl:bC=l.getD 0
        . rw[Zb3 hcl];have hemp:List.drop (l.getD 0) (List.take (h.getD Ct.length) Ct)=[]:=(by apply Zc5;rw[hlen];omega);rw[hemp];exact .fl _ _ _ _ (λ_ _=>undef) (by simp) (λh=>absurd rfl h) (λi cs hi=>by simp at hi) (λi j cs v hi=>by simp at hi) (λi j cs v hi=>by simp at hi)
        . rw[Za7 hcl];by_cases cZ:Ct=[]
          . subst cZ;simp only[List.take_nil,List.drop_nil];exact .fl _ _ _ _ (λ_ _=>undef) (by simp) (λh=>absurd rfl h) (λi cs hi=>by simp at hi) (λi j cs v hi=>by simp at hi) (λi j cs v hi=>by simp at hi)
          . have A7:=A7 cZ;obtain⟨ab,ao,asp⟩:=aa;simp only at A7;subst A7;simp only[Ze2,uF];refine .fl _ _ _ _ (λi j=>cell (l.getD 0+i) j) (by rw[hlen];omega) (λ_=>rfl) (λi cs hi=>g1 _ _ (RT i cs hi)) (λi j cs v hi hj=> ?_) (λi j cs v hi hj=>g3 _ _ _ _ (RT i cs hi) hj);have:=g2 _ _ _ _ (RT i cs hi) hj;simp only at this ⊢;rw[<-this];congr 2;rw[Zj3];omega
   ·
     rename_i l h m hb;(split at hr<;>first|(cases hr;done)|skip);rename_i e0 e1 e2;have e0:=Za6 e0;have e1:=Za6 e1;have e2:=Za6 e2;simp only[H5]at hr;subst hr;have he:=hu.jx;refine .pure (vw _ _ _ _ _ _ he hb (by omega) (by omega) (by omega)) ?_;simp only[e0,e1,e2,Zk3,Zh7];exact .af
end
section
variable{P : Program}{tt : TT}
theorem ZR{ρ:Pos->Loc}{n:Nat}{C:Cells}:∀{l:List AV}{s:List Nat}{ys:List Value},bytesOf l=some s->aL ρ n C l ys->
  ys=(s.map Int.ofNat).map (Value.int .u8)/\∀c,c∈s->c<256
 |[],s,ys,h,hv=>by
  simp[bytesOf]at h;subst h;exact⟨by simpa using hv.qx,λc hc=>by simp at hc⟩
 |v ::l,s,ys,h,hv=>by
  unfold bytesOf at h;split at h<;>first|(cases h;done)|skip
  . rename_i h0;simp at h0
  . rename_i c l' he;simp only[Zf7]at he;obtain⟨rfl,rfl⟩:=he;(split at h<;>first|(cases h;done)|skip);rename_i s' aV qI;simp only[H5]at h;subst h;obtain⟨y,ys',rfl,h1,h2⟩:=hv.cons_inv;obtain⟨e,oY⟩:=ZR qI h2;have aV:c<256:=(by simpa using aV);refine⟨by rw[h1.iM,e];rfl,λc' hc=> ?_⟩;simp at hc;rcases hc with rfl|hc
    . exact aV
    . exact oY _ hc
theorem NL:∀(s:List Nat)(acc:ByteArray),((s.map Int.ofNat).foldl (λr n=>r.push (UInt8.ofNat n.toNat)) acc).data.toList=acc.data.toList++s.map UInt8.ofNat
 |[],acc=>by simp
 |c::s,acc=>by
  simp only[Zd2,Zq8];rw[NL s];simp[ByteArray.push]
theorem ai9(hT:di P tt)(src dst:TypeId)(x:Operand):fy P tt (.convert src dst x):=by
 intro ρ C st w k xs cls fr a o vs res ho hc hW hF hx hr;simp only[ku]at hc;split at hc<;>first|(cases hc;done)|skip
 rename_i s d b hs hd hb;obtain⟨ds,Qb,hks⟩:=(hT.at hs).und;obtain⟨dd,hdd,dM⟩:=(hT.at hd).und;split at hc<;>first|(cases hc;done)|skip
 . rename_i k1 k2 h1 h2;cases hc;obtain⟨v,rfl,hv⟩:=lM hb hF hx;rw[h1]at hks;rw[h2]at dM;rw[VY hks]at Qb;rw[VY dM]at hdd;simp only[aF.run,FP]at hr;split at hr<;>first|(cases hr;done)|(rename_i heq;cases heq;done)|(rename_i heq;cases heq)
   simp only[H5]at hr;subst hr;refine .pure ?_ (by rw[yL];exact .int _ _);simp[execOp,ho,hv.iM,convert,bt Qb,bt hdd,Conv.intToInt]
 . rename_i h1 h2;cases hc;obtain⟨v,rfl,hv⟩:=lM hb hF hx;rw[h1]at hks;rw[h2]at dM;rw[vu hks]at Qb;rw[vu dM]at hdd;simp only[aF.run,FP]at hr;split at hr<;>first|(cases hr;done)|(rename_i heq;cases heq;done)|(rename_i heq;cases heq)
   simp only[H5]at hr;subst hr;obtain⟨bs,he,hs⟩:=hv.fu;exact .pure (x:= .string bs) (by simp[execOp,ho,he,convert,bt Qb,bt hdd]) (.str _ _ hs)
 . rename_i e h1 h2;(split at hc<;>first|(cases hc;done)|skip);rename_i te oK;(split at hc<;>first|(cases hc;done)|skip);rename_i hk8;cases hc;obtain⟨v,rfl,hv⟩:=lM hb hF hx;rw[h1]at hks;rw[h2]at dM;rw[tP hks]at Qb;rw[vu dM]at hdd;obtain⟨de,hde,hke⟩:=(hT.at oK).und;rw[hk8]at hke;rw[VY hke]at hde;have vw:∀y:Option Addr×Nat×Nat,a.eval x= .slice y.1 y.2.1 y.2.2->(execOp a.eval o).run P w=((Conv.bytesToString (a.eval x)).run P w).andThen λv w=> .ok (.value v) w:=by
     intro y he;simp[execOp,ho,he,convert,bt Qb,bt hdd,bt hde]
   simp only[aF.run,FP]at hr;split at hr<;>first|(cases hr;done)|(rename_i heq;cases heq;done)|(rename_i heq;cases heq)
   . simp only[H5]at hr;subst hr;have he:=hv.jx;refine .pure (x:= .string .empty) ?_ (.str _ _ rfl);rw[vw (none,0,0) he,he];simp[Conv.bytesToString]
   . rename_i bb off m cap es;obtain⟨aa,bC,he,hle,_,ha⟩:=hv.gM;split at hr
     .  rename_i h0;have:=Za6 h0;subst this;simp only[H5]at hr;subst hr;refine .pure (x:= .string .empty) ?_ (.str _ _ rfl);rw[vw (some aa,0,bC) he,he];simp[Conv.bytesToString,loadCells,loadCellsFrom]
     .  (rename_i h0;have h0:=Ze8 h0;(split at hr<;>first|(cases hr;done)|skip);rename_i cs fz vC;(split at hr<;>first|(cases hr;done)|skip);rename_i l hcut;(split at hr<;>first|(cases hr;done)|skip);rename_i s' atD;simp only[H5]at hr;subst hr;obtain⟨aV,rfl,_⟩:=ha (by omega);obtain⟨ys,Ac,Dg⟩:=hW.loadCells (P:=P) vC hcut;obtain⟨e1,e2⟩:=ZR atD Dg;rw[e1]at Ac;have dR:=run_bytesToString (P:=P) w ⟨(ρ bb).aN,(ρ bb).base+off,none⟩ m bC (s'.map Int.ofNat) Ac;refine .pure (x:= .string _) (by rw[vw (some _,m,bC) he,he,dR];rfl) (.str _ _ ?_);rw[NL,Zc8];have e0:ByteArray.empty.data.toList=[]:=rfl;rw[e0,Zg3,Ze1,Zh4];have e3:s'.map (UInt8.toNat∘UInt8.ofNat)=s'.map id:=Zj2 λc hc=>by have:=e2 c hc;simp only[Function.comp,id,UInt8.toNat_ofNat'];omega);rw[e3,Zr1]
theorem Qc{t:TypeId}{d:TypeDesc}(hd:P.underlying t=some d){pk:PK}(hk:pk.fits d=true)(e:Bool)(m:Nat)(x:Value)(w:World):
  (Instr.checkKey e (m+1) t x).run P w= .ok () w:=by
 unfold Instr.checkKey;rw[Sem.run_bind,bt hd,Result.andThen_ok];cases pk<;>cases d<;>simp[PK.fits]at hk<;>rfl
theorem ZS{ρ:Pos->Loc}{n:Nat}{C:Cells}{pk:PK}{d:TypeDesc}(hk:pk.fits d=true){u v:AV}{x y:Value}{r:Bool}
   (h1:aD ρ n C u x) (h2:aD ρ n C v y) (h:AD pk u v=some r):Instr.sameNow d x y=some r:=by
 unfold AD at h;split at h<;>first|(cases h;done)|skip
 . simp only[H5]at h;subst h;cases d<;>simp[PK.fits]at hk;rw[h1.kZ,h2.kZ];rfl
 . (split at h<;>first|(cases h;done)|skip);rename_i NJ;have:=Cu NJ;subst this;simp only[H5]at h;subst h;cases d<;>simp[PK.fits]at hk;rw[h1.iM,h2.iM];simp[Instr.sameNow,mG]
 . simp only[H5]at h;subst h;cases d<;>simp[PK.fits]at hk;obtain⟨bx,rfl,e1⟩:=h1.fu;obtain⟨bz,rfl,e2⟩:=h2.fu;simp only[Instr.sameNow];rw[beq_toListBytes,P8 e1 e2]
def NM(ρ:Pos->Loc)(n:Nat)(C:Cells)(es:List (AV×AV×Nat))(es':List MapEntry):Prop:=
 es.length=es'.length/\∀(i:Nat)(e:AV×AV×Nat)(e':MapEntry),es[i]? =some e->es'[i]? =some e'->aD ρ n C e.1 e'.key/\aD ρ n C e.2.1 e'.val/\e.2.2=e'.born
theorem Hh{ρ:Pos->Loc}{n:Nat}{C:Cells}{pk:PK}{d:TypeDesc}(hk:pk.fits d=true){u:AV}{x:Value}(hu:aD ρ n C u x):
  ∀{es:List (AV×AV×Nat)}{es':List MapEntry}{i:Nat}{r:Option (Nat×AV)},NM ρ n C es es'->gP pk u es i=some r->
  ∃r',Instr.findNow d x es' i=some r'/\((r=none/\r'=none)\/∃j v y,r=some (j,v)/\r'=some (j,y)/\aD ρ n C v y/\i<=j/\j<i+es.length)
 |[],es',i,r,he,h=>by
  simp[gP]at h;subst h;cases es' with
  |nil=>exact⟨none,rfl,.inl ⟨rfl,rfl⟩⟩
  |cons e es'=>have:=he.1;simp at this
 |(k',v,born)::es,es',i,r,he,h=>by
  cases es' with
  |nil=>have:=he.1;simp at this
  |cons e' es'=>
   have h0:=he.2 0 (k',v,born) e' rfl rfl;have rH:NM ρ n C es es':=⟨by have:=he.1;simpa using this,λj e e' h1 h2=>he.2 (j+1) e e' (by simpa using h1) (by simpa using h2)⟩
   unfold gP at h;split at h<;>first|(cases h;done)|skip
   .    rename_i hq;simp only[H5]at h;subst h;refine⟨some (i,e'.val),by simp[Instr.findNow,ZS hk hu h0.1 hq],.inr ⟨i,v,e'.val,rfl,rfl,h0.2.1,Za3 _,by simp⟩⟩
   .    rename_i hq;obtain⟨r',h1,h2⟩:=Hh hk hu rH h;refine⟨r',by simp[Instr.findNow,ZS hk hu h0.1 hq,h1],?_⟩;rcases h2 with h2|⟨j,v',y,e1,e2,e3,e4,e5⟩
        . exact .inl h2
        . exact .inr ⟨j,v',y,e1,e2,e3,by omega,by simp;omega⟩
theorem run_findKey{t:TypeId}{d:TypeDesc}(hd:P.underlying t=some d){x:Value}{es:List MapEntry}{r:Option (Nat×Value)}(h:Instr.findNow d x es 0=some r)(w:World):
  (Instr.findKey t x es).run P w= .ok r w:=by
 simp[Instr.findKey,bt hd,h]
theorem run_getObj_map{r:Nat}{es:Array MapEntry}{c:Nat}{w:World}(h:w.heap[r]? =some (.map es c)):(getObj r).run P w= .ok (.map es c) w:=by
 simp[getObj,Sem.run,h]
theorem arp(k:TK){d:TypeDesc}(h:b9 k d=true){pk:PK}(hp:(k= .bool/\pk= .b)\/((∃i,k= .int i)/\pk= .i)\/(k= .string/\pk= .s)):pk.fits d=true:=by
 rcases hp with⟨rfl,rfl⟩|⟨⟨i,rfl⟩,rfl⟩|⟨rfl,rfl⟩
 . rw[adp h];rfl
 . rw[VY h];rfl
 . rw[vu h];rfl
theorem FW(hT:di P tt){t:Nat}{ti:TI}(ht:tt.get (key t)=some ti){z:List AV}(hz:ti.zero=some z){ρ:Pos->Loc}{n:Nat}{C:Cells}(w:World):
   ∃v,(zeroValue t).run P w= .ok v w/\aD ρ n C (ku.PU ti z) v/\aL ρ n C z v.cells.toList:=by
 obtain⟨i,hi,vz,_,NN⟩:=(hT.at ht).info;obtain⟨v,hv,hs,hlen,h1,h2⟩:=NN z hz;refine⟨v,ao0 hi hv w,?_,xe hs⟩;unfold ku.PU;split
 . rename_i ha;obtain⟨cs,rfl⟩:=h1 ha;exact .PY (xe hs)
 . rename_i ha;have hc:=h2 ha;rw[hc]at hs;simp only[sQ]at hs;(split at hs<;>first|(cases hs;done)|skip);rename_i a as e1 e2;simp only[H5]at hs e2;subst hs;subst e2;simp only;exact Lz e1
theorem akS(hT:di P tt)(t:TypeId)(x ix:Operand)(ok:Bool):fy P tt (.lookup t x ix ok):=by
 intro ρ C st w k xs cls fr a o vs res ho hc hW hF hx hr;simp only[ku]at hc;split at hc<;>first|(cases hc;done)|skip
 rename_i ti l gI hl;split at hc<;>first|(cases hc;done)|skip
 rename_i kt et hk;split at hc<;>first|(cases hc;done)|skip
 rename_i tk te htk oK;obtain⟨d,hd,dM⟩:=(hT.at gI).und;rw[hk]at dM;rw[VX dM]at hd;obtain⟨dk,hdk,NJ⟩:=(hT.at htk).und;have key:∃pk z,te.zero=some z/\k= .lookup pk (ku.PU te z) ok/\xs=l/\cls= .read/\pk.fits dk=true:=by
  split at hc<;>first|(cases hc;done)|skip
  all_goals
    rename_i z h1 h2;cases hc;refine⟨_,z,h2,rfl,rfl,rfl,arp tk.k NJ ?_⟩
  . exact .inr (.inl ⟨⟨_,h1⟩,rfl⟩)
  . exact .inr (.inr ⟨h1,rfl⟩)
  . exact .inl ⟨h1,rfl⟩
 obtain⟨pk,z,hz,rfl,rfl,rfl,FV⟩:=key;obtain⟨m,kk,rfl,h1,h2⟩:=adq hl hF hx;obtain⟨zv,Ug,hzr,_⟩:=FW hT oK hz (ρ:=ρ) (n:=st.next.toNat) (C:=C) w;have hck:∀e,(Instr.checkKey e 10000 kt (a.eval ix)).run P w= .ok () w:=λe=>Qc hdk FV e 9999 _ w
 simp only[aF.run,kq]at hr;split at hr<;>first|(cases hr;done)|skip
 ·
  rename_i j v hm;simp only[H5]at hr;subst hr;split at hm<;>first|(cases hm;done)|skip
  . split at hm<;>first|(cases hm;done)|(simp at hm;done)
  . rename_i b;(split at hm<;>first|(cases hm;done)|skip);rename_i es c hb;obtain⟨_,he⟩:=h1.Cv;obtain⟨_,_,es',dY,hlen,oY⟩:=hW.live _ _ hb;have hE:NM ρ st.next.toNat C es es'.toList:=⟨by simpa using hlen,λi e e' h1 h2=>oY i e e' h1 (by simpa using h2)⟩
    obtain⟨r',hf,oC⟩:=Hh FV h2 hE hm;rcases oC with⟨e1,_⟩|⟨j',v',y,e1,e2,e3,_⟩
    .   cases e1
    .   cases e1;subst e2;have dR:(execOp a.eval o).run P w= .ok (.value (if ok then .tuple #[y,.bool true]else y)) w:=by
          simp only[execOp,ho,Instr.lookup,Sem.run_bind,bt hd,Result.andThen_ok,he,run_getObj_map dY,hck,run_findKey hdk hf,Sem.run_pure]
        refine .pure dR ?_;cases ok
        . exact e3
        . exact .yH (aL.cons e3 (aL.cons (.bool true) aL.nil))
 ·
  rename_i hm;simp only[H5]at hr;subst hr;have dR:(execOp a.eval o).run P w= .ok (.value (if ok then .tuple #[zv,.bool false]else zv)) w:=by
    split at hm<;>first|(cases hm;done)|skip
    .   (split at hm<;>first|(cases hm;done)|skip);have he:=h1.FU;have hf:(Instr.findKey kt (a.eval ix) []).run P w= .ok none w:=run_findKey hdk rfl w;simp only[execOp,ho,Instr.lookup,Sem.run_bind,bt hd,Result.andThen_ok,he,hck,hf,Ug,Sem.run_pure]
    .   rename_i b;(split at hm<;>first|(cases hm;done)|skip);rename_i es c hb;obtain⟨_,he⟩:=h1.Cv;obtain⟨_,_,es',dY,hlen,oY⟩:=hW.live _ _ hb;have hE:NM ρ st.next.toNat C es es'.toList:=⟨by simpa using hlen,λi e e' h1 h2=>oY i e e' h1 (by simpa using h2)⟩
        obtain⟨r',hf,oC⟩:=Hh FV h2 hE hm;rcases oC with⟨_,e2⟩|⟨j',v',y,e1,_⟩
        . subst e2;simp only[execOp,ho,Instr.lookup,Sem.run_bind,bt hd,Result.andThen_ok,he,run_getObj_map dY,hck,run_findKey hdk hf,Ug,Sem.run_pure]
        . cases e1
  refine .pure dR ?_;cases ok
  . exact hzr
  . exact .yH (aL.cons hzr (aL.cons (.bool false) aL.nil))
end
section
variable{P : Program}{tt : TT}
theorem LD:∀(l:List Value)(off k:Nat)(cs:Array Value),off+k+l.length<=cs.size->
  ((l.zipIdx k).foldl (λcs (c,j)=>cs.setIfInBounds (off+j) c) cs).toList=aU cs.toList (off+k) l
 |[],off,k,cs,_=>by simp[aU,Zl5]
 |v::l,off,k,cs,h=>by
  simp only[Zc9]at h;simp only[List.zipIdx_cons,Zq8];rw[LD l off (k+1) _ (by simp;omega)];simp only[aU,Zc9,Zp3];rw[List.drop_set_of_lt (by omega)];have:off+(k+1)=(off+k)+1:=by omega
  rw[this,List.take_set,List.take_add_one];have aV:off+k<cs.toList.length:=by simp;omega
  rw[H0 aV];simp only[Option.toList_some,List.set_append,Zh9];have hm:min (off+k) cs.toList.length=off+k:=Zk8 (Zn1 aV);rw[hm,Za7 (Zo4 _),Zk3];simp;rw[show off+k+1+l.length=off+k+(l.length+1)from by omega]
theorem aaP{ρ:Pos->Loc}{n:Nat}{C:Cells}(pl:Nat->Option (Nat×Nat)):∀{pp:List (Nat×Nat)}{vs cells r:List AV}{ps:List (Nat×Value)}{cs:Array Value},
  bY cells pp vs=some r->aL ρ n C cells cs.toList->aL ρ n C vs (ps.map (·.2))->ps.map (λx=>pl x.1)=pp.map some->
  ∃nh,Instr.fill pl cs ps=some nh/\aL ρ n C r nh.toList
 |[],vs,cells,r,ps,cs,h,hc,hv,hp=>by
  unfold bY at h;split at h<;>first|(cases h;done)|skip
  . simp only[H5]at h;subst h;have:ps=[]:=(by simpa using hv.qx);subst this;exact⟨cs,rfl,hc⟩
  . rename_i hh;cases hh
 |(off  ,size)::pp,vs,cells,r,ps,cs,h,hc,hv,hp=>by
  unfold bY at h;split at h<;>first|(cases h;done)|skip
  . rename_i hh;cases hh
  . rename_i off' size' pp' v vs' hh;simp only[Zf7,Zd1]at hh;obtain⟨⟨rfl,rfl⟩,rfl⟩:=hh;(split at h<;>first|(cases h;done)|skip);rename_i h1 h2;have h1:=Za6 h1;have h2:=Zb2 h2;cases ps with
    |nil=>have:=hv.1;simp at this
    |   cons p ps=>
        obtain⟨i,x⟩:=p;simp only[Zd2,Zf7]at hp hv;obtain⟨kz,yM⟩:=hp;obtain⟨y,ys,Ac,hx,Dg⟩:=hv.cons_inv;simp only[Zf7]at Ac;obtain⟨rfl,rfl⟩:=Ac;have hxc:=hx.cells;have hlen:x.cells.size=size:=(by rw[<-h1,hxc.1];simp);have gU:off+size<=cs.size:=(by have:=hc.1;simp at this;omega);have auB:(x.cells.zipIdx.foldl (λcs (c,j)=>cs.setIfInBounds (off+j) c) cs).toList=aU cs.toList off x.cells.toList:=(by rw[<-Array.foldl_toList,Array.toList_zipIdx];have:=LD x.cells.toList off 0 cs (by simp;omega);simpa using this);obtain⟨nh,e1,e2⟩:=aaP pl h (cs:=x.cells.zipIdx.foldl (λcs (c,j)=>cs.setIfInBounds (off+j) c) cs) (by rw[auB];exact hc.aU hxc off) Dg yM;refine⟨nh,?_,e2⟩;simp only[Instr.fill,kz];rw[Za7 (by simp[hlen];omega)];exact e1
theorem Uh(hT:di P tt){gs:Array Field}(w:World):∀{fs:List (Nat×Nat×Bool)}(_hm:b9.fk fs gs.toList=true){is:List Nat}{pp:List (Nat×Nat)}
  (_h:ku.places tt fs is=some pp) {Wd:List (Nat×Nat)} (_hpl:∀(i:Nat)(f:Field)(inf:TypeInfo),gs.toList[i]? =some f->P.info? f.type=some inf->Wd[i]? =some (f.offset,inf.size)),
  is.map (λi=>Wd[i]?)=pp.map some
 |fs,hm,[],pp,h,Wd,Ae=>by simp[ku.places]at h;subst h;rfl
 |fs,hm,i::is,pp,h,Wd,Ae=>by
  unfold ku.places at h;split at h<;>first|(cases h;done)|skip
  rename_i off t nm l h1 h2;split at h<;>first|(cases h;done)|skip
  rename_i ti hti;simp only[H5]at h;subst h;obtain⟨f,hf,e1,e2,_⟩:=RP hm h1;obtain⟨inf,agF,gU,_⟩:=(hT.at hti).info;simp only at e1 e2;have:=Ae i f inf hf (by rw[e2];exact agF);simp only[Zd2,this,e1,gU];rw[Uh hT w hm h2 Ae]
theorem abQ(hT:di P tt):∀{fs:List (Nat×Nat×Bool)}{gs:List Field}(_hm:b9.fk fs gs=true)(_ha:ku.af5 tt fs=true),
  ∃Wd:List (Nat×Nat),gs.mapM (λf=>(P.info? f.type).map λi=>(f.offset,i.size))=some Wd/\
   ∀(i:Nat)(f:Field)(inf:TypeInfo),gs[i]? =some f->P.info? f.type=some inf->Wd[i]? =some (f.offset,inf.size)
 |[],gs,hm,ha=>by
  cases gs with
  |cons g gs=>simp[b9.fk]at hm
  |nil=>exact⟨[],rfl,λi f inf h=>by simp at h⟩
 |(off,t,nm)::fs,gs,hm,ha=>by
  cases gs with
  |nil=>simp[b9.fk]at hm
  |cons g gs=>
   simp[b9.fk]at hm;unfold ku.af5 at ha;(split at ha<;>first|(cases ha;done)|skip);rename_i ti hti;obtain⟨inf,agF,_⟩:=(hT.at hti).info;obtain⟨Wd,h1,h2⟩:=abQ hT hm.2 ha;rw[hm.1.1.2]at agF;refine⟨(g.offset,inf.size)::Wd,by simp[agF,h1],λi f inf' hi hf=> ?_⟩;cases i with
   |zero=>simp at hi;subst hi;rw[agF]at hf;cases hf;rfl
   |succ i=>simp at hi ⊢; exact h2 i f inf' hi hf
theorem amO(hT:di P tt)(t:TypeId)(ps:Array (Nat×Operand)):fy P tt (.build t ps):=by
 intro ρ C st w k xs cls fr a o vs res ho hc hW hF hx hr;simp only[ku]at hc;split at hc<;>first|(cases hc;done)|skip
 rename_i ti l gI hl;obtain⟨d,hd,dM⟩:=(hT.at gI).und;obtain⟨it,hit,_,_,NN⟩:=(hT.at gI).info
 have vw:∀(pp:List (Nat×Nat))(z:List AV)(pl:Nat->Option (Nat×Nat)),ti.zero=some z->k= .build z pp->xs=l->ps.toList.map (λx=>pl x.1)=pp.map some->
    (∀(v:Value)(parts:List (Nat×Value))(cells:Array Value),it.zero=some v->Instr.fill pl v.cells parts=some cells->P.built t parts=some cells)->
    GN P ρ C st w ((execOp a.eval o).run P w) res:=by
   rintro pp z pl hz rfl rfl ZT atE;have hv:=iR hl hF hx;obtain⟨v,hv0,hs,_⟩:=NN z hz;simp only[aF.run,RA]at hr;(split at hr<;>first|(cases hr;done)|skip);rename_i cs zS;simp only[H5]at hr;subst hr;have hzr:aL ρ st.next.toNat C z v.cells.toList:=xe hs;have hps:(ps.map λ(i,x)=>(i,a.eval x)).toList=ps.toList.map λx=>(x.1,a.eval x.2):=(by simp);obtain⟨nh,e1,e2⟩:=aaP pl zS hzr (ps:=ps.toList.map λx=>(x.1,a.eval x.2)) (by simpa [Zh4,Zk9]using hv) (by simpa [Zh4,Zk9]using ZT);refine .pure (x:= .agg nh) ?_ (.PY e2);have dR:=run_build w t (ps.map λ(i,x)=>(i,a.eval x)) nh (atE v _ _ hv0 (by rw[hps];exact e1));simp only[execOp,ho,Sem.run_bind];rw[dR];rfl
 split at hc<;>first|(cases hc;done)|skip
 . rename_i fs z hk hz;rw[hk]at dM;obtain⟨gs,rfl,hm⟩:=NI dM;(split at hc<;>first|(cases hc;done)|skip);rename_i pp Ae oY;cases hc;obtain⟨Wd,h1,h2⟩:=abQ hT hm oY;have ZT:=Uh hT w hm Ae h2;(refine vw pp z (λi=>Wd.toArray[i]?) hz rfl rfl (by simpa [Zh4,Zk9]using ZT) λv parts cells hv hf=> ?_);unfold Program.built;rw[hit,hd];simp only[hv,h1];exact hf
 . rename_i e z hk hz;rw[hk]at dM;rw[agz dM]at hd;(split at hc<;>first|(cases hc;done)|skip);rename_i te oK;cases hc;obtain⟨ie,hie,gU,_⟩:=(hT.at oK).info;(refine vw _ z (λi=>some (i*te.size,te.size)) hz rfl rfl (by simp[Zh4,Zk9]) λv parts cells hv hf=> ?_);unfold Program.built;rw[hit,hd];simp only[hv,hie,gU];exact hf
end
end
end Go.Ai
