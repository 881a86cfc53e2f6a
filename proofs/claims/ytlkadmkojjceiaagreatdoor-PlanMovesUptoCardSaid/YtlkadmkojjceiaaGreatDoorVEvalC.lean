/- Its operations, second part; regions. -/
import Derived.Test.YtlkadmkojjceiaaGreatDoorVEvalB
import Derived.Laws.IdiomStrings
import Derived.Laws.RangeString
import Derived.Lib.UnsafeStr
import Derived.LoopN
import Derived.LoopNIn
import Derived.OrdersIn
set_option linter.all false
namespace Go.Ai
section
open Go Go.RowKit
section
variable{P:Program}{tt:TT}{ρ:Pos->Loc}{C:Cells}{st:St}{w w':World}
theorem wj(del:Option Pos)(h:T AB){b:Pos}{x:AB}(hb:(FJ del h).get b=some x):h.get b=some x/\∀c,del=some c->b≠c:=by
 cases del with
 |none=>exact⟨hb,λ_ h=>by cases h⟩
 |some c=>
  by_cases he:c=b
  .subst he;simp only[FJ]at hb;rw[T.eo]at hb;cases hb
  .simp only[FJ]at hb;rw[T.bw _ he]at hb;exact⟨hb,λd hd=>by cases hd;exact λe=>he e.symm⟩
theorem uY(hW:aT ρ C st w){o:Obj}{x0:AB}{base size:Nat}(del:Option Pos)(hh:w'.heap=w.heap.push o)(h1:w'.os=w.os)(h2:w'.tape=w.tape)(h3:w'.output=w.output)
   (hB:∀ρ' n',(∀b:Pos,b.toNat<st.next.toNat->ρ' b=ρ b)->st.next.toNat<=n'->kV ρ' n' C ⟨w.heap.size,base,size⟩ w' x0):
   ∃ρ':Pos->Loc,(∀b:Pos,b.toNat<st.next.toNat->ρ' b=ρ b)/\ρ' st.next=⟨w.heap.size,base,size⟩/\aT ρ' C (st.aF del none (some x0)) w'/\jr ρ st w ρ' (st.aF del none (some x0)) w':=by
 let ρ':Pos->Loc:=λb=>if b=st.next then⟨w.heap.size,base,size⟩else ρ b
 have aQ:∀b:Pos,b.toNat<st.next.toNat->ρ' b=ρ b:=λb hb=>Za1 (λe=>by rw[e]at hb;omega)
 have dU:ρ' st.next=⟨w.heap.size,base,size⟩:=Za2 rfl;have eF:w'.heap.size=w.heap.size+1:=by rw[hh];simp
 have hold:∀k,k<w.heap.size->w'.heap[k]? =w.heap[k]? :=λk hk=>by rw[hh,Array.getElem?_push,Za1 (by omega)]
 refine⟨ρ',aQ,dU,?_,⟨h1,h2,h3,by omega,λk hk _=>hold k hk,λb x hb=> ?_⟩⟩;rotate_left
 . by_cases he:b=st.next
   .right;rw[he,dU];exact Za3 _
   .left;simp only[St.aF,Ia]at hb;rw[T.bw _ (λe=>he e.symm)]at hb;have iz:=(wj del _ hb).1;exact⟨b,x,iz,by rw[aQ b (hW.live b x iz).1]⟩
 refine hW.Zd (b0:=st.next) (x0:=x0) (by rw[Pos.aB];omega) (by rw[Pos.aB];omega) (by rw[T.eo]) ?_ aQ (by rw[dU];exact hB _ _ aQ (by rw[Pos.aB];omega)) ?_ (by rw[dU,eF];simp) (by omega) (λk hk _=>hold k hk)
 .intro b x hb hx;rw[T.bw _ (λe=>hb e.symm)]at hx;have hx:=(wj del _ hx).1;refine⟨hx,?_⟩;rw[dU];have:=(hW.live b x hx).2.1;simp only;omega
 .intro a v ha;have:=World.block_lt_of_cell? _ _ (hW.cV a v ha).1;rw[dU];simp only;omega
theorem PT(hW:aT ρ C st w){b:Pos}{x x0:AB}(hb:st.heap.get b=some x)(h1:w'.os=w.os)(h2:w'.tape=w.tape)(h3:w'.output=w.output)(eF:w'.heap.size=w.heap.size)
   (uG:∀k,k≠(ρ b).ay->w'.heap[k]? =w.heap[k]?) (hB:kV ρ st.next.toNat C (ρ b) w' x0):
   aT ρ C (st.aF none (some (b,x0)) none) w'/\jr ρ st w ρ (st.aF none (some (b,x0)) none) w':=by
 obtain⟨aK,PU,_⟩:=hW.live b x hb;refine⟨?_,⟨h1,h2,h3,by omega,λk _ hk=>uG k (λe=>hk b x hb e.symm),λc y hc=> ?_⟩⟩;rotate_left
 . left;by_cases he:c=b
   .exact⟨b,x,hb,by rw[he]⟩
   .simp only[St.aF,Ia,FJ]at hc;rw[T.bw _ (λe=>he e.symm)]at hc;exact⟨c,y,hc,rfl⟩
 refine hW.Zd (b0:=b) (x0:=x0) (Za3 _) aK (by simp only[Ia,FJ];rw[T.eo]) ?_ (λ_ _=>rfl) hB ?_ (by omega) (by omega) (λk _ hk=>uG k hk)
 .intro c y hc hy;simp only[Ia,FJ]at hy;rw[T.bw _ (λe=>hc e.symm)]at hy;exact⟨hy,λe=>hc (hW.inj _ _ _ _ hy hb e)⟩
 .exact λa v ha e=>(hW.cV a v ha).2 b x hb e.symm
theorem wT{cs:List AV}{c:Array Value}{e:TypeId}{fr:Nat×Nat}{g:Nat}{n:Nat}(hg:w'.heap[g]? =some (.cells c e fr))(hle:cs.length<=c.size)(hv:av ρ n C cs (c.toList.take cs.length))
  (hf:∀i,i<c.size->¬(fr.1<=i/\i<fr.2)):kV ρ n C ⟨g,0,c.size⟩ w' (.cells cs 0):=
 ⟨c,e,fr,hg,rfl,by simpa using hle,by simpa using hv,λi _ hi=>by simpa using hf i (by simpa using hi)⟩
theorem aax(hT:bM P tt)(t:TypeId):cE P tt (.alloc t):=by
 intro ρ C st w k xs cls fr a o vs res ho hc hW hF hx hr;simp only[fo]at hc;split at hc<;>first|(cases hc;done)|skip
 rename_i ti cI;split at hc<;>first|(cases hc;done)|skip
 rename_i z hz;split at hc
 . cases hc;simp only[dN,H0]at hx;subst hx;simp only[az.run,ES,H0]at hr;subst hr;obtain⟨zv,zV,_,r9⟩:=rZ hT cI hz (ρ:=ρ) (n:=st.next.toNat) (C:=C) w;have hl:z.length=zv.cells.size:=(by simpa using r9.1);obtain⟨ρ',aQ,dU,ei,hE⟩:=uY (w':=w.alloc (.cells zv.cells t)) (o:= .cells zv.cells t) (x0:= .typed t z) (base:=0) (size:=zv.cells.size) hW none rfl rfl rfl rfl (λρ' n' aQ hn=>
     ⟨zv.cells,(0,0),by show(w.heap.push _)[w.heap.size]? =_;simp,rfl,by simp only[Zb6];omega,by rw[hl,Zb7,Zf8 (by simp)];exact r9.mono aQ hn,λi _=>by simp,rfl⟩)
   refine⟨_,.pointer (some ⟨w.heap.size,0,none⟩),_,ρ',?_,Yields.value _,aQ,ei,?_,hE⟩
   .simp[execOp,ho,Instr.alloc,zV,newVar,newRow]
   .have:=aj.ptr (ρ:=ρ') (n:=(st.aF none none (some (.typed t z))).next.toNat) (C:=C) st.next 0 (by simp[St.aF,Pos.aB]);rw[dU]at this;simpa using this
 cases hc;simp only[dN,H0]at hx;subst hx;simp only[az.run,HY,H0]at hr;subst hr;obtain⟨zv,zV,_,r9⟩:=rZ hT cI hz (ρ:=ρ) (n:=st.next.toNat) (C:=C) w;have hl:z.length=zv.cells.size:=by simpa using r9.1
 obtain⟨ρ',aQ,dU,ei,hE⟩:=uY (w':=w.alloc (.cells zv.cells t)) (o:= .cells zv.cells t) (x0:= .cells z 0) (base:=0) (size:=zv.cells.size) hW none rfl rfl rfl rfl (λρ' n' aQ hn=>
   wT (w':=w.alloc (.cells zv.cells t)) (e:=t) (fr:=(0,0)) (by show(w.heap.push _)[w.heap.size]? =_;simp) (by omega) (by rw[hl,Zf8 (by simp)];exact r9.mono aQ hn) (λi _=>by simp))
 refine⟨_,.pointer (some ⟨w.heap.size,0,none⟩),_,ρ',?_,Yields.value _,aQ,ei,?_,hE⟩
 .simp[execOp,ho,Instr.alloc,zV,newVar,newRow]
 .have:=aj.ptr (ρ:=ρ') (n:=(st.aF none none (some (.cells z 0))).next.toNat) (C:=C) st.next 0 (by simp[St.aF,Pos.aB]);rw[dU]at this;simpa using this
theorem ad0(t:TypeId)(x:Operand):cE P tt (.box t x):=by
 intro ρ C st w k xs cls fr a o vs res ho hc hW hF hx hr;simp only[fo]at hc;split at hc<;>first|(cases hc;done)|skip
 rename_i b hb;cases hc;obtain⟨v,rfl,hv⟩:=eA hb hF hx;simp only[az.run,Pz,H0]at hr;subst hr;have r9:=hv.cells;have hl:v.cells.length=(a.eval x).cells.size:=by simpa using r9.1
 obtain⟨ρ',aQ,dU,ei,hE⟩:=uY (w':=w.alloc (.cells (a.eval x).cells t)) (o:= .cells (a.eval x).cells t) (x0:= .cells v.cells 0) (base:=0) (size:=(a.eval x).cells.size) hW none rfl rfl rfl rfl (λρ' n' aQ hn=>
   wT (w':=w.alloc (.cells (a.eval x).cells t)) (e:=t) (fr:=(0,0)) (by show(w.heap.push _)[w.heap.size]? =_;simp) (by omega) (by rw[hl,Zf8 (by simp)];exact r9.mono aQ hn) (λi _=>by simp))
 refine⟨_,.pointer (some ⟨w.heap.size,0,none⟩),_,ρ',?_,Yields.value _,aQ,ei,?_,hE⟩
 .simp[execOp,ho,Instr.box,newVar,newRow]
 .have:=aj.ptr (ρ:=ρ') (n:=(st.aF none none (some (.cells v.cells 0))).next.toNat) (C:=C) st.next 0 (by simp[St.aF,Pos.aB]);rw[dU]at this;simpa using this
theorem FM{n:Nat}{z:List AV}{zs:List Value}(h:av ρ n C z zs):∀m,av ρ n C (bF z m) (bF zs m)
 |0=>av.nil
 |m+1=>h.append (FM h m)
theorem iA{α:Type}(z:List α):∀m,(bF z m).length=m*z.length
 |0=>by simp[bF]
 |m+1=>by simp[bF,iA z m,Zi2,Nat.add_comm]
theorem NB{α:Type}(z:List α):∀(m i:Nat),i<m*z.length->(bF z m)[i]? =z[i % z.length]?
 |0,i,h=>by simp at h
 |m +1,i,h=>by
  simp only[bF];by_cases hi:i<z.length
  .rw[Zc9 hi,Zj6 hi]
  .have hi:z.length<=i:=(by omega);rw[Zd0 hi,NB z m _ (by rw[Zi2]at h;omega)];congr 1;rw[<-Zn8 hi]
theorem U9(z:Array Value)(m:Nat)(hz:0<z.size):((Array.range (m*z.size)).map (z[· % z.size]!)).toList=bF z.toList m:=by
 apply Zj0;intro i;by_cases hi:i<m*z.size
 .rw[NB _ _ _ (by simpa using hi)];have aK:i % z.size<z.size:=Nat.mod_lt _ hz;simp[hi,aK]
 .rw[Zb3 (by simp;omega),Zb3 (by rw[iA];simp;omega)]
theorem AT{ρ':Pos->Loc}{b:Pos}{n g len es aI size:Nat}{cap:Option Nat}(hb:b.toNat<n)(aQ:ρ' b=⟨g,0,size⟩)(hl:len<=aI)(hc:∀c,cap=some c->c=aI)(hs:aI*es<=size):
  aj ρ' n C (.slice b 0 len cap es) (.slice (some ⟨g,0,none⟩) len aI):=
 .slice _ _ _ _ _ _ _ hl hc (λ_=>⟨hb,by rw[aQ],by rw[aQ];simpa using hs⟩) (λ_=>hb)
theorem PV{z:List AV}{zv:Value}{n m size:Nat}(r9:av ρ n C z zv.cells.toList)(hl:z.length=size):
   av ρ n C (bF z m) ((Array.range (m*size)).map ((if m*size=0 then(#[]:Array Value)else zv.cells)[· % (if m*size=0 then(#[]:Array Value)else zv.cells).size]!)).toList/\
   ((Array.range (m*size)).map ((if m*size=0 then(#[]:Array Value)else zv.cells)[· % (if m*size=0 then(#[]:Array Value)else zv.cells).size]!)).size=m*size:=by
 refine⟨?_,by simp⟩;by_cases h0:m*size=0
 .have:bF z m=[]:=(by apply Za8;rw[iA,hl];exact h0);rw[this];have:(Array.range (m*size))= #[]:=(by rw[h0];rfl);rw[this];simpa using(av.nil:av ρ n C [] [])
 . rw[Za1 h0];have X7:zv.cells.size=size:=(by have:=r9.1;simp at this;omega);have Zk:0<zv.cells.size:=by
    rw[X7];rcases Zn9 size with h|h
    .rw[h]at h0;simp at h0
    .exact h
   have:=U9 zv.cells m Zk;rw[X7]at this ⊢;rw[this];exact FM r9 m
theorem ad1{k:IntKind}{i:Int}(h1:UU k<=i)(h2:i<=UW k):k.wrap i=i:=by
 rw[<-rY];unfold aD;split
 . split
   .rfl
   .exact absurd h2 (by assumption)
 .exact absurd h1 (by assumption)
theorem Va{j:Nat}(h:j<=9223372036854775807):IntKind.i64.wrap (j:Int)=(j:Int):=ad1 (by simp only[UU];omega) (by simp only[UW];omega)
theorem Xw(hT:bM P tt)(t:TypeId)(l c:Operand):cE P tt (.makeSlice t l c):=by
 intro ρ C st w k xs cls fr a o vs res ho hc hW hF hx hr;simp only[fo]at hc;split at hc<;>first|(cases hc;done)|skip
 rename_i ti l0 cI hl;split at hc<;>first|(cases hc;done)|skip
 rename_i e hk;split at hc<;>first|(cases hc;done)|skip
 rename_i te eJ;split at hc<;>first|(cases hc;done)|skip
 rename_i z hz;cases hc;obtain⟨d,hd,bS⟩:=(hT.at cI).und;rw[hk]at bS;rw[kY bS]at hd;obtain⟨i0,kN,jP,hib,zT⟩:=(hT.at eJ).info;obtain⟨u,v,rfl,h1,h2⟩:=Ro hl hF hx;simp only[az.run,yg]at hr;split at hr<;>first|(cases hr;done)|skip
 rename_i jl jc hjl hjc;split at hr<;>first|(cases hr;done)|skip
 rename_i e1 e2 e3;have e1:=Za0 e1;have e2:=Za0 e2;have e3:=Za0 e3;simp only[H0]at hr;subst hr;obtain⟨kl,br⟩:=iW h1 hjl;obtain⟨kc,KQ⟩:=iW h2 hjc;obtain⟨zv0,hzv0,_,PW,_⟩:=zT z hz;obtain⟨zv,zV,_,r9⟩:=rZ hT eJ hz (ρ:=ρ) (n:=st.next.toNat) (C:=C) w;obtain⟨KR,Rq⟩:=PV (m:=jc) r9 PW;generalize FN:(Array.range (jc*te.size)).map ((if jc*te.size=0 then(#[]:Array Value)else zv.cells)[· % (if jc*te.size=0 then(#[]:Array Value)else zv.cells).size]!)=row at KR Rq;obtain⟨ρ',aQ,dU,ei,hE⟩:=uY (w':=w.alloc (.cells row e)) (o:= .cells row e) (x0:= .cells (bF z jc) 0) (base:=0) (size:=row.size) hW none rfl rfl rfl rfl (λρ' n' aQ hn=>
   wT (w':=w.alloc (.cells row e)) (e:=e) (fr:=(0,0)) (by show(w.heap.push _)[w.heap.size]? =_;simp) (by rw[iA,Rq,PW];exact Za3 _)
    (by rw[iA,PW, <-Rq, <-Ze9,Zk7];exact KR.mono aQ hn) (λi _=>by simp))
 refine⟨_,.slice (some ⟨w.heap.size,0,none⟩) jl jc,_,ρ',?_,Yields.value _,aQ,ei,?_,hE⟩
 . have bV:=Va (Zc3 e1 e3);have e8:=Va e3;have hb:¬((te.bytes:Int)*(jc:Int)>2 ^ 48):=(by have h:=Int.ofNat_le.2 e2;rw[Int.natCast_mul]at h;exact Int.not_lt.2 h);have bU:(Instr.makeSlice t (.int kl jl) (.int kc jc)).run P w= .ok (.slice (some ⟨w.heap.size,0,none⟩) jl jc) (w.alloc (.cells row e)):=by
    unfold Instr.makeSlice;simp only[Sem.run_bind,aM hd,Result.andThen_ok,asInt,asIntOf,Sem.run_pure,U1 kN,bV,e8,hib];have Y7:¬((decide ((jc:Int)<0)||decide ((te.bytes:Int)*(jc:Int)>2 ^ 48)||decide ((jl:Int)<0)||decide ((jl:Int)>(jc:Int)))=true):=by
        simp only[Zg9,Zc8];rintro(((h|h)|h)|h)
        .omega
        .exact hb h
        .omega
        .omega
    rw[Za1 Y7];simp only[Sem.run_bind,run_askRoom,Result.andThen_ok,gH kN,jP,Zj1];rw[<-FN];by_cases h0:jc*te.size=0
    .   simp only[h0,Zf0,Sem.run_bind,Sem.run_pure,Result.andThen_ok,newRow,run_newObj,World.alloc_eq]
    .   simp only[h0,Zd9,Sem.run_bind,Sem.run_pure,Result.andThen_ok,zV,newRow,run_newObj,World.alloc_eq]
   simp[execOp,ho,br,KQ,bU]
 .exact AT (by simp[St.aF,Pos.aB]) dU e1 (λc hc=>by cases hc;rfl) (by rw[Rq];exact Za3 _)
theorem Rr(hT:bM P tt)(t:TypeId)(len:Nat)(ps:Array (Nat×Operand)):cE P tt (.buildSlice t len ps):=by
 intro ρ C st w k xs cls fr a o vs res ho hc hW hF hx hr;simp only[fo]at hc;split at hc<;>first|(cases hc;done)|skip
 rename_i ti l0 cI hl;split at hc<;>first|(cases hc;done)|skip
 rename_i e hk;split at hc<;>first|(cases hc;done)|skip
 rename_i te eJ;split at hc<;>first|(cases hc;done)|skip
 rename_i z hz hlim;have hlim:=Za0 hlim;cases hc;obtain⟨d,hd,bS⟩:=(hT.at cI).und;rw[hk]at bS;rw[kY bS]at hd;obtain⟨i0,kN,jP,hib,zT⟩:=(hT.at eJ).info;have hv:=dG hl hF hx;simp only[az.run,qu]at hr;split at hr<;>first|(cases hr;done)|skip
 rename_i cs yq;simp only[H0]at hr;subst hr;obtain⟨zv0,hzv0,_,PW,_⟩:=zT z hz;obtain⟨zv,zV,_,r9⟩:=rZ hT eJ hz (ρ:=ρ) (n:=st.next.toNat) (C:=C) w;obtain⟨KR,Rq⟩:=PV (m:=len) r9 PW;generalize FN:(Array.range (len*te.size)).map ((if len*te.size=0 then(#[]:Array Value)else zv.cells)[· % (if len*te.size=0 then(#[]:Array Value)else zv.cells).size]!)=row at KR Rq;have X6:(ps.map λ(i,x)=>(i,a.eval x)).toList=ps.toList.map λx=>(x.1,a.eval x.2):=by simp
 obtain⟨kO,e1,e2⟩:=OC (λi=>some (i*te.size,te.size)) yq KR (ps:=ps.toList.map λx=>(x.1,a.eval x.2)) (by simpa [Zf7,Zi9]using hv) (by simp[Zf7,Zi9]);have hlen:cs.length=kO.size:=by simpa using e2.1
 have afL:∀{pp:List (Nat×Nat)}{vs cells r:List AV},bG cells pp vs=some r->r.length=cells.length:=by
   intro pp;induction pp with
   |nil=>intro vs cells r h;unfold bG at h;split at h<;>first|(cases h;done)|(simp only[H0]at h;subst h;rfl)|(rename_i hh;cases hh)
   |cons p pp ih=>
    intro vs cells r h;unfold bG at h;(split at h<;>first|(cases h;done)|(rename_i hh;cases hh;done)|skip);rename_i hh;simp only[Zh4]at hh;obtain⟨rfl,rfl⟩:=hh;(split at h<;>first|(cases h;done)|skip);rename_i g1 g2;have g1:=H3 g1;have g2:=Za0 g2;rw[ih h];simp[aH];omega
 have hcsl:=afL yq;rw[iA,PW]at hcsl;obtain⟨ρ',aQ,dU,ei,hE⟩:=uY (w':=w.alloc (.cells kO e)) (o:= .cells kO e) (x0:= .cells cs 0) (base:=0) (size:=kO.size) hW none rfl rfl rfl rfl (λρ' n' aQ hn=>
   wT (w':=w.alloc (.cells kO e)) (e:=e) (fr:=(0,0)) (by show(w.heap.push _)[w.heap.size]? =_;simp) (by omega)
    (by rw[hlen, <-Ze9,Zk7];exact e2.mono aQ hn) (λi _=>by simp))
 refine⟨_,.slice (some ⟨w.heap.size,0,none⟩) len len,_,ρ',?_,Yields.value _,aQ,ei,?_,hE⟩
 . have bU:(Instr.buildSlice t len (ps.map λ(i,x)=>(i,a.eval x))).run P w= .ok (.slice (some ⟨w.heap.size,0,none⟩) len len) (w.alloc (.cells kO e)):=by
    unfold Instr.buildSlice;simp only[Sem.run_bind,aM hd,Result.andThen_ok,gH kN,jP];rw[Za1 (by omega)];by_cases h0:len*te.size=0
    .   simp only[h0,Zf0,Sem.run_bind,Sem.run_pure,Result.andThen_ok];simp only[h0,Zf0]at FN;rw[FN,X6,e1];simp only[newRow,Sem.run_bind,run_newObj,World.alloc_eq,Result.andThen_ok,Sem.run_pure]
    .   simp only[h0,Zd9,Sem.run_bind,Sem.run_pure,Result.andThen_ok,zV];simp only[h0,Zd9]at FN;rw[FN,X6,e1];simp only[newRow,Sem.run_bind,run_newObj,World.alloc_eq,Result.andThen_ok,Sem.run_pure]
   simp only[execOp,ho,Sem.run_bind];rw[bU];rfl
 .exact AT (by simp[St.aF,Pos.aB]) dU (Za3 _) (λc hc=>by cases hc;rfl) (by omega)
theorem aay(t:TypeId)(r:Option Operand)(hT:bM P tt):cE P tt (.makeMap t r):=by
 intro ρ C st w k xs cls fr a o vs res ho hc hW hF hx hr;have key:k= .mkMap/\(execOp a.eval o).run P w= .ok (.value (.map (some w.heap.size))) (w.alloc (.map #[] 0)):=by
  simp only[fo]at hc;split at hc<;>first|(cases hc;done)|skip
  rename_i ti cI;obtain⟨d,hd,bS⟩:=(hT.at cI).und;split at hc<;>first|(cases hc;done)|skip
  .cases hc;exact⟨rfl,by simp[execOp,ho,Instr.makeMap]⟩
  .rename_i hk;rw[hk]at bS;rw[KN bS]at hd;cases hc;exact⟨rfl,by simp[execOp,ho,Instr.makeMap,aM hd,Act.eval,asInt,asIntOf]⟩
 obtain⟨rfl,bU⟩:=key;simp only[az.run,H7,H0]at hr;subst hr;obtain⟨ρ',aQ,dU,ei,hE⟩:=uY (w':=w.alloc (.map #[] 0)) (o:= .map #[] 0) (x0:= .map [] 0) (base:=0) (size:=0) hW none rfl rfl rfl rfl (λρ' n' aQ hn=>
  ⟨#[],by show(w.heap.push _)[w.heap.size]? =_;simp,rfl,λi e e' h=>by simp at h⟩)
 refine⟨_,_,_,ρ',bU,Yields.value _,aQ,ei,?_,hE⟩;have:=aj.map (ρ:=ρ') (n:=(st.aF none none (some (.map [] 0))).next.toNat) (C:=C) st.next (by simp[St.aF,Pos.aB]);rw[dU]at this;exact this
theorem Zl(hT:bM P tt)(t:TypeId)(x:Operand):cE P tt (.range t x):=by
 intro ρ C st w k xs cls fr a o vs res ho hc hW hF hx hr;simp only[fo]at hc;split at hc<;>first|(cases hc;done)|skip
 rename_i ti b cI hb;split at hc<;>first|(cases hc;done)|skip
 rename_i hk;cases hc;obtain⟨d,hd,bS⟩:=(hT.at cI).und;rw[hk]at bS;rw[kL bS]at hd;obtain⟨v,rfl,hv⟩:=eA hb hF hx;simp only[az.run,ER]at hr;split at hr<;>first|(cases hr;done)|skip
 rename_i s;simp only[H0]at hr;subst hr;obtain⟨bs,he,hs⟩:=hv.dP;obtain⟨ρ',aQ,dU,ei,hE⟩:=uY (w':=w.alloc (.stringIter bs 0)) (o:= .stringIter bs 0) (x0:= .iR s 0) (base:=0) (size:=0) hW none rfl rfl rfl rfl (λρ' n' aQ hn=>
   ⟨bs,by show(w.heap.push _)[w.heap.size]? =_;simp,hs,rfl⟩)
 refine⟨_,.pointer (some ⟨w.heap.size,0,none⟩),_,ρ',?_,Yields.value _,aQ,ei,?_,hE⟩
 .simp[execOp,ho,he,Instr.range,aM hd]
 .have:=aj.ptr (ρ:=ρ') (n:=(st.aF none none (some (.iR s 0))).next.toNat) (C:=C) st.next 0 (by simp[St.aF,Pos.aB]);rw[dU]at this;simpa using this
theorem TV(hT:bM P tt)(src dst:TypeId)(x:Operand)(hb:∃xs cls,fo tt (.convert src dst x)=some (.conv .bytes,xs,cls)):cE P tt (.convert src dst x):=by
 intro ρ C st w k xs cls fr a o vs res ho hc hW hF hx hr;obtain⟨_,_,iz⟩:=hb;rw[hc]at iz;simp only[H0,Za9]at iz;obtain⟨rfl,_⟩:=iz;simp only[fo]at hc;split at hc<;>first|(cases hc;done)|skip
 rename_i s d b hs hd hb;obtain⟨ds,tZ,BX⟩:=(hT.at hs).und;obtain⟨dd,hdd,bS⟩:=(hT.at hd).und;split at hc<;>first|(cases hc;done)|skip
 . rename_i e h1 h2;(split at hc<;>first|(cases hc;done)|skip);rename_i te eJ;(split at hc<;>first|(cases hc;done)|skip);rename_i hk8;cases hc;rw[h1]at BX;rw[h2]at bS;rw[kL BX]at tZ;rw[kY bS]at hdd;obtain⟨de,hde,hke⟩:=(hT.at eJ).und;rw[hk8]at hke;rw[GP hke]at hde;obtain⟨v,rfl,hv⟩:=eA hb hF hx;simp only[az.run,Ac]at hr;split at hr<;>first|(cases hr;done)|(rename_i heq;cases heq;done)|(rename_i heq;cases heq)
   (rename_i u;simp only[H0]at hr;subst hr;obtain⟨bs,he,hs⟩:=hv.dP;have bU:=run_bytes_of_string (P:=P) w src dst e bs tZ hdd hde;have Rp:bs.size<=grownCap w bs.size 0 e:=(by unfold grownCap Question.cut;exact Zm4 _ _);generalize grownCap w bs.size 0 e=cap at bU Rp;have eF:(bytesRow bs cap).size=cap:=by have:bs.data.size=bs.size:=rfl;simp[bytesRow,this];omega);have hul:u.length=bs.size:=(we hs).symm;have hrel:∀ρ' n',av ρ' n' C (u.map λc=>AV.int .u8 (.ofNat c)) ((bytesRow bs cap).toList.take (u.map λc=>AV.int .u8 (.ofNat c)).length):=by
     (intro ρ' n';have h1:(bytesRow bs cap).toList.take (u.map λc=>AV.int .u8 (.ofNat c)).length=u.map λc=>Value.int .u8 (.ofNat c):=by have hdl:bs.data.toList.length=bs.size:=(by simp);rw[Zb0,hul];simp only[bytesRow,Array.toList_append,Zo1];rw[Zj9 (by simp), <-hs,Zf7];rfl);rw[h1];refine⟨by simp,λi v x hv hx=> ?_⟩;simp only[Zb5,Zf1]at hv hx;obtain⟨c,hc,rfl⟩:=hv;obtain⟨c',uZ,rfl⟩:=hx;rw[hc]at uZ;cases uZ;exact .int _ _
   obtain⟨ρ',aQ,dU,ei,hE⟩:=uY (w':=w.drew.alloc (.cells (bytesRow bs cap) e ((bytesRow bs cap).size,(bytesRow bs cap).size+1))) (o:= .cells (bytesRow bs cap) e ((bytesRow bs cap).size,(bytesRow bs cap).size+1))
     (x0:= .cells (u.map λc=>AV.int .u8 (.ofNat c)) 0) (base:=0) (size:=(bytesRow bs cap).size) hW none rfl rfl rfl rfl (λρ' n' aQ hn=>
     wT (e:=e) (fr:=((bytesRow bs cap).size,(bytesRow bs cap).size+1)) (by show(w.heap.push _)[w.heap.size]? =_;simp) (by rw[Zb0,hul,eF];exact Rp) (hrel _ _) (λi hi=>by simp;omega))
   refine⟨_,.slice (some ⟨w.heap.size,0,none⟩) u.length cap,_,ρ',?_,Yields.value _,aQ,ei,?_,hE⟩
   .simp only[execOp,ho,he,Sem.run_bind];rw[bU,hul];rfl
   .exact AT (by simp[St.aF,Pos.aB]) dU (by omega) (λc hc=>by cases hc) (by omega)
 all_goals
   repeat' split at hc
   all_goals (cases hc;done)
end
section
variable{P:Program}{tt:TT}{ρ:Pos->Loc}{C:Cells}{st:St}{w w':World}
theorem yu{n:Nat}:∀{l:List AV}{ys:List Value},aZ l=true->av ρ n C l ys->∀y∈ys,y.oneCell'=true
 |[],ys,_,h=>by have:=h.mF;subst this;simp
 |v::l,ys,h1,h=>by
  unfold aZ at h1;split at h1<;>first|(cases h1;done)|skip
  rename_i ho;obtain⟨y,ys',rfl,hv,hs⟩:=h.cons_inv;intro z hz;simp at hz;rcases hz with rfl|hz
  .cases hv<;>first|rfl|(simp[AV.one]at ho;done)
  .exact yu h1 hs z hz
theorem Cq{α:Type}(l:List α){i:Nat}(vs:List α)(hi:i<=l.length)(k:Nat):(aH l i vs)[k]? =if k<i then l[k]? else if k<i+vs.length then vs[k - i]? else l[k]? :=by
 unfold aH;have hl:(l.take i).length=i:=by simp;omega
 split
 .rename_i h;rw[Zc9 (by omega),Zb1,Za2 h]
 . rename_i h;rw[Zd0 (by omega),hl];split
   .rename_i h';rw[Zc9 (by omega)]
   .rename_i h';rw[Zd0 (by omega),Zc6];congr 1;omega
theorem FO{α:Type}(l:List α)(b off:Nat)(vs:List α)(h:b+off<=l.length):(aH l (b+off) vs).drop b=aH (l.drop b) off vs:=by
 apply Zj0;intro k;rw[Zc6,Cq l vs h,Cq (l.drop b) vs (by simp;omega),Zc6];by_cases h1:k<off
 .rw[Za2 (by omega),Za2 h1]
 . rw[Za1 (by omega),Za1 h1];by_cases h2:k<off+vs.length
   .rw[Za2 (by omega),Za2 h2];congr 1;omega
   .rw[Za1 (by omega),Za1 h2]
theorem NC{α:Type}(l:List α)(off m:Nat)(vs:List α)(h:off+vs.length<=m)(h':m<=l.length):(aH l off vs).take m=aH (l.take m) off vs:=by
 apply Zj0;intro k;rw[Zb1,Cq l vs (by omega),Cq (l.take m) vs (by simp;omega),Zb1];by_cases h1:k<off
 .rw[Za2 (by omega),Za2 h1,Za2 h1,Za2 (by omega)]
 . by_cases h2:k<off+vs.length
   .rw[Za2 (by omega),Za1 h1,Za2 h2,Za1 h1,Za2 h2]
   .rw[Za1 h1,Za1 h2,Za1 h1,Za1 h2]
theorem Il(hW:aT ρ C st w){b:Pos}{cs vs:List AV}{fz off:Nat}{ys:List Value}(hb:st.heap.get b=some (.cells cs fz))(hle:off+vs.length<=cs.length)(hfz:fz<=off)
   (h1:aZ vs=true) (hv:av ρ st.next.toNat C vs ys):
   ∃w',(storeCells ⟨(ρ b).ay,(ρ b).base+off,none⟩ ys).run P w= .ok () w'/\aT ρ C (st.aF none (some (b,.cells (aH cs off vs) fz)) none) w'/\jr ρ st w ρ (st.aF none (some (b,.cells (aH cs off vs) fz)) none) w':=by
 obtain⟨_,_,c,e,fr,g1,g2,g3,g4,g5⟩:=hW.live b _ hb;have hl:vs.length=ys.length:=hv.1;obtain⟨w',e1,e2,e3,e4,e5,e6,e7⟩:=jD (P:=P) (ρ b).ay e fr ys 0 ((ρ b).base+off) c w g1 (by omega) (yu h1 hv) (λk hk jX=>by
   have:=g5 (k - (ρ b).base) (by omega) (by omega)
   rwa [show(ρ b).base+(k - (ρ b).base)=k from by omega]at this)
 simp only[Zh8]at e1 e2;refine⟨w',e1,?_⟩;have hlen:(aH cs off vs).length=cs.length:=by simp[aH];omega
 refine PT hW hb e5 e6 e7 e3 e4 ⟨_,e,fr,e2,?_,?_,?_,λi hi KS=>g5 i hi ?_⟩
 .simp[aH];omega
 .rw[hlen];simp[aH];omega
 .rw[hlen];rw[FO _ _ _ _ (by simp;omega),NC _ _ _ _ (by omega) (by simp;omega)];exact g4.aH hv off
 .simp[aH]at KS;omega
theorem aaz(hW:aT ρ C st w){b:Pos}{cs vs:List AV}{t:TypeId}{off:Nat}{ys:List Value}(hb:st.heap.get b=some (.typed t cs))(hle:off+vs.length<=cs.length)
   (h1:aZ vs=true) (hv:av ρ st.next.toNat C vs ys):
   ∃w',(storeCells ⟨(ρ b).ay,(ρ b).base+off,none⟩ ys).run P w= .ok () w'/\aT ρ C (st.aF none (some (b,.typed t (aH cs off vs))) none) w'/\jr ρ st w ρ (st.aF none (some (b,.typed t (aH cs off vs))) none) w':=by
 obtain⟨_,_,c,fr,g1,g2,g3,g4,g5,g6⟩:=hW.live b _ hb;have hl:vs.length=ys.length:=hv.1;obtain⟨w',e1,e2,e3,e4,e5,e6,e7⟩:=jD (P:=P) (ρ b).ay t fr ys 0 ((ρ b).base+off) c w g1 (by omega) (yu h1 hv) (λk hk jX=>by
   have:=g5 (k - (ρ b).base) (by omega) (by omega)
   rwa [show(ρ b).base+(k - (ρ b).base)=k from by omega]at this)
 simp only[Zh8]at e1 e2;refine⟨w',e1,?_⟩;have hlen:(aH cs off vs).length=cs.length:=by simp[aH];omega
 refine PT hW hb e5 e6 e7 e3 e4 ⟨_,fr,e2,?_,?_,?_,λi hi KS=>g5 i hi ?_,g6⟩
 .simp[aH];omega
 .rw[hlen];simp[aH];omega
 .rw[hlen];rw[FO _ _ _ _ (by simp;omega),NC _ _ _ _ (by omega) (by simp;omega)];exact g4.aH hv off
 .simp[aH]at KS;omega
theorem aj.wm{n:Nat}:aj ρ n C .undef undef:= .tuple [] #[] rfl (λ_ _ _ h=>by simp at h)
theorem aaA(hT:bM P tt)(t:TypeId)(x y:Operand):cE P tt (.store t x y):=by
 intro ρ C st w k xs cls fr a o vs res ho hc hW hF hx hr;simp only[fo]at hc;split at hc<;>first|(cases hc;done)|skip
 rename_i ti l cI hl;cases hc;obtain⟨p,v,rfl,h1,h2⟩:=Ro hl hF hx;obtain⟨i0,kN,jP,_⟩:=(hT.at cI).info;simp only[az.run,CT]at hr;split at hr<;>first|(cases hr;done)|skip
 rename_i b off;split at hr<;>first|(cases hr;done)|skip
 rotate_left
 .rename_i t0 cs hb;(split at hr<;>first|(cases hr;done)|skip);rename_i e1 e2 e4;have e1:=H3 e1;have e2:=Za0 e2;simp only[H0]at hr;subst hr;obtain⟨_,he⟩:=h1.eu;have hc:=h2.cells;obtain⟨w',bU,ei,hE⟩:=aaz (P:=P) (vs:=v.cells) (off:=off) hW hb (by omega) e4 hc;refine⟨.skip,undef,w',ρ,?_,.inr ⟨rfl,rfl⟩,λ_ _=>rfl,ei,aj.wm,hE⟩;have eF:(a.eval y).cells.size=ti.size:=(by have:=hc.1;simp at this;omega);simp[execOp,ho,he,Instr.storeAt,Instr.sureAddr,storeVar,gH kN,jP,eF,bU]
 rename_i cs fz hb;split at hr<;>first|(cases hr;done)|skip
 rename_i e1 e2 e3 e4;have e1:=H3 e1;have e2:=Za0 e2;have e3:=Za0 e3;simp only[H0]at hr;subst hr;obtain⟨_,he⟩:=h1.eu;have hc:=h2.cells;obtain⟨w',bU,ei,hE⟩:=Il (P:=P) hW hb (by omega) e3 e4 hc;refine⟨.skip,undef,w',ρ,?_,.inr ⟨rfl,rfl⟩,λ_ _=>rfl,ei,aj.wm,hE⟩;have eF:(a.eval y).cells.size=ti.size:=by have:=hc.1;simp at this;omega
 simp[execOp,ho,he,Instr.storeAt,Instr.sureAddr,storeVar,gH kN,jP,eF,bU]
theorem run_setObj_map{r:Nat}{es:Array MapEntry}{c:Nat}{o:Obj}{w:World}(h:w.heap[r]? =some (.map es c)):(setObj r o).run P w= .ok () { w with heap:=w.heap.setIfInBounds r o }:=by
 simp[setObj,Sem.run,h]
theorem PY(hW:aT ρ C st w){b:Pos}{es:List (AV×AV×Nat)}{clock:Nat}(hb:st.heap.get b=some (.map es clock)){JU:List (AV×AV×Nat)}{Zm:Array MapEntry}{GY:Nat}
  (hE:E5 ρ st.next.toNat C JU Zm.toList):
  aT ρ C (st.aF none (some (b,.map JU GY)) none) { w with heap:=w.heap.setIfInBounds (ρ b).ay (.map Zm GY) }/\jr ρ st w ρ (st.aF none (some (b,.map JU GY)) none) { w with heap:=w.heap.setIfInBounds (ρ b).ay (.map Zm GY) }:=by
 have aK:=(hW.live b _ hb).2.1;refine PT hW hb rfl rfl rfl (by simp) (λk hk=>by simp[Zd3 (Ne.symm hk)]) ⟨Zm,by simp[aK],by simpa using hE.1,λi e e' h1 h2=>hE.2 i e e' h1 (by simpa using h2)⟩
theorem OD{n:Nat}{pk:PK}{u v:AV}{x y:Value}(h1:aj ρ n C u x)(h2:aj ρ n C v y)(h:uE pk u v=some true)(m:Nat):Instr.sameBits m y x=true:=by
 unfold uE at h;split at h<;>first|(cases h;done)|skip
 .simp only[H0]at h;rw[h1.fS,h2.fS];rename_i p q;have:p=q:=(by simpa using h);subst this;cases m<;>simp[Instr.sameBits]
 . (split at h<;>first|(cases h;done)|skip);rename_i BV;have:=wR BV;subst this;simp only[H0,iV]at h;rw[h1.gP,h2.gP];rename_i p q _;have:p=q:=(by simpa using h);subst this;cases m<;>simp[Instr.sameBits]
 .simp only[H0]at h;obtain⟨bx,rfl,e1⟩:=h1.dP;obtain⟨bz,rfl,e2⟩:=h2.dP;have:bz==bx:=(by rw[beq_toListBytes,GU e2 e1,mR];exact(mR.1 h).symm);cases m<;>simpa [Instr.sameBits]using this
theorem SK{pk:PK}{u:AV}:∀{es:List (AV×AV×Nat)}{i j:Nat}{v:AV},iT pk u es i=some (some (j,v))->∃e,i<=j/\es[j - i]? =some e/\uE pk u e.1=some true
 |[],i,j,v,h=>by simp[iT]at h
 |(k',v',born)::es,i,j,v,h=>by
  unfold iT at h;split at h<;>first|(cases h;done)|skip
  .rename_i hq;simp only[H0,Za9]at h;obtain⟨rfl,_⟩:=h;exact⟨(k',v',born),Za3 _,by simp,hq⟩
  .obtain⟨e,h1,h2,h3⟩:=SK h;refine⟨e,by omega,?_,h3⟩;rw[show j - i=(j - (i+1))+1 from by omega];simpa using h2
theorem KT(k v:AV):∀(es:List (AV×AV×Nat))(i j:Nat),(mZ k v es i)[j]? =if j=i then(es[i]?).map (λe=>(k,v,e.2.2))else es[j]?
 |[],i,j=>by cases i<;>cases j<;>simp[mZ]
 |(a,b,born)::es,0,j=>by cases j<;>simp[mZ]
 |e::es,i+1,j=>by
  cases j with
  |zero=>simp[mZ]
  |succ j=>simp[mZ,KT k v es i j]
theorem PZ (hT:bM P tt)(op:Op)(t:TypeId)(m k0 v0:Operand)(hop:op= .mapUpdate t m k0 v0\/op= .insert t m k0 v0):cE P tt op:=by
 intro ρ C st w k xs cls fr a o vs res ho hc hW hF hx hr;have hc:fo.Zb tt t m k0 v0=some (k,xs,cls):=by rcases hop with rfl|rfl<;>simpa only[fo]using hc
 have hex:(execOp a.eval o).run P w=((Instr.mapUpdate t (a.eval m) (a.eval k0) (a.eval v0)).run P w).andThen λ_ w=>.ok .skip w:=by
   rcases hop with rfl|rfl<;>simp[execOp,ho]
 unfold fo.Zb at hc;split at hc<;>first|(cases hc;done)|skip
 rename_i ti l cI hl;split at hc<;>first|(cases hc;done)|skip
 rename_i kt et hk;split at hc<;>first|(cases hc;done)|skip
 rename_i tk zU;obtain⟨d,hd,bS⟩:=(hT.at cI).und;rw[hk]at bS;rw[KN bS]at hd;obtain⟨dk,SI,BV⟩:=(hT.at zU).und;have key:∃pk,k= .mapSet pk/\xs=l/\pk.fits dk=true:=by
   split at hc<;>first|(cases hc;done)|skip
   all_goals
     rename_i h1;cases hc;refine⟨_,rfl,rfl,adG tk.k BV ?_⟩
   .exact .inr (.inl ⟨⟨_,h1⟩,rfl⟩)
   .exact .inr (.inr ⟨h1,rfl⟩)
   .exact .inl ⟨h1,rfl⟩
 obtain⟨pk,rfl,rfl,FK⟩:=key;obtain⟨mm,kk,vv,rfl,h1,h2,h3⟩:=evs3 hl hF hx;have JR:∀e w,(Instr.checkKey e 10000 kt (a.eval k0)).run P w= .ok () w:=λe w=>GW SI FK e 9999 _ w
 simp only[az.run,wN]at hr;split at hr<;>first|(cases hr;done)|skip
 rename_i b;split at hr<;>first|(cases hr;done)|skip
 rename_i es clock hb;obtain⟨_,he⟩:=h1.wS;obtain⟨_,_,es',di,hlen,bW⟩:=hW.live _ _ hb;have hE:E5 ρ st.next.toNat C es es'.toList:=⟨by simpa using hlen,λi e e' h1 h2=>bW i e e' h1 (by simpa using h2)⟩
 split at hr<;>first|(cases hr;done)|skip
 . rename_i i v hpk hf;simp only[H0]at hr;subst hr;obtain⟨r',Vb,qx⟩:=AR FK h2 hE hf;rcases qx with⟨e1,_⟩|⟨j',v',y,e1,e2,e3,_,e5⟩
   .cases e1
   . cases  e1;subst e2;obtain⟨e,_,hei,hek⟩:=SK hf;rw[Zl5]at hei;have hi:i<es'.size:=(by omega);have Zn:es'[i]? =some es'[i]:=Ze3 hi;have hkey:=(bW i e es'[i] hei Zn).1;have hsb:=OD h2 hkey hek 10000;have hE2:E5 ρ st.next.toNat C (mZ kk vv es i) (es'.modify i λe=>{ e with key:=a.eval k0,val:=a.eval v0 }).toList:=by
        refine⟨?_,λj e e' g1 g2=> ?_⟩
        . have ND:∀(es:List (AV×AV×Nat))(i:Nat),(mZ kk vv es i).length=es.length:=by
            intro es;induction es with
            |nil=>intro i;cases i<;>rfl
            | cons e es ih=>intro i;cases i with
              |zero=>obtain⟨a,b,c⟩:=e;rfl
              |succ i=>simp[mZ,ih i]
          rw[ND];simpa using hlen
        . rw[KT]at g1;simp only[Zf3,Zm2]at g2;by_cases hji:j=i
          .subst hji;rw[Za2 rfl,hei]at g1;simp[Zn]at g1 g2;subst g1;subst g2;exact⟨h2,h3,(bW j e es'[j] hei Zn).2.2⟩
          .rw[Za1 hji]at g1;rw[Za1 (λe=>hji e.symm)]at g2;exact bW j e e' g1 g2
     obtain⟨ei,hE'⟩:=PY hW hb (GY:=clock) hE2;refine⟨.skip,undef,_,ρ,?_,.inr ⟨rfl,rfl⟩,λ_ _=>rfl,ei,aj.wm,hE'⟩;rw[hex];simp only[Instr.mapUpdate,Sem.run_bind,aM hd,Result.andThen_ok,he,run_getObj_map di,JR,run_findKey SI Vb,Zn,Ze0,Zi7,Instr.keyThatStays,hsb,Zf0,Sem.run_pure,run_setObj_map di]
 . rename_i hpk hf;simp only[H0]at hr;subst hr;obtain⟨r',Vb,qx⟩:=AR FK h2 hE hf;rcases qx with⟨_,e2⟩|⟨j',v',y,e1,_⟩
   . subst  e2;have hE2:E5 ρ st.next.toNat C (es++[(kk,vv,clock)]) (es'.push { key:=a.eval k0,val:=a.eval v0,born:=clock }).toList:=by
        refine⟨by simp[hlen],λj e e' g1 g2=> ?_⟩;simp only[Array.toList_push]at g2;rcases Zi1 j es.length with hj|hj
        .rw[Zc9 hj]at g1;rw[Zc9 (by simp;omega)]at g2;exact bW j e e' g1 (by simpa using g2)
        .rw[Zd0 hj]at g1;rw[Zd0 (by simp;omega)]at g2;have:j - es.length=0:=(by have:=(H5.1 g1).1;simp at this;omega);rw[this]at g1;have:j - es'.toList.length=0:=(by simp;omega);rw[this]at g2;simp at g1 g2;subst g1;subst g2;exact⟨h2,h3,rfl⟩
     obtain⟨ei,hE'⟩:=PY hW hb (GY:=clock+1) hE2;refine⟨.skip,undef,_,ρ,?_,.inr ⟨rfl,rfl⟩,λ_ _=>rfl,ei,aj.wm,hE'⟩;rw[hex];simp only[Instr.mapUpdate,Sem.run_bind,aM hd,Result.andThen_ok,he,run_getObj_map di,JR,run_findKey SI Vb,run_setObj_map di]
   .cases e1
theorem aaB(it:Operand)(isS:Bool):cE P tt (.next it isS):=by
 intro ρ C st w k xs cls fr a o vs res ho hc hW hF hx hr;simp only[fo]at hc;split at hc<;>first|(cases hc;done)|skip
 rename_i b hb;cases hc;obtain⟨v,rfl,hv⟩:=eA hb hF hx;simp only[az.run,H8]at hr;split at hr<;>first|(cases hr;done)|skip
 rename_i bb;split at hr<;>first|(cases hr;done)|skip
 rename_i s pos jE;obtain⟨_,he⟩:=hv.eu;obtain⟨_,_,bs,JQ,hs,UA⟩:=hW.live _ _ jE;have eF:=we hs;have qO:(getObj (ρ bb).ay).run P w= .ok (.stringIter bs pos) w:=by simp[getObj,Sem.run,JQ]
 rw[UA]at he;split at hr
 . (rename_i aK;have aK:pos<s.length:=(by simpa using aK);(split at hr<;>first|(cases hr;done)|skip);rename_i c wd OE;simp only[H0]at hr;subst hr;have Ij:pos<bs.size:=(by omega);unfold X0 at OE;(split at OE<;>first|(cases OE;done)|skip);rename_i c' uZ;(split at OE<;>first|(cases OE;done)|skip);rename_i abX;simp only[H0,Za9]at OE;obtain⟨rfl,rfl⟩:=OE;have abX:c'<128:=(by simpa using abX);have hcb:(bs[pos]'Ij).toNat=c':=by rw[kq, <-hs,Zb5]at uZ;obtain⟨b',tY,zP⟩:=Zf1.1 uZ;obtain⟨hl,hbb'⟩:=H5.1 tY;rw[<-zP, <-hbb'];rfl);have X8:=decode_ascii bs pos Ij (by rw[hcb];exact abX);rw[hcb]at X8;have Im:(setObj (ρ bb).ay (.stringIter bs (pos+1))).run P w= .ok () { w with heap:=w.heap.setIfInBounds (ρ bb).ay (.stringIter bs (pos+1)) }:=(by simp[setObj,Sem.run,JQ]);have hltb:=(hW.live _ _ jE).2.1
   obtain⟨ei,hE'⟩:=PT (w':={ w with heap:=w.heap.setIfInBounds (ρ bb).ay (.stringIter bs (pos+1)) }) (x0:= .iR s (pos+1)) hW jE rfl rfl rfl (by simp)
     (λk hk=>by simp[Zd3 (Ne.symm hk)]) ⟨bs,by simp[hltb],hs,UA⟩
   refine⟨.value (.tuple #[.bool true,goInt pos,.int .i32 (c':Int)]),_,_,ρ,?_,Yields.value _,λ_ _=>rfl,ei,?_,hE'⟩
   .simp only[execOp,ho,he,Instr.next,Sem.run_bind,qO,Result.andThen_ok,Ij,Zf0,X8,Im,Sem.run_pure]
   .exact .rW (av.cons (.bool true) (av.cons (.int _ _) (av.cons (.int _ _) av.nil)))
 . (rename_i aK;have aK:¬pos<s.length:=λh=>by have:Nat.blt pos s.length=true:=(by simpa using h);rw[this]at aK;cases aK);simp only[H0]at hr;subst hr;have Ij:¬pos<bs.size:=(by omega);refine .pure (x:= .tuple #[.bool false]) ?_ (.rW (av.cons (.bool false) av.nil));simp only[execOp,ho,he,Instr.next,Sem.run_bind,qO,Result.andThen_ok,Ij,Zd9,Sem.run_pure]
end
section
variable{P:Program}{tt:TT}{ρ:Pos->Loc}{C:Cells}{st:St}{w w':World}
theorem aT.of_heap(hW:aT ρ C st w)(h:w'.heap=w.heap):aT ρ C st w' where
 live b x hb:=let⟨h1,h2,h3⟩:=hW.live b x hb;⟨h1,by rw[h];exact h2,h3.of_heap (by rw[h])⟩
 inj:=hW.inj
 cV a v ha:=let⟨h1,h2⟩:=hW.cV a v ha;⟨by unfold World.cell? at h1 ⊢; rw[h];exact h1,h2⟩
 whole a v ha o ho:=by have:=hW.whole a v ha o ho;unfold World.cell? at this ⊢; rw[h];exact this
theorem NF{es:Nat}:∀{xs:List (List AV)}(_h:∀(i:Nat)(cs:List AV),xs[i]? =some cs->cs.length=es)(q:Nat)(v:AV),
  xs.flatten[q]? =some v->∃cs,xs[q / es]? =some cs/\cs[q % es]? =some v
 |[],_,q,v,hv=>by simp at hv
 |c ::xs,h,q,v,hv=>by
  have hc:c.length=es:=h 0 c rfl;have gb:∀(i:Nat)(cs:List AV),xs[i]? =some cs->cs.length=es:=λi cs hi=>h (i+1) cs (by simpa using hi)
  rw[Ze6]at hv;rcases Zi1 q c.length with hq|hq
  . rw[Zc9 hq]at hv;refine⟨c,?_,?_⟩
    .   rw[Nat.div_eq_of_lt (by omega)];rfl
    .   rw[Zj6 (by omega)];exact hv
  . rw[   Zd0 hq]at hv;obtain⟨cs,h1,h2⟩:=NF gb (q - c.length) v hv;rw[hc]at hq h1 h2;have Zk:0<es:=by
        rcases Zn9 es with h0|h0
        .subst h0;have hl:=gb _ _ h1;have:=(H5.1 h2).1;omega
        .exact h0
    refine⟨cs,?_,?_⟩
    .   rw[Nat.div_eq_sub_div Zk hq];simpa using h1
    .   rw[Zn8 hq];exact h2
theorem NG{es:Nat}:∀{xs:List (List AV)}(_h:∀(i:Nat)(cs:List AV),xs[i]? =some cs->cs.length=es),xs.flatten.length=xs.length*es
 |[],_=>by simp
 |c::xs,h=>by have hc:c.length=es:=h 0 c rfl;rw[Ze6,Zd1,NG (λi cs hi=>h (i+1) cs (by simpa using hi)),hc,Zd7,Zi2];omega
theorem jR(hW:aT ρ C st w){es m:Nat}{u:AV}{x:Value}{new:List AV}{k:Nat}(hu:aj ρ st.next.toNat C u x)(hk:cS u=some k)(hmk:m<=k)(h:cq es m (λb=>st.heap.get b) u=some new)(w2:World)(e8:w2.heap=w.heap):
   ∃ys:List Value,(Builtin.firstCells es m x).run P w2= .ok ys.toArray w2/\av ρ st.next.toNat C new ys/\(u= .aq\/new.length=m*es):=by
 have GZ:=hW.of_heap (w':=w2) e8;unfold cq at h;split at h
 .simp only[H0]at h;subst h;rw[hu.eV];exact⟨[],by simp[Builtin.firstCells],av.nil,.inl rfl⟩
 . rename_i b off len cap es';simp only[cS,H0]at hk;subst hk;obtain⟨aa,aI,he,hle,_,ha⟩:=hu.cQ;rw[he];split at h
   .rename_i h0;have h0:=H3 h0;simp only[H0]at h;subst h;exact⟨[],by simp[Builtin.firstCells,h0,loadCells,loadCellsFrom],av.nil,.inr (by simp[h0])⟩
   .rename_i h0;have h0:=Zb2 h0;(split at h<;>first|(cases h;done)|skip);rename_i cs fz hb;have hm:m≠0:=(by intro e;subst e;simp at h0);obtain⟨_,rfl,_⟩:=ha (by omega);obtain⟨ys,h1,h2⟩:=GZ.loadCells (P:=P) hb h;exact⟨ys,by simp only[Builtin.firstCells];exact h1,h2,.inr (tN h)⟩
 . rename_i xs es';simp only[cS,H0]at hk;subst hk;(split at h<;>first|(cases h;done)|skip);rename_i Vc NH;have Vc:=H3 Vc;have NH:=Za0 NH;subst Vc;simp only[H0]at h;subst h;obtain⟨aa,aI,cell,he,hle,yp,g1,g2,g3⟩:=hu.rX;rw[he];have di:∀(i:Nat)(cs:List AV),(xs.take m)[i]? =some cs->cs.length=es:=λi cs hi=>by
     rw[Zb1]at hi;split at hi
     .exact g1 i cs hi
     .cases hi
   have Vd:=NG di;rw[Zj5,Zj8 NH]at Vd;have adH:∀q v,(xs.take m).flatten[q]? =some v->∃cs,xs[q / es]? =some cs/\cs[q % es]? =some v:=λq v hv=>by
     obtain⟨cs,h1,h2⟩:=NF di q v hv;rw[Zb1]at h1;split at h1
     .exact⟨cs,h1,h2⟩
     .cases h1
   refine⟨(List.range (m*es)).map λq=>cell (q / es) (q % es),?_,⟨by simp[Vd],λq v y hv hy=> ?_⟩,.inr Vd⟩
   .simp only[Builtin.firstCells];(refine run_loadCells w2 _ _ _ λq hq=> ?_);have aK:q<(xs.take m).flatten.length:=(by rw[Vd];exact hq);obtain⟨cs,h1,h2⟩:=adH q _ (H1 aK);have yp:=yp (by intro e;rw[e]at h1;simp at h1);obtain⟨ab,ao,asp⟩:=aa;simp only at yp;subst yp;have:=(GZ.cV _ _ (g2 _ _ _ _ h1 h2)).1;rw[ku];simp only at this;rw[show ao+q=ao+q / es*es+q % es from by rw[Zg7,Nat.mul_comm,Nat.div_add_mod]];exact this
   .obtain⟨cs,h1,h2⟩:=adH q v hv;have hq:q<m*es:=(by rw[<-Vd];exact(H5.1 hv).1);simp[hq]at hy;subst hy;exact g3 _ _ _ _ h1 h2
 . rename_i s;simp only[cS,H0]at hk;subst hk;(split at h<;>first|(cases h;done)|skip);rename_i Vc NH;have Vc:=H3 Vc;have NH:=Za0 NH;subst Vc;simp only[H0]at h;subst h;obtain⟨bs,rfl,hs⟩:=hu.dP;refine⟨(s.take m).map λ(c:Nat)=>Value.int .u8 (.ofNat c),?_,⟨by simp,λq v y hv hy=> ?_⟩,.inr (by simp;omega)⟩
   .simp only[Builtin.firstCells,Sem.run_pure];congr 1;apply Zl1;simp only[Zo1,ByteArray.data_extract,Zn0,List.extract,Zb7,Zl5];rw[<-hs, <-List.map_take,Zf7];rfl
   .simp only[Zb5,Zf1]at hv hy;obtain⟨c,hc,rfl⟩:=hv;obtain⟨c',uZ,rfl⟩:=hy;rw[hc]at uZ;cases uZ;exact .int _ _
 .cases h
theorem OG{n:Nat}{u:AV}{x:Value}{k:Nat}(hu:aj ρ n C u x)(hk:cS u=some k):(Builtin.lenOf x).run P w= .ok k w:=by
 unfold cS at hk;split at hk<;>first|(cases hk;done)|skip
 all_goals simp only[H0]at hk;subst hk
 .rw[hu.eV];rfl
 .obtain⟨_,_,he,_⟩:=hu.cQ;rw[he];rfl
 .obtain⟨_,_,_,he,_⟩:=hu.rX;rw[he];rfl
 .obtain⟨bs,rfl,hs⟩:=hu.dP;rw[<-we hs];rfl
theorem SL(nl:Nat):∀(r c:Nat),c<=nl+(nl+768) / 4->Builtin.growBy nl r c<=nl+(nl+768) / 4
 |0,c,h=>h
 |r+1,c,h=>by
  unfold Builtin.growBy;split
  .exact h
  .exact SL nl r _ (by omega)
theorem nextslicecap_le{Zo dA:Nat}(h:dA<Zo):Builtin.nextslicecap Zo dA<=2*Zo+768:=by
 unfold Builtin.nextslicecap;split
 .omega
 . split
   .omega
   .have:=SL Zo 4 dA (by omega);omega
theorem Io(hT:bM P tt){t t2 e:Nat}{ts:Array TypeId}{ti JP te:TI}(cI:tt.get (key t)=some ti)(KU:tt.get (key t2)=some JP)(hk:ti.k= .slice e)(n9:∀k,JP.k≠ .int k)
  (eJ:tt.get (key e)=some te) (h0:ts[0]? =some t) (h1:ts[1]? =some t2) (ty:TypeId) (base:Option Addr) (n cap m:Nat) (x:Value) (w:World)
  (hx:(Builtin.lenOf x).run P w= .ok m w) (hb:(2*(n+m)+768)*te.bytes<=281474976710656) (hi:n+m<=9223372036854775807):
  (Builtin.append_ ts ty #[.slice base n cap,x]).run P w=
    if n+m<=cap then((Builtin.firstCells te.size m x).run P w).andThen λnew w=>((match base with|some a=>storeCells (a.add (n*te.size)) new.toList|none=>pure ()).run P w).andThen λ_ w=>.ok (.slice base (n+m) cap) w
    else((Builtin.firstCells te.size n (.slice base n cap)).run P w.drew).andThen λdA w1=>((Builtin.firstCells te.size m x).run P w1).andThen λnew w2=>((zeroValue e).run P w2).andThen λz w3=>
        .ok (.slice (some ⟨w3.heap.size,0,none⟩) (n+m) (grownCap w (n+m) cap e)) (w3.alloc (.cells (dA++new++Builtin.zeroCells z.cells (grownCap w (n+m) cap e - (n+m))) e)):=by
 obtain⟨d,hd,bS⟩:=(hT.at cI).und;rw[hk]at bS;rw[kY bS]at hd;obtain⟨d2,hd2,abY⟩:=(hT.at KU).und;obtain⟨i0,kN,jP,hib,_⟩:=(hT.at eJ).info;have afM:∀k,d2≠ .int k:=by
  rintro k rfl;cases BV:JP.k<;>rw[BV]at abY<;>first|(simp[bB]at abY;done)|exact absurd BV (n9 _)
 have Zp:¬(((n+m:Nat):Int)>IntKind.i64.max):=by
  have:IntKind.i64.max=9223372036854775807:=by decide
  rw[this];omega
 have afN:¬(n+m<=cap)->¬(Builtin.nextslicecap (n+m) cap*te.bytes>2 ^ 48):=λhc=>by
  have h1:=nextslicecap_le (Nat.lt_of_not_le hc);have h2:=Zg3 te.bytes h1;have:(2:Nat) ^ 48=281474976710656:=by decide
  omega
 have Rp:∀q,(Question.appendCap (n+m) cap e).forced=q->q=false:=by rintro q rfl;rfl
 clear abY;cases d2<;>first|(exact absurd rfl (afM _))|skip
 all_goals
  unfold Builtin.append_;simp only[h0,h1,List.getElem?_toArray,Ze8,Zg1,Sem.run_bind,aM hd,Result.andThen_ok,gH kN,jP,aM hd2,Sem.run_pure,hx,Zd5,Zd9,Zl6,Zf0,Sem.run_ite];by_cases hc:n+m<=cap
  .rw[Za2 hc,Za2 hc];cases base<;>simp only[Sem.run_bind,Sem.run_pure,Result.andThen_ok]
  .rw[Za1 hc,Za1 hc];simp only[Sem.run_bind,U1 kN,hib,Result.andThen_ok,Zp,false_and,Zd9,afN hc,run_choose,Question.forced,Zd5,World.drew_eq,run_askRoom,Sem.run_pure,newRow,run_newObj,World.alloc_eq];rfl
end
section
variable{P:Program}{tt:TT}{ρ:Pos->Loc}{C:Cells}{st:St}{w w':World}
theorem abZ{L:Loc}{cs:List AV}{n:Nat}(fz:Nat)(h:kV ρ n C L w' (.cells cs 0)):kV ρ n C L w' (.cells cs fz):=
 let⟨c,e,fr,h1,h2,h3,h4,h5⟩:=h
 ⟨c,e,fr,h1,h2,h3,h4,λi _ hi=>h5 i (Zi3 _) hi⟩
theorem Zq(hW:aT ρ C st w)(del:Option Pos)(fz:Nat){dA new rest:List Value}{ol nl:List AV}{e:TypeId}{n m es aI:Nat}(h1:av ρ st.next.toNat C ol dA)(h2:av ρ st.next.toNat C nl new)
  (u0:ol.length=n*es) (JV:nl.length=m*es) (hr:rest.length=(aI - (n+m))*es) (hc:n+m<=aI) {w2:World} (e8:w2=w.drew.alloc (.cells (dA++new++rest).toArray e)):
  ∃ρ':Pos->Loc,(∀b:Pos,b.toNat<st.next.toNat->ρ' b=ρ b)/\aT ρ' C (st.aF del none (some (.cells (ol++nl) fz))) w2/\jr ρ st w ρ' (st.aF del none (some (.cells (ol++nl) fz))) w2/\
   aj ρ' (st.aF del none (some (.cells (ol++nl) fz))).next.toNat C (.slice st.next 0 (n+m) none es) (.slice (some ⟨w.heap.size,0,none⟩) (n+m) aI):=by
 subst e8;have u5:dA.length=n*es:=by rw[<-h1.1,u0]
 have jW:new.length=m*es:=by rw[<-h2.1,JV]
 have eF:(dA++new++rest).length=aI*es:=by simp only[Zd1,u5,jW,hr];rw[<-Zi2, <-Zi2];congr 1;omega
 obtain ⟨ρ',aQ,dU,ei,hE⟩:=uY (w':=w.drew.alloc (.cells (dA++new++rest).toArray e)) (o:= .cells (dA++new++rest).toArray e) (x0:= .cells (ol++nl) fz) (base:=0) (size:=(dA++new++rest).toArray.size) hW del rfl rfl rfl rfl (λρ' n' aQ hn=>
  abZ   fz <| wT (e:=e) (fr:=(0,0)) (by show(w.heap.push _)[w.heap.size]? =_;simp) (by simp[u0,JV,u5,jW])
   (by
        have:(dA++new++rest).toArray.toList.take (ol++nl).length=dA++new:=by
         rw[Zj9 (by simp[u0,JV,u5,jW])]
        rw[this];exact(h1.append h2).mono aQ hn) (λi _=>by simp))
 refine⟨ρ',aQ,ei,hE,AT (by simp[St.aF,Pos.aB]) dU hc (λc hc=>by cases hc) (by simp only[Zl7,eF];exact Za3 _)⟩
theorem Bx(z:Array Value)(m:Nat):(Builtin.zeroCells z m).toList.length=m*z.size:=by simp[Builtin.zeroCells]
theorem ab0{m:Nat}(h:Nat.beq m 0=false):m≠0:=Zb2 h
theorem Ip (hT:bM P tt){t t2 e:Nat}{ts:Array TypeId}{ti JP te:TI}{z:List AV}(cI:tt.get (key t)=some ti)(KU:tt.get (key t2)=some JP)(hk:ti.k= .slice e)(n9:∀k,JP.k≠ .int k)
   (eJ:tt.get (key e)=some te) (hz:te.zero=some z) (h0:ts[0]? =some t) (h1:ts[1]? =some t2) (ty:TypeId) {s u:AV} {xs xu:Value} {res:ct} (hW:aT ρ C st w)
   (hs:aj ρ st.next.toNat C s xs) (hu:aj ρ st.next.toNat C u xu) (hr:fk (λb=>st.heap.get b) st.next te.size te.bytes [s,u]=some res):
   tM P ρ C st w (((Builtin.append_ ts ty #[xs,xu]).run P w).andThen λv w=>.ok (.value v) w) res:=by
 simp only[fk]at hr;split at hr<;>first|(cases hr;done)|skip
 rename_i n m hn hm;split at hr<;>first|(cases hr;done)|skip
 rename_i b1 b2;have b1:=Za0 b1;have b2:=Za0 b2;have hlen:=OG (P:=P) (w:=w) hu hm;obtain⟨i0,kN,jP,_,zT⟩:=(hT.at eJ).info;obtain⟨zv0,hzv0,_,PW,_⟩:=zT z hz;have PO:=λw=>rZ hT eJ hz (ρ:=ρ) (n:=st.next.toNat) (C:=C) w
 have ND:∃base aI,xs= .slice base n aI/\n<=aI:=by
   unfold cS at hn;split at hn<;>first|(cases hn;done)|skip
   .cases hn;exact⟨none,0,hs.eV,Za3 _⟩
   .cases hn;obtain⟨a,c,he,hle,_⟩:=hs.cQ;exact⟨_,c,he,hle⟩
   .cases hn;obtain⟨a,c,_,he,hle,_⟩:=hs.rX;exact⟨_,c,he,hle⟩
   .rename_i s';exfalso;cases hbm:Nat.beq m 0<;>simp[hbm]at hr
 obtain⟨base,aI,gb,hle⟩:=ND;have bU:=Io hT cI KU hk n9 eJ h0 h1 ty base n aI m xu w hlen b1 b2;rw[gb,bU];have hg:∀c,n+m<=grownCap w (n+m) c e:=λc=>by unfold grownCap Question.cut;exact Zm4 _ _
 have OH:∀(del:Option Pos)(fz:Nat)(ol nl:List AV),¬(n+m<=aI)->cq te.size n (λb=>st.heap.get b) s=some ol->cq te.size m (λb=>st.heap.get b) u=some nl->ol.length=n*te.size->nl.length=m*te.size->
     tM P ρ C st w ((if n+m<=aI then((Builtin.firstCells te.size m xu).run P w).andThen λnew w=>((match base with|some a=>storeCells (a.add (n*te.size)) new.toList|none=>pure ()).run P w).andThen λ_ w=>.ok (.slice base (n+m) aI) w
     else((Builtin.firstCells te.size n (.slice base n aI)).run P w.drew).andThen λdA w1=>((Builtin.firstCells te.size m xu).run P w1).andThen λnew w2=>((zeroValue e).run P w2).andThen λz w3=>
        .ok (.slice (some ⟨w3.heap.size,0,none⟩) (n+m) (grownCap w (n+m) aI e)) (w3.alloc (.cells (dA++new++Builtin.zeroCells z.cells (grownCap w (n+m) aI e - (n+m))) e))).andThen λv w=>.ok (.value v) w)
        (.aF (.slice st.next 0 (n+m) none te.size) del none (some (.cells (ol++nl) fz))):=by
   intro del fz ol nl hc ho se u0 JV;obtain⟨dA,e1,e2,_⟩:=jR (P:=P) hW hs hn (Za3 _) ho w.drew rfl;obtain⟨new,e3,e4,_⟩:=jR (P:=P) hW hu hm (Za3 _) se w.drew rfl;obtain⟨zv,zV,_,r9⟩:=PO w.drew;rw[gb]at e1;have EY:(Builtin.zeroCells zv.cells (grownCap w (n+m) aI e - (n+m))).toList.length=(grownCap w (n+m) aI e - (n+m))*te.size:=(by rw[Bx];congr 1;have:=r9.1;simp at this;omega);obtain⟨ρ',aQ,ei,hE,hv⟩:=Zq hW del fz e2 e4 u0 JV EY (hg aI) (e:=e) rfl;refine⟨_,_,_,ρ',?_,Yields.value _,aQ,ei,hv,hE⟩;rw[Za1 hc];simp only[e1,e3,zV,Result.andThen_ok,World.size_drew];congr 2;simp
 have hlu:∀nl,cq te.size m (λb=>st.heap.get b) u=some nl->m≠0->nl.length=m*te.size:=by
   intro nl se hm0;obtain⟨_,_,_,h⟩:=jR (P:=P) hW hu hm (Za3 _) se w rfl;rcases h with rfl|h
   .simp[cS]at hm;omega
   .exact h
 have hls:∀ol,cq te.size n (λb=>st.heap.get b) s=some ol->ol.length=n*te.size:=by
   intro ol u6;obtain⟨ys,_,CV,h⟩:=jR (P:=P) hW hs hn (Za3 _) u6 w rfl;rcases h with rfl|h
   .simp[cS]at hn;subst hn;simp[cq]at u6;subst u6;simp
   .exact h
 have hzero:m=0->aj ρ st.next.toNat C s xs->tM P ρ C st w ((if n+m<=aI then((Builtin.firstCells te.size m xu).run P w).andThen λnew w=>((match base with|some a=>storeCells (a.add (n*te.size)) new.toList|none=>pure ()).run P w).andThen λ_ w=>.ok (.slice base (n+m) aI) w
     else((Builtin.firstCells te.size n (.slice base n aI)).run P w.drew).andThen λdA w1=>((Builtin.firstCells te.size m xu).run P w1).andThen λnew w2=>((zeroValue e).run P w2).andThen λz w3=>
        .ok (.slice (some ⟨w3.heap.size,0,none⟩) (n+m) (grownCap w (n+m) aI e)) (w3.alloc (.cells (dA++new++Builtin.zeroCells z.cells (grownCap w (n+m) aI e - (n+m))) e))).andThen λv w=>.ok (.value v) w) (.val s):=by
   rintro rfl hsx;have hf:(Builtin.firstCells te.size 0 xu).run P w= .ok #[] w:=by
     unfold cS at hm;split at hm<;>first|(cases hm;done)|skip
     .  rw[hu.eV];simp[Builtin.firstCells]
     .  obtain⟨_,_,he,_⟩:=hu.cQ;rw[he];simp[Builtin.firstCells,loadCells,loadCellsFrom]
     .  obtain⟨_,_,_,he,_⟩:=hu.rX;rw[he];simp[Builtin.firstCells,loadCells,loadCellsFrom]
     .  obtain⟨bs,rfl,_⟩:=hu.dP;simp only[Builtin.firstCells,Sem.run_pure];congr 1;apply Zl1;simp
   rw[gb]at hsx;refine .pure (x:= .slice base n aI) ?_ hsx;rw[Za2 (by omega),hf];cases base<;>simp[storeCells]
 split at hr<;>first|(cases hr;done)|skip
 .rename_i yw;simp only[H0]at hr;subst hr;exact hzero (H3 yw) hs
 .rename_i yw;simp only[H0]at hr;subst hr;exact hzero (H3 yw) hs
 .rename_i yw;simp only[H0]at hr;subst hr;exact hzero (H3 yw) hs
 ·
   rename_i yw;have yw:=ab0 yw;(split at hr<;>first|(cases hr;done)|skip);rename_i new se;simp only[H0]at hr;subst hr;have he:=hs.eV;rw[he]at gb;simp only[Value.slice.injEq]at gb;obtain⟨rfl,rfl,rfl⟩:=gb;have:=OH none 0 [] new (by omega) rfl se (by simp) (hlu new se yw);simpa using this
 ·
   rename_i b off n' c es' yw;have yw:=ab0 yw;simp only[cS,H0]at hn;subst hn;obtain⟨aa,cc,he,hlec,hcc,ha⟩:=hs.cQ;rw[he]at gb;simp only[Value.slice.injEq]at gb;obtain⟨rfl,_,rfl⟩:=gb;have:=hcc c rfl;subst this;split at hr
   . rename_i rA;have rA:=Za0 rA;(split at hr<;>first|(cases hr;done)|skip);rename_i cs fz new hb se;(split at hr<;>first|(cases hr;done)|skip);rename_i c1 c2 c3;have c1:=Za0 c1;simp only[Za6]at c2;have c2a:=Za0 c2.1;have c2b:=H3 c2.2;subst c2b;simp only[H0]at hr;subst hr;obtain⟨aK,rfl,hbound⟩:=ha (by omega);obtain⟨ys,e1,e2,_⟩:=jR (P:=P) hW hu hm (Za3 _) se w rfl;have Iq:=hlu new se yw;obtain⟨w2,e3,ei,hE⟩:=Il (P:=P) hW hb (by rw[Iq];rw[Zi2]at c1;omega) c2a c3 e2;refine⟨_,.slice (some ⟨(ρ b).ay,(ρ b).base+off,none⟩) (n'+m) c,w2,ρ,?_,Yields.value _,λ_ _=>rfl,ei,?_,hE⟩
     .  rw[Za2 rA,e1];simp only[Result.andThen_ok,ku];rw[Zg7,e3];rfl
     .  exact .slice _ _ _ _ _ _ _ rA (λc hc=>by cases hc;rfl) (λ_=>⟨aK,rfl,hbound⟩) (λh=>by cases h)
   . rename_i rA;have rA:¬(n'+m<=c):=λh=>by rw[Nat.ble_eq_true_of_le h]at rA;cases rA
     (split at hr<;>first|(cases hr;done)|skip);rename_i dA new u6 se;simp only[H0]at hr;subst hr;exact OH none 0 dA new rA u6 se (hls dA u6) (hlu new se yw)
 ·
   rename_i b off n' es' yw;have yw:=ab0 yw;simp only[cS,H0]at hn;subst hn;(split at hr<;>first|(cases hr;done)|skip);rename_i cs fz dA new hb u6 se;(split at hr<;>first|(cases hr;done)|skip);rename_i c2 c3;simp only[Za6]at c2;have c2a:=Za0 c2.1;have c2b:=H3 c2.2;subst c2b;simp only[H0]at hr;subst hr;by_cases rA:n'+m<=aI
   ·
     obtain ⟨aa,cc,he,hlec,hcc,ha⟩:=hs.cQ;rw[he]at gb;simp only[Value.slice.injEq]at gb;obtain⟨rfl,_,rfl⟩:=gb;obtain⟨aK,rfl,hbound⟩:=ha (by omega);obtain⟨ys,e1,e2,_⟩:=jR (P:=P) hW hu hm (Za3 _) se w rfl;have Iq:=hlu new se yw;have adI:=hls dA u6;obtain⟨PU,JQ,c,ce,fr,g1,g2,g3,g4,g5⟩:=hW.live b _ hb;have hmul:(n'+m)*te.size<=cc*te.size:=Zg3 _ rA;have hmul2:(n'+m)*te.size=n'*te.size+m*te.size:=Zi2 _ _ _;have hyl:ys.length=m*te.size:=(by rw[<-e2.1,Iq]);have hold:av ρ st.next.toNat C dA ((c.toList.drop ((ρ b).base+off)).take (n'*te.size)):=by
        simp only[cq]at u6;split at u6
        .rename_i hz0;have hz0:=H3 hz0;simp only[H0]at u6;subst u6;rw[hz0];simpa using(av.nil:av ρ st.next.toNat C [] [])
        . rw[hb]at u6;simp only at u6;obtain⟨ho1,C9⟩:=CZ u6;have h:=(g4.drop off).take (n'*te.size);rw[<-ho1]at h;have:List.take (n'*te.size) (List.drop off (List.take cs.length (List.drop (ρ b).base c.toList)))=(c.toList.drop ((ρ b).base+off)).take (n'*te.size):=by
            rw[List.drop_take,Zo0,Zl8,Zj8 (by omega)]
          rw[this]at h;exact h
     obtain⟨w2,s1,s2,s3,s4,s5,s6,s7⟩:=jD (P:=P) (ρ b).ay ce fr ys 0 ((ρ b).base+off+n'*te.size) c w g1 (by omega) (yu c3 e2) (λk hk jX=>by
        have:=g5 (k - (ρ b).base) (by omega) (by omega)
        rwa [show(ρ b).base+(k - (ρ b).base)=k from by omega]at this)
     simp only[Zh8]at s1 s2
     let ρ':Pos->Loc:=λq=>if q=st.next then⟨(ρ b).ay,(ρ b).base+off,(ρ b).size⟩else ρ q
     have aQ:∀q:Pos,q.toNat<st.next.toNat->ρ' q=ρ q:=λq hq=>Za1 (λe=>by rw[e]at hq;omega)
     have dU:ρ' st.next=⟨(ρ b).ay,(ρ b).base+off,(ρ b).size⟩:=Za2 rfl;have hcl:c.toList.length=c.size:=(by simp);have hWn:aT ρ' C (st.aF (some b) none (some (.cells (dA++new) (fz - off)))) w2:=by
        refine hW.Zd (b0:=st.next) (x0:= .cells (dA++new) (fz - off)) (by rw[Pos.aB];omega) (by rw[Pos.aB];omega) (by rw[T.eo]) ?_ aQ ?_ ?_ (by rw[dU,s3];exact JQ) (by omega) (λk hk jX=>s4 k (by rw[dU]at jX;exact jX))
        .intro q x hq hx;rw[T.bw _ (λe=>hq e.symm)]at hx;obtain⟨h1,h2⟩:=wj (some b) _ hx;refine⟨h1,?_⟩;rw[dU];exact λe=>h2 b rfl (hW.inj _ _ _ _ h1 hb e)
        . rw[dU];refine⟨_,ce,fr,s2,by simp[aH];omega,by simp[aH,adI,Iq];omega,?_,λi kN hi=> ?_⟩
          . (simp only;rw[FO _ _ _ _ (by omega)];have zU:(aH (c.toList.drop ((ρ b).base+off)) (n'*te.size) ys).take (dA++new).length=(c.toList.drop ((ρ b).base+off)).take (n'*te.size)++ys:=by unfold aH;rw[<-Zi4,Zj9];simp[adI,Iq,hyl];omega);rw[zU];exact(hold.append e2).mono aQ (by rw[Pos.aB];omega)
          . have KS:(ρ b).base+off+i<c.size:=(by simp only[Zl7]at hi;have:(aH c.toList ((ρ b).base+off+n'*te.size) ys).length=c.size:=(by simp[aH];omega);omega);have:=g5 (off+i) (by omega) (by omega);simp only
            rwa [<-Zg7]at this
        .intro ad v hv;rw[dU];exact λe=>(hW.cV ad v hv).2 b _ hb e.symm
     refine⟨_,(.slice (some ⟨(ρ b).ay,(ρ b).base+off,none⟩) (n'+m) cc),w2,ρ',?_,Yields.value _,aQ,hWn,?_,⟨s5,s6,s7,by omega,λk _ hk=>s4 k (λe=>hk b _ hb e.symm),λq x hx=> ?_⟩⟩;rotate_left;rotate_left
     .  left;by_cases hq:q=st.next
        .exact⟨b,_,hb,by rw[hq,dU]⟩
        .simp only[St.aF,Ia]at hx;rw[T.bw _ (λe=>hq e.symm)]at hx;obtain⟨h1,_⟩:=wj (some b) _ hx;exact⟨q,x,h1,by rw[aQ q (hW.live q x h1).1]⟩
     .  rw[Za2 rA,e1];simp only[Result.andThen_ok,ku];rw[s1];rfl
     .  refine .slice _ _ _ _ _ _ _ rA (λc hc=>by cases hc) (λ_=>⟨by simp[St.aF,Pos.aB],by rw[dU];rfl,?_⟩) (λ_=>by simp[St.aF,Pos.aB]);rw[dU];simp only;omega
   .exact OH (some b) _ dA new rA u6 se (hls dA u6) (hlu new se yw)
end
section
variable{P:Program}{tt:TT}{ρ:Pos->Loc}{C:Cells}{st:St}{w w':World}
theorem SM:∀l:List Nat,aZ (l.map λc=>AV.int .u8 (.ofNat c))=true
 |[]=>rfl
 |a::l=>by simpa [aZ,AV.one]using SM l
theorem NI(hW:aT ρ C st w)(del:Option Pos){dA new rest:List Value}{ol nl:List AV}{e:TypeId}{n m aI:Nat}(h1:av ρ st.next.toNat C ol dA)(h2:av ρ st.next.toNat C nl new)
  (u0:ol.length=n) (JV:nl.length=m) (hr:rest.length=aI - (n+m)) (hc:n+m<=aI) {w2:World} (e8:w2=w.drew.alloc (.cells (dA++new++rest).toArray e)):
  ∃ρ':Pos->Loc,(∀b:Pos,b.toNat<st.next.toNat->ρ' b=ρ b)/\aT ρ' C (st.aF del none (some (.typed e (ol++nl)))) w2/\jr ρ st w ρ' (st.aF del none (some (.typed e (ol++nl)))) w2/\
   aj ρ' (st.aF del none (some (.typed e (ol++nl)))).next.toNat C (.slice st.next 0 (n+m) none 1) (.slice (some ⟨w.heap.size,0,none⟩) (n+m) aI):=by
 subst e8;have u5:dA.length=n:=by rw[<-h1.1,u0]
 have jW:new.length=m:=by rw[<-h2.1,JV]
 have eF:(dA++new++rest).length=aI:=by simp only[Zd1,u5,jW,hr];omega
 obtain ⟨ ρ',aQ,dU,ei,hE⟩:=uY (w':=w.drew.alloc (.cells (dA++new++rest).toArray e)) (o:= .cells (dA++new++rest).toArray e) (x0:= .typed e (ol++nl)) (base:=0) (size:=(dA++new++rest).toArray.size) hW del rfl rfl rfl rfl (λρ' n' aQ hn=>
  ⟨_,   (0,0),by show(w.heap.push _)[w.heap.size]? =_;simp,rfl,by simp[u0,JV,u5,jW],by
        have:(dA++new++rest).toArray.toList.take (ol++nl).length=dA++new:=by
          rw[Zj9 (by simp[u0,JV,u5,jW])]
        rw[Zb7,this];exact(h1.append h2).mono aQ hn,λi _=>by simp,rfl⟩)
 refine⟨ρ',aQ,ei,hE,AT (by simp[St.aF,Pos.aB]) dU hc (λc hc=>by cases hc) (by simp only[Zl7,eF,Zj7];exact Za3 _)⟩
theorem Xx (hT:bM P tt){t t2 e:Nat}{ts:Array TypeId}{ti JP te:TI}{z:List AV}(cI:tt.get (key t)=some ti)(KU:tt.get (key t2)=some JP)(hk:ti.k= .slice e)(n9:∀k,JP.k≠ .int k)
  (eJ:tt.get (key e)=some te) (hz:te.zero=some z) (h8:te.size=1) (h0:ts[0]? =some t) (h1:ts[1]? =some t2) (ty:TypeId) {s u:AV} {xs xu:Value} {res:ct} (hW:aT ρ C st w)
  (hs:aj ρ st.next.toNat C s xs) (hu:aj ρ st.next.toNat C u xu) (hr:tL (λb=>st.heap.get b) st.next e te.bytes [s,u]=some res):
  tM P ρ C st w (((Builtin.append_ ts ty #[xs,xu]).run P w).andThen λv w=>.ok (.value v) w) res:=by
 have PO:=λw=>rZ hT eJ hz (ρ:=ρ) (n:=st.next.toNat) (C:=C) w
 simp only[tL]at hr;split at hr<;>first|(cases hr;done)|skip
 rename_i us;obtain⟨bs,rfl,JQ⟩:=hu.dP;have hm:cS (AV.str us)=some us.length:=rfl;have hlen:=OG (P:=P) (w:=w) hu hm
 have aaC:∀{n:Nat}{s:AV},cS s=some n->Nat.ble ((2*(n+us.length)+768)*te.bytes) 281474976710656=true->Nat.ble (n+us.length) 9223372036854775807=true->us.length=0->(s= .aq\/∃b,s= .slice b 0 n none 1)->
    fk (λb=>st.heap.get b) st.next te.size te.bytes [s,.str us]=some (.val s):=by
  intro n s h1 h2 h3 h4 h5;rw[h4]at h2 h3;rcases h5 with rfl|⟨b,rfl⟩
  .simp only[fk,h1,hm,h2,h3,h4];try rfl
  .simp only[fk,h1,hm,h2,h3,h4];try rfl
 have se:cq te.size us.length (λb=>st.heap.get b) (.str us)=some (us.map λc=>AV.int .u8 (.ofNat c)):=by
  have e1:Nat.beq te.size 1=true:=by rw[h8];rfl
  have e2:Nat.ble us.length us.length=true:=Nat.ble_self_eq_true _;simp only[cq,e1,e2,Zk7]
 split at hr<;>first|(cases hr;done)|skip
 ·
  split at hr<;>first|(cases hr;done)|skip
  rename_i b1 b2;split at hr
  .rename_i hb;simp only[H0]at hr;subst hr;exact Ip hT cI KU hk n9 eJ hz h0 h1 ty hW hs hu (aaC rfl b1 b2 (H3 hb) (.inl rfl))
  . rename_i hb;have hb:=Zb2 hb;simp only[H0]at hr;subst hr;have gb:=hs.eV;subst gb;have bU:=Io hT cI KU hk n9 eJ h0 h1 ty none 0 0 us.length (.string bs) w hlen (Za0 b1) (Za0 b2);rw[bU,Za1 (by omega)];have hg:0+us.length<=grownCap w (0+us.length) 0 e:=(by unfold grownCap Question.cut;exact Zm4 _ _);obtain⟨new,e3,e4,_⟩:=jR (P:=P) hW hu hm (Za3 _) se w.drew rfl;obtain⟨zv,zV,_,r9⟩:=PO w.drew;have X7:zv.cells.size=1:=(by have:=r9.1;have h2:=(hT.at eJ).info;obtain⟨i0,kN,jP,_,zT⟩:=h2;obtain⟨v0,GX,_,hl0,_⟩:=zT z hz;simp at this;omega);have EY:(Builtin.zeroCells zv.cells (grownCap w (0+us.length) 0 e - (0+us.length))).toList.length=grownCap w (0+us.length) 0 e - (0+us.length):=by
        rw[Bx,X7,Zj7]
    obtain⟨ρ',aQ,ei,hE,hv⟩:=NI hW none (av.nil (ρ:=ρ)) e4 (by simp) (by simp) EY hg (e:=e) rfl;refine⟨_,_,_,ρ',?_,Yields.value _,aQ,ei,hv,hE⟩;have e0:(Builtin.firstCells te.size 0 (.slice none 0 0)).run P w.drew= .ok #[] w.drew:=(by simp[Builtin.firstCells]);simp only[e0,e3,zV,Result.andThen_ok,World.size_drew];congr 2;simp
 ·
  rename_i b n;split at hr<;>first|(cases hr;done)|skip
  rename_i b1 b2;split at hr
  .rename_i hb;simp only[H0]at hr;subst hr;exact Ip hT cI KU hk n9 eJ hz h0 h1 ty hW hs hu (aaC rfl b1 b2 (H3 hb) (.inr ⟨_,rfl⟩))
  . rename_i hbm;have hbm:=Zb2 hbm;(split at hr<;>first|(cases hr;done)|skip);rename_i e' cs hb;(split at hr<;>first|(cases hr;done)|skip);rename_i dA jN u6;have jN:=H3 jN;subst jN;simp only[H0]at hr;subst hr;obtain⟨aa,aI,gb,hle,hcc,ha⟩:=hs.cQ;subst gb;have bU:=Io hT cI KU hk n9 eJ h0 h1 ty (some aa) n aI us.length (.string bs) w hlen (Za0 b1) (Za0 b2);rw[bU];obtain⟨ho1,C9⟩:=CZ u6;have Zr:=tN u6;obtain⟨PU,hbs2,c,fr,g1,g2,g3,g4,g5,g6⟩:=hW.live b _ hb;by_cases rA:n+us.length<=aI
    ·
        obtain⟨aK,rfl,hbound⟩:=ha (by omega);rw[Zj7,g6,Zh8,Zb6]at hbound;rw[g6]at g3 g4 g5;simp only[Zb6,Zb7]at g3 g4 g5;obtain⟨ys,e1,e2,_⟩:=jR (P:=P) hW hu hm (Za3 _) se w rfl;have hyl:ys.length=us.length:=(by rw[<-e2.1];simp);have hold:av ρ st.next.toNat C dA (c.toList.take n):=(by have h:=(g4.drop 0).take n;rw[<-ho1,Zb7,Zo0,Zj8 (by omega)]at h;exact h);obtain⟨w2,s1,s2,s3,s4,s5,s6,s7⟩:=jD (P:=P) (ρ b).ay e fr ys 0 n c w g1 (by omega) (yu (SM us) e2) (λk hk jX=>g5 k (Zi3 _) jX);simp only[Zh8]at s1 s2
        let ρ':Pos->Loc:=λq=>if q=st.next then⟨(ρ b).ay,0,(ρ b).size⟩else ρ q
        have aQ:∀q:Pos,q.toNat<st.next.toNat->ρ' q=ρ q:=λq hq=>Za1 (λe=>by rw[e]at hq;omega)
        have dU:ρ' st.next=⟨(ρ b).ay,0,(ρ b).size⟩:=Za2 rfl;have hcl:c.toList.length=c.size:=(by simp);have hWn:aT ρ' C (st.aF (some b) none (some (.typed e (dA++us.map λc=>AV.int .u8 (.ofNat c))))) w2:=by
          refine hW.Zd (b0:=st.next) (x0:= .typed e (dA++us.map λc=>AV.int .u8 (.ofNat c))) (by rw[Pos.aB];omega) (by rw[Pos.aB];omega) (by rw[T.eo]) ?_ aQ ?_ ?_ (by rw[dU,s3];exact hbs2) (by omega) (λk hk jX=>s4 k (by rw[dU]at jX;exact jX))
          .intro q x hq hx;rw[T.bw _ (λe=>hq e.symm)]at hx;obtain⟨h1,h2⟩:=wj (some b) _ hx;refine⟨h1,?_⟩;rw[dU];exact λe=>h2 b rfl (hW.inj _ _ _ _ h1 hb e)
          . rw[dU];refine⟨_,fr,s2,by simp[aH];omega,by simp[aH,Zr];omega,?_,λi kN hi=> ?_,rfl⟩
            . (simp only[Zb7];have zU:(aH c.toList n ys).take (dA++us.map λc=>AV.int .u8 (.ofNat c)).length=c.toList.take n++ys:=by unfold aH;rw[<-Zi4,Zj9];simp[Zr,hyl];omega);rw[zU];exact(hold.append e2).mono aQ (by rw[Pos.aB];omega)
            .have KS:i<c.size:=(by simp only[Zl7,Zb6]at hi;have:(aH c.toList n ys).length=c.size:=(by simp[aH];omega);omega);simpa using g5 i (Zi3 _) KS
          .intro ad v hv;rw[dU];exact λe=>(hW.cV ad v hv).2 b _ hb e.symm
        refine⟨_,(.slice (some ⟨(ρ b).ay,(ρ b).base+0,none⟩) (n+us.length) aI),w2,ρ',?_,Yields.value _,aQ,hWn,?_,⟨s5,s6,s7,by omega,λk _ hk=>s4 k (λe=>hk b _ hb e.symm),λq x hx=> ?_⟩⟩;rotate_left;rotate_left
        . left;by_cases hq:q=st.next
          .exact⟨b,_,hb,by rw[hq,dU]⟩
          .simp only[St.aF,Ia]at hx;rw[T.bw _ (λe=>hq e.symm)]at hx;obtain⟨h1,_⟩:=wj (some b) _ hx;exact⟨q,x,h1,by rw[aQ q (hW.live q x h1).1]⟩
        .rw[Za2 rA,e1];simp only[Result.andThen_ok,ku,h8,Zj7,g6,Zb6];rw[s1];rfl
        .refine .slice _ _ _ _ _ _ _ rA (λc hc=>by cases hc) (λ_=>⟨by simp[St.aF,Pos.aB],by rw[dU,g6],?_⟩) (λ_=>by simp[St.aF,Pos.aB]);rw[dU];simp only;omega
    .   rw[ Za1 rA];have hg:n+us.length<=grownCap w (n+us.length) aI e:=(by unfold grownCap Question.cut;exact Zm4 _ _);obtain⟨new,e3,e4,_⟩:=jR (P:=P) hW hu hm (Za3 _) se w.drew rfl;obtain⟨zv,zV,_,r9⟩:=PO w.drew;have X7:zv.cells.size=1:=(by have:=r9.1;have h2:=(hT.at eJ).info;obtain⟨i0,kN,jP,_,zT⟩:=h2;obtain⟨v0,GX,_,hl0,_⟩:=zT z hz;simp at this;omega);have EY:(Builtin.zeroCells zv.cells (grownCap w (n+us.length) aI e - (n+us.length))).toList.length=grownCap w (n+us.length) aI e - (n+us.length):=by
          rw[Bx,X7,Zj7]
        have hold:∃os:List Value,(Builtin.firstCells te.size n (.slice (some aa) n aI)).run P w.drew= .ok os.toArray w.drew/\av ρ st.next.toNat C dA os:=by
          by_cases NJ:n=0
          .subst NJ;have:dA=[]:=Za8 Zr;subst this;exact⟨[],by simp[Builtin.firstCells,loadCells,loadCellsFrom],av.nil⟩
          .obtain⟨aK,rfl,hbound⟩:=ha (by omega);obtain⟨ys,CV,gU⟩:=(show aT ρ C st w.drew from⟨λb x hb=>hW.live b x hb,hW.inj,hW.cV,hW.whole⟩).PJ (P:=P) hb u6;exact⟨ys,by simpa [Builtin.firstCells,h8]using CV,gU⟩
        obtain⟨os,e5,e6⟩:=hold;obtain⟨ρ',aQ,ei,hE,hv⟩:=NI hW (some b) e6 e4 Zr (by simp) EY hg (e:=e) rfl;refine⟨_,_,_,ρ',?_,Yields.value _,aQ,ei,hv,hE⟩;simp only[e5,e3,zV,Result.andThen_ok,World.size_drew];congr 2;simp
theorem TW{ts:Array TypeId}(ty:TypeId){s:AV}{xs:Value}{res:ct}(hs:aj ρ st.next.toNat C s xs)(hW:aT ρ C st w)(hr:rU (λb=>st.heap.get b) st.next [s]=some res):
   tM P ρ C st w (((Builtin.unsafeSliceData_ ts ty #[xs]).run P w).andThen λv w=>.ok (.value v) w) res:=by
 simp only[rU]at hr;split at hr<;>first|(cases hr;done)|skip
 .simp only[H0]at hr;subst hr;have:=hs.eV;subst this;exact .pure (x:= .pointer none) rfl .gR
 .rename_i b off n cap es;(split at hr<;>first|(cases hr;done)|skip);rename_i h0;have h0:=Zb2 h0;simp only[H0]at hr;subst hr;obtain⟨aa,aI,gb,hle,_,ha⟩:=hs.cQ;subst gb;have hc:aI≠0:=(by omega);obtain⟨h1,h2,_⟩:=ha hc;refine .pure (x:= .pointer (some aa)) (by rw[Lib.run_unsafeSliceData_row w ts ty aa n aI hc];rfl) ?_;rw[h2];exact .ptr b off h1
theorem ae1(hW:aT ρ C st w){b:Pos}{x:AB}(hb:st.heap.get b=some x)(h1:w'.os=w.os)(h2:w'.tape=w.tape)(h3:w'.output=w.output)(eF:w'.heap.size=w.heap.size)
   (uG:∀k,k≠(ρ b).ay->w'.heap[k]? =w.heap[k]?):
   aT ρ C (st.aF (some b) none none) w'/\jr ρ st w ρ (st.aF (some b) none none) w':=by
 have qO:∀c y,(st.aF (some b) none none).heap.get c=some y->st.heap.get c=some y/\c≠b:=λc y hc=>by
   obtain⟨g1,g2⟩:=wj (some b) _ (show(FJ (some b) st.heap).get c=some y from hc);exact⟨g1,λe=>g2 b rfl e⟩
 refine⟨⟨λc y hc=> ?_,λc c' y y' hc uZ e=>hW.inj c c' y y' (qO c y hc).1 (qO c' y' uZ).1 e,λa v ha=> ?_,λa v ha o ho=> ?_⟩,⟨h1,h2,h3,by omega,λk _ hk=>uG k (λe=>hk b x hb e.symm),λc y hc=>.inl ⟨c,y,(qO c y hc).1,rfl⟩⟩⟩
 .obtain⟨g1,g2⟩:=qO c y hc;obtain⟨k1,k2,k3⟩:=hW.live c y g1;exact⟨k1,by omega,k3.of_heap (uG _ λe=>g2 (hW.inj _ _ _ _ g1 hb e))⟩
 .obtain⟨g1,g2⟩:=hW.cV a v ha;refine⟨?_,λc y hc=>g2 c y (qO c y hc).1⟩;have:=uG a.block (λe=>g2 b x hb e.symm);rw[<-g1];simp only[World.cell?,this]
 .have:=uG a.block (λe=>(hW.cV a v ha).2 b x hb e.symm);rw[<-hW.whole a v ha o ho];simp only[World.cell?,this]
theorem TX(hT:bM P tt){t t2 e:Nat}{ts:Array TypeId}{ti te:TI}(cI:tt.get (key t)=some ti)(hk:ti.k= .ptr e)(eJ:tt.get (key e)=some te)(h8:te.size=1)(cU:ts.toList=[t,t2])
   (ty:TypeId) {s u:AV} {xs xu:Value} {res:ct} (hW:aT ρ C st w)
   (hs:aj ρ st.next.toNat C s xs) (hu:aj ρ st.next.toNat C u xu) (hr:n6 (λb=>st.heap.get b) st.next e [s,u]=some res):
   tM P ρ C st w (((Builtin.unsafeString_ ts ty #[xs,xu]).run P w).andThen λv w=>.ok (.value v) w) res:=by
 obtain rfl:ts= #[t,t2]:=by apply Zl1;rw[cU]
 simp only[n6]at hr;split at hr<;>first|(cases hr;done)|skip
 rename_i n;have:=hu.gP;subst this;split at hr
 . rename_i h0;have:=H3 h0;subst this;split at hr<;>first|(cases hr;done)|skip
   .simp only[H0]at hr;subst hr;have:=hs.pG;subst this;exact .pure (x:= .string .empty) (by rw[show(Int.ofNat 0)=(0:Int)from rfl,Lib.run_unsafeString_none];rfl) (.str _ _ rfl)
   .simp only[H0]at hr;subst hr;obtain⟨_,he⟩:=hs.eu;subst he;exact .pure (x:= .string .empty) (by rw[show(Int.ofNat 0)=(0:Int)from rfl,Lib.run_unsafeString_none];rfl) (.str _ _ rfl)
 . (rename_i h0;have h0:=Zb2 h0;(split at hr<;>first|(cases hr;done)|skip);rename_i b;(split at hr<;>first|(cases hr;done)|skip);rename_i e' cs hb;(split at hr<;>first|(cases hr;done)|skip);rename_i l he hcut Zp;have he:=H3 he;have Zp:=Za0 Zp;subst he;(split at hr<;>first|(cases hr;done)|skip);rename_i s' U7;simp only[H0]at hr;subst hr;obtain⟨_,gb⟩:=hs.eu;subst gb;obtain⟨d,hd,bS⟩:=(hT.at cI).und;rw[hk]at bS;rw[PI bS]at hd;obtain⟨i0,kN,jP,_⟩:=(hT.at eJ).info;have EX:P.cellsOf e=1:=(by simp[Program.cellsOf,kN,jP,h8]);obtain⟨PU,hbs2,c,fr,g1,g2,g3,g4,g5,g6⟩:=hW.live b _ hb;rw[g6]at g3 g4 ⊢;simp only[Zb6,Zb7]at g3 g4;have Pq:w.shape? (ρ b).ay=some (e,c.size):=(by simp[World.shape?,g1]);obtain⟨u5,jW⟩:=CZ hcut;have JV:=tN hcut;have gU:av ρ st.next.toNat C l (c.toList.take n):=by have h:=(g4.drop 0).take n;rw[<-u5,Zb7,Zo0,Zj8 (by omega)]at h;exact h);obtain⟨e1,e2⟩:=FL U7 gU;have ND:s'.length=n:=(by have:=congrArg List.length e1;simp at this;omega);have bU:=Lib.run_unsafeString_row (P:=P) w t t2 ty e hd EX (ρ b).ay c.size Pq (s'.map UInt8.ofNat) (by intro h;simp at h;rw[h]at ND;simp at ND;omega) (by simp;omega) (by simp;omega) (λj x hj=>by simp only[Zb5,Zf1]at hj;obtain⟨k,hk,rfl⟩:=hj;have hjn:j<n:=(by rw[<-ND];exact(H5.1 hk).1);have h2:(c.toList.take n)[j]? =some (.int .u8 (k:Int)):=(by rw[e1];simp[hk]);rw[Zb1,Za2 hjn]at h2;have hk256:=e2 k (Zc1 hk);rw[ku];simp only[World.cell?,g1,Zb6];rw[<-Zf3,h2];congr 2;simp;omega);have hlen:(s'.map UInt8.ofNat).length=n:=(by simp[ND]);rw[hlen]at bU;obtain⟨q1,q2⟩:=ae1 (w':=w.freeze ⟨(ρ b).ay,0,none⟩ n) hW hb (by unfold World.freeze;split<;>rfl) (by unfold World.freeze;split<;>rfl) (by unfold World.freeze;split<;>rfl) (by unfold World.freeze;split<;>simp) (λk hk=>by
     unfold World.freeze;split
     .  rfl
     .  simp only[Zm2];rw[Za1 (λe=>hk e.symm)])
   refine⟨_,.string ⟨(s'.map UInt8.ofNat).toArray⟩,_,ρ,?_,Yields.value _,λ_ _=>rfl,q1,.str _ _ ?_,q2⟩
   .show((Builtin.unsafeString_ #[t,t2] ty #[.pointer (some ⟨(ρ b).ay,0,none⟩),.int .i64 (n:Int)]).run P w).andThen _=_;rw[bU];rfl
   . (simp only[Zf7];have e3:s'.map (UInt8.toNat∘UInt8.ofNat)=s'.map id:=Zi6 λc hc=>by have:=e2 c hc;simp only[Function.comp,id,UInt8.toNat_ofNat'];omega);rw[e3,List.map_id]
end
section
variable{P:Program}{tt:TT}{ρ:Pos->Loc}{C:Cells}{st:St}{w w':World}
theorem G0{n:Nat}{xs:Array Value}{u v:AV}(h:av ρ n C [u,v] xs.toList):∃x y,xs= #[x,y]/\aj ρ n C u x/\aj ρ n C v y:=by
 obtain⟨x,l,h1,h2,h3⟩:=h.cons_inv;obtain⟨y,l',h4,h5,h6⟩:=h3.cons_inv;have:=h6.mF;subst this;exact⟨x,y,by apply Zl1;rw[h1,h4],h2,h5⟩
theorem Ve{n:Nat}{xs:Array Value}{u:AV}(h:av ρ n C [u] xs.toList):∃x,xs= #[x]/\aj ρ n C u x:=by
 obtain⟨x,l,h1,h2,h3⟩:=h.cons_inv;have:=h3.mF;subst this;exact⟨x,by apply Zl1;rw[h1],h2⟩
theorem Vf{ts:Array TypeId}{t:TypeId}{l:List TypeId}(h:ts.toList=t::l):ts[0]? =some t:=by rw[<-Zf3,h];rfl
theorem arr1{ts:Array TypeId}{t t2:TypeId}{l:List TypeId}(h:ts.toList=t::t2::l):ts[1]? =some t2:=by rw[<-Zf3,h];rfl
theorem ab1(hT:bM P tt){t e:Nat}{ts:Array TypeId}{ti te:TI}(cI:tt.get (key t)=some ti)(hk:ti.k= .slice e)
   (eJ:tt.get (key e)=some te) (h0:ts[0]? =some t) (ty:TypeId) {d u:AV} {xd xu:Value} {res:ct} (hW:aT ρ C st w)
   (hd:aj ρ st.next.toNat C d xd) (hu:aj ρ st.next.toNat C u xu) (hr:Ad (λb=>st.heap.get b) st.next te.size [d,u]=some res):
   tM P ρ C st w (((Builtin.copy_ ts ty #[xd,xu]).run P w).andThen λv w=>.ok (.value v) w) res:=by
 obtain⟨dd,hdd,bS⟩:=(hT.at cI).und;rw[hk]at bS;rw[kY bS]at hdd;obtain⟨i0,kN,jP,_⟩:=(hT.at eJ).info;simp only[Ad]at hr;split at hr<;>first|(cases hr;done)|skip
 rename_i n m hn hm;have hlen:=OG (P:=P) (w:=w) hu hm;have ND:(∃s,d= .str s)\/∃base aI,xd= .slice base n aI/\n<=aI:=by
   unfold cS at hn;split at hn<;>first|(cases hn;done)|skip
   .cases hn;exact .inr ⟨none,0,hd.eV,Za3 _⟩
   .cases hn;obtain⟨a,c,he,hle,_⟩:=hd.cQ;exact .inr ⟨_,c,he,hle⟩
   .cases hn;obtain⟨a,c,_,he,hle,_⟩:=hd.rX;exact .inr ⟨_,c,he,hle⟩
   .exact .inl ⟨_,rfl⟩
 have ae2:m=0\/n=0->(Builtin.firstCells te.size 0 xu).run P w= .ok #[] w:=by
   intro _;unfold cS at hm;split at hm<;>first|(cases hm;done)|skip
   .rw[hu.eV];simp[Builtin.firstCells]
   .obtain⟨_,_,he,_⟩:=hu.cQ;rw[he];simp[Builtin.firstCells,loadCells,loadCellsFrom]
   .obtain⟨_,_,_,he,_⟩:=hu.rX;rw[he];simp[Builtin.firstCells,loadCells,loadCellsFrom]
   .obtain⟨bs,rfl,_⟩:=hu.dP;simp only[Builtin.firstCells,Sem.run_pure];congr 1;apply Zl1;simp
 have mS:∀base aI,xd= .slice base n aI->(Builtin.copy_ ts ty #[xd,xu]).run P w=((Builtin.firstCells te.size (Nat.min m n) xu).run P w).andThen λcells w=>((match base with|some a=>storeCells a cells.toList|none=>pure ()).run P w).andThen λ_ w=>.ok (goInt (Nat.min m n)) w:=by
   intro base aI he;unfold Builtin.copy_;simp only[h0,he,List.getElem?_toArray,Ze8,Zg1,Sem.run_bind,aM hdd,Result.andThen_ok,gH kN,jP,hlen];cases base<;>simp only[Sem.run_bind,Sem.run_pure,Result.andThen_ok]
 split at hr
 . rename_i wU;have wU:=H3 wU;(split at hr<;>first|(cases hr;done)|skip);rename_i hns;simp only[H0]at hr;subst hr;rcases ND with⟨s,rfl⟩|⟨base,aI,he,hle⟩
   .exact absurd rfl (hns s)
   .have hk0':Nat.min m n=0:=wU;refine .pure (x:=goInt 0) ?_ (.int _ _);rw[mS base aI he,hk0',ae2 (by have:min m n=0:=wU;omega)];cases base<;>simp[storeCells]
 . rename_i wU;have wU:=Zb2 wU;(split at hr<;>first|(cases hr;done)|skip);rename_i b off n' cap es';(split at hr<;>first|(cases hr;done)|skip);rename_i cs fz new hb se;(split at hr<;>first|(cases hr;done)|skip);rename_i c1 c2 c3;have c1:=Za0 c1;have c2:=Za0 c2;simp only[H0]at hr;subst hr;simp only[cS,H0]at hn;subst hn;obtain⟨aa,aI,he,hle,_,ha⟩:=hd.cQ;have hmin:min m n'<=m/\min m n'<=n':=⟨Nat.min_le_left _ _,Nat.min_le_right _ _⟩
   obtain⟨aK,rfl,_⟩:=ha (by omega);obtain⟨ys,e1,e2,e3⟩:=jR (P:=P) hW hu hm hmin.1 se w rfl;have Iq:new.length=min m n'*te.size:=by
     rcases e3 with rfl|e3
     .simp[cS]at hm;omega
     .exact e3
   obtain⟨w2,f1,ei,hE⟩:=Il (P:=P) hW hb (by rw[Iq];exact c1) c2 c3 e2;refine⟨_,goInt ((min m n':Nat):Int),w2,ρ,?_,Yields.value _,λ_ _=>rfl,ei,.int _ _,hE⟩;rw[mS _ _ he];have hmm:Nat.min m n'=min m n':=rfl;rw[hmm,e1];simp only[Result.andThen_ok];rw[f1];rfl
theorem ad2(hT:bM P tt){t:Nat}{ts:Array TypeId}{ti:TI}(cI:tt.get (key t)=some ti){k:LK}(hk:(k= .s/\ti.k= .string)\/(k= .l/\∃e,ti.k= .slice e)\/(k= .m/\∃a b,ti.k= .map a b))
   (h0:ts[0]? =some t) (ty:TypeId) {u:AV} {xu:Value} {res:ct} (hW:aT ρ C st w)
   (hu:aj ρ st.next.toNat C u xu) (hr:GL (λb=>st.heap.get b) st.next k [u]=some res):
   tM P ρ C st w (((Builtin.len_ ts ty #[xu]).run P w).andThen λv w=>.ok (.value v) w) res:=by
 obtain⟨d,hd,bS⟩:=(hT.at cI).und;have mS:∀x,xu=x->(Builtin.len_ ts ty #[xu]).run P w=(Builtin.len_ ts ty #[x]).run P w:=λx e=>by rw[e]
 simp only[GL]at hr;rcases hk with⟨rfl,hk⟩|⟨rfl,e,hk⟩|⟨rfl,a,b,hk⟩<;>rw[hk]at bS
 .rw[kL bS]at hd;(cases u<;>simp only[reduceCtorEq]at hr<;>first|(cases hr;done)|skip);simp only[H0]at hr;subst hr;obtain⟨bs,rfl,hs⟩:=hu.dP;exact .pure (x:=goInt bs.size) (by unfold Builtin.len_;simp[h0,aM hd]) (by rw[we hs];exact .int _ _)
 . rw[kY bS]at hd;cases u<;>simp only[reduceCtorEq]at hr<;>first|(cases hr;done)|skip
   .simp only[H0]at hr;subst hr;rw[hu.eV];exact .pure (x:=goInt 0) (by unfold Builtin.len_;simp[h0,aM hd]) (.int _ _)
   .simp only[H0]at hr;subst hr;obtain⟨aa,c,he,_⟩:=hu.cQ;rw[he];exact .pure (by unfold Builtin.len_;simp[h0,aM hd];rfl) (.int _ _)
   .simp only[H0]at hr;subst hr;obtain⟨aa,c,_,he,_⟩:=hu.rX;rw[he];exact .pure (by unfold Builtin.len_;simp[h0,aM hd];rfl) (.int _ _)
 . rw[KN bS]at hd;cases u<;>simp only[reduceCtorEq]at hr<;>first|(cases hr;done)|skip
   .simp only[H0]at hr;subst hr;rw[hu.Ah];exact .pure (x:=goInt 0) (by unfold Builtin.len_;simp[h0,aM hd]) (.int _ _)
   . (split at hr<;>first|(cases hr;done)|skip);rename_i es c hb;simp only[H0]at hr;subst hr;obtain⟨_,he⟩:=hu.wS;obtain⟨_,_,es',di,hlen,_⟩:=hW.live _ _ hb;rw[he];exact .pure (x:=goInt es'.size) (by unfold Builtin.len_;simp[h0,aM hd,run_getObj_map di]) (by rw[<-hlen];exact .int _ _)
theorem Rs(z:Array Value)(m:Nat):(Builtin.zeroCells z m).toList=bF z.toList m:=by
 unfold Builtin.zeroCells;by_cases h:0<z.size
 .exact U9 z m h
 .have h0:z.size=0:=(by omega);have:z= #[]:=Zm5 h0;subst this;have h1:bF ([]:List Value) m=[]:=Za8 (by rw[iA];simp);simp[h1]
theorem aaD(hT:bM P tt){t e:Nat}{ts:Array TypeId}{ti te:TI}{z:List AV}(cI:tt.get (key t)=some ti)(hk:ti.k= .slice e)
   (eJ:tt.get (key e)=some te) (hz:te.zero=some z) (h0:ts[0]? =some t) (ty:TypeId) {u:AV} {xu:Value} {res:ct} (hW:aT ρ C st w)
   (hu:aj ρ st.next.toNat C u xu) (hr:wO (λb=>st.heap.get b) st.next te.size z [u]=some res):
   tM P ρ C st w (((Builtin.clear_ ts ty #[xu]).run P w).andThen λv w=>.ok (.value v) w) res:=by
 obtain⟨dd,hdd,bS⟩:=(hT.at cI).und;rw[hk]at bS;rw[kY bS]at hdd;obtain⟨i0,kN,jP,_,zT⟩:=(hT.at eJ).info;obtain⟨zv0,_,_,PW,_⟩:=zT z hz;obtain⟨zv,zV,_,r9⟩:=rZ hT eJ hz (ρ:=ρ) (n:=st.next.toNat) (C:=C) w;simp only[wO]at hr;split at hr<;>first|(cases hr;done)|skip
 .simp only[H0]at hr;subst hr;rw[hu.eV];exact .pure (x:=undef) (by unfold Builtin.clear_;simp[h0,aM hdd];rfl) aj.wm
 . rename_i b off n cap es';obtain⟨aa,aI,he,hle,_,ha⟩:=hu.cQ;rw[he];split at hr
   .rename_i NJ;have:=H3 NJ;subst this;simp only[H0]at hr;subst hr;exact .pure (x:=undef) (by unfold Builtin.clear_;simp[h0,aM hdd];rfl) aj.wm
   . rename_i NJ;have NJ:=Zb2 NJ;(split at hr<;>first|(cases hr;done)|skip);rename_i cs fz hb;(split at hr<;>first|(cases hr;done)|skip);rename_i c1 c2 c3;have c1:=Za0 c1;have c2:=Za0 c2;simp only[H0]at hr;subst hr;obtain⟨_,rfl,_⟩:=ha (by omega);obtain⟨w2,f1,ei,hE⟩:=Il (P:=P) hW hb (vs:=bF z n) (ys:=bF zv.cells.toList n) (by rw[iA,PW];exact c1) c2 c3 (FM r9 n);refine⟨_,undef,w2,ρ,?_,Yields.value _,λ_ _=>rfl,ei,aj.wm,hE⟩;unfold Builtin.clear_;cases n with
     |zero=>exact absurd rfl NJ
     |succ n=>simp[h0,aM hdd,zV,Rs,f1,undef]
theorem G1(c:Call)(f:Operand)(hc:c.callee= .value f)(a:Act)(o:Oper)(ho:o.op= .call c){g:FuncId}{x y:Array Value}(he:a.eval f= .func (.func g) x y):
  (execOp a.eval o).run P w=(callFunc g (x++c.args.map a.eval++y)).run P w:=by
 simp[execOp,ho,resolve,hc,he,Deferred.ofValue,invoke]
theorem ab2 (hT:bM P tt) (c:Call):cE P tt (.call c):=by
 intro ρ C st w k xs cls fr a o vs res ho hc hW hF hx hr;simp only[fo]at hc;split at hc<;>first|(cases hc;done)|skip
 rename_i l hl;split at hc<;>first|(cases hc;done)|skip
 ·
  rename_i g OI;cases hc;have hv:=dG hl hF hx;simp only[az.run,Ow,H0]at hr;subst hr;refine⟨c.args.toList.map a.eval,?_,hv⟩;rw[G1 c _ OI a o ho (g:=g) (x:= #[]) (y:= #[]) rfl];congr 2;apply Zl1;simp
 ·
  rename_i f hnf OI;split at hc<;>first|(cases hc;done)|skip
  rename_i ao hao;cases hc;unfold dN at hx;split at hx<;>first|(cases hx;done)|skip
  rename_i fv hfv;split at hx<;>first|(cases hx;done)|skip
  rename_i vs' ab3;simp only[H0]at hx;subst hx;have h1:=pF hao hF hfv;have h2:=dG hl hF ab3;simp only[az.run,Ox]at hr;split at hr<;>first|(cases hr;done)|skip
  rename_i g first captured
  simp only[H0]at hr;subst hr;obtain⟨x,y,he,hx,hy⟩:=h1.Ae;refine⟨x.toList++(c.args.toList.map a.eval++y.toList),?_,hx.append (h2.append hy)⟩;rw[G1 c f OI a o ho he];congr 2;apply Zl1;simp
 ·
  rename_i b OI;have hex:∀(s:Sem Value),(∀consts,builtin b c.argTypes o.type consts (c.args.map a.eval)=(do pure (.value (<-s))))->(execOp a.eval o).run P w=(s.run P w).andThen λv w=>.ok (.value v) w:=by intro s hs;simp only[execOp,ho,resolve,OI,pure_bind,invoke];rw[hs];simp
  split at hc<;>first|(cases hc;done)|skip
  ·
   (split at hc<;>first|(cases hc;done)|skip);rename_i t _ _ cU;(split at hc<;>first|(cases hc;done)|skip);rename_i ti cI;have hv:=dG hl hF (vs:=vs) (by
        split at hc<;>first|(cases hc;done)|skip
        all_goals cases hc;exact hx)
   rw[fD] at hv;rw[hex (Builtin.len_ c.argTypes o.type (c.args.map a.eval)) (λ_=>rfl)];have hu:∃u,vs=[u]      :=by
        have h1:=hv.1;have h2:(c.args.toList).length=1:=by
         have: ∀{xs:List   Operand}{os:List dM},iI xs=some os->xs.length=os.length:=by
            intro xs;induction xs with
            |nil=>intro os h;simp[iI]at h;subst h;rfl
            |cons x xs ih=>intro os h;unfold iI at h;split at h<;>first|(cases h;done)|skip
                           rename_i e1 e2;simp only[H0]at h;subst h;simp[ih e2]
         rw[this hl];rfl
        match vs,h1 with
        |[u],_=>exact⟨u,rfl⟩
        |[],h1=>simp at h1 h2;omega
        |_::_::_,h1=>simp at h1 h2;omega
   obtain⟨u,rfl⟩:=hu;obtain⟨x,gb,hux⟩:=Ve hv;rw[gb];split at hc<;>first|(cases hc;done)|skip
   all_goals
        rename_i hk;cases hc;simp only[az.run]at hr;refine ad2 hT cI ?_ (Vf cU) o.type hW hux hr
   .    exact .inl ⟨rfl,hk⟩
   .    exact .inr (.inl ⟨rfl,_,hk⟩)
   .    exact .inr (.inr ⟨rfl,_,_,hk⟩)
  ·
   (split at hc<;>first|(cases hc;done)|skip);rename_i t t2 _ cU;(split at hc<;>first|(cases hc;done)|skip);rename_i ti JP cI KU;split at hc<;>first|(cases hc;done)|skip
   .    rename_i e hk n9;(split at hc<;>first|(cases hc;done)|skip);rename_i te eJ;(split at hc<;>first|(cases hc;done)|skip);rename_i z hz hk8 h8;have h8:=H3 h8;cases hc;have hv:=dG hl hF hx;rw[fD]at hv;rw[hex (Builtin.append_ c.argTypes o.type (c.args.map a.eval)) (λ_=>rfl)];simp only[az.run]at hr;have hu:∃s u,vs=[s,u]:=by
         unfold tL at hr;(split at hr<;>first|(cases hr;done)|skip);exact⟨_,_,rfl⟩
        obtain⟨s,u,rfl⟩:=hu;obtain⟨x,y,gb,h1,h2⟩:=G0 hv;rw[gb];exact Xx hT cI KU hk (λk hk=>by rw[n9]at hk;cases hk) eJ hz h8 (Vf cU) (arr1 cU) o.type hW h1 h2 hr
   rename_i e hk n9 _;(split at hc<;>first|(cases hc;done)|skip);rename_i te eJ;(split at hc<;>first|(cases hc;done)|skip);rename_i z hz;cases hc;have hv:=dG hl hF hx;rw[fD]at hv;rw[hex (Builtin.append_ c.argTypes o.type (c.args.map a.eval)) (λ_=>rfl)];simp only[az.run]at hr;have hu:∃s u,vs=[s,u]:=by
        unfold fk at hr;(split at hr<;>first|(cases hr;done)|skip);exact⟨_,_,rfl⟩
   obtain⟨s,u,rfl⟩:=hu;obtain⟨x,y,gb,h1,h2⟩:=G0 hv;rw[gb];exact Ip hT cI KU hk (λk hk=>n9 k hk) eJ hz (Vf cU) (arr1 cU) o.type hW h1 h2 hr
  ·
   (split at hc<;>first|(cases hc;done)|skip);rename_i t _ cU;(split at hc<;>first|(cases hc;done)|skip);rename_i ti cI;(split at hc<;>first|(cases hc;done)|skip);rename_i e hk;(split at hc<;>first|(cases hc;done)|skip);rename_i te eJ;cases hc;have hv:=dG hl hF hx;rw[fD]at hv;rw[hex (Builtin.copy_ c.argTypes o.type (c.args.map a.eval)) (λ_=>rfl)];simp only[az.run]at hr;have hu:∃s u,vs=[s,u]:=by
        unfold Ad at hr;(split at hr<;>first|(cases hr;done)|skip);exact⟨_,_,rfl⟩
   obtain⟨s,u,rfl⟩:=hu;obtain⟨x,y,gb,h1,h2⟩:=G0 hv;rw[gb];exact ab1 hT cI hk eJ (Vf cU) o.type hW h1 h2 hr
  ·
   (split at hc<;>first|(cases hc;done)|skip);cases hc;have hv:=dG hl hF hx;rw[fD]at hv;rw[hex (Builtin.unsafeSliceData_ c.argTypes o.type (c.args.map a.eval)) (λ_=>rfl)];simp only[az.run]at hr;have hu:∃s,vs=[s]:=by
        unfold rU at hr;(split at hr<;>first|(cases hr;done)|skip);exact⟨_,rfl⟩
   obtain⟨s,rfl⟩:=hu;obtain⟨x,gb,h1⟩:=Ve hv;rw[gb];exact TW o.type h1 hW hr
  ·
   (split at hc<;>first|(cases hc;done)|skip);rename_i t t2 cU;(split at hc<;>first|(cases hc;done)|skip);rename_i ti cI;(split at hc<;>first|(cases hc;done)|skip);rename_i e hk;(split at hc<;>first|(cases hc;done)|skip);rename_i te eJ;(split at hc<;>first|(cases hc;done)|skip);rename_i hk8 h8;have h8:=H3 h8;cases hc;have hv:=dG hl hF hx;rw[fD]at hv;rw[hex (Builtin.unsafeString_ c.argTypes o.type (c.args.map a.eval)) (λ_=>rfl)];simp only[az.run]at hr;have hu:∃s u,vs=[s,u]:=by
        unfold n6 at hr;(split at hr<;>first|(cases hr;done)|skip);exact⟨_,_,rfl⟩
   obtain⟨s,u,rfl⟩:=hu;obtain⟨x,y,gb,h1,h2⟩:=G0 hv;rw[gb];exact TX hT cI hk eJ h8 cU o.type hW h1 h2 hr
  ·
   (split at hc<;>first|(cases hc;done)|skip);cases hc;have hv:=dG hl hF hx;rw[fD]at hv;rw[hex (Builtin.min_ c.argTypes o.type (c.args.map a.eval)) (λ_=>rfl)];simp only[az.run]at hr;have hu:∃s u r,vs=[s,u]/\res= .val r:=by
        unfold CI at hr;(split at hr<;>first|(cases hr;done)|skip);split at hr<;>first|(cases hr;done)|skip
        all_goals cases hr;exact⟨_,_,_,rfl,rfl⟩
   obtain⟨s,u,r,rfl,rfl⟩:=hu;obtain⟨x,y,gb,h1,h2⟩:=G0 hv;obtain⟨z,hz,hvz⟩:=abU (P:=P) (w:=w) h1 h2 hr;rw[gb];refine .pure (x:=z) ?_ hvz;simp[Builtin.min_,hz]
  ·
   (split at hc<;>first|(cases hc;done)|skip);cases hc;have hv:=dG hl hF hx;rw[fD]at hv;rw[hex (Builtin.max_ c.argTypes o.type (c.args.map a.eval)) (λ_=>rfl)];simp only[az.run]at hr;have hu:∃s u r,vs=[s,u]/\res= .val r:=by
        unfold CJ at hr;(split at hr<;>first|(cases hr;done)|skip);split at hr<;>first|(cases hr;done)|skip
        all_goals cases hr;exact⟨_,_,_,rfl,rfl⟩
   obtain⟨s,u,r,rfl,rfl⟩:=hu;obtain⟨x,y,gb,h1,h2⟩:=G0 hv;obtain⟨z,hz,hvz⟩:=abV (P:=P) (w:=w) h1 h2 hr;rw[gb];refine .pure (x:=z) ?_ hvz;simp[Builtin.max_,hz]
  ·
   (split at hc<;>first|(cases hc;done)|skip);rename_i t _ cU;(split at hc<;>first|(cases hc;done)|skip);rename_i ti cI;(split at hc<;>first|(cases hc;done)|skip);rename_i e hk;(split at hc<;>first|(cases hc;done)|skip);rename_i te eJ;(split at hc<;>first|(cases hc;done)|skip);rename_i z hz;cases hc;have hv:=dG hl hF hx;rw[fD]at hv;rw[hex (Builtin.clear_ c.argTypes o.type (c.args.map a.eval)) (λ_=>rfl)];simp only[az.run]at hr;have hu:∃u,vs=[u]:=by
        unfold wO at hr;(split at hr<;>first|(cases hr;done)|skip);exact⟨_,rfl⟩
   obtain⟨u,rfl⟩:=hu;obtain⟨x,gb,hux⟩:=Ve hv;rw[gb];exact aaD hT cI hk eJ hz (Vf cU) o.type hW hux hr
theorem MY(hT:bM P tt)(op:Op):cE P tt op:=by
 cases op with
 |move x=>exact abQ x
 |assign x=>exact Zg x
 |pick c x y=>exact abR c x y
 |alloc t=>exact aax hT t
 |box t x=>exact ad0 t x
 |build t ps=>exact aaw hT t ps
 |buildSlice t n ps=>exact Rr hT t n ps
 |insert t m k v=>exact PZ hT _ t m k v (.inr rfl)
 |load t x=>exact abT hT t x
 |store t x y=>exact aaA hT t x y
 |nilCheck x=>exact U6 x
 |binOp op t x y yt=>exact aas hT op t x y yt
 |unOp op t x=>exact abS op t x
 |convert s d x=>
  by_cases h:∃xs cls,fo tt (.convert s d x)=some (.conv .bytes,xs,cls)
  .exact TV hT s d x h
  .exact Xv hT s d x λk xs cls hc e=>h ⟨xs,cls,by rw[hc,e]⟩
 |makeInterface t x=>exact Xt hT t x
 |makeFunc f x y=>exact Zh f x y
 |makeMap t r=>exact aay t r hT
 |makeSlice t l c=>exact Xw hT t l c
 |slice t x l h m=>exact aav hT t x l h m
 |fieldAddr t x f=>exact TR hT t x f
 |field t x f=>exact aat hT t x f
 |indexAddr t x i=>exact TU hT t x i
 |index t x i=>exact aau hT t x i
 |lookup t x i ok=>exact Zj hT t x i ok
 |mapUpdate t m k v=>exact PZ hT _ t m k v (.inl rfl)
 |range t x=>exact Zl hT t x
 |next it s=>exact aaB it s
 |extract x i=>exact Xs x i
 |call c=>exact ab2 hT c
 |_=>intro ρ C st w k xs cls fr a o vs res ho hc;simp[fo]at hc
end
end
section
open Go
def Reaches(P:Program)(R:Value->World->Prop):Result Next->Prop
 |.ok (.value x) w'=>R x w'
 |.ok .skip w'=>R undef w'
 |.ok (.enter f args) w'=>Calls P f args w' λ|.returned v,w''=>R v w''|_,_=>False
 |.ok (.row row args) w'=>Rows P row args w' R
 |_=>False
theorem Reaches.mono{P:Program}{R R':Value->World->Prop}(h:∀x w,R x w->R' x w):∀{r:Result Next},Reaches P R r->Reaches P R' r
 |.ok (.value _) _,hr=>h _ _ hr
 |.ok .skip _,hr=>h _ _ hr
 |.ok (.enter _ _) _,hr=>Calls.mono hr λe w he=>by cases e<;>first|exact h _ _ he|exact he
 |.ok (.row _ _) _,hr=>Rows.mono hr h
section
variable(P:Program)(ops:Array Oper)
def Rt(o:Oper)(K:Act->World->Prop)(a:Act)(w:World):Prop:=Reaches P (λx w'=>K (a.put o.dst x) w') ((execOp a.eval o).run P w)
def Da(i:Nat)(K:Act->World->Prop)(a:Act)(w:World):Prop:=
 match ops[i]? with
 |none=>K a w
 |some o=>if Region.wanted o (yielded ops a.tmps)then Rt P o K a w else K (a.put o.dst undef) w
def pH(K:Act->World->Prop):List Nat->Act->World->Prop
 |[],a,w=>K a w
 |i::l,a,w=>Da P ops i (pH K l) a w
def UB(K:Act->World->Prop):Nat->Array Bool->Act->World->Prop
 |0,listed,a,w=>Region.ready .any ops listed=[]/\K a w
 |fuel+1,listed,a,w=>(Region.ready .any ops listed=[]->K a w)/\∀i∈Region.ready .any ops listed,Da P ops i (UB K fuel (listed.setIfInBounds i true)) a w
end
section
variable{P:Program}{ops:Array Oper}
theorem SN{i:Nat}{K K':Act->World->Prop}{a:Act}{w:World}(h:∀a w,K a w->K' a w)(hh:Da P ops i K a w):Da P ops i K' a w:=by
 unfold Da at*
 split
 .rename_i ho;rw[ho]at hh;exact h _ _ hh
 . rename_i o ho;rw[ho]at hh;dsimp only at hh;split
   .rename_i hw;rw[Za2 hw]at hh;exact Reaches.mono (λx w' hk=>h _ _ hk) hh
   .rename_i hw;rw[Za1 hw]at hh;exact h _ _ hh
theorem SP{K:Act->World->Prop}{l2:List Nat}:∀(l1:List Nat)(a:Act)(w:World),pH P ops (pH P ops K l2) l1 a w->pH P ops K (l1++l2) a w
 |[],_,_,h=>h
 |_::l1,_,_,h=>SN (λa w=>SP l1 a w) h
end
section
variable(P:Program)
def KV(R:(Exit->Act->World->Prop)->Act->World->Prop)(Q:Exit->Act->World->Prop):Nat->Act->World->Prop
 |0,_,_=>False
 |n+1,a,w=>R (Exit.then (KV R Q n) Q) a w
def ek:Code->(Exit->Act->World->Prop)->Act->World->Prop
 |.skip,Q,a,w=>Q .normal a w
 |  .region _ ops draw,Q,a,w=>match draw with
    |false=>pH P ops (Q .normal) (List.range ops.size) a w
    |true=>P.follows .mixedOrders=true/\UB P ops (Q .normal) ops.size (Array.replicate ops.size false) a { w with drawn:=w.drawn+1 }
 |.seq x y,Q,a,w=>ek x (Exit.then (ek y Q) Q) a w
 |  .cond c x y,Q,a,w=>∃t,a.eval c= .bool t/\match t with
    |true=>ek x Q a w
    |false=>ek y Q a w
 |.block id x,Q,a,w=>ek x (Exit.inBlock id Q) a w
 |.loop x,Q,a,w=>∃n,KV (ek x) Q n a w
 |.exit id,Q,a,w=>Q (.exit id) a w
 |.ret,Q,a,w=>Q .ret a w
 |_,_,_,_=>False
end
section
variable{P:Program}{Q:Exit->Act->World->Prop}{a:Act}{w:World}
theorem aaE(h:Q .normal a w):ek P .skip Q a w:=h
theorem aaF{id:Nat}(h:Q (.exit id) a w):ek P (.exit id) Q a w:=h
theorem Db{x y:Code}(h:ek P x (Exit.then (ek P y Q) Q) a w):ek P (.seq x y) Q a w:=h
theorem P0{id:Nat}{x:Code}(h:ek P x (Exit.inBlock id Q) a w):ek P (.block id x) Q a w:=h
theorem FP{id:Nat}{ops:Array Oper}(h:pH P ops (Q .normal) (List.range ops.size) a w):ek P (.region id ops false) Q a w:=h
theorem Ru{c:Operand}{x y:Code}(hc:a.eval c= .bool true)(h:ek P x Q a w):ek P (.cond c x y) Q a w:=⟨true,hc,h⟩
theorem P1{c:Operand}{x y:Code}(hc:a.eval c= .bool false)(h:ek P y Q a w):ek P (.cond c x y) Q a w:=⟨false,hc,h⟩
theorem aaG{x:Code}(n:Nat)(h:KV (ek P x) Q n a w):ek P (.loop x) Q a w:=⟨n,h⟩
theorem SQ{R:(Exit->Act->World->Prop)->Act->World->Prop}{n:Nat}:KV R Q (n+1) a w=R (Exit.then (KV R Q n) Q) a w:=rfl
end
def pI:Code->List Nat
 |.region _ ops _=>ops.toList.filterMap (·.dst)
 |.seq a b=>pI a++pI b
 |.cond _ a b=>pI a++pI b
 |.block _ a=>pI a
 |.loop a=>pI a
 |_=>[]
abbrev Fc(r:Option Nat):Fence:={ Fence.wide with round:=r }
section
variable{P:Program}{r:Option Nat}{n:Nat}{ts:Nat->Prop}{x:Array Value}{ds D:List Deferred}
def InF(D ds:List Deferred)(ts:Nat->Prop)(x:Array Value)(Q:Exit->Act->World->Prop):Exit->Act->World->Prop:=
 λe a w=>a.defers=D/\(∀t,ts t->a.tmps[t]? =x[t]?)/\Q e ⟨a.tmps,ds⟩ w
theorem ad3{row:String}{args:Array Value}{w:World}{R:Value->World->Prop}(h:Rows P row args w R):RowsIn (Fc r) n P row args w R:=
 λc cs _=>let⟨v,w',hr,hs⟩:=h c cs;⟨v,w',hr,stepsIn_wide.2 hs⟩
theorem ab4{f:FuncId}{args:Array Value}{w:World}{R:Ending->World->Prop}(h:Calls P f args w R):CallsIn (Fc r) n P f args w R:=callsIn_wide.2 h
theorem G2{T:Array Value}{o:Operand}:(⟨T,ds⟩:Act).eval o=(⟨T,D⟩:Act).eval o:=by cases o<;>rfl
theorem ae3{T:Array Value}{d:Option Tmp}{v:Value}:(⟨T,ds⟩:Act).put d v=⟨((⟨T,D⟩:Act).put d v).tmps,ds⟩:=by cases d<;>rfl
theorem ad4{T:Array Value}{d:Option Tmp}{v:Value}:(⟨T,ds⟩:Act).put d v=⟨((⟨T,ds⟩:Act).put d v).tmps,ds⟩:=by cases d<;>rfl
theorem ab5{T:Array Value}{d:Option Tmp}{v:Value}{t:Nat}(h:d≠some t):((⟨T,ds⟩:Act).put d v).tmps[t]? =T[t]? :=by
 cases d with
 |none=>rfl
 |some e=>
  show(T.setIfInBounds e v)[t]? =T[t]?;exact Zd3 λh'=>h (by rw[h'])
theorem ad5{o:Oper}{K:Act->World->Prop}{K':Act->World->Prop}{Q:Exit->Act->World->Prop}{T:Array Value}{w:World}(h:Rt P o K ⟨T,ds⟩ w)
  (hK:∀v w',K ((⟨T,ds⟩:Act).put o.dst v) w'->K' ((⟨T,D⟩:Act).put o.dst v) w'):o.wpIn (Fc r) n P ⟨T,D⟩ w K' Q:=by
 refine⟨λ_ _=>trivial,?_⟩;have he:(⟨T,D⟩:Act).eval=(⟨T,ds⟩:Act).eval:=funext λ_=>G2
 rw[he];unfold Rt at h;have hs:o.semAt r (⟨T,ds⟩:Act).eval=execOp (⟨T,ds⟩:Act).eval o:=by
  cases r with
  |none=>rfl
  | some l=>
    unfold Oper.semAt;(cases ho:o.op<;>first|rfl|skip);exfalso;unfold execOp at h;rw[ho]at h;simp only[Sem.run_bind,Sem.run_pure]at h;cases hr:(resolve (⟨T,ds⟩:Act).eval _ o.type).run P w<;>rw[hr]at h<;>simp[Result.andThen,Reaches]at h
 show o.uponIn (Fc r) n P _ _ _ ((o.semAt r (⟨T,ds⟩:Act).eval).run P w);rw[hs];generalize (execOp (⟨T,ds⟩:Act).eval o).run P w=z at h;cases z with
 |ok m w'=>
  cases m<;>simp only[Reaches]at h
  .exact hK _ _ h
  .exact hK _ _ h
  .exact⟨λhd=>by simp[Fence.wide]at hd,(ab4 h).mono λe w he=>by cases e<;>first|exact hK _ _ he|exact he.elim⟩
  .exact⟨λhd=>by simp[Fence.wide]at hd,(ad3 h).mono λv w he=>hK _ _ he⟩
 |halt v w'=>simp only[Reaches]at h
theorem X9{ops:Array Oper}{i:Nat}{K K':Act->World->Prop}{Q:Exit->Act->World->Prop}{T:Array Value}{w:World}(h:Da P ops i K ⟨T,ds⟩ w)(cU:∀o,ops[i]? =some o->∀t,o.dst=some t->¬ts t)
   (hx:∀t,ts t->T[t]? =x[t]?) (hK:∀T' w',(∀t,ts t->T'[t]? =x[t]?)->K ⟨T',ds⟩ w'->K' ⟨T',D⟩ w'):wpOpIn (Fc r) n P ops Q i K' ⟨T,D⟩ w:=by
 unfold Da at h;unfold wpOpIn;split at h
 .rename_i ho;rw[ho];exact hK _ _ hx h
 . (rename_i o ho;rw[ho];have Zs:∀v t,ts t->((⟨T,D⟩:Act).put o.dst v).tmps[t]? =x[t]? :=λv t ht=>by rw[ab5 (λhd=>cU o ho t hd ht)];exact hx t ht);have mS:∀v w',K ((⟨T,ds⟩:Act).put o.dst v) w'->K' ((⟨T,D⟩:Act).put o.dst v) w':=λv w' hk=>by rw[ae3 (D:=D)]at hk;rw[ad4];exact hK _ _ (Zs v) hk
   show if Region.wanted o (yielded ops T)=true then _ else _
   dsimp only at h;split at h
   .rename_i hw;rw[Za2 hw];exact ad5 h mS
   .rename_i hw;rw[Za1 hw];exact⟨λ_ _=>trivial,mS _ _ h⟩
theorem aaH{ops:Array Oper}(cU:∀t∈ops.toList.filterMap (·.dst),¬ts t){i:Nat}:∀o,ops[i]? =some o->∀t,o.dst=some t->¬ts t:=λo ho t ht=>cU t (by
 rw[Zl2];exact⟨o,by rw[Zk4];exact Zk1 ho,ht⟩)
theorem Ir{ops:Array Oper}{K:Act->World->Prop}{Q:Exit->Act->World->Prop}{l2:List Nat}(hK:∀T' w',(∀t,ts t->T'[t]? =x[t]?)->K ⟨T',ds⟩ w'->wpOpsIn (Fc r) n P ops Q l2 ⟨T',D⟩ w'):
  ∀(l:List Nat)(T:Array Value)(w:World),(∀i∈l,∀o,ops[i]? =some o->∀t,o.dst=some t->¬ts t)->(∀t,ts t->T[t]? =x[t]?)->pH P ops K l ⟨T,ds⟩ w->wpOpsIn (Fc r) n P ops Q (l++l2) ⟨T,D⟩ w
 |[],T,w,_,hx,h=>hK T w hx h
 |i::l,T,w,cU,hx,h=>by rw[Ze4,wpOpsIn_cons];exact X9 h (cU i (Zc4 ..)) hx λT' w' js hk=>Ir hK l T' w' (λj hj=>cU j (Za4 _ hj)) js hk
theorem Vg{ops:Array Oper}{K K':Act->World->Prop}{Q:Exit->Act->World->Prop}(hQ:Q .normal=K')(cU:∀t∈ops.toList.filterMap (·.dst),¬ts t)(hK:∀T' w',(∀t,ts t->T'[t]? =x[t]?)->K ⟨T',ds⟩ w'->K' ⟨T',D⟩ w'):
  ∀(fuel:Nat)(listed:Array Bool)(T:Array Value)(w:World),(∀t,ts t->T[t]? =x[t]?)->UB P ops K fuel listed ⟨T,ds⟩ w->wpAnyIn (Fc r) n P .any ops Q fuel listed ⟨T,D⟩ w
 |0,listed,T,w,hx,h=>⟨h.1,by rw[hQ];exact hK T w hx h.2⟩
 |fuel+1,listed,T,w,hx,h=>⟨λhr=>by rw[hQ];exact hK T w hx (h.1 hr),λi hi=>X9 (h.2 i hi) (aaH cU) hx λT' w' js hk=>Vg hQ cU hK fuel _ T' w' js hk⟩
theorem ek.Ya:∀(c:Code)(Q:Exit->Act->World->Prop)(T:Array Value)(w:World),(∀t∈pI c,¬ts t)->(∀t,ts t->T[t]? =x[t]?)->ek P c Q ⟨T,ds⟩ w->
  c.wpIn (Fc r) n P (InF D ds ts x Q) ⟨T,D⟩ w:=by
 intro c;induction c with
 |skip=>exact λQ T w _ hx h=>wpIn_skip ⟨rfl,hx,h⟩
 |region i ops d=>
  intro Q T w cU hx h;cases d
  .refine wpIn_region ?_;rw[<-Zf4 (List.range ops.size)];exact Ir (λT' w' js hk=>by show InF D ds ts x Q .normal _ _;exact⟨rfl,js,hk⟩) _ T w (λ_ _=>aaH cU) hx h
  .exact wpIn_region_any h.1 (Vg rfl cU (λT' w' js hk=>⟨rfl,js,hk⟩) _ _ T _ hx h.2)
 |seq a b Vh Vi=>
  intro Q T w cU hx h;refine wpIn_seq (wpIn_mono (Vh _ T w (λt ht=>cU t (Zg4 _ ht)) hx h) ?_);rintro e ⟨T',D'⟩ w' ⟨h1,h2,h3⟩;dsimp only at h1;subst h1;cases e with
  |normal=>exact Vi Q T' w' (λt ht=>cU t (Zi0 _ ht)) h2 h3
  |_=>exact⟨rfl,h2,h3⟩
 |cond c a b Vh Vi=>
  intro Q T w cU hx h;obtain⟨t,ht,h⟩:=h;refine wpIn_cond (t:=t) (by rw[<-ht];exact G2) ?_;cases t
  .exact Vi Q T w (λt ht=>cU t (Zi0 _ ht)) hx h
  .exact Vh Q T w (λt ht=>cU t (Zg4 _ ht)) hx h
 |block id a ih=>
  intro Q T w cU hx h;refine wpIn_block (wpIn_mono (ih _ T w cU hx h) ?_);rintro e a' w' ⟨h1,h2,h3⟩;cases e with
  | exit i=>
    simp only[Exit.inBlock]at h3 ⊢;split<;>(rename_i hi;first|rw[Za2 hi]at h3|rw[Za1 hi]at h3)<;>exact⟨h1,h2,h3⟩
  |_=>exact⟨h1,h2,h3⟩
 |loop a ih=>
  intro Q T w cU hx h;obtain⟨m,h⟩:=h;refine wpIn_loop_rounds m ?_;induction m generalizing T w with
  |zero=>exact h.elim
  | succ m ihm=>
    rw[roundsIn_succ];refine wpIn_mono (ih _ T w cU hx h) ?_;rintro e ⟨T',D'⟩ w' ⟨h1,h2,h3⟩;dsimp only at h1;subst h1;cases e with
    |normal=>exact ihm T' w' h2 h3
    |_=>exact⟨rfl,h2,h3⟩
 |exit id=>exact λQ T w _ hx h=>wpIn_exit ⟨rfl,hx,h⟩
 |ret=>exact λQ T w _ hx h=>wpIn_ret ⟨rfl,hx,h⟩
 |_=>exact λQ T w _ _ h=>h.elim
theorem ek.wp{c:Code}{Q:Exit->Act->World->Prop}{a:Act}{w:World}(h:ek P c Q a w):c.wp P Q a w:=by refine wpIn_wide (n:=0) |>.1 (wpIn_mono (ek.Ya (r:=none) (D:=a.defers) (ds:=a.defers) (ts:=λ_=>False) (x:= #[]) c Q a.tmps w (λ_ _ h=>h) (λ_ h=>h.elim) h) ?_);rintro e ⟨T,D⟩ w' ⟨h1,_,h3⟩;dsimp only at h1;subst h1;exact h3
end
end
section
open Go Go.RowKit
def k8(ρ:Pos->Loc)(C:Cells)(st:St)(w:World)(v:AV)(st':St)(x:Value)(w':World):Prop:=
 ∃ρ',aj ρ' st'.next.toNat C v x/\(∀b:Pos,b.toNat<st.next.toNat->ρ' b=ρ b)/\st.next.toNat<=st'.next.toNat/\aT ρ' C st' w'/\jr ρ st w ρ' st' w'
def eE(P:Program)(C:Cells)(call:ah):Prop:=
 ∀  (ρ:Pos->Loc)(st:St)(w:World)(f:FuncId)(args:List AV)(v:AV)(st':St)(bC:List Value),call f args st=some (v,st')->
    aT ρ C st w->av ρ st.next.toNat C args bC->Reaches P (k8 ρ C st w v st') ((callFunc f bC.toArray).run P w)
section
variable{P:Program}{tt:TT}{C:Cells}{call:ah}
theorem St.Vj(st:St)(del:Option Pos)(set:Option (Pos×AB))(new:Option AB):st.next.toNat<=(st.aF del set new).next.toNat:=by
 cases new with
 |none=>exact Za3 _
 |some x=>simp only[St.aF,Pos.aB];omega
theorem NK(hT:bM P tt)(bH:eE P C call){ρ:Pos->Loc}{st st':St}{w:World}{k:az}{xs:List dM}{cls:X1}{fr:Fr}{a:Act}{o:Oper}{vs:List AV}{v:AV}
   (hc:fo tt o.op=some (k,xs,cls)) (hW:aT ρ C st w) (hF:eO ρ st.next.toNat C fr a.tmps) (hx:dN fr xs=some vs)
   (hs:aV call k vs st=some (v,st')):Reaches P (k8 ρ C st w v st') ((execOp a.eval o).run P w):=by
 have H:=MY hT o.op ρ C st w k xs cls fr a o vs;unfold aV at hs;split at hs
 . rename_i u hr;simp only[H0,Za9]at hs;obtain⟨rfl,rfl⟩:=hs;obtain⟨N,x,he,hy,hv⟩:=H _ rfl hc hW hF hx hr;have hp:k8 ρ C st w u st x w:=⟨ρ,hv,λ_ _=>rfl,Za3 _,hW,jr.refl _ _ _⟩
   rw[he];rcases hy with rfl|⟨rfl,rfl⟩<;>exact hp
 . rename_i u del set new hr;simp only[H0,Za9]at hs;obtain⟨rfl,rfl⟩:=hs;obtain⟨N,x,w',ρ',he,hy,aQ,ei,hv,hE⟩:=H _ rfl hc hW hF hx hr;have hp:k8 ρ C st w u (st.aF del set new) x w':=⟨ρ',hv,aQ,St.Vj _ _ _ _,ei,hE⟩
   rw[he];rcases hy with rfl|⟨rfl,rfl⟩<;>exact hp
 .rename_i f args hr;obtain⟨bC,he,hv⟩:=H _ rfl hc hW hF hx hr;rw[he];exact bH ρ st w f args v st' bC hs hW hv
 .cases hs
structure tO(tt:TT)(nt:Nat)(ops:Array Oper)(o:Oper)(ao:bg):Prop where
 dst:ao.dst=o.dst.map key
 lt:∀d,o.dst=some d->d<nt
 guard:PC ops o.guard=some ao.guard
 op:(fo tt o.op=some (ao.k,ao.xs,ao.cls))\/(ao.k= .bad/\ao.cls= .aF)
theorem nj{nt:Nat}{ops:Array Oper}:∀{os:List Oper}{bs:List Nat}{l:List bg},mQ tt nt ops os bs=some l->
  l.length=os.length/\∀(i:Nat)(o:Oper),os[i]? =some o->∃ao,l[i]? =some ao/\tO tt nt ops o ao/\ao.bA=bs.getD i 0
 |[],bs,l,h=>by simp[mQ]at h;subst h;exact⟨rfl,λi o ho=>by simp at ho⟩
 |o ::os,bs,l,h=>by
  unfold mQ at h;split at h<;>first|(cases h;done)|skip
  rename_i g l' hg hl hd;obtain⟨h1,h2⟩:=nj hl;have aK:∀d,o.dst=some d->d<nt:=λd hdd=>by rw[hdd]at hd;simpa [mQ.adE]using hd
  have hb:∀i,bs.tail.getD i 0=bs.getD (i+1) 0:=λi=>by cases bs<;>simp
  have XW:bs.headD 0=bs.getD 0 0:=by cases bs<;>simp
  split at h
  . rename_i k xs cls hc;simp only[H0]at h;subst h;refine⟨by simp[h1],λi o' ho=> ?_⟩;cases i with
    |   zero=>
        simp at ho;subst ho;exact⟨_,rfl,⟨rfl,aK,hg,.inl hc⟩,XW⟩
    |   succ i=>
        simp at ho;obtain⟨ao,h3,h4,h5⟩:=h2 i o' ho;exact⟨ao,by simpa using h3,h4,by rw[h5,hb]⟩
  . simp only[H0]at h;subst h;refine⟨by simp[h1],λi o' ho=> ?_⟩;cases i with
    |   zero=>
        simp at ho;subst ho;exact⟨_,rfl,⟨rfl,aK,hg,.inr ⟨rfl,rfl⟩⟩,XW⟩
    |   succ i=>
        simp at ho;obtain⟨ao,h3,h4,h5⟩:=h2 i o' ho;exact⟨ao,by simpa using h3,h4,by rw[h5,hb]⟩
theorem Dc{ops:Array Oper}{ρ:Pos->Loc}{n:Nat}{fr:Fr}{a:Act}{o:Oper}{g:Option (Pos×Bool)}{b:Bool}(hg:PC ops o.guard=some g)
   (hF:∀p v,fr.get p=some v->(∃q,g=some (p,q))->∃x,a.tmps[p.toNat - 1]? =some x/\aj ρ n C v x)
   (hw:bI fr g=some b):Region.wanted o (yielded ops a.tmps)=b:=by
 unfold Region.wanted;unfold PC at hg;split at hg
 .rename_i hn;simp only[H0]at hg;subst hg;simp only[bI,H0]at hw;subst hw;rw[hn]
 . rename_i j want hn;rw[hn];(split at hg<;>first|(cases hg;done)|skip);rename_i oj hj;(split at hg<;>first|(cases hg;done)|skip);rename_i d hd;simp only[H0]at hg;subst hg;simp only[bI]at hw;split at hw
   .rename_i u hu;simp only[H0]at hw;subst hw;obtain⟨x,hx,hv⟩:=hF _ _ hu ⟨_,rfl⟩;rw[ey,Ze2]at hx;have:=hv.fS;subst this;simp[yielded,hj,hd,hx]
   .rename_i l hu;simp only[H0]at hw;subst hw;obtain⟨x,hx,hv⟩:=hF _ _ hu ⟨_,rfl⟩;rw[ey,Ze2]at hx;obtain⟨cs,rfl,_⟩:=hv.SC;simp[yielded,hj,hd,hx]
   .cases hw
theorem aj.SR{ρ:Pos->Loc}{n:Nat}:aj ρ n C AV.undef undef:= .tuple [] #[] rfl λ_ _ _ h=>by simp at h
theorem Act.gJ(a:Act)(d:Option Tmp)(v:Value):(a.put d v).tmps.size=a.tmps.size:=by cases d<;>simp[Act.put]
theorem Act.iP(a:Act)(d:Option Tmp)(v:Value):(a.put d v).defers=a.defers:=by cases d<;>rfl
theorem eO.put{ρ:Pos->Loc}{n nt:Nat}{fr:Fr}{a:Act}{d:Option Tmp}{v:AV}{x:Value}(hF:eO ρ n C fr a.tmps)(hs:a.tmps.size=nt)
  (hd:∀e,d=some e->e<nt) (hv:aj ρ n C v x):eO ρ n C (cM fr (d.map key) v) (a.put d x).tmps:=by
 cases d with
 |none=>exact hF
 |some e=>
  have he:=hd e rfl;intro p u hp;simp only[Ze0,cM]at hp;simp only[Act.put];by_cases P2:key e=p
  .subst P2;rw[T.eo]at hp;simp only[H0]at hp;subst hp;refine⟨x,?_,hv⟩;rw[ey,Ze2,Zk0];simp[hs,he]
  .rw[T.bw _ P2]at hp;obtain⟨y,hy,hr⟩:=hF p u hp;refine⟨y,?_,hr⟩;rw[Zd3,hy];intro h;apply P2;apply Pos.toNat_inj;rw[ey];have:=p.toNat_pos;omega
theorem eO.mono{ρ ρ':Pos->Loc}{n n':Nat}{fr:Fr}{tmps:Array Value}(hF:eO ρ n C fr tmps)(aQ:∀b:Pos,b.toNat<n->ρ' b=ρ b)(hn:n<=n'):eO ρ' n' C fr tmps:=
 λp v hp=>let⟨x,hx,hv⟩:=hF p v hp;⟨x,hx,hv.mono aQ hn⟩
structure lX(nt:Nat)(ρ:Pos->Loc)(C:Cells)(fr:Fr)(st:St)(a:Act)(w:World):Prop where
 W:aT ρ C st w
 F:eO ρ st.next.toNat C fr a.tmps
 size:a.tmps.size=nt
 defers:a.defers=[]
def eW(nt:Nat)(ρ:Pos->Loc)(C:Cells)(st:St)(w:World)(aU:Fr)(st':St)(a':Act)(w':World):Prop:=
 ∃ρ',lX nt ρ' C aU st' a' w'/\(∀b:Pos,b.toNat<st.next.toNat->ρ' b=ρ b)/\st.next.toNat<=st'.next.toNat/\jr ρ st w ρ' st' w'
theorem eW.refl{nt:Nat}{ρ:Pos->Loc}{fr:Fr}{st:St}{a:Act}{w:World}(h:lX nt ρ C fr st a w):eW nt ρ C st w fr st a w:=
 ⟨ρ,h,λ_ _=>rfl,Za3 _,jr.refl _ _ _⟩
theorem eW.trans{nt:Nat}{ρ dB:Pos->Loc}{ua:Fr}{st aN jO:St}{a2:Act}{w w1 w2:World}
  (h1:∀b:Pos,b.toNat<st.next.toNat->dB b=ρ b) (h2:st.next.toNat<=aN.next.toNat) (h3:jr ρ st w dB aN w1)
  (h:eW nt dB C aN w1 ua jO a2 w2):eW nt ρ C st w ua jO a2 w2:=by
 obtain⟨kW,k1,k2,k3,k4⟩:=h;exact⟨kW,k1,λb hb=>(k2 b (Zb9 hb h2)).trans (h1 b hb),Zc3 h2 k3,h3.trans k4⟩
theorem Reaches.bad{k:az}{vs:List AV}{st:St}{r:AV×St}(hk:k= .bad)(h:aV call k vs st=some r):False:=by subst hk;simp[aV,az.run]at h
theorem pJ(hT:bM P tt)(bH:eE P C call){nt:Nat}{ops:Array Oper}{K:Act->World->Prop}:∀(Vk:List bg)(k:Nat)(fr aU:Fr)(st st':St)(ρ:Pos->Loc)(a:Act)(w:World),
  (∀(i:Nat)(ao:bg),Vk[i]? =some ao->∃o,ops[k+i]? =some o/\tO tt nt ops o ao)->
  iJ call Vk fr st=some (aU,st')->lX nt ρ C fr st a w->(∀a' w',eW nt ρ C st w aU st' a' w'->K a' w')->pH P ops K (List.range' k Vk.length) a w
 |[],k,fr,aU,st,st',ρ,a,w,_,h,hS,hQ=>by
  simp only[iJ,H0,Za9]at h;obtain⟨rfl,rfl⟩:=h;exact hQ a w (eW.refl hS)
 |ao::Vk,k,fr,aU,st,st',ρ,a,w,ho,h,hS,hQ=>by
  obtain⟨o,cT,hR⟩:=ho 0 ao rfl;rw[Zh8]at cT;have E6:∀(i:Nat)(ao':bg),Vk[i]? =some ao'->∃o,ops[k+1+i]? =some o/\tO tt nt ops o ao':=λi ao' hi=>by
    obtain⟨o',h1,h2⟩:=ho (i+1) ao' (by simpa using hi);exact⟨o',by rw[<-h1];congr 1;omega,h2⟩
  simp only[Zd7,Zm6,pH,Da,cT];unfold iJ at h;split at h
  . rename_i hw;rw[Za2 (Dc hR.guard (λp v hp _=>hS.F p v hp) hw)];(split at h<;>first|(cases h;done)|skip);rename_i vs gU;(split at h<;>first|(cases h;done)|skip);rename_i v aN oX;rcases hR.op with hc|⟨hk,_⟩
    .   have hr:=NK hT bH hc hS.W hS.F gU oX;(refine hr.mono λx w1 hp=> ?_);obtain⟨dB,hv,h1,h2,Vl,hE⟩:=hp;rw[hR.dst]at h;refine pJ hT bH Vk (k+1) _ aU aN st' dB _ w1 E6 h ⟨Vl,eO.put (hS.F.mono h1 h2) hS.size hR.lt hv,by rw[Act.gJ];exact hS.size,by rw[Act.iP];exact hS.defers⟩ λa' w' hp=>hQ a' w' (eW.trans h1 h2 hE hp)
    .   exact(Reaches.bad hk oX).elim
  .rename_i hw;rw[Za1 (by rw[Dc hR.guard (λp v hp _=>hS.F p v hp) hw];simp)];rw[hR.dst]at h;exact pJ hT bH Vk (k+1) _ aU st st' ρ _ w E6 h ⟨hS.W,eO.put hS.F hS.size hR.lt .SR,by rw[Act.gJ];exact hS.size,by rw[Act.iP];exact hS.defers⟩ hQ
  .cases h
theorem Aj{nt:Nat}{ops:Array Oper}{l:List bg}{bs:List Nat}(h:mQ tt nt ops ops.toList bs=some l)(i:Nat)(ao:bg)(hi:l[i]? =some ao):
  ∃o,ops[i]? =some o/\tO tt nt ops o ao/\ao.bA=bs.getD i 0:=by
 obtain⟨h1,h2⟩:=nj h;have aK:i<ops.toList.length:=by rw[<-h1];exact(H5.1 hi).1
 obtain⟨ao',h3,h4,h5⟩:=h2 i _ (H1 aK);rw[hi]at h3;simp only[H0]at h3;subst h3;exact⟨_,by rw[<-Zf3];exact H1 aK,h4,h5⟩
theorem Vm(hT:bM P tt)(bH:eE P C call){nt id:Nat}{ops:Array Oper}{bs:List Nat}{l:List bg}{Q:Exit->Act->World->Prop}{fr aU:Fr}{st st':St}{ρ:Pos->Loc}{a:Act}{w:World}
  (hl:mQ tt nt ops ops.toList bs=some l) (h:iJ call l fr st=some (aU,st')) (hS:lX nt ρ C fr st a w)
  (hQ:∀a' w',eW nt ρ C st w aU st' a' w'->Q .normal a' w'):ek P (Code.region id ops false) Q a w:=by
 show pH P ops (Q .normal) (List.range ops.size) a w;have hlen:l.length=ops.size:=by rw[(nj hl).1,Ze9]
 rw[Zk5, <-hlen];exact pJ hT bH l 0 fr aU st st' ρ a w (λi ao hi=>by
  obtain⟨o,h1,h2,_⟩:=Aj hl i ao hi;exact⟨o,by rw[Zb6];exact h1,h2⟩) h hS hQ
end
section
variable{P:Program}{tt:TT}{C:Cells}{call:ah}
def qy(P:Program)(tt:TT)(C:Cells)(call:ah):Prop:=
 ∀  (nt id:Nat)(ops:Array Oper)(l:List bg)(Q:Exit->Act->World->Prop)(fr aU:Fr)(st st':St)(ρ:Pos->Loc)(a:Act)(w:World),
    mQ tt nt ops ops.toList (UX ops.toList [])=some l->GO l.length 0 (vT (CU 0 l) [])=true->cH call (vT (CU 0 l) []) [] st.heap fr st=some (aU,st')->lX nt ρ C fr st a w->
    (∀a' w',eW nt ρ C st w aU st' a' w'->Q .normal a' w')->ek P (Code.region id ops true) Q a w
def mG:iU->Exit
 |.normal=>.normal
 |.exit id=>.exit id
 |.ret=>.ret
def P3(P:Program)(tt:TT)(C:Cells)(call:ah)(nt m:Nat):Prop:=
 ∀  (c:Code)(ac:AC)(fr aU:Fr)(st st':St)(ex:iU)(ρ:Pos->Loc)(a:Act)(w:World)(Q:Exit->Act->World->Prop),
    ry tt nt c=some ac->exec call m ac fr st=some (ex,aU,st')->lX nt ρ C fr st a w->
    (∀a' w',eW nt ρ C st w aU st' a' w'->Q (mG ex) a' w')->ek P c Q a w
def P4(P:Program)(tt:TT)(C:Cells)(call:ah)(nt m:Nat):Prop:=
 ∀  (c:Code)(ac:AC)(fr aU:Fr)(st st':St)(ex:iU)(ρ:Pos->Loc)(a:Act)(w:World)(Q:Exit->Act->World->Prop),
    ry tt nt c=some ac->exec call m (.loop ac) fr st=some (ex,aU,st')->lX nt ρ C fr st a w->
    (∀a' w',eW nt ρ C st w aU st' a' w'->Q (mG ex) a' w')->KV (ek P c) Q m a w
theorem SS{nt m:Nat}(Dd:P3 P tt C call nt m)(ihL:P4 P tt C call nt m):P4 P tt C call nt (m+1):=by
 intro c ac fr aU st st' ex ρ a w Q hc h hS hQ;simp only[exec,aW]at h;show ek P c (Exit.then (KV (ek P c) Q m) Q) a w;split at h
 .rename_i bN aN h1;(refine Dd c ac fr bN st aN .normal ρ a w _ hc h1 hS λa1 w1 hp=> ?_);obtain⟨dB,sg,k1,k2,k3⟩:=hp;exact ihL c ac bN aU aN st' ex dB a1 w1 Q hc h sg λa2 w2 hp=>hQ a2 w2 (eW.trans k1 k2 k3 hp)
 . rename_i aR;cases ex with
   |normal=>exact(aR _ _ h).elim
   |exit id=>exact Dd c ac fr aU st st' (.exit id) ρ a w _ hc h hS λa1 w1 hp=>hQ a1 w1 hp
   |ret=>exact Dd c ac fr aU st st' .ret ρ a w _ hc h hS λa1 w1 hp=>hQ a1 w1 hp
theorem aaI(hT:bM P tt)(bH:eE P C call)(fh:qy P tt C call){nt m:Nat}(Dd:P3 P tt C call nt m)(ihL:P4 P tt C call nt m):P3 P tt C call nt (m+1):=by
 intro c ac fr aU st st' ex ρ a w Q hc h hS hQ;have afO:=SS Dd ihL;unfold ry at hc;split at hc<;>first|(cases hc;done)|skip
 .simp only[H0]at hc;subst hc;simp only[exec,aW,H0,Za9]at h;obtain⟨rfl,rfl,rfl⟩:=h;exact hQ _ _ (eW.refl hS)
 . rename_i ix ops draw;(split at hc<;>first|(cases hc;done)|skip);rename_i l hl;split at hc
   .simp only[H0]at hc;subst hc;simp only[exec,aW]at h;(split at h<;>first|(cases h;done)|skip);rename_i bN aN h1;simp only[H0,Za9]at h;obtain⟨rfl,rfl,rfl⟩:=h;exact Vm hT bH hl h1 hS hQ
   . (split at hc<;>first|(cases hc;done)|skip);rename_i ht;simp only[H0]at hc;subst hc;simp only[exec,aW]at h;(split at h<;>first|(cases h;done)|skip);rename_i bN aN h1;simp only[H0,Za9]at h;obtain⟨rfl,rfl,rfl⟩:=h;exact fh nt _ ops l Q fr bN st aN ρ a w hl ht h1 hS hQ
 . (split at hc<;>first|(cases hc;done)|skip);rename_i x y h1 h2;simp only[H0]at hc;subst hc;simp only[exec,aW]at h;show ek P _ (Exit.then (ek P _ Q) Q) a w;split at h
   .rename_i bN aN h3;(refine Dd _ _ fr bN st aN .normal ρ a w _ h1 h3 hS λa1 w1 hp=> ?_);obtain⟨dB,sg,k1,k2,k3⟩:=hp;exact Dd _ _ bN aU aN st' ex dB a1 w1 Q h2 h sg λa2 w2 hp=>hQ a2 w2 (eW.trans k1 k2 k3 hp)
   . rename_i aR;cases ex with
     |normal=>exact(aR _ _ h).elim
     |exit id=>exact Dd _ _ fr aU st st' (.exit id) ρ a w _ h1 h hS λa1 w1 hp=>hQ a1 w1 hp
     |ret=>exact Dd _ _ fr aU st st' .ret ρ a w _ h1 h hS λa1 w1 hp=>hQ a1 w1 hp
 . (split at hc<;>first|(cases hc;done)|skip);rename_i x y z h1 h2 h3;simp only[H0]at hc;subst hc;simp only[exec,aW]at h;split at h
   .rename_i hx;exact⟨true,(pF h1 hS.F hx).fS,(Dd _ _ fr aU st st' ex ρ a w Q h2 h hS hQ)⟩
   .rename_i hx;exact⟨false,(pF h1 hS.F hx).fS,(Dd _ _ fr aU st st' ex ρ a w Q h3 h hS hQ)⟩
   .cases h
 . (split at hc<;>first|(cases hc;done)|skip);rename_i x h1;simp only[H0]at hc;subst hc;simp only[exec,aW]at h;show ek P _ (Exit.inBlock _ Q) a w;split at h
   . rename_i ru bN aN h2;split at h
     .  rename_i he;simp only[H0,Za9]at h;obtain⟨rfl,rfl,rfl⟩:=h;have:=H3 he;subst this;exact Dd _ _ fr bN st aN (.exit ru) ρ a w _ h1 h2 hS λa1 w1 hp=>by simp only[mG,Exit.inBlock,Zf0];exact hQ a1 w1 hp
     .  rename_i he;simp only[H0,Za9]at h;obtain⟨rfl,rfl,rfl⟩:=h;have:=Zb2 he;exact Dd _ _ fr bN st aN (.exit ru) ρ a w _ h1 h2 hS λa1 w1 hp=>by simp only[mG,Exit.inBlock,Za1 this];exact hQ a1 w1 hp
   . rename_i aR;cases ex with
     |normal=>exact Dd _ _ fr aU st st' .normal ρ a w _ h1 h hS λa1 w1 hp=>hQ a1 w1 hp
     |exit id=>exact(aR _ _ _ h).elim
     |ret=>exact Dd _ _ fr aU st st' .ret ρ a w _ h1 h hS λa1 w1 hp=>hQ a1 w1 hp
 . (split at hc<;>first|(cases hc;done)|skip);rename_i x h1;simp only[H0]at hc;subst hc;exact⟨m+1,afO _ _ fr aU st st' ex ρ a w Q h1 h hS hQ⟩
 .simp only[H0]at hc;subst hc;simp only[exec,aW,H0,Za9]at h;obtain⟨rfl,rfl,rfl⟩:=h;exact hQ _ _ (eW.refl hS)
 .simp only[H0]at hc;subst hc;simp only[exec,aW,H0,Za9]at h;obtain⟨rfl,rfl,rfl⟩:=h;exact hQ _ _ (eW.refl hS)
 .simp only[H0]at hc;subst hc;simp[exec,aW,iJ,bI,dN,aV,az.run]at h
theorem pK(hT:bM P tt)(bH:eE P C call)(fh:qy P tt C call){nt:Nat}:∀m,P3 P tt C call nt m/\P4 P tt C call nt m
 |0=>⟨λc ac fr aU st st' ex ρ a w Q hc h=>by simp[exec]at h,λc ac fr aU st st' ex ρ a w Q hc h=>by simp[exec]at h⟩
 |m+1=>let⟨h1,h2⟩:=pK hT bH fh m;⟨aaI hT bH fh h1 h2,SS h1 h2⟩
def MZ(tmps:Array Value):ResultVar->Sem Value
 |.tmp t=>pure (tmps.getD t undef)
 |.cell a t=>do loadVar t (<-asAddr (tmps.getD a undef))
theorem Zt(hT:bM P tt){ρ:Pos->Loc}{st:St}{w:World}{fr:Fr}{a:Act}{x:Tmp}{t:TypeId}{ti:TI}{q v:AV}(cI:tt.get (key t)=some ti)
  (hW:aT ρ C st w) (hF:eO ρ st.next.toNat C fr a.tmps) (hq:fr.get (key x)=some q) (hr:(az.load (yj ti)).run (λb=>st.heap.get b) .h [q]=some (.val v)):
  ∃y,(MZ a.tmps (.cell x t)).run P w= .ok y w/\aj ρ st.next.toNat C v y:=by
 have hc:fo tt (.load t (.tmp x))=some (.load (yj ti),[.t (key x)],.read):=by simp[fo,cI,jV]
 have hx:dN fr [.t (key x)]=some [q]:=by simp[dN,AQ,hq]
 have qx:(az.load (yj ti)).run (λb=>st.heap.get b) st.next [q]=some (.val v):=hr;obtain⟨N,y,he,hy,hv⟩:=MY hT (.load t (.tmp x)) ρ C st w _ _ _ fr a { dst:=none,op:= .load t (.tmp x),type:=t,pos:=default,after:= #[],guard:=none } _ _ rfl hc hW hF hx qx;refine⟨y,?_,hv⟩;simp only[execOp,Instr.loadAt,Act.eval]at he;simp only[MZ];obtain⟨z,hz,hzq⟩:=hF _ _ hq;rw[ey,Ze2]at hz;have hzd:a.tmps.getD x undef=z:=by simp[Zh7,hz]
 rw[hzd]at he ⊢;have hp:∃ad,z= .pointer (some ad):=by
  simp only[az.run,tK]at hr;split at hr<;>first|(cases hr;done)|skip
  .obtain⟨_,h⟩:=hzq.eu;exact⟨_,h⟩
  .obtain⟨_,_,_,_,h,_⟩:=hzq.GQ;exact⟨_,h⟩
 obtain⟨ad,rfl⟩:=hp;simp only[Instr.sureAddr,asAddr,Sem.run_bind,Sem.run_pure,Result.andThen]at he ⊢;cases hl:(loadVar t ad).run P w with
 |ok u w1=>
  rw[hl]at he;simp at he;obtain⟨h1,h2⟩:=he;subst h2;rcases hy with hy|⟨hy,_⟩
  .rw[hy]at h1;simp at h1;rw[h1]
  .rw[hy]at h1;simp at h1
 |halt u w1=>rw[hl]at he;simp at he
theorem De(hT:bM P tt){ρ:Pos->Loc}{st:St}{w:World}{fr:Fr}{a:Act}(hW:aT ρ C st w)(hF:eO ρ st.next.toNat C fr a.tmps):
   ∀(rs:List ResultVar)(P5:List AP)(vs:List AV),kU tt rs=some P5->cu (λb=>st.heap.get b) fr P5=some vs->
    ∃ys,(rs.mapM (MZ a.tmps)).run P w= .ok ys w/\av ρ st.next.toNat C vs ys
 | [],P5,vs,hc,hr=>by
   simp only[kU,H0]at hc;subst hc;simp only[cu,H0]at hr;subst hr;exact⟨[],by simp,av.nil⟩
 | .tmp t::rs,P5,vs,hc,hr=>by
   simp only[kU]at hc;(split at hc<;>first|(cases hc;done)|skip);rename_i l hl;simp only[H0]at hc;subst hc;simp only[cu]at hr;(split at hr<;>first|(cases hr;done)|skip);rename_i v hv;(split at hr<;>first|(cases hr;done)|skip);rename_i us hus;simp only[H0]at hr;subst hr;obtain⟨ys,h1,h2⟩:=De hT hW hF rs l us hl hus;obtain⟨z,hz,hzq⟩:=hF _ _ hv;rw[ey,Ze2]at hz;refine⟨z::ys,?_,av.cons hzq h2⟩;simp[List.mapM_cons,MZ,h1,Zh7,hz]
 | .cell x t::rs,P5,vs,hc,hr=>by
   simp only[kU]at hc;(split at hc<;>first|(cases hc;done)|skip);rename_i ti l SJ hl;simp only[H0]at hc;subst hc;simp only[cu]at hr;(split at hr<;>first|(cases hr;done)|skip);rename_i q hq;(split at hr<;>first|(cases hr;done)|skip);rename_i v hv;(split at hr<;>first|(cases hr;done)|skip);rename_i us hus;simp only[H0]at hr;subst hr;obtain⟨ys,h1,h2⟩:=De hT hW hF rs l us hl hus;obtain⟨y,h3,h4⟩:=Zt hT SJ hW hF hq hv;refine⟨y::ys,?_,av.cons h4 h2⟩;simp[List.mapM_cons,h1,h3]
theorem qz(hT:bM P tt){ρ:Pos->Loc}{st:St}{w:World}{fr:Fr}{a:Act}{fn:Func}{P5:List AP}{vs:List AV}(hW:aT ρ C st w)(hF:eO ρ st.next.toNat C fr a.tmps)
  (hc:kU tt fn.results.toList=some P5) (hr:cu (λb=>st.heap.get b) fr P5=some vs):
  ∃y,(results fn a.tmps).run P w= .ok y w/\aj ρ st.next.toNat C (fR vs) y:=by
 obtain⟨ys,h1,h2⟩:=De hT hW hF _ P5 vs hc hr;have h3:(fn.results.mapM (MZ a.tmps)).run P w= .ok ys.toArray w:=by
  rw[Array.mapM_eq_mapM_toList];simp[h1]
 have h4:(results fn a.tmps).run P w= .ok (if h:ys.toArray.size=1 then ys.toArray[0]else .tuple ys.toArray) w:=by
  have hfun:results fn a.tmps=(fn.results.mapM (MZ a.tmps) >>= λvs=>pure (if h:vs.size=1 then vs[0]else .tuple vs)):=by unfold results;congr 2
  rw[hfun,Sem.run_bind,h3];simp
 refine⟨_,h4,?_⟩;cases vs with
 |nil=>have:=h2.mF;subst this;simp[fR];exact .rW (by simpa using av.nil)
 |cons v vs=>
  obtain⟨y,ys',rfl,hv,gU⟩:=h2.cons_inv;cases vs with
  |nil=>have:=gU.mF;subst this;simpa [fR]using hv
  |cons v' vs'=>
   obtain⟨y',ys'',rfl,zQ,ab3⟩:=gU.cons_inv;simp[fR];exact .rW (by simpa using av.cons hv (av.cons zQ ab3))
def Pu(P:Program)(tt:TT)(G:T cw):Prop:=
 ∀p F,G.get p=some F->∃fn,P.funcs[p.toNat - 1]? =some fn/\(fn.name== "runtime.NumGoroutine")=false/\Uy tt fn=some F
def pg(P:Program)(C:Cells)(O:dS):Prop:=
 ∀  (f:FuncId)(s:List AV->St->Option (AV×St)),O f=some s->
    ∀(ρ:Pos->Loc)(st:St)(w:World)(args:List AV)(v:AV)(st':St)(bC:List Value),s args st=some (v,st')->
     aT ρ C st w->av ρ st.next.toNat C args bC->Reaches P (k8 ρ C st w v st') ((callFunc f bC.toArray).run P w)
theorem yx{ρ:Pos->Loc}{n:Nat}{tmps:Array Value}:∀(vs:List AV)(xs:List Value)(i:Nat)(fr:Fr),av ρ n C vs xs->
  (∀(j:Nat)(x:Value),xs[j]? =some x->tmps[i+j]? =some x)->eO ρ n C fr tmps->eO ρ n C (params i vs fr) tmps
 |[],_,_,_,_,_,hF=>hF
 |v ::vs,xs,i,fr,h,hx,hF=>by
  obtain⟨x,uX,rfl,hv,gU⟩:=h.cons_inv;unfold params;refine yx vs uX (i+1) _ gU (λj y hy=>by rw[<-hx (j+1) y (by simpa using hy)];congr 1;omega) λp u hp=> ?_
  by_cases P2:key i=p
  .subst P2;rw[T.eo]at hp;simp only[H0]at hp;subst hp;exact⟨x,by rw[ey,Ze2];exact hx 0 x rfl,hv⟩
  .rw[T.bw _ P2]at hp;exact hF p u hp
theorem NL(hT:bM P tt){O:dS}{G:T cw}(hO:pg P C O)(hG:Pu P tt G)(m:Nat)(fh:∀d,eE P C (pE O G m d)->qy P tt C (pE O G m d)):∀d,eE P C (pE O G m d)
 |0=>λρ st w f args v st' bC h=>by simp[pE]at h
 |d +   1 =>by
  intro ρ st w f args v st' bC h hW pn;have ih:=NL hT hO hG m fh d;unfold pE at h;split at h
  .rename_i s hs;exact hO f s hs ρ st w args v st' bC h hW pn
  . (split at h<;>first|(cases h;done)|skip);rename_i F hF;(split at h<;>first|(cases h;done)|skip);rename_i hlen;have hlen:=H3 hlen;obtain⟨fn,BS,ia,Df⟩:=hG _ _ hF;rw[ey,Ze2]at BS;unfold Uy at Df;(split at Df<;>first|(cases Df;done)|skip);rename_i c hb;(split at Df<;>first|(cases Df;done)|skip);rename_i ac rs Vn hrs hle;simp only[H0]at Df;subst Df;simp only at h hlen;have hle:=Za0 hle;have bU:(callFunc f bC.toArray).run P w= .ok (.enter f bC.toArray) w:=by
        have Dg:¬fn.name= "runtime.NumGoroutine" :=(by simpa using ia);simp[callFunc,BS,Dg,hb]
    rw[bU];simp only[Reaches];refine calls_of_wp BS hb (ek.wp ?_);have eF:bC.length<=fn.ntmps:=(by rw[<-pn.1,hlen];exact hle);have hS:lX fn.ntmps ρ C (params 0 args .e) st { tmps:=bC.toArray++Array.replicate (fn.ntmps - bC.toArray.size) undef,defers:=[] } w:=by
        refine⟨hW,?_,?_,rfl⟩
        .refine yx args bC 0 .e pn (λj x hx=> ?_) (λp v hp=>by rw[T.dh]at hp;cases hp);have hj:j<bC.length:=(H5.1 hx).1;rw[Zb6,Zg5 (by simpa using hj)];simpa using hx
        .simp;omega
    split at h<;>first|(cases h;done)|skip
    .   rename_i bN aN h1;(split at h<;>first|(cases h;done)|skip);rename_i vs gU;simp only[H0,Za9]at h;obtain⟨rfl,rfl⟩:=h;(refine(pK hT ih (fh _ ih) m).1 c ac _ bN st aN .normal ρ _ w _ Vn h1 hS λa' w' hp=> ?_);obtain⟨dB,sg,k1,k2,k3⟩:=hp;obtain⟨y,BU,C0⟩:=qz hT sg.W sg.F hrs gU;exact⟨sg.defers,y,BU,dB,C0,k1,k2,sg.W,k3⟩
    .   rename_i bN aN h1;(split at h<;>first|(cases h;done)|skip);rename_i vs gU;simp only[H0,Za9]at h;obtain⟨rfl,rfl⟩:=h;(refine(pK hT ih (fh _ ih) m).1 c ac _ bN st aN .ret ρ _ w _ Vn h1 hS λa' w' hp=> ?_);obtain⟨dB,sg,k1,k2,k3⟩:=hp;obtain⟨y,BU,C0⟩:=qz hT sg.W sg.F hrs gU;exact⟨sg.defers,y,BU,dB,C0,k1,k2,sg.W,k3⟩
end
end
end Go.Ai
