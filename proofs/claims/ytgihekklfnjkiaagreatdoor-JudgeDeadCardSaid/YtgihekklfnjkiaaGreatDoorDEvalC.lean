/- Its operations, second part; regions. -/
import Derived.Test.YtgihekklfnjkiaaGreatDoorDEvalB
import Derived.Laws.IdiomStrings
import Derived.Laws.RangeString
import Derived.LoopN
set_option linter.all false
set_option linter.unusedSectionVars false
set_option linter.deprecated false
namespace Go.Ai
section
open Go Go.RowKit
section
variable{P : Program}{tt : TT}{ρ : Pos -> Loc}{C : Cells}{st : St}{w w' : World}
theorem Rn(del:Option Pos)(h:T AB){b:Pos}{x:AB}(hb:(Lb del h).get b=some x):h.get b=some x/\∀c,del=some c->b≠c:=by
 cases del with
 |none=>exact⟨hb,λ_ h=>by cases h⟩
 |some c=>
  by_cases he:c=b
  . subst he;simp only[Lb]at hb;rw[T.gH]at hb;cases hb
  . simp only[Lb]at hb;rw[T.b9 _ he]at hb;exact⟨hb,λd hd=>by cases hd;exact λe=>he e.symm⟩
theorem Pn(hW:cC ρ C st w){o:Obj}{x0:AB}{base size:Nat}(del:Option Pos)(hh:w'.heap=w.heap.push o)(h1:w'.os=w.os)(h2:w'.tape=w.tape)(h3:w'.output=w.output)
   (hB:∀ρ' n',(∀b:Pos,b.toNat<st.next.toNat->ρ' b=ρ b)->st.next.toNat<=n'->tW ρ' n' C ⟨w.heap.size,base,size⟩ w' x0):
   ∃ρ':Pos->Loc,(∀b:Pos,b.toNat<st.next.toNat->ρ' b=ρ b)/\ρ' st.next=⟨w.heap.size,base,size⟩/\cC ρ' C (st.bh del none (some x0)) w'/\qI ρ st w ρ' (st.bh del none (some x0)) w':=by
 let ρ':Pos->Loc:=λb=>if b=st.next then⟨w.heap.size,base,size⟩else ρ b
 have bF:∀b:Pos,b.toNat<st.next.toNat->ρ' b=ρ b:=λb hb=>Za7 (λe=>by rw[e]at hb;omega)
 have jf:ρ' st.next=⟨w.heap.size,base,size⟩:=Zb2 rfl;have gR:w'.heap.size=w.heap.size+1:=by rw[hh];simp
 have hold:∀k,k<w.heap.size->w'.heap[k]? =w.heap[k]? :=λk hk=>by rw[hh,Zp3,Za7 (by omega)]
 refine⟨ρ',bF,jf,?_,⟨h1,h2,h3,by omega,λk hk _=>hold k hk,λb x hb=> ?_⟩⟩;rotate_left
 . by_cases he:b=st.next
   . right;rw[he,jf];exact Za3 _
   . left;simp only[St.bh,Ob]at hb;rw[T.b9 _ (λe=>he e.symm)]at hb;have e8:=(Rn del _ hb).1;exact⟨b,x,e8,by rw[bF b (hW.live b x e8).1]⟩
 refine hW.akC (b0:=st.next) (x0:=x0) (by rw[Pos.aF];omega) (by rw[Pos.aF];omega) (by rw[T.gH]) ?_ bF (by rw[jf];exact hB _ _ bF (by rw[Pos.aF];omega)) ?_ (by rw[jf,gR];simp) (by omega) (λk hk _=>hold k hk)
 . intro b x hb hx;rw[T.b9 _ (λe=>hb e.symm)]at hx;have hx:=(Rn del _ hx).1;refine⟨hx,?_⟩;rw[jf];have:=(hW.live b x hx).2.1;simp only;omega
 . intro a v ha;have:=World.block_lt_of_cell? _ _ (hW.eI a v ha).1;rw[jf];simp only;omega
theorem amE(hW:cC ρ C st w){b:Pos}{x x0:AB}(hb:st.heap.get b=some x)(h1:w'.os=w.os)(h2:w'.tape=w.tape)(h3:w'.output=w.output)(gR:w'.heap.size=w.heap.size)
   (VC:∀k,k≠(ρ b).aN->w'.heap[k]? =w.heap[k]?) (hB:tW ρ st.next.toNat C (ρ b) w' x0):
   cC ρ C (st.bh none (some (b,x0)) none) w'/\qI ρ st w ρ (st.bh none (some (b,x0)) none) w':=by
 obtain⟨aT,zK,_⟩:=hW.live b x hb;refine⟨?_,⟨h1,h2,h3,by omega,λk _ hk=>VC k (λe=>hk b x hb e.symm),λc y hc=> ?_⟩⟩;rotate_left
 . left;by_cases he:c=b
   . exact⟨b,x,hb,by rw[he]⟩
   . simp only[St.bh,Ob,Lb]at hc;rw[T.b9 _ (λe=>he e.symm)]at hc;exact⟨c,y,hc,rfl⟩
 refine hW.akC (b0:=b) (x0:=x0) (Za3 _) aT (by simp only[Ob,Lb];rw[T.gH]) ?_ (λ_ _=>rfl) hB ?_ (by omega) (by omega) (λk _ hk=>VC k hk)
 . intro c y hc hy;simp only[Ob,Lb]at hy;rw[T.b9 _ (λe=>hc e.symm)]at hy;exact⟨hy,λe=>hc (hW.inj _ _ _ _ hy hb e)⟩
 . exact λa v ha e=>(hW.eI a v ha).2 b x hb e.symm
theorem B8{cs:List AV}{c:Array Value}{e:TypeId}{fr:Nat×Nat}{g:Nat}{n:Nat}(hg:w'.heap[g]? =some (.cells c e fr))(hle:cs.length<=c.size)(hv:aL ρ n C cs (c.toList.take cs.length))
  (hf:∀i,i<c.size->¬(fr.1<=i/\i<fr.2)):tW ρ n C ⟨g,0,c.size⟩ w' (.cells cs 0):=
 ⟨c,e,fr,hg,rfl,by simpa using hle,by simpa using hv,λi _ hi=>by simpa using hf i (by simpa using hi)⟩
theorem amF(hT:dH P tt)(t:TypeId):fD P tt (.alloc t):=by
 intro ρ C st w k xs cls fr a o vs res ho hc hW hF hx hr;simp only[j7]at hc;split at hc<;>first|(cases hc;done)|skip
 rename_i ti fK;split at hc<;>first|(cases hc;done)|skip
 rename_i z hz;cases hc;simp only[fT,H5]at hx;subst hx;simp only[aH.run,Q6,H5]at hr;subst hr;obtain⟨zv,TN,_,EW⟩:=FJ hT fK hz (ρ:=ρ) (n:=st.next.toNat) (C:=C) w;have hl:z.length=zv.cells.size:=by simpa using EW.1
 obtain⟨ρ',bF,jf,ji,hE⟩:=Pn (w':=w.alloc (.cells zv.cells t)) (o:= .cells zv.cells t) (x0:= .cells z 0) (base:=0) (size:=zv.cells.size) hW none rfl rfl rfl rfl (λρ' n' bF hn=>
   B8 (w':=w.alloc (.cells zv.cells t)) (e:=t) (fr:=(0,0)) (by show(w.heap.push _)[w.heap.size]? =_;simp) (by omega) (by rw[hl,Zf9 (by simp)];exact EW.mono bF hn) (λi _=>by simp))
 refine⟨_,.pointer (some ⟨w.heap.size,0,none⟩),_,ρ',?_,Yields.value _,bF,ji,?_,hE⟩
 . simp[execOp,ho,Instr.alloc,TN,newVar,newRow]
 . have:=aD.ptr (ρ:=ρ') (n:=(st.bh none none (some (.cells z 0))).next.toNat) (C:=C) st.next 0 (by simp[St.bh,Pos.aF]);rw[jf]at this;simpa using this
theorem arN(t:TypeId)(x:Operand):fD P tt (.box t x):=by
 intro ρ C st w k xs cls fr a o vs res ho hc hW hF hx hr;simp only[j7]at hc;split at hc<;>first|(cases hc;done)|skip
 rename_i b hb;cases hc;obtain⟨v,rfl,hv⟩:=lK hb hF hx;simp only[aH.run,abF,H5]at hr;subst hr;have EW:=hv.cells;have hl:v.cells.length=(a.eval x).cells.size:=by simpa using EW.1
 obtain⟨ρ',bF,jf,ji,hE⟩:=Pn (w':=w.alloc (.cells (a.eval x).cells t)) (o:= .cells (a.eval x).cells t) (x0:= .cells v.cells 0) (base:=0) (size:=(a.eval x).cells.size) hW none rfl rfl rfl rfl (λρ' n' bF hn=>
   B8 (w':=w.alloc (.cells (a.eval x).cells t)) (e:=t) (fr:=(0,0)) (by show(w.heap.push _)[w.heap.size]? =_;simp) (by omega) (by rw[hl,Zf9 (by simp)];exact EW.mono bF hn) (λi _=>by simp))
 refine⟨_,.pointer (some ⟨w.heap.size,0,none⟩),_,ρ',?_,Yields.value _,bF,ji,?_,hE⟩
 . simp[execOp,ho,Instr.box,newVar,newRow]
 . have:=aD.ptr (ρ:=ρ') (n:=(st.bh none none (some (.cells v.cells 0))).next.toNat) (C:=C) st.next 0 (by simp[St.bh,Pos.aF]);rw[jf]at this;simpa using this
theorem Od{n:Nat}{z:List AV}{zs:List Value}(h:aL ρ n C z zs):∀m,aL ρ n C (bX z m) (bX zs m)
 |0=>aL.nil
 |m+1=>h.append (Od h m)
theorem lM{α:Type}(z:List α):∀m,(bX z m).length=m*z.length
 |0=>by simp[bX]
 |m+1=>by simp[bX,lM z m,Zj4,Zr0]
theorem ZI{α:Type}(z:List α):∀(m i:Nat),i<m*z.length->(bX z m)[i]? =z[i % z.length]?
 |0,i,h=>by simp at h
 |m +1,i,h=>by
  simp only[bX];by_cases hi:i<z.length
  . rw[Zc3 hi,Zk7 hi]
  . have hi:z.length<=i:=(by omega);rw[Zc2 hi,ZI z m _ (by rw[Zj4]at h;omega)];congr 1;rw[<-Zp7 hi]
theorem agG(z:Array Value)(m:Nat)(hz:0<z.size):((Array.range (m*z.size)).map (z[· % z.size]!)).toList=bX z.toList m:=by
 apply Zi4;intro i;by_cases hi:i<m*z.size
 . rw[ZI _ _ _ (by simpa using hi)];have aT:i % z.size<z.size:=Zk4 _ hz;simp[hi,aT]
 . rw[Zc1 (by simp;omega),Zc1 (by rw[lM];simp;omega)]
theorem Nd{ρ':Pos->Loc}{b:Pos}{n g len es bC size:Nat}{cap:Option Nat}(hb:b.toNat<n)(bF:ρ' b=⟨g,0,size⟩)(hl:len<=bC)(hc:∀c,cap=some c->c=bC)(hs:bC*es<=size):
  aD ρ' n C (.slice b 0 len cap es) (.slice (some ⟨g,0,none⟩) len bC):=
 .slice _ _ _ _ _ _ _ hl hc (λ_=>⟨hb,by rw[bF],by rw[bF];simpa using hs⟩) (λ_=>hb)
theorem abN{z:List AV}{zv:Value}{n m size:Nat}(EW:aL ρ n C z zv.cells.toList)(hl:z.length=size):
   aL ρ n C (bX z m) ((Array.range (m*size)).map ((if m*size=0 then(#[]:Array Value)else zv.cells)[· % (if m*size=0 then(#[]:Array Value)else zv.cells).size]!)).toList/\
   ((Array.range (m*size)).map ((if m*size=0 then(#[]:Array Value)else zv.cells)[· % (if m*size=0 then(#[]:Array Value)else zv.cells).size]!)).size=m*size:=by
 refine⟨?_,by simp⟩;by_cases h0:m*size=0
 . have:bX z m=[]:=(by apply Zc4;rw[lM,hl];exact h0);rw[this];have:(Array.range (m*size))= #[]:=(by rw[h0];rfl);rw[this];simpa using(aL.nil:aL ρ n C [] [])
 . rw[Za7 h0];have hzs:zv.cells.size=size:=(by have:=EW.1;simp at this;omega);have VH:0<zv.cells.size:=by
    rw[hzs];rcases Zn0 size with h|h
    . rw[h]at h0;simp at h0
    . exact h
   have:=agG zv.cells m VH;rw[hzs]at this ⊢;rw[this];exact Od EW m
theorem arO{k:IntKind}{i:Int}(h1:loI k<=i)(h2:i<=hiI k):k.wrap i=i:=by
 rw[<-yq];unfold av;split
 . split
   . rfl
   . exact absurd h2 (by assumption)
 . exact absurd h1 (by assumption)
theorem agH{j:Nat}(h:j<=9223372036854775807):IntKind.i64.wrap (j:Int)=(j:Int):=arO (by simp only[loI];omega) (by simp only[hiI];omega)
theorem ai8(hT:dH P tt)(t:TypeId)(l c:Operand):fD P tt (.makeSlice t l c):=by
 intro ρ C st w k xs cls fr a o vs res ho hc hW hF hx hr;simp only[j7]at hc;split at hc<;>first|(cases hc;done)|skip
 rename_i ti l0 fK hl;split at hc<;>first|(cases hc;done)|skip
 rename_i e hk;split at hc<;>first|(cases hc;done)|skip
 rename_i te pz;split at hc<;>first|(cases hc;done)|skip
 rename_i z hz;cases hc;obtain⟨d,hd,dS⟩:=(hT.at fK).und;rw[hk]at dS;rw[tX dS]at hd;obtain⟨i0,tj,vu,hib,Nc⟩:=(hT.at pz).info;obtain⟨u,v,rfl,h1,h2⟩:=adp hl hF hx;simp only[aH.run,CI]at hr;split at hr<;>first|(cases hr;done)|skip
 rename_i jl jc hjl hjc;split at hr<;>first|(cases hr;done)|skip
 rename_i e1 e2 e3;have e1:=Zb3 e1;have e2:=Zb3 e2;have e3:=Zb3 e3;simp only[H5]at hr;subst hr;obtain⟨kl,dN⟩:=mJ h1 hjl;obtain⟨kc,hkc⟩:=mJ h2 hjc;obtain⟨zv0,hzv0,_,hzl,_⟩:=Nc z hz;obtain⟨zv,TN,_,EW⟩:=FJ hT pz hz (ρ:=ρ) (n:=st.next.toNat) (C:=C) w;obtain⟨VI,adq⟩:=abN (m:=jc) EW hzl;generalize gG:(Array.range (jc*te.size)).map ((if jc*te.size=0 then(#[]:Array Value)else zv.cells)[· % (if jc*te.size=0 then(#[]:Array Value)else zv.cells).size]!)=row at VI adq;obtain⟨ρ',bF,jf,ji,hE⟩:=Pn (w':=w.alloc (.cells row e)) (o:= .cells row e) (x0:= .cells (bX z jc) 0) (base:=0) (size:=row.size) hW none rfl rfl rfl rfl (λρ' n' bF hn=>
   B8 (w':=w.alloc (.cells row e)) (e:=e) (fr:=(0,0)) (by show(w.heap.push _)[w.heap.size]? =_;simp) (by rw[lM,adq,hzl];exact Za3 _)
    (by rw[lM,hzl, <-adq, <-Zi3,Zj0];exact VI.mono bF hn) (λi _=>by simp))
 refine⟨_,.slice (some ⟨w.heap.size,0,none⟩) jl jc,_,ρ',?_,Yields.value _,bF,ji,?_,hE⟩
 . have cV:=agH (Zb1 e1 e3);have tq:=agH e3;have hb:¬((te.bytes:Int)*(jc:Int)>2 ^ 48):=(by have h:=Int.ofNat_le.2 e2;rw[Int.natCast_mul]at h;exact Int.not_lt.2 h);have dX:(Instr.makeSlice t (.int kl jl) (.int kc jc)).run P w= .ok (.slice (some ⟨w.heap.size,0,none⟩) jl jc) (w.alloc (.cells row e)):=by
    unfold Instr.makeSlice;simp only[Sem.run_bind,bu hd,Result.andThen_ok,asInt,asIntOf,Sem.run_pure,agy tj,cV,tq,hib];have auw:¬((decide ((jc:Int)<0)||decide ((te.bytes:Int)*(jc:Int)>2 ^ 48)||decide ((jl:Int)<0)||decide ((jl:Int)>(jc:Int)))=true):=by
        simp only[Zj5,Ze4];rintro(((h|h)|h)|h)
        . omega
        . exact hb h
        . omega
        . omega
    rw[Za7 auw];simp only[Sem.run_bind,run_askRoom,Result.andThen_ok,mG tj,vu,Zc8];rw[<-gG];by_cases h0:jc*te.size=0
    .   simp only[h0,Zh6,Sem.run_bind,Sem.run_pure,Result.andThen_ok,newRow,run_newObj,World.alloc_eq]
    .   simp only[h0,Zh0,Sem.run_bind,Sem.run_pure,Result.andThen_ok,TN,newRow,run_newObj,World.alloc_eq]
   simp[execOp,ho,dN,hkc,dX]
 . exact Nd (by simp[St.bh,Pos.aF]) jf e1 (λc hc=>by cases hc;rfl) (by rw[adq];exact Za3 _)
theorem adr(hT:dH P tt)(t:TypeId)(len:Nat)(ps:Array (Nat×Operand)):fD P tt (.buildSlice t len ps):=by
 intro ρ C st w k xs cls fr a o vs res ho hc hW hF hx hr;simp only[j7]at hc;split at hc<;>first|(cases hc;done)|skip
 rename_i ti l0 fK hl;split at hc<;>first|(cases hc;done)|skip
 rename_i e hk;split at hc<;>first|(cases hc;done)|skip
 rename_i te pz;split at hc<;>first|(cases hc;done)|skip
 rename_i z hz hlim;have hlim:=Zb3 hlim;cases hc;obtain⟨d,hd,dS⟩:=(hT.at fK).und;rw[hk]at dS;rw[tX dS]at hd;obtain⟨i0,tj,vu,hib,Nc⟩:=(hT.at pz).info;have hv:=iO hl hF hx;simp only[aH.run,wK]at hr;split at hr<;>first|(cases hr;done)|skip
 rename_i cs CQ;simp only[H5]at hr;subst hr;obtain⟨zv0,hzv0,_,hzl,_⟩:=Nc z hz;obtain⟨zv,TN,_,EW⟩:=FJ hT pz hz (ρ:=ρ) (n:=st.next.toNat) (C:=C) w;obtain⟨VI,adq⟩:=abN (m:=len) EW hzl;generalize gG:(Array.range (len*te.size)).map ((if len*te.size=0 then(#[]:Array Value)else zv.cells)[· % (if len*te.size=0 then(#[]:Array Value)else zv.cells).size]!)=row at VI adq;have hps:(ps.map λ(i,x)=>(i,a.eval x)).toList=ps.toList.map λx=>(x.1,a.eval x.2):=by simp
 obtain⟨nu,e1,e2⟩:=aaH (λi=>some (i*te.size,te.size)) CQ VI (ps:=ps.toList.map λx=>(x.1,a.eval x.2)) (by simpa [Zh7,Zl1]using hv) (by simp[Zh7,Zl1]);have hlen:cs.length=nu.size:=by simpa using e2.1
 have auy:∀{pp:List (Nat×Nat)}{vs cells r:List AV},cF cells pp vs=some r->r.length=cells.length:=by
   intro pp;induction pp with
   |nil=>intro vs cells r h;unfold cF at h;split at h<;>first|(cases h;done)|(simp only[H5]at h;subst h;rfl)|(rename_i hh;cases hh)
   |cons p pp ih=>
    intro vs cells r h;unfold cF at h;(split at h<;>first|(cases h;done)|(rename_i hh;cases hh;done)|skip);rename_i hh;simp only[Zg3]at hh;obtain⟨rfl,rfl⟩:=hh;(split at h<;>first|(cases h;done)|skip);rename_i g1 g2;have g1:=Za6 g1;have g2:=Zb3 g2;rw[ih h];simp[aX];omega
 have hcsl:=auy CQ;rw[lM,hzl]at hcsl;obtain⟨ρ',bF,jf,ji,hE⟩:=Pn (w':=w.alloc (.cells nu e)) (o:= .cells nu e) (x0:= .cells cs 0) (base:=0) (size:=nu.size) hW none rfl rfl rfl rfl (λρ' n' bF hn=>
   B8 (w':=w.alloc (.cells nu e)) (e:=e) (fr:=(0,0)) (by show(w.heap.push _)[w.heap.size]? =_;simp) (by omega)
    (by rw[hlen, <-Zi3,Zj0];exact e2.mono bF hn) (λi _=>by simp))
 refine⟨_,.slice (some ⟨w.heap.size,0,none⟩) len len,_,ρ',?_,Yields.value _,bF,ji,?_,hE⟩
 . have dX:(Instr.buildSlice t len (ps.map λ(i,x)=>(i,a.eval x))).run P w= .ok (.slice (some ⟨w.heap.size,0,none⟩) len len) (w.alloc (.cells nu e)):=by
    unfold Instr.buildSlice;simp only[Sem.run_bind,bu hd,Result.andThen_ok,mG tj,vu];rw[Za7 (by omega)];by_cases h0:len*te.size=0
    .   simp only[h0,Zh6,Sem.run_bind,Sem.run_pure,Result.andThen_ok];simp only[h0,Zh6]at gG;rw[gG,hps,e1];simp only[newRow,Sem.run_bind,run_newObj,World.alloc_eq,Result.andThen_ok,Sem.run_pure]
    .   simp only[h0,Zh0,Sem.run_bind,Sem.run_pure,Result.andThen_ok,TN];simp only[h0,Zh0]at gG;rw[gG,hps,e1];simp only[newRow,Sem.run_bind,run_newObj,World.alloc_eq,Result.andThen_ok,Sem.run_pure]
   simp only[execOp,ho,Sem.run_bind];rw[dX];rfl
 . exact Nd (by simp[St.bh,Pos.aF]) jf (Za3 _) (λc hc=>by cases hc;rfl) (by omega)
theorem amG(t:TypeId)(r:Option Operand)(hT:dH P tt):fD P tt (.makeMap t r):=by
 intro ρ C st w k xs cls fr a o vs res ho hc hW hF hx hr;have key:k= .mkMap/\(execOp a.eval o).run P w= .ok (.value (.map (some w.heap.size))) (w.alloc (.map #[] 0)):=by
  simp only[j7]at hc;split at hc<;>first|(cases hc;done)|skip
  rename_i ti fK;obtain⟨d,hd,dS⟩:=(hT.at fK).und;split at hc<;>first|(cases hc;done)|skip
  . cases hc;exact⟨rfl,by simp[execOp,ho,Instr.makeMap]⟩
  . rename_i hk;rw[hk]at dS;rw[Vy dS]at hd;cases hc;exact⟨rfl,by simp[execOp,ho,Instr.makeMap,bu hd,Act.eval,asInt,asIntOf]⟩
 obtain⟨rfl,dX⟩:=key;simp only[aH.run,Q9,H5]at hr;subst hr;obtain⟨ρ',bF,jf,ji,hE⟩:=Pn (w':=w.alloc (.map #[] 0)) (o:= .map #[] 0) (x0:= .map [] 0) (base:=0) (size:=0) hW none rfl rfl rfl rfl (λρ' n' bF hn=>
  ⟨#[],by show(w.heap.push _)[w.heap.size]? =_;simp,rfl,λi e e' h=>by simp at h⟩)
 refine⟨_,_,_,ρ',dX,Yields.value _,bF,ji,?_,hE⟩;have:=aD.map (ρ:=ρ') (n:=(st.bh none none (some (.map [] 0))).next.toNat) (C:=C) st.next (by simp[St.bh,Pos.aF]);rw[jf]at this;exact this
end
section
variable{P : Program}{tt : TT}{ρ : Pos -> Loc}{C : Cells}{st : St}{w w' : World}
theorem Ro{n:Nat}:∀{l:List AV}{ys:List Value},aS l=true->aL ρ n C l ys->∀y∈ys,y.oneCell'=true
 |[],ys,_,h=>by have:=h.qO;subst this;simp
 |v::l,ys,h1,h=>by
  unfold aS at h1;split at h1<;>first|(cases h1;done)|skip
  rename_i ho;obtain⟨y,ys',rfl,hv,hs⟩:=h.cons_inv;intro z hz;simp at hz;rcases hz with rfl|hz
  . cases hv<;>first|rfl|(simp[AV.one]at ho;done)
  . exact Ro h1 hs z hz
theorem Kw{α:Type}(l:List α){i:Nat}(vs:List α)(hi:i<=l.length)(k:Nat):(aX l i vs)[k]? =if k<i then l[k]? else if k<i+vs.length then vs[k - i]? else l[k]? :=by
 unfold aX;have hl:(l.take i).length=i:=by simp;omega
 split
 . rename_i h;rw[Zc3 (by omega),Ze0,Zb2 h]
 . rename_i h;rw[Zc2 (by omega),hl];split
   . rename_i h';rw[Zc3 (by omega)]
   . rename_i h';rw[Zc2 (by omega),Ze8];congr 1;omega
theorem ZJ{α:Type}(l:List α)(b off:Nat)(vs:List α)(h:b+off<=l.length):(aX l (b+off) vs).drop b=aX (l.drop b) off vs:=by
 apply Zi4;intro k;rw[Ze8,Kw l vs h,Kw (l.drop b) vs (by simp;omega),Ze8];by_cases h1:k<off
 . rw[Zb2 (by omega),Zb2 h1]
 . rw[Za7 (by omega),Za7 h1];by_cases h2:k<off+vs.length
   . rw[Zb2 (by omega),Zb2 h2];congr 1;omega
   . rw[Za7 (by omega),Za7 h2]
theorem ai9{α:Type}(l:List α)(off m:Nat)(vs:List α)(h:off+vs.length<=m)(h':m<=l.length):(aX l off vs).take m=aX (l.take m) off vs:=by
 apply Zi4;intro k;rw[Ze0,Kw l vs (by omega),Kw (l.take m) vs (by simp;omega),Ze0];by_cases h1:k<off
 . rw[Zb2 (by omega),Zb2 h1,Zb2 h1,Zb2 (by omega)]
 . by_cases h2:k<off+vs.length
   . rw[Zb2 (by omega),Za7 h1,Zb2 h2,Za7 h1,Zb2 h2]
   . rw[Za7 h1,Za7 h2,Za7 h1,Za7 h2]
theorem Rp(hW:cC ρ C st w){b:Pos}{cs vs:List AV}{fz off:Nat}{ys:List Value}(hb:st.heap.get b=some (.cells cs fz))(hle:off+vs.length<=cs.length)(hfz:fz<=off)
   (h1:aS vs=true) (hv:aL ρ st.next.toNat C vs ys):
   ∃w',(storeCells ⟨(ρ b).aN,(ρ b).base+off,none⟩ ys).run P w= .ok () w'/\cC ρ C (st.bh none (some (b,.cells (aX cs off vs) fz)) none) w'/\qI ρ st w ρ (st.bh none (some (b,.cells (aX cs off vs) fz)) none) w':=by
 obtain⟨_,_,c,e,fr,g1,g2,g3,g4,g5⟩:=hW.live b _ hb;have hl:vs.length=ys.length:=hv.1;obtain⟨w',e1,e2,e3,e4,e5,e6,e7⟩:=xe (P:=P) (ρ b).aN e fr ys 0 ((ρ b).base+off) c w g1 (by omega) (Ro h1 hv) (λk hk uq=>by
   have:=g5 (k - (ρ b).base) (by omega) (by omega)
   rwa [show(ρ b).base+(k - (ρ b).base)=k from by omega]at this)
 simp only[Zg0]at e1 e2;refine⟨w',e1,?_⟩;have hlen:(aX cs off vs).length=cs.length:=by simp[aX];omega
 refine amE hW hb e5 e6 e7 e3 e4 ⟨_,e,fr,e2,?_,?_,?_,λi hi hi'=>g5 i hi ?_⟩
 . simp[aX];omega
 . rw[hlen];simp[aX];omega
 . rw[hlen];rw[ZJ _ _ _ _ (by simp;omega),ai9 _ _ _ _ (by omega) (by simp;omega)];exact g4.aX hv off
 . simp[aX]at hi';omega
theorem aD.FK{n:Nat}:aD ρ n C .undef undef:= .tuple [] #[] rfl (λ_ _ _ h=>by simp at h)
theorem amH(hT:dH P tt)(t:TypeId)(x y:Operand):fD P tt (.store t x y):=by
 intro ρ C st w k xs cls fr a o vs res ho hc hW hF hx hr;simp only[j7]at hc;split at hc<;>first|(cases hc;done)|skip
 rename_i ti l fK hl;cases hc;obtain⟨p,v,rfl,h1,h2⟩:=adp hl hF hx;obtain⟨i0,tj,vu,_⟩:=(hT.at fK).info;simp only[aH.run,La]at hr;split at hr<;>first|(cases hr;done)|skip
 rename_i b off;split at hr<;>first|(cases hr;done)|skip
 rename_i cs fz hb;split at hr<;>first|(cases hr;done)|skip
 rename_i e1 e2 e3 e4;have e1:=Za6 e1;have e2:=Zb3 e2;have e3:=Zb3 e3;simp only[H5]at hr;subst hr;obtain⟨_,he⟩:=h1.qP;have hc:=h2.cells;obtain⟨w',dX,ji,hE⟩:=Rp (P:=P) hW hb (by omega) e3 e4 hc;refine⟨.skip,undef,w',ρ,?_,.inr ⟨rfl,rfl⟩,λ_ _=>rfl,ji,aD.FK,hE⟩;have gR:(a.eval y).cells.size=ti.size:=by have:=hc.1;simp at this;omega
 simp[execOp,ho,he,Instr.storeAt,Instr.sureAddr,storeVar,mG tj,vu,gR,dX]
theorem run_setObj_map{r:Nat}{es:Array MapEntry}{c:Nat}{o:Obj}{w:World}(h:w.heap[r]? =some (.map es c)):(setObj r o).run P w= .ok () { w with heap:=w.heap.setIfInBounds r o }:=by
 simp[setObj,Sem.run,h]
theorem abO(hW:cC ρ C st w){b:Pos}{es:List (AV×AV×Nat)}{clock:Nat}(hb:st.heap.get b=some (.map es clock)){VJ:List (AV×AV×Nat)}{akL:Array MapEntry}{Po:Nat}
  (hE:Nb ρ st.next.toNat C VJ akL.toList):
  cC ρ C (st.bh none (some (b,.map VJ Po)) none) { w with heap:=w.heap.setIfInBounds (ρ b).aN (.map akL Po) }/\qI ρ st w ρ (st.bh none (some (b,.map VJ Po)) none) { w with heap:=w.heap.setIfInBounds (ρ b).aN (.map akL Po) }:=by
 have aT:=(hW.live b _ hb).2.1;refine amE hW hb rfl rfl rfl (by simp) (λk hk=>by simp[Zj7 (Ne.symm hk)]) ⟨akL,by simp[aT],by simpa using hE.1,λi e e' h1 h2=>hE.2 i e e' h1 (by simpa using h2)⟩
theorem aaI{n:Nat}{pk:PK}{u v:AV}{x y:Value}(h1:aD ρ n C u x)(h2:aD ρ n C v y)(h:Bv pk u v=some true)(m:Nat):Instr.sameBits m y x=true:=by
 unfold Bv at h;split at h<;>first|(cases h;done)|skip
 . simp only[H5]at h;rw[h1.kV,h2.kV];rename_i p q;have:p=q:=(by simpa using h);subst this;cases m<;>simp[Instr.sameBits]
 . (split at h<;>first|(cases h;done)|skip);rename_i M8;have:=B6 M8;subst this;simp only[H5,mH]at h;rw[h1.iI,h2.iI];rename_i p q _;have:p=q:=(by simpa using h);subst this;cases m<;>simp[Instr.sameBits]
 . simp only[H5]at h;obtain⟨bx,rfl,e1⟩:=h1.fC;obtain⟨bz,rfl,e2⟩:=h2.fC;have:bz==bx:=(by rw[beq_toListBytes,Pg e2 e1,mI];exact(mI.1 h).symm);cases m<;>simpa [Instr.sameBits]using this
theorem aes{pk:PK}{u:AV}:∀{es:List (AV×AV×Nat)}{i j:Nat}{v:AV},ir pk u es i=some (some (j,v))->∃e,i<=j/\es[j - i]? =some e/\Bv pk u e.1=some true
 |[],i,j,v,h=>by simp[ir]at h
 |(k',v',born)::es,i,j,v,h=>by
  unfold ir at h;split at h<;>first|(cases h;done)|skip
  . rename_i hq;simp only[H5,Zd0]at h;obtain⟨rfl,_⟩:=h;exact⟨(k',v',born),Za3 _,by simp,hq⟩
  . obtain⟨e,h1,h2,h3⟩:=aes h;refine⟨e,by omega,?_,h3⟩;rw[show j - i=(j - (i+1))+1 from by omega];simpa using h2
theorem VK(k v:AV):∀(es:List (AV×AV×Nat))(i j:Nat),(tU k v es i)[j]? =if j=i then(es[i]?).map (λe=>(k,v,e.2.2))else es[j]?
 |[],i,j=>by cases i<;>cases j<;>simp[tU]
 |(a,b,born)::es,0,j=>by cases j<;>simp[tU]
 |e::es,i+1,j=>by
  cases j with
  |zero=>simp[tU]
  |succ j=>simp[tU,VK k v es i j]
theorem abP (hT:dH P tt)(op:Op)(t:TypeId)(m k0 v0:Operand)(hop:op= .mapUpdate t m k0 v0\/op= .insert t m k0 v0):fD P tt op:=by
 intro ρ C st w k xs cls fr a o vs res ho hc hW hF hx hr;have hc:j7.akz tt t m k0 v0=some (k,xs,cls):=by rcases hop with rfl|rfl<;>simpa only[j7]using hc
 have hex:(execOp a.eval o).run P w=((Instr.mapUpdate t (a.eval m) (a.eval k0) (a.eval v0)).run P w).andThen λ_ w=> .ok .skip w:=by
   rcases hop with rfl|rfl<;>simp[execOp,ho]
 unfold j7.akz at hc;split at hc<;>first|(cases hc;done)|skip
 rename_i ti l fK hl;split at hc<;>first|(cases hc;done)|skip
 rename_i kt et hk;split at hc<;>first|(cases hc;done)|skip
 rename_i tk htk;obtain⟨d,hd,dS⟩:=(hT.at fK).und;rw[hk]at dS;rw[Vy dS]at hd;obtain⟨dk,hdk,M8⟩:=(hT.at htk).und;have key:∃pk,k= .mapSet pk/\xs=l/\pk.fits dk=true:=by
   split at hc<;>first|(cases hc;done)|skip
   all_goals
     rename_i h1;cases hc;refine⟨_,rfl,rfl,arb tk.k M8 ?_⟩
   . exact .inr (.inl ⟨⟨_,h1⟩,rfl⟩)
   . exact .inr (.inr ⟨h1,rfl⟩)
   . exact .inl ⟨h1,rfl⟩
 obtain⟨pk,rfl,rfl,Oc⟩:=key;obtain⟨mm,kk,vv,rfl,h1,h2,h3⟩:=evs3 hl hF hx;have hck:∀e w,(Instr.checkKey e 10000 kt (a.eval k0)).run P w= .ok () w:=λe w=>Pm hdk Oc e 9999 _ w
 simp only[aH.run,yj]at hr;split at hr<;>first|(cases hr;done)|skip
 rename_i b;split at hr<;>first|(cases hr;done)|skip
 rename_i es clock hb;obtain⟨_,he⟩:=h1.B7;obtain⟨_,_,es',eD,hlen,pN⟩:=hW.live _ _ hb;have hE:Nb ρ st.next.toNat C es es'.toList:=⟨by simpa using hlen,λi e e' h1 h2=>pN i e e' h1 (by simpa using h2)⟩
 split at hr<;>first|(cases hr;done)|skip
 . rename_i i v hpk hf;simp only[H5]at hr;subst hr;obtain⟨r',hf',nR⟩:=GG Oc h2 hE hf;rcases nR with⟨e1,_⟩|⟨j',v',y,e1,e2,e3,_,e5⟩
   . cases e1
   . cases  e1;subst e2;obtain⟨e,_,hei,hek⟩:=aes hf;rw[Zp4]at hei;have hi:i<es'.size:=(by omega);have akM:es'[i]? =some es'[i]:=Zg6 hi;have hkey:=(pN i e es'[i] hei akM).1;have hsb:=aaI h2 hkey hek 10000;have hE2:Nb ρ st.next.toNat C (tU kk vv es i) (es'.modify i λe=>{ e with key:=a.eval k0,val:=a.eval v0 }).toList:=by
        refine⟨?_,λj e e' g1 g2=> ?_⟩
        . have hsl:∀(es:List (AV×AV×Nat))(i:Nat),(tU kk vv es i).length=es.length:=by
            intro es;induction es with
            |nil=>intro i;cases i<;>rfl
            | cons e es ih=>intro i;cases i with
              |zero=>obtain⟨a,b,c⟩:=e;rfl
              |succ i=>simp[tU,ih i]
          rw[hsl];simpa using hlen
        . rw[VK]at g1;simp only[Zj8,Zk9]at g2;by_cases hji:j=i
          . subst hji;rw[Zb2 rfl,hei]at g1;simp[akM]at g1 g2;subst g1;subst g2;exact⟨h2,h3,(pN j e es'[j] hei akM).2.2⟩
          . rw[Za7 hji]at g1;rw[Za7 (λe=>hji e.symm)]at g2;exact pN j e e' g1 g2
     obtain⟨ji,hE'⟩:=abO hW hb (Po:=clock) hE2;refine⟨.skip,undef,_,ρ,?_,.inr ⟨rfl,rfl⟩,λ_ _=>rfl,ji,aD.FK,hE'⟩;rw[hex];simp only[Instr.mapUpdate,Sem.run_bind,bu hd,Result.andThen_ok,he,run_getObj_map eD,hck,run_findKey hdk hf',akM,Ze6,Zf2,Instr.keyThatStays,hsb,Zh6,Sem.run_pure,run_setObj_map eD]
 . rename_i hpk hf;simp only[H5]at hr;subst hr;obtain⟨r',hf',nR⟩:=GG Oc h2 hE hf;rcases nR with⟨_,e2⟩|⟨j',v',y,e1,_⟩
   . subst  e2;have hE2:Nb ρ st.next.toNat C (es++[(kk,vv,clock)]) (es'.push { key:=a.eval k0,val:=a.eval v0,born:=clock }).toList:=by
        refine⟨by simp[hlen],λj e e' g1 g2=> ?_⟩;simp only[Array.toList_push]at g2;rcases Zi6 j es.length with hj|hj
        . rw[Zc3 hj]at g1;rw[Zc3 (by simp;omega)]at g2;exact pN j e e' g1 (by simpa using g2)
        . rw[Zc2 hj]at g1;rw[Zc2 (by simp;omega)]at g2;have:j - es.length=0:=(by have:=(Za2.1 g1).1;simp at this;omega);rw[this]at g1;have:j - es'.toList.length=0:=(by simp;omega);rw[this]at g2;simp at g1 g2;subst g1;subst g2;exact⟨h2,h3,rfl⟩
     obtain⟨ji,hE'⟩:=abO hW hb (Po:=clock+1) hE2;refine⟨.skip,undef,_,ρ,?_,.inr ⟨rfl,rfl⟩,λ_ _=>rfl,ji,aD.FK,hE'⟩;rw[hex];simp only[Instr.mapUpdate,Sem.run_bind,bu hd,Result.andThen_ok,he,run_getObj_map eD,hck,run_findKey hdk hf',run_setObj_map eD]
   . cases e1
end
section
variable{P : Program}{tt : TT}{ρ : Pos -> Loc}{C : Cells}{st : St}{w w' : World}
theorem cC.of_heap(hW:cC ρ C st w)(h:w'.heap=w.heap):cC ρ C st w' where
 live b x hb:=let⟨h1,h2,h3⟩:=hW.live b x hb;⟨h1,by rw[h];exact h2,h3.of_heap (by rw[h])⟩
 inj:=hW.inj
 eI a v ha:=let⟨h1,h2⟩:=hW.eI a v ha;⟨by unfold World.cell? at h1 ⊢; rw[h];exact h1,h2⟩
 whole a v ha o ho:=by have:=hW.whole a v ha o ho;unfold World.cell? at this ⊢; rw[h];exact this
theorem ZK{es:Nat}:∀{xs:List (List AV)}(_h:∀(i:Nat)(cs:List AV),xs[i]? =some cs->cs.length=es)(q:Nat)(v:AV),
  xs.flatten[q]? =some v->∃cs,xs[q / es]? =some cs/\cs[q % es]? =some v
 |[],_,q,v,hv=>by simp at hv
 |c ::xs,h,q,v,hv=>by
  have hc:c.length=es:=h 0 c rfl;have sg:∀(i:Nat)(cs:List AV),xs[i]? =some cs->cs.length=es:=λi cs hi=>h (i+1) cs (by simpa using hi)
  rw[Zf6]at hv;rcases Zi6 q c.length with hq|hq
  . rw[Zc3 hq]at hv;refine⟨c,?_,?_⟩
    .   rw[Nat.div_eq_of_lt (by omega)];rfl
    .   rw[Zk7 (by omega)];exact hv
  . rw[   Zc2 hq]at hv;obtain⟨cs,h1,h2⟩:=ZK sg (q - c.length) v hv;rw[hc]at hq h1 h2;have VH:0<es:=by
        rcases Zn0 es with h0|h0
        . subst h0;have hl:=sg _ _ h1;have:=(Za2.1 h2).1;omega
        . exact h0
    refine⟨cs,?_,?_⟩
    .   rw[Nat.div_eq_sub_div VH hq];simpa using h1
    .   rw[Zp7 hq];exact h2
theorem ZL{es:Nat}:∀{xs:List (List AV)}(_h:∀(i:Nat)(cs:List AV),xs[i]? =some cs->cs.length=es),xs.flatten.length=xs.length*es
 |[],_=>by simp
 |c::xs,h=>by have hc:c.length=es:=h 0 c rfl;rw[Zf6,Ze3,ZL (λi cs hi=>h (i+1) cs (by simpa using hi)),hc,Zc6,Zj4];omega
theorem vJ(hW:cC ρ C st w){es m:Nat}{u:AV}{x:Value}{new:List AV}{k:Nat}(hu:aD ρ st.next.toNat C u x)(hk:eV u=some k)(hmk:m<=k)(h:dL es m (λb=>st.heap.get b) u=some new)(w2:World)(tq:w2.heap=w.heap):
   ∃ys:List Value,(Builtin.firstCells es m x).run P w2= .ok ys.toArray w2/\aL ρ st.next.toNat C new ys/\(u= .af\/new.length=m*es):=by
 have hW2:=hW.of_heap (w':=w2) tq;unfold dL at h;split at h
 . simp only[H5]at h;subst h;rw[hu.js];exact⟨[],by simp[Builtin.firstCells],aL.nil,.inl rfl⟩
 . rename_i b off len cap es';simp only[eV,H5]at hk;subst hk;obtain⟨aa,bC,he,hle,_,ha⟩:=hu.gL;rw[he];split at h
   . rename_i h0;have h0:=Za6 h0;simp only[H5]at h;subst h;exact⟨[],by simp[Builtin.firstCells,h0,loadCells,loadCellsFrom],aL.nil,.inr (by simp[h0])⟩
   . rename_i h0;have h0:=Ze9 h0;(split at h<;>first|(cases h;done)|skip);rename_i cs fz hb;have hm:m≠0:=(by intro e;subst e;simp at h0);obtain⟨_,rfl,_⟩:=ha (by omega);obtain⟨ys,h1,h2⟩:=hW2.loadCells (P:=P) hb h;exact⟨ys,by simp only[Builtin.firstCells];exact h1,h2,.inr (Rk h)⟩
 . rename_i xs es';simp only[eV,H5]at hk;subst hk;(split at h<;>first|(cases h;done)|skip);rename_i he1 Li;have he1:=Za6 he1;have Li:=Zb3 Li;subst he1;simp only[H5]at h;subst h;obtain⟨aa,bC,cell,he,hle,AH,g1,g2,g3⟩:=hu.yp;rw[he];have eD:∀(i:Nat)(cs:List AV),(xs.take m)[i]? =some cs->cs.length=es:=λi cs hi=>by
     rw[Ze0]at hi;split at hi
     . exact g1 i cs hi
     . cases hi
   have hfl:=ZL eD;rw[Zh5,Zk3 Li]at hfl;have arc:∀q v,(xs.take m).flatten[q]? =some v->∃cs,xs[q / es]? =some cs/\cs[q % es]? =some v:=λq v hv=>by
     obtain⟨cs,h1,h2⟩:=ZK eD q v hv;rw[Ze0]at h1;split at h1
     . exact⟨cs,h1,h2⟩
     . cases h1
   refine⟨(List.range (m*es)).map λq=>cell (q / es) (q % es),?_,⟨by simp[hfl],λq v y hv hy=> ?_⟩,.inr hfl⟩
   . simp only[Builtin.firstCells];(refine run_loadCells w2 _ _ _ λq hq=> ?_);have aT:q<(xs.take m).flatten.length:=(by rw[hfl];exact hq);obtain⟨cs,h1,h2⟩:=arc q _ (H0 aT);have AH:=AH (by intro e;rw[e]at h1;simp at h1);obtain⟨ab,ao,asp⟩:=aa;simp only at AH;subst AH;have:=(hW2.eI _ _ (g2 _ _ _ _ h1 h2)).1;rw[uH];simp only at this;rw[show ao+q=ao+q / es*es+q % es from by rw[Zk0,Nat.mul_comm,Nat.div_add_mod]];exact this
   . obtain⟨cs,h1,h2⟩:=arc q v hv;have hq:q<m*es:=(by rw[<-hfl];exact(Za2.1 hv).1);simp[hq]at hy;subst hy;exact g3 _ _ _ _ h1 h2
 . rename_i s;simp only[eV,H5]at hk;subst hk;(split at h<;>first|(cases h;done)|skip);rename_i he1 Li;have he1:=Za6 he1;have Li:=Zb3 Li;subst he1;simp only[H5]at h;subst h;obtain⟨bs,rfl,hs⟩:=hu.fC;refine⟨(s.take m).map λ(c:Nat)=>Value.int .u8 (.ofNat c),?_,⟨by simp,λq v y hv hy=> ?_⟩,.inr (by simp;omega)⟩
   . simp only[Builtin.firstCells,Sem.run_pure];congr 1;apply Zm1;simp only[Array.toList_map,ByteArray.data_extract,Zo8,List.extract,Ze2,Zp4];rw[<-hs, <-List.map_take,Zh7];rfl
   . simp only[Zb8,Zf4]at hv hy;obtain⟨c,hc,rfl⟩:=hv;obtain⟨c',ZM,rfl⟩:=hy;rw[hc]at ZM;cases ZM;exact .int _ _
 . cases h
theorem agI{n:Nat}{u:AV}{x:Value}{k:Nat}(hu:aD ρ n C u x)(hk:eV u=some k):(Builtin.lenOf x).run P w= .ok k w:=by
 unfold eV at hk;split at hk<;>first|(cases hk;done)|skip
 all_goals simp only[H5]at hk;subst hk
 . rw[hu.js];rfl
 . obtain⟨_,_,he,_⟩:=hu.gL;rw[he];rfl
 . obtain⟨_,_,_,he,_⟩:=hu.yp;rw[he];rfl
 . obtain⟨bs,rfl,hs⟩:=hu.fC;rw[<-Lf hs];rfl
theorem aet(nl:Nat):∀(r c:Nat),c<=nl+(nl+768) / 4->Builtin.growBy nl r c<=nl+(nl+768) / 4
 |0,c,h=>h
 |r+1,c,h=>by
  unfold Builtin.growBy;split
  . exact h
  . exact aet nl r _ (by omega)
theorem nextslicecap_le{akN gK:Nat}(h:gK<akN):Builtin.nextslicecap akN gK<=2*akN+768:=by
 unfold Builtin.nextslicecap;split
 . omega
 . split
   . omega
   . have:=aet akN 4 gK (by omega);omega
theorem akO(hT:dH P tt){t t2 e:Nat}{ts:Array TypeId}{ti t2i te:TI}(fK:tt.get (key t)=some ti)(ht2:tt.get (key t2)=some t2i)(hk:ti.k= .slice e)(ur:∀k,t2i.k≠ .int k)
  (pz:tt.get (key e)=some te) (h0:ts[0]? =some t) (h1:ts[1]? =some t2) (ty:TypeId) (base:Option Addr) (n cap m:Nat) (x:Value) (w:World)
  (hx:(Builtin.lenOf x).run P w= .ok m w) (hb:(2*(n+m)+768)*te.bytes<=281474976710656) (hi:n+m<=9223372036854775807):
  (Builtin.append_ ts ty #[.slice base n cap,x]).run P w=
    if n+m<=cap then((Builtin.firstCells te.size m x).run P w).andThen λnew w=>((match base with|some a=>storeCells (a.add (n*te.size)) new.toList|none=>pure ()).run P w).andThen λ_ w=> .ok (.slice base (n+m) cap) w
    else((Builtin.firstCells te.size n (.slice base n cap)).run P w.drew).andThen λgK w1=>((Builtin.firstCells te.size m x).run P w1).andThen λnew w2=>((zeroValue e).run P w2).andThen λz w3=>
        .ok (.slice (some ⟨w3.heap.size,0,none⟩) (n+m) (grownCap w (n+m) cap e)) (w3.alloc (.cells (gK++new++Builtin.zeroCells z.cells (grownCap w (n+m) cap e - (n+m))) e)):=by
 obtain⟨d,hd,dS⟩:=(hT.at fK).und;rw[hk]at dS;rw[tX dS]at hd;obtain⟨d2,hd2,aoZ⟩:=(hT.at ht2).und;obtain⟨i0,tj,vu,hib,_⟩:=(hT.at pz).info;have auz:∀k,d2≠ .int k:=by
  rintro k rfl;cases M8:t2i.k<;>rw[M8]at aoZ<;>first|(simp[cm]at aoZ;done)|exact absurd M8 (ur _)
 have hmax:¬(((n+m:Nat):Int)>IntKind.i64.max):=by
  have:IntKind.i64.max=9223372036854775807:=by decide
  rw[this];omega
 have auA:¬(n+m<=cap)->¬(Builtin.nextslicecap (n+m) cap*te.bytes>2 ^ 48):=λhc=>by
  have h1:=nextslicecap_le (Nat.lt_of_not_le hc);have h2:=Zg9 te.bytes h1;have:(2:Nat) ^ 48=281474976710656:=by decide
  omega
 have agE:∀q,(Question.appendCap (n+m) cap e).forced=q->q=false:=by rintro q rfl;rfl
 clear aoZ;cases d2<;>first|(exact absurd rfl (auz _))|skip
 all_goals
  unfold Builtin.append_;simp only[h0,h1,List.getElem?_toArray,Za4,Zb7,Sem.run_bind,bu hd,Result.andThen_ok,mG tj,vu,bu hd2,Sem.run_pure,hx,Zf5,Zh0,Zj2,Zh6,Sem.run_ite];by_cases hc:n+m<=cap
  . rw[Zb2 hc,Zb2 hc];cases base<;>simp only[Sem.run_bind,Sem.run_pure,Result.andThen_ok]
  . rw[Za7 hc,Za7 hc];simp only[Sem.run_bind,agy tj,hib,Result.andThen_ok,hmax,false_and,Zh0,auA hc,run_choose,Question.forced,Zf5,World.drew_eq,run_askRoom,Sem.run_pure,newRow,run_newObj,World.alloc_eq];rfl
end
section
variable{P : Program}{tt : TT}{ρ : Pos -> Loc}{C : Cells}{st : St}{w w' : World}
theorem ao0{L:Loc}{cs:List AV}{n:Nat}(fz:Nat)(h:tW ρ n C L w' (.cells cs 0)):tW ρ n C L w' (.cells cs fz):=
 let⟨c,e,fr,h1,h2,h3,h4,h5⟩:=h
 ⟨c,e,fr,h1,h2,h3,h4,λi _ hi=>h5 i (Zh9 _) hi⟩
theorem akP(hW:cC ρ C st w)(del:Option Pos)(fz:Nat){gK new rest:List Value}{ol nl:List AV}{e:TypeId}{n m es bC:Nat}(h1:aL ρ st.next.toNat C ol gK)(h2:aL ρ st.next.toNat C nl new)
  (Nf:ol.length=n*es) (hln:nl.length=m*es) (hr:rest.length=(bC - (n+m))*es) (hc:n+m<=bC) {w2:World} (tq:w2=w.drew.alloc (.cells (gK++new++rest).toArray e)):
  ∃ρ':Pos->Loc,(∀b:Pos,b.toNat<st.next.toNat->ρ' b=ρ b)/\cC ρ' C (st.bh del none (some (.cells (ol++nl) fz))) w2/\qI ρ st w ρ' (st.bh del none (some (.cells (ol++nl) fz))) w2/\
   aD ρ' (st.bh del none (some (.cells (ol++nl) fz))).next.toNat C (.slice st.next 0 (n+m) none es) (.slice (some ⟨w.heap.size,0,none⟩) (n+m) bC):=by
 subst tq;have hl1:gK.length=n*es:=by rw[<-h1.1,Nf]
 have vr:new.length=m*es:=by rw[<-h2.1,hln]
 have gR:(gK++new++rest).length=bC*es:=by simp only[Ze3,hl1,vr,hr];rw[<-Zj4, <-Zj4];congr 1;omega
 obtain ⟨ρ',bF,jf,ji,hE⟩:=Pn (w':=w.drew.alloc (.cells (gK++new++rest).toArray e)) (o:= .cells (gK++new++rest).toArray e) (x0:= .cells (ol++nl) fz) (base:=0) (size:=(gK++new++rest).toArray.size) hW del rfl rfl rfl rfl (λρ' n' bF hn=>
  ao0   fz <| B8 (e:=e) (fr:=(0,0)) (by show(w.heap.push _)[w.heap.size]? =_;simp) (by simp[Nf,hln,hl1,vr])
   (by
        have:(gK++new++rest).toArray.toList.take (ol++nl).length=gK++new:=by
         rw[Zr4 (by simp[Nf,hln,hl1,vr])]
        rw[this];exact(h1.append h2).mono bF hn) (λi _=>by simp))
 refine⟨ρ',bF,ji,hE,Nd (by simp[St.bh,Pos.aF]) jf hc (λc hc=>by cases hc) (by simp only[Zn6,gR];exact Za3 _)⟩
theorem afx(z:Array Value)(m:Nat):(Builtin.zeroCells z m).toList.length=m*z.size:=by simp[Builtin.zeroCells]
theorem ao1{m:Nat}(h:Nat.beq m 0=false):m≠0:=Ze9 h
theorem akQ (hT:dH P tt){t t2 e:Nat}{ts:Array TypeId}{ti t2i te:TI}{z:List AV}(fK:tt.get (key t)=some ti)(ht2:tt.get (key t2)=some t2i)(hk:ti.k= .slice e)(ur:∀k,t2i.k≠ .int k)
   (pz:tt.get (key e)=some te) (hz:te.zero=some z) (h0:ts[0]? =some t) (h1:ts[1]? =some t2) (ty:TypeId) {s u:AV} {xs xu:Value} {res:eR} (hW:cC ρ C st w)
   (hs:aD ρ st.next.toNat C s xs) (hu:aD ρ st.next.toNat C u xu) (hr:lF (λb=>st.heap.get b) st.next te.size te.bytes [s,u]=some res):
   Gp P ρ C st w (((Builtin.append_ ts ty #[xs,xu]).run P w).andThen λv w=> .ok (.value v) w) res:=by
 simp only[lF]at hr;split at hr<;>first|(cases hr;done)|skip
 rename_i n m hn hm;split at hr<;>first|(cases hr;done)|skip
 rename_i b1 b2;have b1:=Zb3 b1;have b2:=Zb3 b2;have hlen:=agI (P:=P) (w:=w) hu hm;obtain⟨i0,tj,vu,_,Nc⟩:=(hT.at pz).info;obtain⟨zv0,hzv0,_,hzl,_⟩:=Nc z hz;have hzr:=λw=>FJ hT pz hz (ρ:=ρ) (n:=st.next.toNat) (C:=C) w
 have hsl:∃base bC,xs= .slice base n bC/\n<=bC:=by
   unfold eV at hn;split at hn<;>first|(cases hn;done)|skip
   . cases hn;exact⟨none,0,hs.js,Za3 _⟩
   . cases hn;obtain⟨a,c,he,hle,_⟩:=hs.gL;exact⟨_,c,he,hle⟩
   . cases hn;obtain⟨a,c,_,he,hle,_⟩:=hs.yp;exact⟨_,c,he,hle⟩
   . rename_i s';exfalso;cases hbm:Nat.beq m 0<;>simp[hbm]at hr
 obtain⟨base,bC,sg,hle⟩:=hsl;have dX:=akO hT fK ht2 hk ur pz h0 h1 ty base n bC m xu w hlen b1 b2;rw[sg,dX];have hg:∀c,n+m<=grownCap w (n+m) c e:=λc=>by unfold grownCap Question.cut;exact Nat.le_add_right _ _
 have agJ:∀(del:Option Pos)(fz:Nat)(ol nl:List AV),¬(n+m<=bC)->dL te.size n (λb=>st.heap.get b) s=some ol->dL te.size m (λb=>st.heap.get b) u=some nl->ol.length=n*te.size->nl.length=m*te.size->
     Gp P ρ C st w ((if n+m<=bC then((Builtin.firstCells te.size m xu).run P w).andThen λnew w=>((match base with|some a=>storeCells (a.add (n*te.size)) new.toList|none=>pure ()).run P w).andThen λ_ w=> .ok (.slice base (n+m) bC) w
     else((Builtin.firstCells te.size n (.slice base n bC)).run P w.drew).andThen λgK w1=>((Builtin.firstCells te.size m xu).run P w1).andThen λnew w2=>((zeroValue e).run P w2).andThen λz w3=>
        .ok (.slice (some ⟨w3.heap.size,0,none⟩) (n+m) (grownCap w (n+m) bC e)) (w3.alloc (.cells (gK++new++Builtin.zeroCells z.cells (grownCap w (n+m) bC e - (n+m))) e))).andThen λv w=> .ok (.value v) w)
        (.bh (.slice st.next 0 (n+m) none te.size) del none (some (.cells (ol++nl) fz))):=by
   intro del fz ol nl hc ho tr Nf hln;obtain⟨gK,e1,e2,_⟩:=vJ (P:=P) hW hs hn (Za3 _) ho w.drew rfl;obtain⟨new,e3,e4,_⟩:=vJ (P:=P) hW hu hm (Za3 _) tr w.drew rfl;obtain⟨zv,TN,_,EW⟩:=hzr w.drew;rw[sg]at e1;have af8:(Builtin.zeroCells zv.cells (grownCap w (n+m) bC e - (n+m))).toList.length=(grownCap w (n+m) bC e - (n+m))*te.size:=(by rw[afx];congr 1;have:=EW.1;simp at this;omega);obtain⟨ρ',bF,ji,hE,hv⟩:=akP hW del fz e2 e4 Nf hln af8 (hg bC) (e:=e) rfl;refine⟨_,_,_,ρ',?_,Yields.value _,bF,ji,hv,hE⟩;rw[Za7 hc];simp only[e1,e3,TN,Result.andThen_ok,World.size_drew];congr 2;simp
 have hlu:∀nl,dL te.size m (λb=>st.heap.get b) u=some nl->m≠0->nl.length=m*te.size:=by
   intro nl tr hm0;obtain⟨_,_,_,h⟩:=vJ (P:=P) hW hu hm (Za3 _) tr w rfl;rcases h with rfl|h
   . simp[eV]at hm;omega
   . exact h
 have hls:∀ol,dL te.size n (λb=>st.heap.get b) s=some ol->ol.length=n*te.size:=by
   intro ol GJ;obtain⟨ys,_,zI,h⟩:=vJ (P:=P) hW hs hn (Za3 _) GJ w rfl;rcases h with rfl|h
   . simp[eV]at hn;subst hn;simp[dL]at GJ;subst GJ;simp
   . exact h
 have hzero:m=0->aD ρ st.next.toNat C s xs->Gp P ρ C st w ((if n+m<=bC then((Builtin.firstCells te.size m xu).run P w).andThen λnew w=>((match base with|some a=>storeCells (a.add (n*te.size)) new.toList|none=>pure ()).run P w).andThen λ_ w=> .ok (.slice base (n+m) bC) w
     else((Builtin.firstCells te.size n (.slice base n bC)).run P w.drew).andThen λgK w1=>((Builtin.firstCells te.size m xu).run P w1).andThen λnew w2=>((zeroValue e).run P w2).andThen λz w3=>
        .ok (.slice (some ⟨w3.heap.size,0,none⟩) (n+m) (grownCap w (n+m) bC e)) (w3.alloc (.cells (gK++new++Builtin.zeroCells z.cells (grownCap w (n+m) bC e - (n+m))) e))).andThen λv w=> .ok (.value v) w) (.val s):=by
   rintro rfl hsx;have hf:(Builtin.firstCells te.size 0 xu).run P w= .ok #[] w:=by
     unfold eV at hm;split at hm<;>first|(cases hm;done)|skip
     .  rw[hu.js];simp[Builtin.firstCells]
     .  obtain⟨_,_,he,_⟩:=hu.gL;rw[he];simp[Builtin.firstCells,loadCells,loadCellsFrom]
     .  obtain⟨_,_,_,he,_⟩:=hu.yp;rw[he];simp[Builtin.firstCells,loadCells,loadCellsFrom]
     .  obtain⟨bs,rfl,_⟩:=hu.fC;simp only[Builtin.firstCells,Sem.run_pure];congr 1;apply Zm1;simp
   rw[sg]at hsx;refine .pure (x:= .slice base n bC) ?_ hsx;rw[Zb2 (by omega),hf];cases base<;>simp[storeCells]
 split at hr<;>first|(cases hr;done)|skip
 . rename_i CR;simp only[H5]at hr;subst hr;exact hzero (Za6 CR) hs
 . rename_i CR;simp only[H5]at hr;subst hr;exact hzero (Za6 CR) hs
 . rename_i CR;simp only[H5]at hr;subst hr;exact hzero (Za6 CR) hs
 ·
   rename_i CR;have CR:=ao1 CR;(split at hr<;>first|(cases hr;done)|skip);rename_i new tr;simp only[H5]at hr;subst hr;have he:=hs.js;rw[he]at sg;simp only[Value.slice.injEq]at sg;obtain⟨rfl,rfl,rfl⟩:=sg;have:=agJ none 0 [] new (by omega) rfl tr (by simp) (hlu new tr CR);simpa using this
 ·
   rename_i b off n' c es' CR;have CR:=ao1 CR;simp only[eV,H5]at hn;subst hn;obtain⟨aa,cc,he,hlec,hcc,ha⟩:=hs.gL;rw[he]at sg;simp only[Value.slice.injEq]at sg;obtain⟨rfl,_,rfl⟩:=sg;have:=hcc c rfl;subst this;split at hr
   . rename_i xP;have xP:=Zb3 xP;(split at hr<;>first|(cases hr;done)|skip);rename_i cs fz new hb tr;(split at hr<;>first|(cases hr;done)|skip);rename_i c1 c2 c3;have c1:=Zb3 c1;simp only[Zb5]at c2;have c2a:=Zb3 c2.1;have c2b:=Za6 c2.2;subst c2b;simp only[H5]at hr;subst hr;obtain⟨aT,rfl,hbound⟩:=ha (by omega);obtain⟨ys,e1,e2,_⟩:=vJ (P:=P) hW hu hm (Za3 _) tr w rfl;have Rq:=hlu new tr CR;obtain⟨w2,e3,ji,hE⟩:=Rp (P:=P) hW hb (by rw[Rq];rw[Zj4]at c1;omega) c2a c3 e2;refine⟨_,.slice (some ⟨(ρ b).aN,(ρ b).base+off,none⟩) (n'+m) c,w2,ρ,?_,Yields.value _,λ_ _=>rfl,ji,?_,hE⟩
     .  rw[Zb2 xP,e1];simp only[Result.andThen_ok,uH];rw[Zk0,e3];rfl
     .  exact .slice _ _ _ _ _ _ _ xP (λc hc=>by cases hc;rfl) (λ_=>⟨aT,rfl,hbound⟩) (λh=>by cases h)
   . rename_i xP;have xP:¬(n'+m<=c):=λh=>by rw[Nat.ble_eq_true_of_le h]at xP;cases xP
     (split at hr<;>first|(cases hr;done)|skip);rename_i gK new GJ tr;simp only[H5]at hr;subst hr;exact agJ none 0 gK new xP GJ tr (hls gK GJ) (hlu new tr CR)
 ·
   rename_i b off n' es' CR;have CR:=ao1 CR;simp only[eV,H5]at hn;subst hn;(split at hr<;>first|(cases hr;done)|skip);rename_i cs fz gK new hb GJ tr;(split at hr<;>first|(cases hr;done)|skip);rename_i c2 c3;simp only[Zb5]at c2;have c2a:=Zb3 c2.1;have c2b:=Za6 c2.2;subst c2b;simp only[H5]at hr;subst hr;by_cases xP:n'+m<=bC
   ·
     obtain ⟨aa,cc,he,hlec,hcc,ha⟩:=hs.gL;rw[he]at sg;simp only[Value.slice.injEq]at sg;obtain⟨rfl,_,rfl⟩:=sg;obtain⟨aT,rfl,hbound⟩:=ha (by omega);obtain⟨ys,e1,e2,_⟩:=vJ (P:=P) hW hu hm (Za3 _) tr w rfl;have Rq:=hlu new tr CR;have ard:=hls gK GJ;obtain⟨zK,GF,c,ce,fr,g1,g2,g3,g4,g5⟩:=hW.live b _ hb;have hmul:(n'+m)*te.size<=cc*te.size:=Zg9 _ xP;have hmul2:(n'+m)*te.size=n'*te.size+m*te.size:=Zj4 _ _ _;have hyl:ys.length=m*te.size:=(by rw[<-e2.1,Rq]);have hold:aL ρ st.next.toNat C gK ((c.toList.drop ((ρ b).base+off)).take (n'*te.size)):=by
        simp only[dL]at GJ;split at GJ
        . rename_i hz0;have hz0:=Za6 hz0;simp only[H5]at GJ;subst GJ;rw[hz0];simpa using(aL.nil:aL ρ st.next.toNat C [] [])
        . rw[hb]at GJ;simp only at GJ;obtain⟨ho1,VL⟩:=abJ GJ;have h:=(g4.drop off).take (n'*te.size);rw[<-ho1]at h;have:List.take (n'*te.size) (List.drop off (List.take cs.length (List.drop (ρ b).base c.toList)))=(c.toList.drop ((ρ b).base+off)).take (n'*te.size):=by
            rw[Zn5,List.take_take,Zl2,Zk3 (by omega)]
          rw[this]at h;exact h
     obtain⟨w2,s1,s2,s3,s4,s5,s6,s7⟩:=xe (P:=P) (ρ b).aN ce fr ys 0 ((ρ b).base+off+n'*te.size) c w g1 (by omega) (Ro c3 e2) (λk hk uq=>by
        have:=g5 (k - (ρ b).base) (by omega) (by omega)
        rwa [show(ρ b).base+(k - (ρ b).base)=k from by omega]at this)
     simp only[Zg0]at s1 s2
     let ρ':Pos->Loc:=λq=>if q=st.next then⟨(ρ b).aN,(ρ b).base+off,(ρ b).size⟩else ρ q
     have bF:∀q:Pos,q.toNat<st.next.toNat->ρ' q=ρ q:=λq hq=>Za7 (λe=>by rw[e]at hq;omega)
     have jf:ρ' st.next=⟨(ρ b).aN,(ρ b).base+off,(ρ b).size⟩:=Zb2 rfl;have hcl:c.toList.length=c.size:=(by simp);have hWn:cC ρ' C (st.bh (some b) none (some (.cells (gK++new) (fz - off)))) w2:=by
        refine hW.akC (b0:=st.next) (x0:= .cells (gK++new) (fz - off)) (by rw[Pos.aF];omega) (by rw[Pos.aF];omega) (by rw[T.gH]) ?_ bF ?_ ?_ (by rw[jf,s3];exact GF) (by omega) (λk hk uq=>s4 k (by rw[jf]at uq;exact uq))
        . intro q x hq hx;rw[T.b9 _ (λe=>hq e.symm)]at hx;obtain⟨h1,h2⟩:=Rn (some b) _ hx;refine⟨h1,?_⟩;rw[jf];exact λe=>h2 b rfl (hW.inj _ _ _ _ h1 hb e)
        . rw[jf];refine⟨_,ce,fr,s2,by simp[aX];omega,by simp[aX,ard,Rq];omega,?_,λi tj hi=> ?_⟩
          . (simp only;rw[ZJ _ _ _ _ (by omega)];have htk:(aX (c.toList.drop ((ρ b).base+off)) (n'*te.size) ys).take (gK++new).length=(c.toList.drop ((ρ b).base+off)).take (n'*te.size)++ys:=by unfold aX;rw[<-Zf1,Zr4];simp[ard,Rq,hyl];omega);rw[htk];exact(hold.append e2).mono bF (by rw[Pos.aF];omega)
          . have hi':(ρ b).base+off+i<c.size:=(by simp only[Zn6]at hi;have:(aX c.toList ((ρ b).base+off+n'*te.size) ys).length=c.size:=(by simp[aX];omega);omega);have:=g5 (off+i) (by omega) (by omega);simp only
            rwa [<-Zk0]at this
        . intro ad v hv;rw[jf];exact λe=>(hW.eI ad v hv).2 b _ hb e.symm
     refine⟨_,(.slice (some ⟨(ρ b).aN,(ρ b).base+off,none⟩) (n'+m) cc),w2,ρ',?_,Yields.value _,bF,hWn,?_,⟨s5,s6,s7,by omega,λk _ hk=>s4 k (λe=>hk b _ hb e.symm),λq x hx=> ?_⟩⟩;rotate_left;rotate_left
     .  left;by_cases hq:q=st.next
        . exact⟨b,_,hb,by rw[hq,jf]⟩
        . simp only[St.bh,Ob]at hx;rw[T.b9 _ (λe=>hq e.symm)]at hx;obtain⟨h1,_⟩:=Rn (some b) _ hx;exact⟨q,x,h1,by rw[bF q (hW.live q x h1).1]⟩
     .  rw[Zb2 xP,e1];simp only[Result.andThen_ok,uH];rw[s1];rfl
     .  refine .slice _ _ _ _ _ _ _ xP (λc hc=>by cases hc) (λ_=>⟨by simp[St.bh,Pos.aF],by rw[jf];rfl,?_⟩) (λ_=>by simp[St.bh,Pos.aF]);rw[jf];simp only;omega
   . exact agJ (some b) _ gK new xP GJ tr (hls gK GJ) (hlu new tr CR)
end
section
variable{P : Program}{tt : TT}{ρ : Pos -> Loc}{C : Cells}{st : St}{w w' : World}
theorem abQ{n:Nat}{xs:Array Value}{u v:AV}(h:aL ρ n C [u,v] xs.toList):∃x y,xs= #[x,y]/\aD ρ n C u x/\aD ρ n C v y:=by
 obtain⟨x,l,h1,h2,h3⟩:=h.cons_inv;obtain⟨y,l',h4,h5,h6⟩:=h3.cons_inv;have:=h6.qO;subst this;exact⟨x,y,by apply Zm1;rw[h1,h4],h2,h5⟩
theorem amI{n:Nat}{xs:Array Value}{u:AV}(h:aL ρ n C [u] xs.toList):∃x,xs= #[x]/\aD ρ n C u x:=by
 obtain⟨x,l,h1,h2,h3⟩:=h.cons_inv;have:=h3.qO;subst this;exact⟨x,by apply Zm1;rw[h1],h2⟩
theorem akR{ts:Array TypeId}{t:TypeId}{l:List TypeId}(h:ts.toList=t::l):ts[0]? =some t:=by rw[<-Zj8,h];rfl
theorem arr1{ts:Array TypeId}{t t2:TypeId}{l:List TypeId}(h:ts.toList=t::t2::l):ts[1]? =some t2:=by rw[<-Zj8,h];rfl
theorem ao2(hT:dH P tt){t e:Nat}{ts:Array TypeId}{ti te:TI}(fK:tt.get (key t)=some ti)(hk:ti.k= .slice e)
   (pz:tt.get (key e)=some te) (h0:ts[0]? =some t) (ty:TypeId) {d u:AV} {xd xu:Value} {res:eR} (hW:cC ρ C st w)
   (hd:aD ρ st.next.toNat C d xd) (hu:aD ρ st.next.toNat C u xu) (hr:pM (λb=>st.heap.get b) st.next te.size [d,u]=some res):
   Gp P ρ C st w (((Builtin.copy_ ts ty #[xd,xu]).run P w).andThen λv w=> .ok (.value v) w) res:=by
 obtain⟨dd,hdd,dS⟩:=(hT.at fK).und;rw[hk]at dS;rw[tX dS]at hdd;obtain⟨i0,tj,vu,_⟩:=(hT.at pz).info;simp only[pM]at hr;split at hr<;>first|(cases hr;done)|skip
 rename_i n m hn hm;have hlen:=agI (P:=P) (w:=w) hu hm;have hsl:(∃s,d= .str s)\/∃base bC,xd= .slice base n bC/\n<=bC:=by
   unfold eV at hn;split at hn<;>first|(cases hn;done)|skip
   . cases hn;exact .inr ⟨none,0,hd.js,Za3 _⟩
   . cases hn;obtain⟨a,c,he,hle,_⟩:=hd.gL;exact .inr ⟨_,c,he,hle⟩
   . cases hn;obtain⟨a,c,_,he,hle,_⟩:=hd.yp;exact .inr ⟨_,c,he,hle⟩
   . exact .inl ⟨_,rfl⟩
 have aty:m=0\/n=0->(Builtin.firstCells te.size 0 xu).run P w= .ok #[] w:=by
   intro _;unfold eV at hm;split at hm<;>first|(cases hm;done)|skip
   . rw[hu.js];simp[Builtin.firstCells]
   . obtain⟨_,_,he,_⟩:=hu.gL;rw[he];simp[Builtin.firstCells,loadCells,loadCellsFrom]
   . obtain⟨_,_,_,he,_⟩:=hu.yp;rw[he];simp[Builtin.firstCells,loadCells,loadCellsFrom]
   . obtain⟨bs,rfl,_⟩:=hu.fC;simp only[Builtin.firstCells,Sem.run_pure];congr 1;apply Zm1;simp
 have vt:∀base bC,xd= .slice base n bC->(Builtin.copy_ ts ty #[xd,xu]).run P w=((Builtin.firstCells te.size (Nat.min m n) xu).run P w).andThen λcells w=>((match base with|some a=>storeCells a cells.toList|none=>pure ()).run P w).andThen λ_ w=> .ok (goInt (Nat.min m n)) w:=by
   intro base bC he;unfold Builtin.copy_;simp only[h0,he,List.getElem?_toArray,Za4,Zb7,Sem.run_bind,bu hdd,Result.andThen_ok,mG tj,vu,hlen];cases base<;>simp only[Sem.run_bind,Sem.run_pure,Result.andThen_ok]
 split at hr
 . rename_i yu;have yu:=Za6 yu;(split at hr<;>first|(cases hr;done)|skip);rename_i hns;simp only[H5]at hr;subst hr;rcases hsl with⟨s,rfl⟩|⟨base,bC,he,hle⟩
   . exact absurd rfl (hns s)
   . have hk0':Nat.min m n=0:=yu;refine .pure (x:=goInt 0) ?_ (.int _ _);rw[vt base bC he,hk0',aty (by have:min m n=0:=yu;omega)];cases base<;>simp[storeCells]
 . rename_i yu;have yu:=Ze9 yu;(split at hr<;>first|(cases hr;done)|skip);rename_i b off n' cap es';(split at hr<;>first|(cases hr;done)|skip);rename_i cs fz new hb tr;(split at hr<;>first|(cases hr;done)|skip);rename_i c1 c2 c3;have c1:=Zb3 c1;have c2:=Zb3 c2;simp only[H5]at hr;subst hr;simp only[eV,H5]at hn;subst hn;obtain⟨aa,bC,he,hle,_,ha⟩:=hd.gL;have akS:min m n'<=m/\min m n'<=n':=⟨Nat.min_le_left _ _,Nat.min_le_right _ _⟩
   obtain⟨aT,rfl,_⟩:=ha (by omega);obtain⟨ys,e1,e2,e3⟩:=vJ (P:=P) hW hu hm akS.1 tr w rfl;have Rq:new.length=min m n'*te.size:=by
     rcases e3 with rfl|e3
     . simp[eV]at hm;omega
     . exact e3
   obtain⟨w2,f1,ji,hE⟩:=Rp (P:=P) hW hb (by rw[Rq];exact c1) c2 c3 e2;refine⟨_,goInt ((min m n':Nat):Int),w2,ρ,?_,Yields.value _,λ_ _=>rfl,ji,.int _ _,hE⟩;rw[vt _ _ he];have hmm:Nat.min m n'=min m n':=rfl;rw[hmm,e1];simp only[Result.andThen_ok];rw[f1];rfl
theorem arP(hT:dH P tt){t:Nat}{ts:Array TypeId}{ti:TI}(fK:tt.get (key t)=some ti){k:LK}(hk:(k= .s/\ti.k= .string)\/(k= .l/\∃e,ti.k= .slice e)\/(k= .m/\∃a b,ti.k= .map a b))
   (h0:ts[0]? =some t) (ty:TypeId) {u:AV} {xu:Value} {res:eR} (hW:cC ρ C st w)
   (hu:aD ρ st.next.toNat C u xu) (hr:OX (λb=>st.heap.get b) st.next k [u]=some res):
   Gp P ρ C st w (((Builtin.len_ ts ty #[xu]).run P w).andThen λv w=> .ok (.value v) w) res:=by
 obtain⟨d,hd,dS⟩:=(hT.at fK).und;have vt:∀x,xu=x->(Builtin.len_ ts ty #[xu]).run P w=(Builtin.len_ ts ty #[x]).run P w:=λx e=>by rw[e]
 simp only[OX]at hr;rcases hk with⟨rfl,hk⟩|⟨rfl,e,hk⟩|⟨rfl,a,b,hk⟩<;>rw[hk]at dS
 . rw[vn dS]at hd;(cases u<;>simp only[reduceCtorEq]at hr<;>first|(cases hr;done)|skip);simp only[H5]at hr;subst hr;obtain⟨bs,rfl,hs⟩:=hu.fC;exact .pure (x:=goInt bs.size) (by unfold Builtin.len_;simp[h0,bu hd]) (by rw[Lf hs];exact .int _ _)
 . rw[tX dS]at hd;cases u<;>simp only[reduceCtorEq]at hr<;>first|(cases hr;done)|skip
   . simp only[H5]at hr;subst hr;rw[hu.js];exact .pure (x:=goInt 0) (by unfold Builtin.len_;simp[h0,bu hd]) (.int _ _)
   . simp only[H5]at hr;subst hr;obtain⟨aa,c,he,_⟩:=hu.gL;rw[he];exact .pure (by unfold Builtin.len_;simp[h0,bu hd];rfl) (.int _ _)
   . simp only[H5]at hr;subst hr;obtain⟨aa,c,_,he,_⟩:=hu.yp;rw[he];exact .pure (by unfold Builtin.len_;simp[h0,bu hd];rfl) (.int _ _)
 . rw[Vy dS]at hd;cases u<;>simp only[reduceCtorEq]at hr<;>first|(cases hr;done)|skip
   . simp only[H5]at hr;subst hr;rw[hu.FH];exact .pure (x:=goInt 0) (by unfold Builtin.len_;simp[h0,bu hd]) (.int _ _)
   . (split at hr<;>first|(cases hr;done)|skip);rename_i es c hb;simp only[H5]at hr;subst hr;obtain⟨_,he⟩:=hu.B7;obtain⟨_,_,es',eD,hlen,_⟩:=hW.live _ _ hb;rw[he];exact .pure (x:=goInt es'.size) (by unfold Builtin.len_;simp[h0,bu hd,run_getObj_map eD]) (by rw[<-hlen];exact .int _ _)
theorem ads(z:Array Value)(m:Nat):(Builtin.zeroCells z m).toList=bX z.toList m:=by
 unfold Builtin.zeroCells;by_cases h:0<z.size
 . exact agG z m h
 . have h0:z.size=0:=(by omega);have:z= #[]:=Zo2 h0;subst this;have h1:bX ([]:List Value) m=[]:=Zc4 (by rw[lM];simp);simp[h1]
theorem amJ(hT:dH P tt){t e:Nat}{ts:Array TypeId}{ti te:TI}{z:List AV}(fK:tt.get (key t)=some ti)(hk:ti.k= .slice e)
   (pz:tt.get (key e)=some te) (hz:te.zero=some z) (h0:ts[0]? =some t) (ty:TypeId) {u:AV} {xu:Value} {res:eR} (hW:cC ρ C st w)
   (hu:aD ρ st.next.toNat C u xu) (hr:sZ (λb=>st.heap.get b) st.next te.size z [u]=some res):
   Gp P ρ C st w (((Builtin.clear_ ts ty #[xu]).run P w).andThen λv w=> .ok (.value v) w) res:=by
 obtain⟨dd,hdd,dS⟩:=(hT.at fK).und;rw[hk]at dS;rw[tX dS]at hdd;obtain⟨i0,tj,vu,_,Nc⟩:=(hT.at pz).info;obtain⟨zv0,_,_,hzl,_⟩:=Nc z hz;obtain⟨zv,TN,_,EW⟩:=FJ hT pz hz (ρ:=ρ) (n:=st.next.toNat) (C:=C) w;simp only[sZ]at hr;split at hr<;>first|(cases hr;done)|skip
 . simp only[H5]at hr;subst hr;rw[hu.js];exact .pure (x:=undef) (by unfold Builtin.clear_;simp[h0,bu hdd];rfl) aD.FK
 . rename_i b off n cap es';obtain⟨aa,bC,he,hle,_,ha⟩:=hu.gL;rw[he];split at hr
   . rename_i Pp;have:=Za6 Pp;subst this;simp only[H5]at hr;subst hr;exact .pure (x:=undef) (by unfold Builtin.clear_;simp[h0,bu hdd];rfl) aD.FK
   . rename_i Pp;have Pp:=Ze9 Pp;(split at hr<;>first|(cases hr;done)|skip);rename_i cs fz hb;(split at hr<;>first|(cases hr;done)|skip);rename_i c1 c2 c3;have c1:=Zb3 c1;have c2:=Zb3 c2;simp only[H5]at hr;subst hr;obtain⟨_,rfl,_⟩:=ha (by omega);obtain⟨w2,f1,ji,hE⟩:=Rp (P:=P) hW hb (vs:=bX z n) (ys:=bX zv.cells.toList n) (by rw[lM,hzl];exact c1) c2 c3 (Od EW n);refine⟨_,undef,w2,ρ,?_,Yields.value _,λ_ _=>rfl,ji,aD.FK,hE⟩;unfold Builtin.clear_;cases n with
     |zero=>exact absurd rfl Pp
     |succ n=>simp[h0,bu hdd,TN,ads,f1,undef]
theorem Pq(c:Call)(f:Operand)(hc:c.callee= .value f)(a:Act)(o:Oper)(ho:o.op= .call c){g:FuncId}{x y:Array Value}(he:a.eval f= .func (.func g) x y):
  (execOp a.eval o).run P w=(callFunc g (x++c.args.map a.eval++y)).run P w:=by
 simp[execOp,ho,resolve,hc,he,Deferred.ofValue,invoke]
theorem ao3 (hT:dH P tt) (c:Call):fD P tt (.call c):=by
 intro ρ C st w k xs cls fr a o vs res ho hc hW hF hx hr;simp only[j7]at hc;split at hc<;>first|(cases hc;done)|skip
 rename_i l hl;split at hc<;>first|(cases hc;done)|skip
 ·
  rename_i g agK;cases hc;have hv:=iO hl hF hx;simp only[aH.run,aaC,H5]at hr;subst hr;refine⟨c.args.toList.map a.eval,?_,hv⟩;rw[Pq c _ agK a o ho (g:=g) (x:= #[]) (y:= #[]) rfl];congr 2;apply Zm1;simp
 ·
  rename_i f hnf agK;split at hc<;>first|(cases hc;done)|skip
  rename_i ao hao;cases hc;unfold fT at hx;split at hx<;>first|(cases hx;done)|skip
  rename_i fv hfv;split at hx<;>first|(cases hx;done)|skip
  rename_i vs' ao4;simp only[H5]at hx;subst hx;have h1:=By hao hF hfv;have h2:=iO hl hF ao4;simp only[aH.run,aaD]at hr;split at hr<;>first|(cases hr;done)|skip
  rename_i g first captured
  simp only[H5]at hr;subst hr;obtain⟨x,y,he,hx,hy⟩:=h1.Rc;refine⟨x.toList++(c.args.toList.map a.eval++y.toList),?_,hx.append (h2.append hy)⟩;rw[Pq c f agK a o ho he];congr 2;apply Zm1;simp
 ·
  rename_i b agK;have hex:∀(s:Sem Value),(∀consts,builtin b c.argTypes o.type consts (c.args.map a.eval)=(do pure (.value (<-s))))->(execOp a.eval o).run P w=(s.run P w).andThen λv w=> .ok (.value v) w:=by intro s hs;simp only[execOp,ho,resolve,agK,pure_bind,invoke];rw[hs];simp
  split at hc<;>first|(cases hc;done)|skip
  ·
   (split at hc<;>first|(cases hc;done)|skip);rename_i t _ _ tu;(split at hc<;>first|(cases hc;done)|skip);rename_i ti fK;have hv:=iO hl hF (vs:=vs) (by
        split at hc<;>first|(cases hc;done)|skip
        all_goals cases hc;exact hx)
   rw[pE] at hv;rw[hex (Builtin.len_ c.argTypes o.type (c.args.map a.eval)) (λ_=>rfl)];have hu:∃u,vs=[u]      :=by
        have h1:=hv.1;have h2:(c.args.toList).length=1:=by
         have: ∀{xs:List   Operand}{os:List gZ},mF xs=some os->xs.length=os.length:=by
            intro xs;induction xs with
            |nil=>intro os h;simp[mF]at h;subst h;rfl
            |cons x xs ih=>intro os h;unfold mF at h;split at h<;>first|(cases h;done)|skip
                           rename_i e1 e2;simp only[H5]at h;subst h;simp[ih e2]
         rw[this hl];rfl
        match vs,h1 with
        |[u],_=>exact⟨u,rfl⟩
        |[],h1=>simp at h1 h2;omega
        |_::_::_,h1=>simp at h1 h2;omega
   obtain⟨u,rfl⟩:=hu;obtain⟨x,sg,hux⟩:=amI hv;rw[sg];split at hc<;>first|(cases hc;done)|skip
   all_goals
        rename_i hk;cases hc;simp only[aH.run]at hr;refine arP hT fK ?_ (akR tu) o.type hW hux hr
   .    exact .inl ⟨rfl,hk⟩
   .    exact .inr (.inl ⟨rfl,_,hk⟩)
   .    exact .inr (.inr ⟨rfl,_,_,hk⟩)
  ·
   (split at hc<;>first|(cases hc;done)|skip);rename_i t t2 _ tu;(split at hc<;>first|(cases hc;done)|skip);rename_i ti t2i fK ht2;(split at hc<;>first|(cases hc;done)|skip);rename_i e hk ur _;(split at hc<;>first|(cases hc;done)|skip);rename_i te pz;(split at hc<;>first|(cases hc;done)|skip);rename_i z hz;cases hc;have hv:=iO hl hF hx;rw[pE]at hv;rw[hex (Builtin.append_ c.argTypes o.type (c.args.map a.eval)) (λ_=>rfl)];simp only[aH.run]at hr;have hu:∃s u,vs=[s,u]:=by
        unfold lF at hr;(split at hr<;>first|(cases hr;done)|skip);exact⟨_,_,rfl⟩
   obtain⟨s,u,rfl⟩:=hu;obtain⟨x,y,sg,h1,h2⟩:=abQ hv;rw[sg];exact akQ hT fK ht2 hk (λk hk=>ur k hk) pz hz (akR tu) (arr1 tu) o.type hW h1 h2 hr
  ·
   (split at hc<;>first|(cases hc;done)|skip);rename_i t _ tu;(split at hc<;>first|(cases hc;done)|skip);rename_i ti fK;(split at hc<;>first|(cases hc;done)|skip);rename_i e hk;(split at hc<;>first|(cases hc;done)|skip);rename_i te pz;cases hc;have hv:=iO hl hF hx;rw[pE]at hv;rw[hex (Builtin.copy_ c.argTypes o.type (c.args.map a.eval)) (λ_=>rfl)];simp only[aH.run]at hr;have hu:∃s u,vs=[s,u]:=by
        unfold pM at hr;(split at hr<;>first|(cases hr;done)|skip);exact⟨_,_,rfl⟩
   obtain⟨s,u,rfl⟩:=hu;obtain⟨x,y,sg,h1,h2⟩:=abQ hv;rw[sg];exact ao2 hT fK hk pz (akR tu) o.type hW h1 h2 hr
  ·
   (split at hc<;>first|(cases hc;done)|skip);cases hc;have hv:=iO hl hF hx;rw[pE]at hv;rw[hex (Builtin.min_ c.argTypes o.type (c.args.map a.eval)) (λ_=>rfl)];simp only[aH.run]at hr;have hu:∃s u r,vs=[s,u]/\res= .val r:=by
        unfold KN at hr;(split at hr<;>first|(cases hr;done)|skip);split at hr<;>first|(cases hr;done)|skip
        all_goals cases hr;exact⟨_,_,_,rfl,rfl⟩
   obtain⟨s,u,r,rfl,rfl⟩:=hu;obtain⟨x,y,sg,h1,h2⟩:=abQ hv;obtain⟨z,hz,hvz⟩:=aoX (P:=P) (w:=w) h1 h2 hr;rw[sg];refine .pure (x:=z) ?_ hvz;simp[Builtin.min_,hz]
  ·
   (split at hc<;>first|(cases hc;done)|skip);cases hc;have hv:=iO hl hF hx;rw[pE]at hv;rw[hex (Builtin.max_ c.argTypes o.type (c.args.map a.eval)) (λ_=>rfl)];simp only[aH.run]at hr;have hu:∃s u r,vs=[s,u]/\res= .val r:=by
        unfold KO at hr;(split at hr<;>first|(cases hr;done)|skip);split at hr<;>first|(cases hr;done)|skip
        all_goals cases hr;exact⟨_,_,_,rfl,rfl⟩
   obtain⟨s,u,r,rfl,rfl⟩:=hu;obtain⟨x,y,sg,h1,h2⟩:=abQ hv;obtain⟨z,hz,hvz⟩:=aoY (P:=P) (w:=w) h1 h2 hr;rw[sg];refine .pure (x:=z) ?_ hvz;simp[Builtin.max_,hz]
  ·
   (split at hc<;>first|(cases hc;done)|skip);rename_i t _ tu;(split at hc<;>first|(cases hc;done)|skip);rename_i ti fK;(split at hc<;>first|(cases hc;done)|skip);rename_i e hk;(split at hc<;>first|(cases hc;done)|skip);rename_i te pz;(split at hc<;>first|(cases hc;done)|skip);rename_i z hz;cases hc;have hv:=iO hl hF hx;rw[pE]at hv;rw[hex (Builtin.clear_ c.argTypes o.type (c.args.map a.eval)) (λ_=>rfl)];simp only[aH.run]at hr;have hu:∃u,vs=[u]:=by
        unfold sZ at hr;(split at hr<;>first|(cases hr;done)|skip);exact⟨_,rfl⟩
   obtain⟨u,rfl⟩:=hu;obtain⟨x,sg,hux⟩:=amI hv;rw[sg];exact amJ hT fK hk pz hz (akR tu) o.type hW hux hr
theorem Ys(hT:dH P tt)(op:Op):fD P tt op:=by
 cases op with
 |move x=>exact aoT x
 |assign x=>exact akG x
 |pick c x y=>exact aoU c x y
 |alloc t=>exact amF hT t
 |box t x=>exact arN t x
 |build t ps=>exact amD hT t ps
 |buildSlice t n ps=>exact adr hT t n ps
 |insert t m k v=>exact abP hT _ t m k v (.inr rfl)
 |load t x=>exact aoW hT t x
 |store t x y=>exact amH hT t x y
 |nilCheck x=>exact agD x
 |binOp op t x y yt=>exact amz hT op t x y yt
 |unOp op t x=>exact aoV op t x
 |convert s d x=>exact ai7 hT s d x
 |makeInterface t x=>exact ai6 hT t x
 |makeFunc f x y=>exact akH f x y
 |makeMap t r=>exact amG t r hT
 |makeSlice t l c=>exact ai8 hT t l c
 |slice t x l h m=>exact amC hT t x l h m
 |fieldAddr t x f=>exact afv hT t x f
 |field t x f=>exact amA hT t x f
 |indexAddr t x i=>exact afw hT t x i
 |index t x i=>exact amB hT t x i
 |lookup t x i ok=>exact akK hT t x i ok
 |mapUpdate t m k v=>exact abP hT _ t m k v (.inl rfl)
 |extract x i=>exact ai5 x i
 |call c=>exact ao3 hT c
 |_=>intro ρ C st w k xs cls fr a o vs res ho hc;simp[j7]at hc
end
def Reaches(P:Program)(R:Value->World->Prop):Result Next->Prop
 | .ok (.value x) w'=>R x w'
 | .ok .skip w'=>R undef w'
 | .ok (.enter f args) w'=>Calls P f args w' λ| .returned v,w''=>R v w''|_,_=>False
 | .ok (.row row args) w'=>Rows P row args w' R
 |_=>False
theorem Reaches.mono{P:Program}{R R':Value->World->Prop}(h:∀x w,R x w->R' x w):∀{r:Result Next},Reaches P R r->Reaches P R' r
 | .ok (.value _) _,hr=>h _ _ hr
 | .ok .skip _,hr=>h _ _ hr
 | .ok (.enter _ _) _,hr=>Calls.mono hr λe w he=>by cases e<;>first|exact h _ _ he|exact he
 | .ok (.row _ _) _,hr=>Rows.mono hr h
theorem Reaches.upon{P:Program}{R:Value->World->Prop}{o:Oper}{a:Act}{K:Act->World->Prop}{Q:Exit->Act->World->Prop}{r:Result Next}
  (hr:Reaches P R r) (h:∀x w,R x w->K (a.put o.dst x) w):o.upon P a K Q r:=by
 cases r with
 |ok n w=>
  cases n<;>simp only[Reaches]at hr
  . exact h _ _ hr
  . exact h _ _ hr
  . exact Calls.mono hr λe w he=>by
        cases e with
        |returned v=>exact h _ _ he
        |panicked c=>exact he.elim
        |outgrown=>exact he.elim
  . exact Rows.mono hr λv w he=>h _ _ he
 |halt x w=>simp only[Reaches]at hr
def oo(ρ:Pos->Loc)(C:Cells)(st:St)(w:World)(v:AV)(st':St)(x:Value)(w':World):Prop:=
 ∃ρ',aD ρ' st'.next.toNat C v x/\(∀b:Pos,b.toNat<st.next.toNat->ρ' b=ρ b)/\st.next.toNat<=st'.next.toNat/\cC ρ' C st' w'/\qI ρ st w ρ' st' w'
def iX(P:Program)(C:Cells)(call:aj):Prop:=
 ∀  (ρ:Pos->Loc)(st:St)(w:World)(f:FuncId)(args:List AV)(v:AV)(st':St)(cQ:List Value),call f args st=some (v,st')->
    cC ρ C st w->aL ρ st.next.toNat C args cQ->Reaches P (oo ρ C st w v st') ((callFunc f cQ.toArray).run P w)
section
variable{P : Program}{tt : TT}{C : Cells}{call : aj}
theorem St.Rr(st:St)(del:Option Pos)(set:Option (Pos×AB))(new:Option AB):st.next.toNat<=(st.bh del set new).next.toNat:=by
 cases new with
 |none=>exact Za3 _
 |some x=>simp only[St.bh,Pos.aF];omega
theorem ZN(hT:dH P tt)(dc:iX P C call){ρ:Pos->Loc}{st st':St}{w:World}{k:aH}{xs:List gZ}{cls:Cls}{fr:Fr}{a:Act}{o:Oper}{vs:List AV}{v:AV}
   (hc:j7 tt o.op=some (k,xs,cls)) (hW:cC ρ C st w) (hF:kT ρ st.next.toNat C fr a.tmps) (hx:fT fr xs=some vs)
   (hs:cL call k vs st=some (v,st')):Reaches P (oo ρ C st w v st') ((execOp a.eval o).run P w):=by
 have H:=Ys hT o.op ρ C st w k xs cls fr a o vs;unfold cL at hs;split at hs
 . rename_i u hr;simp only[H5,Zd0]at hs;obtain⟨rfl,rfl⟩:=hs;obtain⟨N,x,he,hy,hv⟩:=H _ rfl hc hW hF hx hr;have hp:oo ρ C st w u st x w:=⟨ρ,hv,λ_ _=>rfl,Za3 _,hW,qI.refl _ _ _⟩
   rw[he];rcases hy with rfl|⟨rfl,rfl⟩<;>exact hp
 . rename_i u del set new hr;simp only[H5,Zd0]at hs;obtain⟨rfl,rfl⟩:=hs;obtain⟨N,x,w',ρ',he,hy,bF,ji,hv,hE⟩:=H _ rfl hc hW hF hx hr;have hp:oo ρ C st w u (st.bh del set new) x w':=⟨ρ',hv,bF,St.Rr _ _ _ _,ji,hE⟩
   rw[he];rcases hy with rfl|⟨rfl,rfl⟩<;>exact hp
 . rename_i f args hr;obtain⟨cQ,he,hv⟩:=H _ rfl hc hW hF hx hr;rw[he];exact dc ρ st w f args v st' cQ hs hW hv
 . cases hs
structure zu(tt:TT)(nt:Nat)(ops:Array Oper)(o:Oper)(ao:bW):Prop where
 dst:ao.dst=o.dst.map key
 lt:∀d,o.dst=some d->d<nt
 guard:abG ops o.guard=some ao.guard
 op:(j7 tt o.op=some (ao.k,ao.xs,ao.cls))\/(ao.k= .bad/\ao.cls= .bh)
theorem wW{nt:Nat}{ops:Array Oper}:∀{os:List Oper}{bs:List Nat}{l:List bW},uG tt nt ops os bs=some l->
  l.length=os.length/\∀(i:Nat)(o:Oper),os[i]? =some o->∃ao,l[i]? =some ao/\zu tt nt ops o ao/\ao.cg=bs.getD i 0
 |[],bs,l,h=>by simp[uG]at h;subst h;exact⟨rfl,λi o ho=>by simp at ho⟩
 |o ::os,bs,l,h=>by
  unfold uG at h;split at h<;>first|(cases h;done)|skip
  rename_i g l' hg hl hd;obtain⟨h1,h2⟩:=wW hl;have aT:∀d,o.dst=some d->d<nt:=λd hdd=>by rw[hdd]at hd;simpa [uG.aq9]using hd
  have hb:∀i,bs.tail.getD i 0=bs.getD (i+1) 0:=λi=>by cases bs<;>simp
  have yo:bs.headD 0=bs.getD 0 0:=by cases bs<;>simp
  split at h
  . rename_i k xs cls hc;simp only[H5]at h;subst h;refine⟨by simp[h1],λi o' ho=> ?_⟩;cases i with
    |   zero=>
        simp at ho;subst ho;exact⟨_,rfl,⟨rfl,aT,hg,.inl hc⟩,yo⟩
    |   succ i=>
        simp at ho;obtain⟨ao,h3,h4,h5⟩:=h2 i o' ho;exact⟨ao,by simpa using h3,h4,by rw[h5,hb]⟩
  . simp only[H5]at h;subst h;refine⟨by simp[h1],λi o' ho=> ?_⟩;cases i with
    |   zero=>
        simp at ho;subst ho;exact⟨_,rfl,⟨rfl,aT,hg,.inr ⟨rfl,rfl⟩⟩,yo⟩
    |   succ i=>
        simp at ho;obtain⟨ao,h3,h4,h5⟩:=h2 i o' ho;exact⟨ao,by simpa using h3,h4,by rw[h5,hb]⟩
theorem Lj{ops:Array Oper}{ρ:Pos->Loc}{n:Nat}{fr:Fr}{a:Act}{o:Oper}{g:Option (Pos×Bool)}{b:Bool}(hg:abG ops o.guard=some g)
   (hF:∀p v,fr.get p=some v->(∃q,g=some (p,q))->∃x,a.tmps[p.toNat - 1]? =some x/\aD ρ n C v x)
   (hw:cN fr g=some b):Region.wanted o (yielded ops a.tmps)=b:=by
 unfold Region.wanted;unfold abG at hg;split at hg
 . rename_i hn;simp only[H5]at hg;subst hg;simp only[cN,H5]at hw;subst hw;rw[hn]
 . rename_i j want hn;rw[hn];(split at hg<;>first|(cases hg;done)|skip);rename_i oj hj;(split at hg<;>first|(cases hg;done)|skip);rename_i d hd;simp only[H5]at hg;subst hg;simp only[cN]at hw;split at hw
   . rename_i u hu;simp only[H5]at hw;subst hw;obtain⟨x,hx,hv⟩:=hF _ _ hu ⟨_,rfl⟩;rw[iN,Zh3]at hx;have:=hv.kV;subst this;simp[yielded,hj,hd,hx]
   . rename_i l hu;simp only[H5]at hw;subst hw;obtain⟨x,hx,hv⟩:=hF _ _ hu ⟨_,rfl⟩;rw[iN,Zh3]at hx;obtain⟨cs,rfl,_⟩:=hv.Vv;simp[yielded,hj,hd,hx]
   . cases hw
theorem aD.aeu{ρ:Pos->Loc}{n:Nat}:aD ρ n C AV.undef undef:= .tuple [] #[] rfl λ_ _ _ h=>by simp at h
theorem Act.j5(a:Act)(d:Option Tmp)(v:Value):(a.put d v).tmps.size=a.tmps.size:=by cases d<;>simp[Act.put]
theorem Act.mC(a:Act)(d:Option Tmp)(v:Value):(a.put d v).defers=a.defers:=by cases d<;>rfl
theorem kT.put{ρ:Pos->Loc}{n nt:Nat}{fr:Fr}{a:Act}{d:Option Tmp}{v:AV}{x:Value}(hF:kT ρ n C fr a.tmps)(hs:a.tmps.size=nt)
  (hd:∀e,d=some e->e<nt) (hv:aD ρ n C v x):kT ρ n C (eJ fr (d.map key) v) (a.put d x).tmps:=by
 cases d with
 |none=>exact hF
 |some e=>
  have he:=hd e rfl;intro p u hp;simp only[Ze6,eJ]at hp;simp only[Act.put];by_cases hpe:key e=p
  . subst hpe;rw[T.gH]at hp;simp only[H5]at hp;subst hp;refine⟨x,?_,hv⟩;rw[iN,Zh3,Zp2];simp[hs,he]
  . rw[T.b9 _ hpe]at hp;obtain⟨y,hy,hr⟩:=hF p u hp;refine⟨y,?_,hr⟩;rw[Zj7,hy];intro h;apply hpe;apply Pos.toNat_inj;rw[iN];have:=p.toNat_pos;omega
theorem kT.mono{ρ ρ':Pos->Loc}{n n':Nat}{fr:Fr}{tmps:Array Value}(hF:kT ρ n C fr tmps)(bF:∀b:Pos,b.toNat<n->ρ' b=ρ b)(hn:n<=n'):kT ρ' n' C fr tmps:=
 λp v hp=>let⟨x,hx,hv⟩:=hF p v hp;⟨x,hx,hv.mono bF hn⟩
structure yw(nt:Nat)(ρ:Pos->Loc)(C:Cells)(fr:Fr)(st:St)(a:Act)(w:World):Prop where
 W:cC ρ C st w
 F:kT ρ st.next.toNat C fr a.tmps
 size:a.tmps.size=nt
 defers:a.defers=[]
def kG(nt:Nat)(ρ:Pos->Loc)(C:Cells)(st:St)(w:World)(bI:Fr)(st':St)(a':Act)(w':World):Prop:=
 ∃ρ',yw nt ρ' C bI st' a' w'/\(∀b:Pos,b.toNat<st.next.toNat->ρ' b=ρ b)/\st.next.toNat<=st'.next.toNat/\qI ρ st w ρ' st' w'
theorem kG.refl{nt:Nat}{ρ:Pos->Loc}{fr:Fr}{st:St}{a:Act}{w:World}(h:yw nt ρ C fr st a w):kG nt ρ C st w fr st a w:=
 ⟨ρ,h,λ_ _=>rfl,Za3 _,qI.refl _ _ _⟩
theorem kG.trans{nt:Nat}{ρ jS:Pos->Loc}{TP:Fr}{st bE AG:St}{a2:Act}{w w1 w2:World}
  (h1:∀b:Pos,b.toNat<st.next.toNat->jS b=ρ b) (h2:st.next.toNat<=bE.next.toNat) (h3:qI ρ st w jS bE w1)
  (h:kG nt jS C bE w1 TP AG a2 w2):kG nt ρ C st w TP AG a2 w2:=by
 obtain⟨vg,k1,k2,k3,k4⟩:=h;exact⟨vg,k1,λb hb=>(k2 b (Zc7 hb h2)).trans (h1 b hb),Zb1 h2 k3,h3.trans k4⟩
theorem Reaches.bad{k:aH}{vs:List AV}{st:St}{r:AV×St}(hk:k= .bad)(h:cL call k vs st=some r):False:=by subst hk;simp[cL,aH.run]at h
theorem CS(hT:dH P tt)(dc:iX P C call){nt:Nat}{ops:Array Oper}{Q:Exit->Act->World->Prop}:∀(aos:List bW)(k:Nat)(fr bI:Fr)(st st':St)(ρ:Pos->Loc)(a:Act)(w:World),
  (∀(i:Nat)(ao:bW),aos[i]? =some ao->∃o,ops[k+i]? =some o/\zu tt nt ops o ao)->
  mE call aos fr st=some (bI,st')->yw nt ρ C fr st a w->(∀a' w',kG nt ρ C st w bI st' a' w'->Q .normal a' w')->wpOps P ops Q (List.range' k aos.length) a w
 |[],k,fr,bI,st,st',ρ,a,w,_,h,hS,hQ=>by
  simp only[mE,H5,Zd0]at h;obtain⟨rfl,rfl⟩:=h;exact hQ a w (kG.refl hS)
 |ao::aos,k,fr,bI,st,st',ρ,a,w,ho,h,hS,hQ=>by
  obtain⟨o,cJ,hR⟩:=ho 0 ao rfl;rw[Zg0]at cJ;have Ng:∀(i:Nat)(ao':bW),aos[i]? =some ao'->∃o,ops[k+1+i]? =some o/\zu tt nt ops o ao':=λi ao' hi=>by
    obtain⟨o',h1,h2⟩:=ho (i+1) ao' (by simpa using hi);exact⟨o',by rw[<-h1];congr 1;omega,h2⟩
  simp only[Zc6,Zq7,wpOps,cJ];unfold mE at h;split at h
  . rename_i hw;rw[Zb2 (Lj hR.guard (λp v hp _=>hS.F p v hp) hw)];(split at h<;>first|(cases h;done)|skip);rename_i vs CN;(split at h<;>first|(cases h;done)|skip);rename_i v bE gI;rcases hR.op with hc|⟨hk,_⟩
    .   have hr:=ZN hT dc hc hS.W hS.F CN gI;refine .inl (hr.upon λx w1 hp=> ?_);obtain⟨jS,hv,h1,h2,hW1,hE⟩:=hp;rw[hR.dst]at h;refine CS hT dc aos (k+1) _ bI bE st' jS _ w1 Ng h ⟨hW1,kT.put (hS.F.mono h1 h2) hS.size hR.lt hv,by rw[Act.j5];exact hS.size,by rw[Act.mC];exact hS.defers⟩ λa' w' hp=>hQ a' w' (kG.trans h1 h2 hE hp)
    .   exact(Reaches.bad hk gI).elim
  . rename_i hw;rw[Za7 (by rw[Lj hR.guard (λp v hp _=>hS.F p v hp) hw];simp)];rw[hR.dst]at h;exact CS hT dc aos (k+1) _ bI st st' ρ _ w Ng h ⟨hS.W,kT.put hS.F hS.size hR.lt .aeu,by rw[Act.j5];exact hS.size,by rw[Act.mC];exact hS.defers⟩ hQ
  . cases h
theorem Rs{nt:Nat}{ops:Array Oper}{l:List bW}{bs:List Nat}(h:uG tt nt ops ops.toList bs=some l)(i:Nat)(ao:bW)(hi:l[i]? =some ao):
  ∃o,ops[i]? =some o/\zu tt nt ops o ao/\ao.cg=bs.getD i 0:=by
 obtain⟨h1,h2⟩:=wW h;have aT:i<ops.toList.length:=by rw[<-h1];exact(Za2.1 hi).1
 obtain⟨ao',h3,h4,h5⟩:=h2 i _ (H0 aT);rw[hi]at h3;simp only[H5]at h3;subst h3;exact⟨_,by rw[<-Zj8];exact H0 aT,h4,h5⟩
theorem agL(hT:dH P tt)(dc:iX P C call){nt id:Nat}{ops:Array Oper}{bs:List Nat}{l:List bW}{Q:Exit->Act->World->Prop}{fr bI:Fr}{st st':St}{ρ:Pos->Loc}{a:Act}{w:World}
  (hl:uG tt nt ops ops.toList bs=some l) (h:mE call l fr st=some (bI,st')) (hS:yw nt ρ C fr st a w)
  (hQ:∀a' w',kG nt ρ C st w bI st' a' w'->Q .normal a' w'):(Code.region id ops false).wp P Q a w:=by
 apply wp_region;have hlen:l.length=ops.size:=by rw[(wW hl).1,Zi3]
 rw[Zm2, <-hlen];exact CS hT dc l 0 fr bI st st' ρ a w (λi ao hi=>by
  obtain⟨o,h1,h2,_⟩:=Rs hl i ao hi;exact⟨o,by rw[Zb4];exact h1,h2⟩) h hS hQ
end
section
variable{P : Program}{tt : TT}{C : Cells}{call : aj}
def yx(P:Program)(tt:TT)(C:Cells)(call:aj):Prop:=
 ∀  (nt id:Nat)(ops:Array Oper)(l:List bW)(Q:Exit->Act->World->Prop)(fr bI:Fr)(st st':St)(ρ:Pos->Loc)(a:Act)(w:World),
    uG tt nt ops ops.toList (agu ops.toList [])=some l->O9 l.length 0 (Bl (Lc 0 l) [])=true->eG call (Bl (Lc 0 l) []) [] st.heap fr st=some (bI,st')->yw nt ρ C fr st a w->
    (∀a' w',kG nt ρ C st w bI st' a' w'->Q .normal a' w')->(Code.region id ops true).wp P Q a w
def Pr:oJ->Exit
 | .normal=> .normal
 | .exit id=> .exit id
 | .ret=> .ret
def abR(P:Program)(tt:TT)(C:Cells)(call:aj)(nt m:Nat):Prop:=
 ∀  (c:Code)(ac:AC)(fr bI:Fr)(st st':St)(ex:oJ)(ρ:Pos->Loc)(a:Act)(w:World)(Q:Exit->Act->World->Prop),
    vH tt nt c=some ac->exec call m ac fr st=some (ex,bI,st')->yw nt ρ C fr st a w->
    (∀a' w',kG nt ρ C st w bI st' a' w'->Q (Pr ex) a' w')->c.wp P Q a w
def abS(P:Program)(tt:TT)(C:Cells)(call:aj)(nt m:Nat):Prop:=
 ∀  (c:Code)(ac:AC)(fr bI:Fr)(st st':St)(ex:oJ)(ρ:Pos->Loc)(a:Act)(w:World)(Q:Exit->Act->World->Prop),
    vH tt nt c=some ac->exec call m (.loop ac) fr st=some (ex,bI,st')->yw nt ρ C fr st a w->
    (∀a' w',kG nt ρ C st w bI st' a' w'->Q (Pr ex) a' w')->Code.rounds P c Q m a w
theorem aev{nt m:Nat}(Ll:abR P tt C call nt m)(ihL:abS P tt C call nt m):abS P tt C call nt (m+1):=by
 intro c ac fr bI st st' ex ρ a w Q hc h hS hQ;simp only[exec,bD]at h;rw[rounds_succ];split at h
 . rename_i fj bE h1;(refine Ll c ac fr fj st bE .normal ρ a w _ hc h1 hS λa1 w1 hp=> ?_);obtain⟨jS,zL,k1,k2,k3⟩:=hp;exact ihL c ac fj bI bE st' ex jS a1 w1 Q hc h zL λa2 w2 hp=>hQ a2 w2 (kG.trans k1 k2 k3 hp)
 . rename_i dP;cases ex with
   |normal=>exact(dP _ _ h).elim
   |exit id=>exact Ll c ac fr bI st st' (.exit id) ρ a w _ hc h hS λa1 w1 hp=>hQ a1 w1 hp
   |ret=>exact Ll c ac fr bI st st' .ret ρ a w _ hc h hS λa1 w1 hp=>hQ a1 w1 hp
theorem amK(hT:dH P tt)(dc:iX P C call)(mh:yx P tt C call){nt m:Nat}(Ll:abR P tt C call nt m)(ihL:abS P tt C call nt m):abR P tt C call nt (m+1):=by
 intro c ac fr bI st st' ex ρ a w Q hc h hS hQ;have auB:=aev Ll ihL;unfold vH at hc;split at hc<;>first|(cases hc;done)|skip
 . simp only[H5]at hc;subst hc;simp only[exec,bD,H5,Zd0]at h;obtain⟨rfl,rfl,rfl⟩:=h;exact wp_skip (hQ _ _ (kG.refl hS))
 . rename_i ix ops draw;(split at hc<;>first|(cases hc;done)|skip);rename_i l hl;split at hc
   . simp only[H5]at hc;subst hc;simp only[exec,bD]at h;(split at h<;>first|(cases h;done)|skip);rename_i fj bE h1;simp only[H5,Zd0]at h;obtain⟨rfl,rfl,rfl⟩:=h;exact agL hT dc hl h1 hS hQ
   . (split at hc<;>first|(cases hc;done)|skip);rename_i ht;simp only[H5]at hc;subst hc;simp only[exec,bD]at h;(split at h<;>first|(cases h;done)|skip);rename_i fj bE h1;simp only[H5,Zd0]at h;obtain⟨rfl,rfl,rfl⟩:=h;exact mh nt _ ops l Q fr fj st bE ρ a w hl ht h1 hS hQ
 . (split at hc<;>first|(cases hc;done)|skip);rename_i x y h1 h2;simp only[H5]at hc;subst hc;simp only[exec,bD]at h;apply wp_seq;split at h
   . rename_i fj bE h3;(refine Ll _ _ fr fj st bE .normal ρ a w _ h1 h3 hS λa1 w1 hp=> ?_);obtain⟨jS,zL,k1,k2,k3⟩:=hp;exact Ll _ _ fj bI bE st' ex jS a1 w1 Q h2 h zL λa2 w2 hp=>hQ a2 w2 (kG.trans k1 k2 k3 hp)
   . rename_i dP;cases ex with
     |normal=>exact(dP _ _ h).elim
     |exit id=>exact Ll _ _ fr bI st st' (.exit id) ρ a w _ h1 h hS λa1 w1 hp=>hQ a1 w1 hp
     |ret=>exact Ll _ _ fr bI st st' .ret ρ a w _ h1 h hS λa1 w1 hp=>hQ a1 w1 hp
 . (split at hc<;>first|(cases hc;done)|skip);rename_i x y z h1 h2 h3;simp only[H5]at hc;subst hc;simp only[exec,bD]at h;split at h
   . rename_i hx;exact wp_cond_true ((By h1 hS.F hx).kV) (Ll _ _ fr bI st st' ex ρ a w Q h2 h hS hQ)
   . rename_i hx;exact wp_cond_false ((By h1 hS.F hx).kV) (Ll _ _ fr bI st st' ex ρ a w Q h3 h hS hQ)
   . cases h
 . (split at hc<;>first|(cases hc;done)|skip);rename_i x h1;simp only[H5]at hc;subst hc;simp only[exec,bD]at h;apply wp_block;split at h
   . rename_i xN fj bE h2;split at h
     .  rename_i he;simp only[H5,Zd0]at h;obtain⟨rfl,rfl,rfl⟩:=h;have:=Za6 he;subst this;exact Ll _ _ fr fj st bE (.exit xN) ρ a w _ h1 h2 hS λa1 w1 hp=>by simp only[Pr,Exit.inBlock,Zh6];exact hQ a1 w1 hp
     .  rename_i he;simp only[H5,Zd0]at h;obtain⟨rfl,rfl,rfl⟩:=h;have:=Ze9 he;exact Ll _ _ fr fj st bE (.exit xN) ρ a w _ h1 h2 hS λa1 w1 hp=>by simp only[Pr,Exit.inBlock,Za7 this];exact hQ a1 w1 hp
   . rename_i dP;cases ex with
     |normal=>exact Ll _ _ fr bI st st' .normal ρ a w _ h1 h hS λa1 w1 hp=>hQ a1 w1 hp
     |exit id=>exact(dP _ _ _ h).elim
     |ret=>exact Ll _ _ fr bI st st' .ret ρ a w _ h1 h hS λa1 w1 hp=>hQ a1 w1 hp
 . (split at hc<;>first|(cases hc;done)|skip);rename_i x h1;simp only[H5]at hc;subst hc;exact wp_loop_rounds (m+1) (auB _ _ fr bI st st' ex ρ a w Q h1 h hS hQ)
 . simp only[H5]at hc;subst hc;simp only[exec,bD,H5,Zd0]at h;obtain⟨rfl,rfl,rfl⟩:=h;exact wp_exit (hQ _ _ (kG.refl hS))
 . simp only[H5]at hc;subst hc;simp only[exec,bD,H5,Zd0]at h;obtain⟨rfl,rfl,rfl⟩:=h;exact wp_ret (hQ _ _ (kG.refl hS))
 . simp only[H5]at hc;subst hc;simp[exec,bD,mE,cN,fT,cL,aH.run]at h
theorem CU(hT:dH P tt)(dc:iX P C call)(mh:yx P tt C call){nt:Nat}:∀m,abR P tt C call nt m/\abS P tt C call nt m
 |0=>⟨λc ac fr bI st st' ex ρ a w Q hc h=>by simp[exec]at h,λc ac fr bI st st' ex ρ a w Q hc h=>by simp[exec]at h⟩
 |m+1=>let⟨h1,h2⟩:=CU hT dc mh m;⟨amK hT dc mh h1 h2,aev h1 h2⟩
def Yt(tmps:Array Value):ResultVar->Sem Value
 | .tmp t=>pure (tmps.getD t undef)
 | .cell a t=>do loadVar t (<-asAddr (tmps.getD a undef))
theorem akT(hT:dH P tt){ρ:Pos->Loc}{st:St}{w:World}{fr:Fr}{a:Act}{x:Tmp}{t:TypeId}{ti:TI}{q v:AV}(fK:tt.get (key t)=some ti)
  (hW:cC ρ C st w) (hF:kT ρ st.next.toNat C fr a.tmps) (hq:fr.get (key x)=some q) (hr:(aH.load (CL ti)).run (λb=>st.heap.get b) .h [q]=some (.val v)):
  ∃y,(Yt a.tmps (.cell x t)).run P w= .ok y w/\aD ρ st.next.toNat C v y:=by
 have hc:j7 tt (.load t (.tmp x))=some (.load (CL ti),[.t (key x)],.read):=by simp[j7,fK,uF]
 have hx:fT fr [.t (key x)]=some [q]:=by simp[fT,Gy,hq]
 have nR:(aH.load (CL ti)).run (λb=>st.heap.get b) st.next [q]=some (.val v):=hr;obtain⟨N,y,he,hy,hv⟩:=Ys hT (.load t (.tmp x)) ρ C st w _ _ _ fr a { dst:=none,op:= .load t (.tmp x),type:=t,pos:=default,after:= #[],guard:=none } _ _ rfl hc hW hF hx nR;refine⟨y,?_,hv⟩;simp only[execOp,Instr.loadAt,Act.eval]at he;simp only[Yt];obtain⟨z,hz,hzq⟩:=hF _ _ hq;rw[iN,Zh3]at hz;have hzd:a.tmps.getD x undef=z:=by simp[Zm0,hz]
 rw[hzd]at he ⊢;have hp:∃ad,z= .pointer (some ad):=by
  simp only[aH.run,zo]at hr;split at hr<;>first|(cases hr;done)|skip
  . obtain⟨_,h⟩:=hzq.qP;exact⟨_,h⟩
  . obtain⟨_,_,_,_,h,_⟩:=hzq.Pd;exact⟨_,h⟩
 obtain⟨ad,rfl⟩:=hp;simp only[Instr.sureAddr,asAddr,Sem.run_bind,Sem.run_pure,Result.andThen]at he ⊢;cases hl:(loadVar t ad).run P w with
 |ok u w1=>
  rw[hl]at he;simp at he;obtain⟨h1,h2⟩:=he;subst h2;rcases hy with hy|⟨hy,_⟩
  . rw[hy]at h1;simp at h1;rw[h1]
  . rw[hy]at h1;simp at h1
 |halt u w1=>rw[hl]at he;simp at he
theorem Lm(hT:dH P tt){ρ:Pos->Loc}{st:St}{w:World}{fr:Fr}{a:Act}(hW:cC ρ C st w)(hF:kT ρ st.next.toNat C fr a.tmps):
   ∀(rs:List ResultVar)(ars:List OY)(vs:List AV),qW tt rs=some ars->gQ (λb=>st.heap.get b) fr ars=some vs->
    ∃ys,(rs.mapM (Yt a.tmps)).run P w= .ok ys w/\aL ρ st.next.toNat C vs ys
 | [],ars,vs,hc,hr=>by
   simp only[qW,H5]at hc;subst hc;simp only[gQ,H5]at hr;subst hr;exact⟨[],by simp,aL.nil⟩
 | .tmp t::rs,ars,vs,hc,hr=>by
   simp only[qW]at hc;(split at hc<;>first|(cases hc;done)|skip);rename_i l hl;simp only[H5]at hc;subst hc;simp only[gQ]at hr;(split at hr<;>first|(cases hr;done)|skip);rename_i v hv;(split at hr<;>first|(cases hr;done)|skip);rename_i us hus;simp only[H5]at hr;subst hr;obtain⟨ys,h1,h2⟩:=Lm hT hW hF rs l us hl hus;obtain⟨z,hz,hzq⟩:=hF _ _ hv;rw[iN,Zh3]at hz;refine⟨z::ys,?_,aL.cons hzq h2⟩;simp[List.mapM_cons,Yt,h1,Zm0,hz]
 | .cell x t::rs,ars,vs,hc,hr=>by
   simp only[qW]at hc;(split at hc<;>first|(cases hc;done)|skip);rename_i ti l hti hl;simp only[H5]at hc;subst hc;simp only[gQ]at hr;(split at hr<;>first|(cases hr;done)|skip);rename_i q hq;(split at hr<;>first|(cases hr;done)|skip);rename_i v hv;(split at hr<;>first|(cases hr;done)|skip);rename_i us hus;simp only[H5]at hr;subst hr;obtain⟨ys,h1,h2⟩:=Lm hT hW hF rs l us hl hus;obtain⟨y,h3,h4⟩:=akT hT hti hW hF hq hv;refine⟨y::ys,?_,aL.cons h4 h2⟩;simp[List.mapM_cons,h1,h3]
theorem Iw(hT:dH P tt){ρ:Pos->Loc}{st:St}{w:World}{fr:Fr}{a:Act}{fn:Func}{ars:List OY}{vs:List AV}(hW:cC ρ C st w)(hF:kT ρ st.next.toNat C fr a.tmps)
  (hc:qW tt fn.results.toList=some ars) (hr:gQ (λb=>st.heap.get b) fr ars=some vs):
  ∃y,(results fn a.tmps).run P w= .ok y w/\aD ρ st.next.toNat C (zq vs) y:=by
 obtain⟨ys,h1,h2⟩:=Lm hT hW hF _ ars vs hc hr;have h3:(fn.results.mapM (Yt a.tmps)).run P w= .ok ys.toArray w:=by
  rw[Array.mapM_eq_mapM_toList];simp[h1]
 have h4:(results fn a.tmps).run P w= .ok (if h:ys.toArray.size=1 then ys.toArray[0]else .tuple ys.toArray) w:=by
  have hfun:results fn a.tmps=(fn.results.mapM (Yt a.tmps) >>= λvs=>pure (if h:vs.size=1 then vs[0]else .tuple vs)):=by unfold results;congr 2
  rw[hfun,Sem.run_bind,h3];simp
 refine⟨_,h4,?_⟩;cases vs with
 |nil=>have:=h2.qO;subst this;simp[zq];exact .yl (by simpa using aL.nil)
 |cons v vs=>
  obtain⟨y,ys',rfl,hv,CN⟩:=h2.cons_inv;cases vs with
  |nil=>have:=CN.qO;subst this;simpa [zq]using hv
  |cons v' vs'=>
   obtain⟨y',ys'',rfl,Ph,ao4⟩:=CN.cons_inv;simp[zq];exact .yl (by simpa using aL.cons hv (aL.cons Ph ao4))
def GOk(P:Program)(tt:TT)(G:T dV):Prop:=
 ∀p F,G.get p=some F->∃fn,P.funcs[p.toNat - 1]? =some fn/\(fn.name== "runtime.NumGoroutine")=false/\akA tt fn=some F
def vK(P:Program)(C:Cells)(O:fc):Prop:=
 ∀  (f:FuncId)(s:List AV->St->Option (AV×St)),O f=some s->
    ∀(ρ:Pos->Loc)(st:St)(w:World)(args:List AV)(v:AV)(st':St)(cQ:List Value),s args st=some (v,st')->
     cC ρ C st w->aL ρ st.next.toNat C args cQ->Reaches P (oo ρ C st w v st') ((callFunc f cQ.toArray).run P w)
theorem Rt{ρ:Pos->Loc}{n:Nat}{tmps:Array Value}:∀(vs:List AV)(xs:List Value)(i:Nat)(fr:Fr),aL ρ n C vs xs->
  (∀(j:Nat)(x:Value),xs[j]? =some x->tmps[i+j]? =some x)->kT ρ n C fr tmps->kT ρ n C (params i vs fr) tmps
 |[],_,_,_,_,_,hF=>hF
 |v ::vs,xs,i,fr,h,hx,hF=>by
  obtain⟨x,B5,rfl,hv,CN⟩:=h.cons_inv;unfold params;refine Rt vs B5 (i+1) _ CN (λj y hy=>by rw[<-hx (j+1) y (by simpa using hy)];congr 1;omega) λp u hp=> ?_
  by_cases hpe:key i=p
  . subst hpe;rw[T.gH]at hp;simp only[H5]at hp;subst hp;exact⟨x,by rw[iN,Zh3];exact hx 0 x rfl,hv⟩
  . rw[T.b9 _ hpe]at hp;exact hF p u hp
def xQ(call:aj)(m:Nat)(F:dV)(args:List AV)(st:St):Option (AV×St):=
 match Nat.beq args.length F.nparams with
 |  true=>match exec call m F.code (params 0 args .e) st with
    |some (.normal,fr,st')=>match gQ (λb=>st'.heap.get b) fr F.results with
     |some vs=>some (zq vs,st')
     |none=>none
    |some (.ret,fr,st')=>match gQ (λb=>st'.heap.get b) fr F.results with
     |some vs=>some (zq vs,st')
     |none=>none
    |_=>none
 |false=>none
theorem abT(hT:dH P tt){G:T dV}(hG:GOk P tt G){call:aj}(dc:iX P C call)(mh:yx P tt C call)(m:Nat){f:FuncId}{F:dV}(hF:G.get (key f)=some F)
   {ρ:Pos->Loc} {st:St} {w:World} {args:List AV} {v:AV} {st':St} {cQ:List Value} (h:xQ call m F args st=some (v,st')) (hW:cC ρ C st w) (xR:aL ρ st.next.toNat C args cQ):
   Reaches P (oo ρ C st w v st') ((callFunc f cQ.toArray).run P w):=by
 unfold xQ at h;split at h<;>first|(cases h;done)|skip
 rename_i hlen;have hlen:=Za6 hlen;obtain⟨fn,GK,qq,hcf⟩:=hG _ _ hF;rw[iN,Zh3]at GK;unfold akA at hcf;split at hcf<;>first|(cases hcf;done)|skip
 rename_i c hb;split at hcf<;>first|(cases hcf;done)|skip
 rename_i ac rs hac hrs hle;simp only[H5]at hcf;subst hcf;simp only at h hlen;have hle:=Zb3 hle;have dX:(callFunc f cQ.toArray).run P w= .ok (.enter f cQ.toArray) w:=by
   have agM:¬fn.name= "runtime.NumGoroutine" :=(by simpa using qq);simp[callFunc,GK,agM,hb]
 rw[dX];simp only[Reaches];refine calls_of_wp GK hb ?_;have gR:cQ.length<=fn.ntmps:=by rw[<-xR.1,hlen];exact hle
 have hS:yw fn.ntmps ρ C (params 0 args .e) st { tmps:=cQ.toArray++Array.replicate (fn.ntmps - cQ.toArray.size) undef,defers:=[] } w:=by
   refine⟨hW,?_,?_,rfl⟩
   . refine Rt args cQ 0 .e xR (λj x hx=> ?_) (λp v hp=>by rw[T.dW]at hp;cases hp);have hj:j<cQ.length:=(Za2.1 hx).1;rw[Zb4,Zp8 (by simpa using hj)];simpa using hx
   . simp;omega
 split at h<;>first|(cases h;done)|skip
 . rename_i fj bE h1;(split at h<;>first|(cases h;done)|skip);rename_i vs CN;simp only[H5,Zd0]at h;obtain⟨rfl,rfl⟩:=h;(refine(CU hT dc mh m).1 c ac _ fj st bE .normal ρ _ w _ hac h1 hS λa' w' hp=> ?_);obtain⟨jS,zL,k1,k2,k3⟩:=hp;obtain⟨y,VE,hy2⟩:=Iw hT zL.W zL.F hrs CN;exact⟨zL.defers,y,VE,jS,hy2,k1,k2,zL.W,k3⟩
 . rename_i fj bE h1;(split at h<;>first|(cases h;done)|skip);rename_i vs CN;simp only[H5,Zd0]at h;obtain⟨rfl,rfl⟩:=h;(refine(CU hT dc mh m).1 c ac _ fj st bE .ret ρ _ w _ hac h1 hS λa' w' hp=> ?_);obtain⟨jS,zL,k1,k2,k3⟩:=hp;obtain⟨y,VE,hy2⟩:=Iw hT zL.W zL.F hrs CN;exact⟨zL.defers,y,VE,jS,hy2,k1,k2,zL.W,k3⟩
theorem ZO(hT:dH P tt){O:fc}{G:T dV}(hO:vK P C O)(hG:GOk P tt G)(m:Nat)(mh:∀d,iX P C (uz O G m d)->yx P tt C (uz O G m d)):∀d,iX P C (uz O G m d)
 |0=>λρ st w f args v st' cQ h=>by simp[uz]at h
 |d +1=>by
  intro ρ st w f args v st' cQ h hW xR;have ih:=ZO hT hO hG m mh d;unfold uz at h;split at h
  . rename_i s hs;exact hO f s hs ρ st w args v st' cQ h hW xR
  . (split at h<;>first|(cases h;done)|skip);rename_i F hF;exact abT hT hG ih (mh _ ih) m hF h hW xR
end
end
end Go.Ai
