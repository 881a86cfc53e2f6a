/- Its operations, second part; regions. -/
import Derived.Test.YtgihekklfnjkiaaGreatDoorAEvalB
import Derived.Laws.IdiomStrings
import Derived.Laws.RangeString
import Derived.LoopN
set_option linter.all false
namespace Go.Ai
section
open Go Go.RowKit
section
variable{P:Program}{tt:TT}{ρ:Pos->Loc}{C:Cells}{st:St}{w w':World}
theorem SE(del:Option Pos)(h:T AB){b:Pos}{x:AB}(hb:(Mp del h).get b=some x):h.get b=some x/\∀c,del=some c->b≠c:=by
 cases del with
 |none=>exact⟨hb,λ_ h=>by cases h⟩
 |some c=>
  by_cases he:c=b
  .subst he;simp only[Mp]at hb;rw[T.gQ]at hb;cases hb
  .simp only[Mp]at hb;rw[T.cJ _ he]at hb;exact⟨hb,λd hd=>by cases hd;exact λe=>he e.symm⟩
theorem QT(hW:cN ρ C st w){o:Obj}{x0:AB}{base size:Nat}(del:Option Pos)(hh:w'.heap=w.heap.push o)(h1:w'.os=w.os)(h2:w'.tape=w.tape)(h3:w'.output=w.output)
   (hB:∀ρ' n',(∀b:Pos,b.toNat<st.next.toNat->ρ' b=ρ b)->st.next.toNat<=n'->ud ρ' n' C ⟨w.heap.size,base,size⟩ w' x0):
   ∃ρ':Pos->Loc,(∀b:Pos,b.toNat<st.next.toNat->ρ' b=ρ b)/\ρ' st.next=⟨w.heap.size,base,size⟩/\cN ρ' C (st.br del none (some x0)) w'/\qJ ρ st w ρ' (st.br del none (some x0)) w':=by
 let ρ':Pos->Loc:=λb=>if b=st.next then⟨w.heap.size,base,size⟩else ρ b
 have bM:∀b:Pos,b.toNat<st.next.toNat->ρ' b=ρ b:=λb hb=>Za7 (λe=>by rw[e]at hb;omega)
 have jy:ρ' st.next=⟨w.heap.size,base,size⟩:=Zb4 rfl;have ic:w'.heap.size=w.heap.size+1:=by rw[hh];simp
 have hold:∀k,k<w.heap.size->w'.heap[k]? =w.heap[k]? :=λk hk=>by rw[hh,Zq0,Za7 (by omega)]
 refine⟨ρ',bM,jy,?_,⟨h1,h2,h3,by omega,λk hk _=>hold k hk,λb x hb=> ?_⟩⟩;rotate_left
 . by_cases he:b=st.next
   .right;rw[he,jy];exact Za5 _
   .left;simp only[St.br,Pv]at hb;rw[T.cJ _ (λe=>he e.symm)]at hb;have eO:=(SE del _ hb).1;exact⟨b,x,eO,by rw[bM b (hW.live b x eO).1]⟩
 refine hW.alZ (b0:=st.next) (x0:=x0) (by rw[Pos.aH];omega) (by rw[Pos.aH];omega) (by rw[T.gQ]) ?_ bM (by rw[jy];exact hB _ _ bM (by rw[Pos.aH];omega)) ?_ (by rw[jy,ic];simp) (by omega) (λk hk _=>hold k hk)
 .intro b x hb hx;rw[T.cJ _ (λe=>hb e.symm)]at hx;have hx:=(SE del _ hx).1;refine⟨hx,?_⟩;rw[jy];have:=(hW.live b x hx).2.1;simp only;omega
 .intro a v ha;have:=World.block_lt_of_cell? _ _ (hW.eP a v ha).1;rw[jy];simp only;omega
theorem an6(hW:cN ρ C st w){b:Pos}{x x0:AB}(hb:st.heap.get b=some x)(h1:w'.os=w.os)(h2:w'.tape=w.tape)(h3:w'.output=w.output)(ic:w'.heap.size=w.heap.size)
   (Xq:∀k,k≠(ρ b).aT->w'.heap[k]? =w.heap[k]?) (hB:ud ρ st.next.toNat C (ρ b) w' x0):
   cN ρ C (st.br none (some (b,x0)) none) w'/\qJ ρ st w ρ (st.br none (some (b,x0)) none) w':=by
 obtain⟨aW,z8,_⟩:=hW.live b x hb;refine⟨?_,⟨h1,h2,h3,by omega,λk _ hk=>Xq k (λe=>hk b x hb e.symm),λc y hc=> ?_⟩⟩;rotate_left
 . left;by_cases he:c=b
   .exact⟨b,x,hb,by rw[he]⟩
   .simp only[St.br,Pv,Mp]at hc;rw[T.cJ _ (λe=>he e.symm)]at hc;exact⟨c,y,hc,rfl⟩
 refine hW.alZ (b0:=b) (x0:=x0) (Za5 _) aW (by simp only[Pv,Mp];rw[T.gQ]) ?_ (λ_ _=>rfl) hB ?_ (by omega) (by omega) (λk _ hk=>Xq k hk)
 .intro c y hc hy;simp only[Pv,Mp]at hy;rw[T.cJ _ (λe=>hc e.symm)]at hy;exact⟨hy,λe=>hc (hW.inj _ _ _ _ hy hb e)⟩
 .exact λa v ha e=>(hW.eP a v ha).2 b x hb e.symm
theorem Cz{cs:List AV}{c:Array Value}{e:TypeId}{fr:Nat×Nat}{g:Nat}{n:Nat}(hg:w'.heap[g]? =some (.cells c e fr))(hle:cs.length<=c.size)(hv:aN ρ n C cs (c.toList.take cs.length))
  (hf:∀i,i<c.size->¬(fr.1<=i/\i<fr.2)):ud ρ n C ⟨g,0,c.size⟩ w' (.cells cs 0):=
 ⟨c,e,fr,hg,rfl,by simpa using hle,by simpa using hv,λi _ hi=>by simpa using hf i (by simpa using hi)⟩
theorem an7(hT:dK P tt)(t:TypeId):fN P tt (.alloc t):=by
 intro ρ C st w k xs cls fr a o vs res ho hc hW hF hx hr;simp only[kD]at hc;split at hc<;>first|(cases hc;done)|skip
 rename_i ti fR;split at hc<;>first|(cases hc;done)|skip
 rename_i z hz;cases hc;simp only[gu,H5]at hx;subst hx;simp only[aJ.run,Sn,H5]at hr;subst hr;obtain⟨zv,Ve,_,Fx⟩:=Gh hT fR hz (ρ:=ρ) (n:=st.next.toNat) (C:=C) w;have hl:z.length=zv.cells.size:=by simpa using Fx.1
 obtain⟨ρ',bM,jy,jD,hE⟩:=QT (w':=w.alloc (.cells zv.cells t)) (o:= .cells zv.cells t) (x0:= .cells z 0) (base:=0) (size:=zv.cells.size) hW none rfl rfl rfl rfl (λρ' n' bM hn=>
   Cz (w':=w.alloc (.cells zv.cells t)) (e:=t) (fr:=(0,0)) (by show(w.heap.push _)[w.heap.size]? =_;simp) (by omega) (by rw[hl,Zg0 (by simp)];exact Fx.mono bM hn) (λi _=>by simp))
 refine⟨_,.pointer (some ⟨w.heap.size,0,none⟩),_,ρ',?_,Yields.value _,bM,jD,?_,hE⟩
 .simp[execOp,ho,Instr.alloc,Ve,newVar,newRow]
 .have:=aG.ptr (ρ:=ρ') (n:=(st.br none none (some (.cells z 0))).next.toNat) (C:=C) st.next 0 (by simp[St.br,Pos.aH]);rw[jy]at this;simpa using this
theorem atw(t:TypeId)(x:Operand):fN P tt (.box t x):=by
 intro ρ C st w k xs cls fr a o vs res ho hc hW hF hx hr;simp only[kD]at hc;split at hc<;>first|(cases hc;done)|skip
 rename_i b hb;cases hc;obtain⟨v,rfl,hv⟩:=lW hb hF hx;simp only[aJ.run,ac8,H5]at hr;subst hr;have Fx:=hv.cells;have hl:v.cells.length=(a.eval x).cells.size:=by simpa using Fx.1
 obtain⟨ρ',bM,jy,jD,hE⟩:=QT (w':=w.alloc (.cells (a.eval x).cells t)) (o:= .cells (a.eval x).cells t) (x0:= .cells v.cells 0) (base:=0) (size:=(a.eval x).cells.size) hW none rfl rfl rfl rfl (λρ' n' bM hn=>
   Cz (w':=w.alloc (.cells (a.eval x).cells t)) (e:=t) (fr:=(0,0)) (by show(w.heap.push _)[w.heap.size]? =_;simp) (by omega) (by rw[hl,Zg0 (by simp)];exact Fx.mono bM hn) (λi _=>by simp))
 refine⟨_,.pointer (some ⟨w.heap.size,0,none⟩),_,ρ',?_,Yields.value _,bM,jD,?_,hE⟩
 .simp[execOp,ho,Instr.box,newVar,newRow]
 .have:=aG.ptr (ρ:=ρ') (n:=(st.br none none (some (.cells v.cells 0))).next.toNat) (C:=C) st.next 0 (by simp[St.br,Pos.aH]);rw[jy]at this;simpa using this
theorem Px{n:Nat}{z:List AV}{zs:List Value}(h:aN ρ n C z zs):∀m,aN ρ n C (cg z m) (cg zs m)
 |0=>aN.nil
 |m+1=>h.append (Px h m)
theorem lY{α:Type}(z:List α):∀m,(cg z m).length=m*z.length
 |0=>by simp[cg]
 |m+1=>by simp[cg,lY z m,Zj6,Zr5]
theorem aa5{α:Type}(z:List α):∀(m i:Nat),i<m*z.length->(cg z m)[i]? =z[i % z.length]?
 |0,i,h=>by simp at h
 |m +1,i,h=>by
  simp only[cg];by_cases hi:i<z.length
  .rw[Zc3 hi,Zk8 hi]
  .have hi:z.length<=i:=(by omega);rw[Zc1 hi,aa5 z m _ (by rw[Zj6]at h;omega)];congr 1;rw[<-Zq4 hi]
theorem ahS(z:Array Value)(m:Nat)(hz:0<z.size):((Array.range (m*z.size)).map (z[· % z.size]!)).toList=cg z.toList m:=by
 apply Zi7;intro i;by_cases hi:i<m*z.size
 .rw[aa5 _ _ _ (by simpa using hi)];have aW:i % z.size<z.size:=Zk6 _ hz;simp[hi,aW]
 .rw[Zc0 (by simp;omega),Zc0 (by rw[lY];simp;omega)]
theorem Oz{ρ':Pos->Loc}{b:Pos}{n g len es bG size:Nat}{cap:Option Nat}(hb:b.toNat<n)(bM:ρ' b=⟨g,0,size⟩)(hl:len<=bG)(hc:∀c,cap=some c->c=bG)(hs:bG*es<=size):
  aG ρ' n C (.slice b 0 len cap es) (.slice (some ⟨g,0,none⟩) len bG):=
 .slice _ _ _ _ _ _ _ hl hc (λ_=>⟨hb,by rw[bM],by rw[bM];simpa using hs⟩) (λ_=>hb)
theorem adi{z:List AV}{zv:Value}{n m size:Nat}(Fx:aN ρ n C z zv.cells.toList)(hl:z.length=size):
   aN ρ n C (cg z m) ((Array.range (m*size)).map ((if m*size=0 then(#[]:Array Value)else zv.cells)[· % (if m*size=0 then(#[]:Array Value)else zv.cells).size]!)).toList/\
   ((Array.range (m*size)).map ((if m*size=0 then(#[]:Array Value)else zv.cells)[· % (if m*size=0 then(#[]:Array Value)else zv.cells).size]!)).size=m*size:=by
 refine⟨?_,by simp⟩;by_cases h0:m*size=0
 .have:cg z m=[]:=(by apply Zc4;rw[lY,hl];exact h0);rw[this];have:(Array.range (m*size))= #[]:=(by rw[h0];rfl);rw[this];simpa using(aN.nil:aN ρ n C [] [])
 . rw[Za7 h0];have hzs:zv.cells.size=size:=(by have:=Fx.1;simp at this;omega);have Xv:0<zv.cells.size:=by
    rw[hzs];rcases Zn3 size with h|h
    .rw[h]at h0;simp at h0
    .exact h
   have:=ahS zv.cells m Xv;rw[hzs]at this ⊢;rw[this];exact Px Fx m
theorem atx{k:IntKind}{i:Int}(h1:loI k<=i)(h2:i<=hiI k):k.wrap i=i:=by
 rw[<-yK];unfold av;split
 . split
   .rfl
   .exact absurd h2 (by assumption)
 .exact absurd h1 (by assumption)
theorem ahT{j:Nat}(h:j<=9223372036854775807):IntKind.i64.wrap (j:Int)=(j:Int):=atx (by simp only[loI];omega) (by simp only[hiI];omega)
theorem ako(hT:dK P tt)(t:TypeId)(l c:Operand):fN P tt (.makeSlice t l c):=by
 intro ρ C st w k xs cls fr a o vs res ho hc hW hF hx hr;simp only[kD]at hc;split at hc<;>first|(cases hc;done)|skip
 rename_i ti l0 fR hl;split at hc<;>first|(cases hc;done)|skip
 rename_i e hk;split at hc<;>first|(cases hc;done)|skip
 rename_i te pF;split at hc<;>first|(cases hc;done)|skip
 rename_i z hz;cases hc;obtain⟨d,hd,dW⟩:=(hT.at fR).und;rw[hk]at dW;rw[ue dW]at hd;obtain⟨i0,tu,vJ,hib,Oy⟩:=(hT.at pF).info;obtain⟨u,v,rfl,h1,h2⟩:=aeH hl hF hx;simp only[aJ.run,Dh]at hr;split at hr<;>first|(cases hr;done)|skip
 rename_i jl jc hjl hjc;split at hr<;>first|(cases hr;done)|skip
 rename_i e1 e2 e3;have e1:=Zb5 e1;have e2:=Zb5 e2;have e3:=Zb5 e3;simp only[H5]at hr;subst hr;obtain⟨kl,dM⟩:=mT h1 hjl;obtain⟨kc,hkc⟩:=mT h2 hjc;obtain⟨zv0,hzv0,_,hzl,_⟩:=Oy z hz;obtain⟨zv,Ve,_,Fx⟩:=Gh hT pF hz (ρ:=ρ) (n:=st.next.toNat) (C:=C) w;obtain⟨Xw,aeI⟩:=adi (m:=jc) Fx hzl;generalize gO:(Array.range (jc*te.size)).map ((if jc*te.size=0 then(#[]:Array Value)else zv.cells)[· % (if jc*te.size=0 then(#[]:Array Value)else zv.cells).size]!)=row at Xw aeI;obtain⟨ρ',bM,jy,jD,hE⟩:=QT (w':=w.alloc (.cells row e)) (o:= .cells row e) (x0:= .cells (cg z jc) 0) (base:=0) (size:=row.size) hW none rfl rfl rfl rfl (λρ' n' bM hn=>
   Cz (w':=w.alloc (.cells row e)) (e:=e) (fr:=(0,0)) (by show(w.heap.push _)[w.heap.size]? =_;simp) (by rw[lY,aeI,hzl];exact Za5 _)
    (by rw[lY,hzl, <-aeI, <-Zj1,Zg1];exact Xw.mono bM hn) (λi _=>by simp))
 refine⟨_,.slice (some ⟨w.heap.size,0,none⟩) jl jc,_,ρ',?_,Yields.value _,bM,jD,?_,hE⟩
 . have dm:=ahT (Zb2 e1 e3);have tC:=ahT e3;have hb:¬((te.bytes:Int)*(jc:Int)>2 ^ 48):=(by have h:=Int.ofNat_le.2 e2;rw[Int.natCast_mul]at h;exact Int.not_lt.2 h);have eu:(Instr.makeSlice t (.int kl jl) (.int kc jc)).run P w= .ok (.slice (some ⟨w.heap.size,0,none⟩) jl jc) (w.alloc (.cells row e)):=by
    unfold Instr.makeSlice;simp only[Sem.run_bind,bD hd,Result.andThen_ok,asInt,asIntOf,Sem.run_pure,ahL tu,dm,tC,hib];have awe:¬((decide ((jc:Int)<0)||decide ((te.bytes:Int)*(jc:Int)>2 ^ 48)||decide ((jl:Int)<0)||decide ((jl:Int)>(jc:Int)))=true):=by
        simp only[Zj7,Ze8];rintro(((h|h)|h)|h)
        .omega
        .exact hb h
        .omega
        .omega
    rw[Za7 awe];simp only[Sem.run_bind,run_askRoom,Result.andThen_ok,mQ tu,vJ,Zd4];rw[<-gO];by_cases h0:jc*te.size=0
    .   simp only[h0,Zh6,Sem.run_bind,Sem.run_pure,Result.andThen_ok,newRow,run_newObj,World.alloc_eq]
    .   simp only[h0,Zg7,Sem.run_bind,Sem.run_pure,Result.andThen_ok,Ve,newRow,run_newObj,World.alloc_eq]
   simp[execOp,ho,dM,hkc,eu]
 .exact Oz (by simp[St.br,Pos.aH]) jy e1 (λc hc=>by cases hc;rfl) (by rw[aeI];exact Za5 _)
theorem aeJ(hT:dK P tt)(t:TypeId)(len:Nat)(ps:Array (Nat×Operand)):fN P tt (.buildSlice t len ps):=by
 intro ρ C st w k xs cls fr a o vs res ho hc hW hF hx hr;simp only[kD]at hc;split at hc<;>first|(cases hc;done)|skip
 rename_i ti l0 fR hl;split at hc<;>first|(cases hc;done)|skip
 rename_i e hk;split at hc<;>first|(cases hc;done)|skip
 rename_i te pF;split at hc<;>first|(cases hc;done)|skip
 rename_i z hz hlim;have hlim:=Zb5 hlim;cases hc;obtain⟨d,hd,dW⟩:=(hT.at fR).und;rw[hk]at dW;rw[ue dW]at hd;obtain⟨i0,tu,vJ,hib,Oy⟩:=(hT.at pF).info;have hv:=iY hl hF hx;simp only[aJ.run,xj]at hr;split at hr<;>first|(cases hr;done)|skip
 rename_i cs Dp;simp only[H5]at hr;subst hr;obtain⟨zv0,hzv0,_,hzl,_⟩:=Oy z hz;obtain⟨zv,Ve,_,Fx⟩:=Gh hT pF hz (ρ:=ρ) (n:=st.next.toNat) (C:=C) w;obtain⟨Xw,aeI⟩:=adi (m:=len) Fx hzl;generalize gO:(Array.range (len*te.size)).map ((if len*te.size=0 then(#[]:Array Value)else zv.cells)[· % (if len*te.size=0 then(#[]:Array Value)else zv.cells).size]!)=row at Xw aeI;have hps:(ps.map λ(i,x)=>(i,a.eval x)).toList=ps.toList.map λx=>(x.1,a.eval x.2):=by simp
 obtain⟨nK,e1,e2⟩:=abZ (λi=>some (i*te.size,te.size)) Dp Xw (ps:=ps.toList.map λx=>(x.1,a.eval x.2)) (by simpa [Zg3,Zk4]using hv) (by simp[Zg3,Zk4]);have hlen:cs.length=nK.size:=by simpa using e2.1
 have awf:∀{pp:List (Nat×Nat)}{vs cells r:List AV},cS cells pp vs=some r->r.length=cells.length:=by
   intro pp;induction pp with
   |nil=>intro vs cells r h;unfold cS at h;split at h<;>first|(cases h;done)|(simp only[H5]at h;subst h;rfl)|(rename_i hh;cases hh)
   |cons p pp ih=>
    intro vs cells r h;unfold cS at h;(split at h<;>first|(cases h;done)|(rename_i hh;cases hh;done)|skip);rename_i hh;simp only[Zf8]at hh;obtain⟨rfl,rfl⟩:=hh;(split at h<;>first|(cases h;done)|skip);rename_i g1 g2;have g1:=Za8 g1;have g2:=Zb5 g2;rw[ih h];simp[bf];omega
 have hcsl:=awf Dp;rw[lY,hzl]at hcsl;obtain⟨ρ',bM,jy,jD,hE⟩:=QT (w':=w.alloc (.cells nK e)) (o:= .cells nK e) (x0:= .cells cs 0) (base:=0) (size:=nK.size) hW none rfl rfl rfl rfl (λρ' n' bM hn=>
   Cz (w':=w.alloc (.cells nK e)) (e:=e) (fr:=(0,0)) (by show(w.heap.push _)[w.heap.size]? =_;simp) (by omega)
    (by rw[hlen, <-Zj1,Zg1];exact e2.mono bM hn) (λi _=>by simp))
 refine⟨_,.slice (some ⟨w.heap.size,0,none⟩) len len,_,ρ',?_,Yields.value _,bM,jD,?_,hE⟩
 . have eu:(Instr.buildSlice t len (ps.map λ(i,x)=>(i,a.eval x))).run P w= .ok (.slice (some ⟨w.heap.size,0,none⟩) len len) (w.alloc (.cells nK e)):=by
    unfold Instr.buildSlice;simp only[Sem.run_bind,bD hd,Result.andThen_ok,mQ tu,vJ];rw[Za7 (by omega)];by_cases h0:len*te.size=0
    .   simp only[h0,Zh6,Sem.run_bind,Sem.run_pure,Result.andThen_ok];simp only[h0,Zh6]at gO;rw[gO,hps,e1];simp only[newRow,Sem.run_bind,run_newObj,World.alloc_eq,Result.andThen_ok,Sem.run_pure]
    .   simp only[h0,Zg7,Sem.run_bind,Sem.run_pure,Result.andThen_ok,Ve];simp only[h0,Zg7]at gO;rw[gO,hps,e1];simp only[newRow,Sem.run_bind,run_newObj,World.alloc_eq,Result.andThen_ok,Sem.run_pure]
   simp only[execOp,ho,Sem.run_bind];rw[eu];rfl
 .exact Oz (by simp[St.br,Pos.aH]) jy (Za5 _) (λc hc=>by cases hc;rfl) (by omega)
theorem an8(t:TypeId)(r:Option Operand)(hT:dK P tt):fN P tt (.makeMap t r):=by
 intro ρ C st w k xs cls fr a o vs res ho hc hW hF hx hr;have key:k= .mkMap/\(execOp a.eval o).run P w= .ok (.value (.map (some w.heap.size))) (w.alloc (.map #[] 0)):=by
  simp only[kD]at hc;split at hc<;>first|(cases hc;done)|skip
  rename_i ti fR;obtain⟨d,hd,dW⟩:=(hT.at fR).und;split at hc<;>first|(cases hc;done)|skip
  .cases hc;exact⟨rfl,by simp[execOp,ho,Instr.makeMap]⟩
  .rename_i hk;rw[hk]at dW;rw[Xo dW]at hd;cases hc;exact⟨rfl,by simp[execOp,ho,Instr.makeMap,bD hd,Act.eval,asInt,asIntOf]⟩
 obtain⟨rfl,eu⟩:=key;simp only[aJ.run,Sr,H5]at hr;subst hr;obtain⟨ρ',bM,jy,jD,hE⟩:=QT (w':=w.alloc (.map #[] 0)) (o:= .map #[] 0) (x0:= .map [] 0) (base:=0) (size:=0) hW none rfl rfl rfl rfl (λρ' n' bM hn=>
  ⟨#[],by show(w.heap.push _)[w.heap.size]? =_;simp,rfl,λi e e' h=>by simp at h⟩)
 refine⟨_,_,_,ρ',eu,Yields.value _,bM,jD,?_,hE⟩;have:=aG.map (ρ:=ρ') (n:=(st.br none none (some (.map [] 0))).next.toNat) (C:=C) st.next (by simp[St.br,Pos.aH]);rw[jy]at this;exact this
end
section
variable{P:Program}{tt:TT}{ρ:Pos->Loc}{C:Cells}{st:St}{w w':World}
theorem SG{n:Nat}:∀{l:List AV}{ys:List Value},aV l=true->aN ρ n C l ys->∀y∈ys,y.oneCell'=true
 |[],ys,_,h=>by have:=h.qQ;subst this;simp
 |v::l,ys,h1,h=>by
  unfold aV at h1;split at h1<;>first|(cases h1;done)|skip
  rename_i ho;obtain⟨y,ys',rfl,hv,hs⟩:=h.cons_inv;intro z hz;simp at hz;rcases hz with rfl|hz
  .cases hv<;>first|rfl|(simp[AV.one]at ho;done)
  .exact SG h1 hs z hz
theorem Lr{α:Type}(l:List α){i:Nat}(vs:List α)(hi:i<=l.length)(k:Nat):(bf l i vs)[k]? =if k<i then l[k]? else if k<i+vs.length then vs[k - i]? else l[k]? :=by
 unfold bf;have hl:(l.take i).length=i:=by simp;omega
 split
 .rename_i h;rw[Zc3 (by omega),Ze1,Zb4 h]
 . rename_i h;rw[Zc1 (by omega),hl];split
   .rename_i h';rw[Zc3 (by omega)]
   .rename_i h';rw[Zc1 (by omega),Ze4];congr 1;omega
theorem aa6{α:Type}(l:List α)(b off:Nat)(vs:List α)(h:b+off<=l.length):(bf l (b+off) vs).drop b=bf (l.drop b) off vs:=by
 apply Zi7;intro k;rw[Ze4,Lr l vs h,Lr (l.drop b) vs (by simp;omega),Ze4];by_cases h1:k<off
 .rw[Zb4 (by omega),Zb4 h1]
 . rw[Za7 (by omega),Za7 h1];by_cases h2:k<off+vs.length
   .rw[Zb4 (by omega),Zb4 h2];congr 1;omega
   .rw[Za7 (by omega),Za7 h2]
theorem akp{α:Type}(l:List α)(off m:Nat)(vs:List α)(h:off+vs.length<=m)(h':m<=l.length):(bf l off vs).take m=bf (l.take m) off vs:=by
 apply Zi7;intro k;rw[Ze1,Lr l vs (by omega),Lr (l.take m) vs (by simp;omega),Ze1];by_cases h1:k<off
 .rw[Zb4 (by omega),Zb4 h1,Zb4 h1,Zb4 (by omega)]
 . by_cases h2:k<off+vs.length
   .rw[Zb4 (by omega),Za7 h1,Zb4 h2,Za7 h1,Zb4 h2]
   .rw[Za7 h1,Za7 h2,Za7 h1,Za7 h2]
theorem SH(hW:cN ρ C st w){b:Pos}{cs vs:List AV}{fz off:Nat}{ys:List Value}(hb:st.heap.get b=some (.cells cs fz))(hle:off+vs.length<=cs.length)(hfz:fz<=off)
   (h1:aV vs=true) (hv:aN ρ st.next.toNat C vs ys):
   ∃w',(storeCells ⟨(ρ b).aT,(ρ b).base+off,none⟩ ys).run P w= .ok () w'/\cN ρ C (st.br none (some (b,.cells (bf cs off vs) fz)) none) w'/\qJ ρ st w ρ (st.br none (some (b,.cells (bf cs off vs) fz)) none) w':=by
 obtain⟨_,_,c,e,fr,g1,g2,g3,g4,g5⟩:=hW.live b _ hb;have hl:vs.length=ys.length:=hv.1;obtain⟨w',e1,e2,e3,e4,e5,e6,e7⟩:=xL (P:=P) (ρ b).aT e fr ys 0 ((ρ b).base+off) c w g1 (by omega) (SG h1 hv) (λk hk pX=>by
   have:=g5 (k - (ρ b).base) (by omega) (by omega)
   rwa [show(ρ b).base+(k - (ρ b).base)=k from by omega]at this)
 simp only[Zg2]at e1 e2;refine⟨w',e1,?_⟩;have hlen:(bf cs off vs).length=cs.length:=by simp[bf];omega
 refine an6 hW hb e5 e6 e7 e3 e4 ⟨_,e,fr,e2,?_,?_,?_,λi hi hi'=>g5 i hi ?_⟩
 .simp[bf];omega
 .rw[hlen];simp[bf];omega
 .rw[hlen];rw[aa6 _ _ _ _ (by simp;omega),akp _ _ _ _ (by omega) (by simp;omega)];exact g4.bf hv off
 .simp[bf]at hi';omega
theorem aG.Gi{n:Nat}:aG ρ n C .undef undef:= .tuple [] #[] rfl (λ_ _ _ h=>by simp at h)
theorem an9(hT:dK P tt)(t:TypeId)(x y:Operand):fN P tt (.store t x y):=by
 intro ρ C st w k xs cls fr a o vs res ho hc hW hF hx hr;simp only[kD]at hc;split at hc<;>first|(cases hc;done)|skip
 rename_i ti l fR hl;cases hc;obtain⟨p,v,rfl,h1,h2⟩:=aeH hl hF hx;obtain⟨i0,tu,vJ,_⟩:=(hT.at fR).info;simp only[aJ.run,Mo]at hr;split at hr<;>first|(cases hr;done)|skip
 rename_i b off;split at hr<;>first|(cases hr;done)|skip
 rename_i cs fz hb;split at hr<;>first|(cases hr;done)|skip
 rename_i e1 e2 e3 e4;have e1:=Za8 e1;have e2:=Zb5 e2;have e3:=Zb5 e3;simp only[H5]at hr;subst hr;obtain⟨_,he⟩:=h1.qR;have hc:=h2.cells;obtain⟨w',eu,jD,hE⟩:=SH (P:=P) hW hb (by omega) e3 e4 hc;refine⟨.skip,undef,w',ρ,?_,.inr ⟨rfl,rfl⟩,λ_ _=>rfl,jD,aG.Gi,hE⟩;have ic:(a.eval y).cells.size=ti.size:=by have:=hc.1;simp at this;omega
 simp[execOp,ho,he,Instr.storeAt,Instr.sureAddr,storeVar,mQ tu,vJ,ic,eu]
theorem run_setObj_map{r:Nat}{es:Array MapEntry}{c:Nat}{o:Obj}{w:World}(h:w.heap[r]? =some (.map es c)):(setObj r o).run P w= .ok () { w with heap:=w.heap.setIfInBounds r o }:=by
 simp[setObj,Sem.run,h]
theorem adj(hW:cN ρ C st w){b:Pos}{es:List (AV×AV×Nat)}{clock:Nat}(hb:st.heap.get b=some (.map es clock)){Vg:List (AV×AV×Nat)}{ama:Array MapEntry}{QU:Nat}
  (hE:Ox ρ st.next.toNat C Vg ama.toList):
  cN ρ C (st.br none (some (b,.map Vg QU)) none) { w with heap:=w.heap.setIfInBounds (ρ b).aT (.map ama QU) }/\qJ ρ st w ρ (st.br none (some (b,.map Vg QU)) none) { w with heap:=w.heap.setIfInBounds (ρ b).aT (.map ama QU) }:=by
 have aW:=(hW.live b _ hb).2.1;refine an6 hW hb rfl rfl rfl (by simp) (λk hk=>by simp[Zj9 (Ne.symm hk)]) ⟨ama,by simp[aW],by simpa using hE.1,λi e e' h1 h2=>hE.2 i e e' h1 (by simpa using h2)⟩
theorem ab0{n:Nat}{pk:PK}{u v:AV}{x y:Value}(h1:aG ρ n C u x)(h2:aG ρ n C v y)(h:yE pk u v=some true)(m:Nat):Instr.sameBits m y x=true:=by
 unfold yE at h;split at h<;>first|(cases h;done)|skip
 .simp only[H5]at h;rw[h1.lC,h2.lC];rename_i p q;have:p=q:=(by simpa using h);subst this;cases m<;>simp[Instr.sameBits]
 . (split at h<;>first|(cases h;done)|skip);rename_i Ot;have:=Cx Ot;subst this;simp only[H5,mR]at h;rw[h1.iU,h2.iU];rename_i p q _;have:p=q:=(by simpa using h);subst this;cases m<;>simp[Instr.sameBits]
 .simp only[H5]at h;obtain⟨bx,rfl,e1⟩:=h1.fM;obtain⟨bz,rfl,e2⟩:=h2.fM;have:bz==bx:=(by rw[beq_toListBytes,QK e2 e1,mS];exact(mS.1 h).symm);cases m<;>simpa [Instr.sameBits]using this
theorem afK{pk:PK}{u:AV}:∀{es:List (AV×AV×Nat)}{i j:Nat}{v:AV},gX pk u es i=some (some (j,v))->∃e,i<=j/\es[j - i]? =some e/\yE pk u e.1=some true
 |[],i,j,v,h=>by simp[gX]at h
 |(k',v',born)::es,i,j,v,h=>by
  unfold gX at h;split at h<;>first|(cases h;done)|skip
  .rename_i hq;simp only[H5,Zd3]at h;obtain⟨rfl,_⟩:=h;exact⟨(k',v',born),Za5 _,by simp,hq⟩
  .obtain⟨e,h1,h2,h3⟩:=afK h;refine⟨e,by omega,?_,h3⟩;rw[show j - i=(j - (i+1))+1 from by omega];simpa using h2
theorem Xx(k v:AV):∀(es:List (AV×AV×Nat))(i j:Nat),(ua k v es i)[j]? =if j=i then(es[i]?).map (λe=>(k,v,e.2.2))else es[j]?
 |[],i,j=>by cases i<;>cases j<;>simp[ua]
 |(a,b,born)::es,0,j=>by cases j<;>simp[ua]
 |e::es,i+1,j=>by
  cases j with
  |zero=>simp[ua]
  |succ j=>simp[ua,Xx k v es i j]
theorem adk (hT:dK P tt)(op:Op)(t:TypeId)(m k0 v0:Operand)(hop:op= .mapUpdate t m k0 v0\/op= .insert t m k0 v0):fN P tt op:=by
 intro ρ C st w k xs cls fr a o vs res ho hc hW hF hx hr;have hc:kD.alW tt t m k0 v0=some (k,xs,cls):=by rcases hop with rfl|rfl<;>simpa only[kD]using hc
 have hex:(execOp a.eval o).run P w=((Instr.mapUpdate t (a.eval m) (a.eval k0) (a.eval v0)).run P w).andThen λ_ w=>.ok .skip w:=by
   rcases hop with rfl|rfl<;>simp[execOp,ho]
 unfold kD.alW at hc;split at hc<;>first|(cases hc;done)|skip
 rename_i ti l fR hl;split at hc<;>first|(cases hc;done)|skip
 rename_i kt et hk;split at hc<;>first|(cases hc;done)|skip
 rename_i tk htk;obtain⟨d,hd,dW⟩:=(hT.at fR).und;rw[hk]at dW;rw[Xo dW]at hd;obtain⟨dk,hdk,Ot⟩:=(hT.at htk).und;have key:∃pk,k= .mapSet pk/\xs=l/\pk.fits dk=true:=by
   split at hc<;>first|(cases hc;done)|skip
   all_goals
     rename_i h1;cases hc;refine⟨_,rfl,rfl,asZ tk.k Ot ?_⟩
   .exact .inr (.inl ⟨⟨_,h1⟩,rfl⟩)
   .exact .inr (.inr ⟨h1,rfl⟩)
   .exact .inl ⟨h1,rfl⟩
 obtain⟨pk,rfl,rfl,Gg⟩:=key;obtain⟨mm,kk,vv,rfl,h1,h2,h3⟩:=evs3 hl hF hx;have hck:∀e w,(Instr.checkKey e 10000 kt (a.eval k0)).run P w= .ok () w:=λe w=>QO hdk Gg e 9999 _ w
 simp only[aJ.run,yF]at hr;split at hr<;>first|(cases hr;done)|skip
 rename_i b;split at hr<;>first|(cases hr;done)|skip
 rename_i es clock hb;obtain⟨_,he⟩:=h1.Cy;obtain⟨_,_,es',eG,hlen,pR⟩:=hW.live _ _ hb;have hE:Ox ρ st.next.toNat C es es'.toList:=⟨by simpa using hlen,λi e e' h1 h2=>pR i e e' h1 (by simpa using h2)⟩
 split at hr<;>first|(cases hr;done)|skip
 . rename_i i v hpk hf;simp only[H5]at hr;subst hr;obtain⟨r',hf',oa⟩:=HG Gg h2 hE hf;rcases oa with⟨e1,_⟩|⟨j',v',y,e1,e2,e3,_,e5⟩
   .cases e1
   . cases  e1;subst e2;obtain⟨e,_,hei,hek⟩:=afK hf;rw[Zr6]at hei;have hi:i<es'.size:=(by omega);have amb:es'[i]? =some es'[i]:=Zh2 hi;have hkey:=(pR i e es'[i] hei amb).1;have hsb:=ab0 h2 hkey hek 10000;have hE2:Ox ρ st.next.toNat C (ua kk vv es i) (es'.modify i λe=>{ e with key:=a.eval k0,val:=a.eval v0 }).toList:=by
        refine⟨?_,λj e e' g1 g2=> ?_⟩
        . have hsl:∀(es:List (AV×AV×Nat))(i:Nat),(ua kk vv es i).length=es.length:=by
            intro es;induction es with
            |nil=>intro i;cases i<;>rfl
            | cons e es ih=>intro i;cases i with
              |zero=>obtain⟨a,b,c⟩:=e;rfl
              |succ i=>simp[ua,ih i]
          rw[hsl];simpa using hlen
        . rw[Xx]at g1;simp only[Zk0,Zl1]at g2;by_cases hji:j=i
          .subst hji;rw[Zb4 rfl,hei]at g1;simp[amb]at g1 g2;subst g1;subst g2;exact⟨h2,h3,(pR j e es'[j] hei amb).2.2⟩
          .rw[Za7 hji]at g1;rw[Za7 (λe=>hji e.symm)]at g2;exact pR j e e' g1 g2
     obtain⟨jD,hE'⟩:=adj hW hb (QU:=clock) hE2;refine⟨.skip,undef,_,ρ,?_,.inr ⟨rfl,rfl⟩,λ_ _=>rfl,jD,aG.Gi,hE'⟩;rw[hex];simp only[Instr.mapUpdate,Sem.run_bind,bD hd,Result.andThen_ok,he,run_getObj_map eG,hck,run_findKey hdk hf',amb,Ze5,Ze6,Instr.keyThatStays,hsb,Zh6,Sem.run_pure,run_setObj_map eG]
 . rename_i hpk hf;simp only[H5]at hr;subst hr;obtain⟨r',hf',oa⟩:=HG Gg h2 hE hf;rcases oa with⟨_,e2⟩|⟨j',v',y,e1,_⟩
   . subst  e2;have hE2:Ox ρ st.next.toNat C (es++[(kk,vv,clock)]) (es'.push { key:=a.eval k0,val:=a.eval v0,born:=clock }).toList:=by
        refine⟨by simp[hlen],λj e e' g1 g2=> ?_⟩;simp only[Array.toList_push]at g2;rcases Zj3 j es.length with hj|hj
        .rw[Zc3 hj]at g1;rw[Zc3 (by simp;omega)]at g2;exact pR j e e' g1 (by simpa using g2)
        .rw[Zc1 hj]at g1;rw[Zc1 (by simp;omega)]at g2;have:j - es.length=0:=(by have:=(Za1.1 g1).1;simp at this;omega);rw[this]at g1;have:j - es'.toList.length=0:=(by simp;omega);rw[this]at g2;simp at g1 g2;subst g1;subst g2;exact⟨h2,h3,rfl⟩
     obtain⟨jD,hE'⟩:=adj hW hb (QU:=clock+1) hE2;refine⟨.skip,undef,_,ρ,?_,.inr ⟨rfl,rfl⟩,λ_ _=>rfl,jD,aG.Gi,hE'⟩;rw[hex];simp only[Instr.mapUpdate,Sem.run_bind,bD hd,Result.andThen_ok,he,run_getObj_map eG,hck,run_findKey hdk hf',run_setObj_map eG]
   .cases e1
end
section
variable{P:Program}{tt:TT}{ρ:Pos->Loc}{C:Cells}{st:St}{w w':World}
theorem cN.of_heap(hW:cN ρ C st w)(h:w'.heap=w.heap):cN ρ C st w' where
 live b x hb:=let⟨h1,h2,h3⟩:=hW.live b x hb;⟨h1,by rw[h];exact h2,h3.of_heap (by rw[h])⟩
 inj:=hW.inj
 eP a v ha:=let⟨h1,h2⟩:=hW.eP a v ha;⟨by unfold World.cell? at h1 ⊢; rw[h];exact h1,h2⟩
 whole a v ha o ho:=by have:=hW.whole a v ha o ho;unfold World.cell? at this ⊢; rw[h];exact this
theorem aa7{es:Nat}:∀{xs:List (List AV)}(_h:∀(i:Nat)(cs:List AV),xs[i]? =some cs->cs.length=es)(q:Nat)(v:AV),
  xs.flatten[q]? =some v->∃cs,xs[q / es]? =some cs/\cs[q % es]? =some v
 |[],_,q,v,hv=>by simp at hv
 |c ::xs,h,q,v,hv=>by
  have hc:c.length=es:=h 0 c rfl;have su:∀(i:Nat)(cs:List AV),xs[i]? =some cs->cs.length=es:=λi cs hi=>h (i+1) cs (by simpa using hi)
  rw[Zf7]at hv;rcases Zj3 q c.length with hq|hq
  . rw[Zc3 hq]at hv;refine⟨c,?_,?_⟩
    .   rw[Nat.div_eq_of_lt (by omega)];rfl
    .   rw[Zk8 (by omega)];exact hv
  . rw[   Zc1 hq]at hv;obtain⟨cs,h1,h2⟩:=aa7 su (q - c.length) v hv;rw[hc]at hq h1 h2;have Xv:0<es:=by
        rcases Zn3 es with h0|h0
        .subst h0;have hl:=su _ _ h1;have:=(Za1.1 h2).1;omega
        .exact h0
    refine⟨cs,?_,?_⟩
    .   rw[Nat.div_eq_sub_div Xv hq];simpa using h1
    .   rw[Zq4 hq];exact h2
theorem aa8{es:Nat}:∀{xs:List (List AV)}(_h:∀(i:Nat)(cs:List AV),xs[i]? =some cs->cs.length=es),xs.flatten.length=xs.length*es
 |[],_=>by simp
 |c::xs,h=>by have hc:c.length=es:=h 0 c rfl;rw[Zf7,Zd9,aa8 (λi cs hi=>h (i+1) cs (by simpa using hi)),hc,Zc7,Zj6];omega
theorem vX(hW:cN ρ C st w){es m:Nat}{u:AV}{x:Value}{new:List AV}{k:Nat}(hu:aG ρ st.next.toNat C u x)(hk:fc u=some k)(hmk:m<=k)(h:dO es m (λb=>st.heap.get b) u=some new)(w2:World)(tC:w2.heap=w.heap):
   ∃ys:List Value,(Builtin.firstCells es m x).run P w2= .ok ys.toArray w2/\aN ρ st.next.toNat C new ys/\(u= .af\/new.length=m*es):=by
 have hW2:=hW.of_heap (w':=w2) tC;unfold dO at h;split at h
 .simp only[H5]at h;subst h;rw[hu.jI];exact⟨[],by simp[Builtin.firstCells],aN.nil,.inl rfl⟩
 . rename_i b off len cap es';simp only[fc,H5]at hk;subst hk;obtain⟨aa,bG,he,hle,_,ha⟩:=hu.gU;rw[he];split at h
   .rename_i h0;have h0:=Za8 h0;simp only[H5]at h;subst h;exact⟨[],by simp[Builtin.firstCells,h0,loadCells,loadCellsFrom],aN.nil,.inr (by simp[h0])⟩
   .rename_i h0;have h0:=Ze9 h0;(split at h<;>first|(cases h;done)|skip);rename_i cs fz hb;have hm:m≠0:=(by intro e;subst e;simp at h0);obtain⟨_,rfl,_⟩:=ha (by omega);obtain⟨ys,h1,h2⟩:=hW2.loadCells (P:=P) hb h;exact⟨ys,by simp only[Builtin.firstCells];exact h1,h2,.inr (SC h)⟩
 . rename_i xs es';simp only[fc,H5]at hk;subst hk;(split at h<;>first|(cases h;done)|skip);rename_i he1 Mx;have he1:=Za8 he1;have Mx:=Zb5 Mx;subst he1;simp only[H5]at h;subst h;obtain⟨aa,bG,cell,he,hle,A4,g1,g2,g3⟩:=hu.yJ;rw[he];have eG:∀(i:Nat)(cs:List AV),(xs.take m)[i]? =some cs->cs.length=es:=λi cs hi=>by
     rw[Ze1]at hi;split at hi
     .exact g1 i cs hi
     .cases hi
   have hfl:=aa8 eG;rw[Zf1,Zj5 Mx]at hfl;have as2:∀q v,(xs.take m).flatten[q]? =some v->∃cs,xs[q / es]? =some cs/\cs[q % es]? =some v:=λq v hv=>by
     obtain⟨cs,h1,h2⟩:=aa7 eG q v hv;rw[Ze1]at h1;split at h1
     .exact⟨cs,h1,h2⟩
     .cases h1
   refine⟨(List.range (m*es)).map λq=>cell (q / es) (q % es),?_,⟨by simp[hfl],λq v y hv hy=> ?_⟩,.inr hfl⟩
   .simp only[Builtin.firstCells];(refine run_loadCells w2 _ _ _ λq hq=> ?_);have aW:q<(xs.take m).flatten.length:=(by rw[hfl];exact hq);obtain⟨cs,h1,h2⟩:=as2 q _ (H0 aW);have A4:=A4 (by intro e;rw[e]at h1;simp at h1);obtain⟨ab,ao,asp⟩:=aa;simp only at A4;subst A4;have:=(hW2.eP _ _ (g2 _ _ _ _ h1 h2)).1;rw[uN];simp only at this;rw[show ao+q=ao+q / es*es+q % es from by rw[Zk3,Nat.mul_comm,Nat.div_add_mod]];exact this
   .obtain⟨cs,h1,h2⟩:=as2 q v hv;have hq:q<m*es:=(by rw[<-hfl];exact(Za1.1 hv).1);simp[hq]at hy;subst hy;exact g3 _ _ _ _ h1 h2
 . rename_i s;simp only[fc,H5]at hk;subst hk;(split at h<;>first|(cases h;done)|skip);rename_i he1 Mx;have he1:=Za8 he1;have Mx:=Zb5 Mx;subst he1;simp only[H5]at h;subst h;obtain⟨bs,rfl,hs⟩:=hu.fM;refine⟨(s.take m).map λ(c:Nat)=>Value.int .u8 (.ofNat c),?_,⟨by simp,λq v y hv hy=> ?_⟩,.inr (by simp;omega)⟩
   .simp only[Builtin.firstCells,Sem.run_pure];congr 1;apply Zm4;simp only[Array.toList_map,ByteArray.data_extract,Zp6,List.extract,Ze3,Zr6];rw[<-hs, <-Zr1,Zg3];rfl
   .simp only[Zb3,Zf5]at hv hy;obtain⟨c,hc,rfl⟩:=hv;obtain⟨c',hc',rfl⟩:=hy;rw[hc]at hc';cases hc';exact .int _ _
 .cases h
theorem ahU{n:Nat}{u:AV}{x:Value}{k:Nat}(hu:aG ρ n C u x)(hk:fc u=some k):(Builtin.lenOf x).run P w= .ok k w:=by
 unfold fc at hk;split at hk<;>first|(cases hk;done)|skip
 all_goals simp only[H5]at hk;subst hk
 .rw[hu.jI];rfl
 .obtain⟨_,_,he,_⟩:=hu.gU;rw[he];rfl
 .obtain⟨_,_,_,he,_⟩:=hu.yJ;rw[he];rfl
 .obtain⟨bs,rfl,hs⟩:=hu.fM;rw[<-Mt hs];rfl
theorem afL(nl:Nat):∀(r c:Nat),c<=nl+(nl+768) / 4->Builtin.growBy nl r c<=nl+(nl+768) / 4
 |0,c,h=>h
 |r+1,c,h=>by
  unfold Builtin.growBy;split
  .exact h
  .exact afL nl r _ (by omega)
theorem nextslicecap_le{amc gR:Nat}(h:gR<amc):Builtin.nextslicecap amc gR<=2*amc+768:=by
 unfold Builtin.nextslicecap;split
 .omega
 . split
   .omega
   .have:=afL amc 4 gR (by omega);omega
theorem amd(hT:dK P tt){t t2 e:Nat}{ts:Array TypeId}{ti t2i te:TI}(fR:tt.get (key t)=some ti)(ht2:tt.get (key t2)=some t2i)(hk:ti.k= .slice e)(ux:∀k,t2i.k≠ .int k)
  (pF:tt.get (key e)=some te) (h0:ts[0]? =some t) (h1:ts[1]? =some t2) (ty:TypeId) (base:Option Addr) (n cap m:Nat) (x:Value) (w:World)
  (hx:(Builtin.lenOf x).run P w= .ok m w) (hb:(2*(n+m)+768)*te.bytes<=281474976710656) (hi:n+m<=9223372036854775807):
  (Builtin.append_ ts ty #[.slice base n cap,x]).run P w=
    if n+m<=cap then((Builtin.firstCells te.size m x).run P w).andThen λnew w=>((match base with|some a=>storeCells (a.add (n*te.size)) new.toList|none=>pure ()).run P w).andThen λ_ w=>.ok (.slice base (n+m) cap) w
    else((Builtin.firstCells te.size n (.slice base n cap)).run P w.drew).andThen λgR w1=>((Builtin.firstCells te.size m x).run P w1).andThen λnew w2=>((zeroValue e).run P w2).andThen λz w3=>
        .ok (.slice (some ⟨w3.heap.size,0,none⟩) (n+m) (grownCap w (n+m) cap e)) (w3.alloc (.cells (gR++new++Builtin.zeroCells z.cells (grownCap w (n+m) cap e - (n+m))) e)):=by
 obtain⟨d,hd,dW⟩:=(hT.at fR).und;rw[hk]at dW;rw[ue dW]at hd;obtain⟨d2,hd2,aqB⟩:=(hT.at ht2).und;obtain⟨i0,tu,vJ,hib,_⟩:=(hT.at pF).info;have awg:∀k,d2≠ .int k:=by
  rintro k rfl;cases Ot:t2i.k<;>rw[Ot]at aqB<;>first|(simp[cL]at aqB;done)|exact absurd Ot (ux _)
 have hmax:¬(((n+m:Nat):Int)>IntKind.i64.max):=by
  have:IntKind.i64.max=9223372036854775807:=by decide
  rw[this];omega
 have awh:¬(n+m<=cap)->¬(Builtin.nextslicecap (n+m) cap*te.bytes>2 ^ 48):=λhc=>by
  have h1:=nextslicecap_le (Nat.lt_of_not_le hc);have h2:=Zh5 te.bytes h1;have:(2:Nat) ^ 48=281474976710656:=by decide
  omega
 have abY:∀q,(Question.appendCap (n+m) cap e).forced=q->q=false:=by rintro q rfl;rfl
 clear aqB;cases d2<;>first|(exact absurd rfl (awg _))|skip
 all_goals
  unfold Builtin.append_;simp only[h0,h1,List.getElem?_toArray,Za4,Zb6,Sem.run_bind,bD hd,Result.andThen_ok,mQ tu,vJ,bD hd2,Sem.run_pure,hx,Ze7,Zg7,Zk9,Zh6,Sem.run_ite];by_cases hc:n+m<=cap
  .rw[Zb4 hc,Zb4 hc];cases base<;>simp only[Sem.run_bind,Sem.run_pure,Result.andThen_ok]
  .rw[Za7 hc,Za7 hc];simp only[Sem.run_bind,ahL tu,hib,Result.andThen_ok,hmax,false_and,Zg7,awh hc,run_choose,Question.forced,Ze7,World.drew_eq,run_askRoom,Sem.run_pure,newRow,run_newObj,World.alloc_eq];rfl
end
section
variable{P:Program}{tt:TT}{ρ:Pos->Loc}{C:Cells}{st:St}{w w':World}
theorem aqC{L:Loc}{cs:List AV}{n:Nat}(fz:Nat)(h:ud ρ n C L w' (.cells cs 0)):ud ρ n C L w' (.cells cs fz):=
 let⟨c,e,fr,h1,h2,h3,h4,h5⟩:=h
 ⟨c,e,fr,h1,h2,h3,h4,λi _ hi=>h5 i (Zi6 _) hi⟩
theorem ame(hW:cN ρ C st w)(del:Option Pos)(fz:Nat){gR new rest:List Value}{ol nl:List AV}{e:TypeId}{n m es bG:Nat}(h1:aN ρ st.next.toNat C ol gR)(h2:aN ρ st.next.toNat C nl new)
  (OA:ol.length=n*es) (hln:nl.length=m*es) (hr:rest.length=(bG - (n+m))*es) (hc:n+m<=bG) {w2:World} (tC:w2=w.drew.alloc (.cells (gR++new++rest).toArray e)):
  ∃ρ':Pos->Loc,(∀b:Pos,b.toNat<st.next.toNat->ρ' b=ρ b)/\cN ρ' C (st.br del none (some (.cells (ol++nl) fz))) w2/\qJ ρ st w ρ' (st.br del none (some (.cells (ol++nl) fz))) w2/\
   aG ρ' (st.br del none (some (.cells (ol++nl) fz))).next.toNat C (.slice st.next 0 (n+m) none es) (.slice (some ⟨w.heap.size,0,none⟩) (n+m) bG):=by
 subst tC;have hl1:gR.length=n*es:=by rw[<-h1.1,OA]
 have vH:new.length=m*es:=by rw[<-h2.1,hln]
 have ic:(gR++new++rest).length=bG*es:=by simp only[Zd9,hl1,vH,hr];rw[<-Zj6, <-Zj6];congr 1;omega
 obtain ⟨ρ',bM,jy,jD,hE⟩:=QT (w':=w.drew.alloc (.cells (gR++new++rest).toArray e)) (o:= .cells (gR++new++rest).toArray e) (x0:= .cells (ol++nl) fz) (base:=0) (size:=(gR++new++rest).toArray.size) hW del rfl rfl rfl rfl (λρ' n' bM hn=>
  aqC   fz <| Cz (e:=e) (fr:=(0,0)) (by show(w.heap.push _)[w.heap.size]? =_;simp) (by simp[OA,hln,hl1,vH])
   (by
        have:(gR++new++rest).toArray.toList.take (ol++nl).length=gR++new:=by
         rw[Zs0 (by simp[OA,hln,hl1,vH])]
        rw[this];exact(h1.append h2).mono bM hn) (λi _=>by simp))
 refine⟨ρ',bM,jD,hE,Oz (by simp[St.br,Pos.aH]) jy hc (λc hc=>by cases hc) (by simp only[Zn9,ic];exact Za5 _)⟩
theorem agK(z:Array Value)(m:Nat):(Builtin.zeroCells z m).toList.length=m*z.size:=by simp[Builtin.zeroCells]
theorem aqD{m:Nat}(h:Nat.beq m 0=false):m≠0:=Ze9 h
theorem amf (hT:dK P tt){t t2 e:Nat}{ts:Array TypeId}{ti t2i te:TI}{z:List AV}(fR:tt.get (key t)=some ti)(ht2:tt.get (key t2)=some t2i)(hk:ti.k= .slice e)(ux:∀k,t2i.k≠ .int k)
   (pF:tt.get (key e)=some te) (hz:te.zero=some z) (h0:ts[0]? =some t) (h1:ts[1]? =some t2) (ty:TypeId) {s u:AV} {xs xu:Value} {res:eZ} (hW:cN ρ C st w)
   (hs:aG ρ st.next.toNat C s xs) (hu:aG ρ st.next.toNat C u xu) (hr:lV (λb=>st.heap.get b) st.next te.size te.bytes [s,u]=some res):
   Hv P ρ C st w (((Builtin.append_ ts ty #[xs,xu]).run P w).andThen λv w=>.ok (.value v) w) res:=by
 simp only[lV]at hr;split at hr<;>first|(cases hr;done)|skip
 rename_i n m hn hm;split at hr<;>first|(cases hr;done)|skip
 rename_i b1 b2;have b1:=Zb5 b1;have b2:=Zb5 b2;have hlen:=ahU (P:=P) (w:=w) hu hm;obtain⟨i0,tu,vJ,_,Oy⟩:=(hT.at pF).info;obtain⟨zv0,hzv0,_,hzl,_⟩:=Oy z hz;have hzr:=λw=>Gh hT pF hz (ρ:=ρ) (n:=st.next.toNat) (C:=C) w
 have hsl:∃base bG,xs= .slice base n bG/\n<=bG:=by
   unfold fc at hn;split at hn<;>first|(cases hn;done)|skip
   .cases hn;exact⟨none,0,hs.jI,Za5 _⟩
   .cases hn;obtain⟨a,c,he,hle,_⟩:=hs.gU;exact⟨_,c,he,hle⟩
   .cases hn;obtain⟨a,c,_,he,hle,_⟩:=hs.yJ;exact⟨_,c,he,hle⟩
   .rename_i s';exfalso;cases hbm:Nat.beq m 0<;>simp[hbm]at hr
 obtain⟨base,bG,su,hle⟩:=hsl;have eu:=amd hT fR ht2 hk ux pF h0 h1 ty base n bG m xu w hlen b1 b2;rw[su,eu];have hg:∀c,n+m<=grownCap w (n+m) c e:=λc=>by unfold grownCap Question.cut;exact Nat.le_add_right _ _
 have ahV:∀(del:Option Pos)(fz:Nat)(ol nl:List AV),¬(n+m<=bG)->dO te.size n (λb=>st.heap.get b) s=some ol->dO te.size m (λb=>st.heap.get b) u=some nl->ol.length=n*te.size->nl.length=m*te.size->
     Hv P ρ C st w ((if n+m<=bG then((Builtin.firstCells te.size m xu).run P w).andThen λnew w=>((match base with|some a=>storeCells (a.add (n*te.size)) new.toList|none=>pure ()).run P w).andThen λ_ w=>.ok (.slice base (n+m) bG) w
     else((Builtin.firstCells te.size n (.slice base n bG)).run P w.drew).andThen λgR w1=>((Builtin.firstCells te.size m xu).run P w1).andThen λnew w2=>((zeroValue e).run P w2).andThen λz w3=>
        .ok (.slice (some ⟨w3.heap.size,0,none⟩) (n+m) (grownCap w (n+m) bG e)) (w3.alloc (.cells (gR++new++Builtin.zeroCells z.cells (grownCap w (n+m) bG e - (n+m))) e))).andThen λv w=>.ok (.value v) w)
        (.br (.slice st.next 0 (n+m) none te.size) del none (some (.cells (ol++nl) fz))):=by
   intro del fz ol nl hc ho tD OA hln;obtain⟨gR,e1,e2,_⟩:=vX (P:=P) hW hs hn (Za5 _) ho w.drew rfl;obtain⟨new,e3,e4,_⟩:=vX (P:=P) hW hu hm (Za5 _) tD w.drew rfl;obtain⟨zv,Ve,_,Fx⟩:=hzr w.drew;rw[su]at e1;have aho:(Builtin.zeroCells zv.cells (grownCap w (n+m) bG e - (n+m))).toList.length=(grownCap w (n+m) bG e - (n+m))*te.size:=(by rw[agK];congr 1;have:=Fx.1;simp at this;omega);obtain⟨ρ',bM,jD,hE,hv⟩:=ame hW del fz e2 e4 OA hln aho (hg bG) (e:=e) rfl;refine⟨_,_,_,ρ',?_,Yields.value _,bM,jD,hv,hE⟩;rw[Za7 hc];simp only[e1,e3,Ve,Result.andThen_ok,World.size_drew];congr 2;simp
 have hlu:∀nl,dO te.size m (λb=>st.heap.get b) u=some nl->m≠0->nl.length=m*te.size:=by
   intro nl tD hm0;obtain⟨_,_,_,h⟩:=vX (P:=P) hW hu hm (Za5 _) tD w rfl;rcases h with rfl|h
   .simp[fc]at hm;omega
   .exact h
 have hls:∀ol,dO te.size n (λb=>st.heap.get b) s=some ol->ol.length=n*te.size:=by
   intro ol HN;obtain⟨ys,_,zY,h⟩:=vX (P:=P) hW hs hn (Za5 _) HN w rfl;rcases h with rfl|h
   .simp[fc]at hn;subst hn;simp[dO]at HN;subst HN;simp
   .exact h
 have hzero:m=0->aG ρ st.next.toNat C s xs->Hv P ρ C st w ((if n+m<=bG then((Builtin.firstCells te.size m xu).run P w).andThen λnew w=>((match base with|some a=>storeCells (a.add (n*te.size)) new.toList|none=>pure ()).run P w).andThen λ_ w=>.ok (.slice base (n+m) bG) w
     else((Builtin.firstCells te.size n (.slice base n bG)).run P w.drew).andThen λgR w1=>((Builtin.firstCells te.size m xu).run P w1).andThen λnew w2=>((zeroValue e).run P w2).andThen λz w3=>
        .ok (.slice (some ⟨w3.heap.size,0,none⟩) (n+m) (grownCap w (n+m) bG e)) (w3.alloc (.cells (gR++new++Builtin.zeroCells z.cells (grownCap w (n+m) bG e - (n+m))) e))).andThen λv w=>.ok (.value v) w) (.val s):=by
   rintro rfl hsx;have hf:(Builtin.firstCells te.size 0 xu).run P w= .ok #[] w:=by
     unfold fc at hm;split at hm<;>first|(cases hm;done)|skip
     .  rw[hu.jI];simp[Builtin.firstCells]
     .  obtain⟨_,_,he,_⟩:=hu.gU;rw[he];simp[Builtin.firstCells,loadCells,loadCellsFrom]
     .  obtain⟨_,_,_,he,_⟩:=hu.yJ;rw[he];simp[Builtin.firstCells,loadCells,loadCellsFrom]
     .  obtain⟨bs,rfl,_⟩:=hu.fM;simp only[Builtin.firstCells,Sem.run_pure];congr 1;apply Zm4;simp
   rw[su]at hsx;refine .pure (x:= .slice base n bG) ?_ hsx;rw[Zb4 (by omega),hf];cases base<;>simp[storeCells]
 split at hr<;>first|(cases hr;done)|skip
 .rename_i Dq;simp only[H5]at hr;subst hr;exact hzero (Za8 Dq) hs
 .rename_i Dq;simp only[H5]at hr;subst hr;exact hzero (Za8 Dq) hs
 .rename_i Dq;simp only[H5]at hr;subst hr;exact hzero (Za8 Dq) hs
 ·
   rename_i Dq;have Dq:=aqD Dq;(split at hr<;>first|(cases hr;done)|skip);rename_i new tD;simp only[H5]at hr;subst hr;have he:=hs.jI;rw[he]at su;simp only[Value.slice.injEq]at su;obtain⟨rfl,rfl,rfl⟩:=su;have:=ahV none 0 [] new (by omega) rfl tD (by simp) (hlu new tD Dq);simpa using this
 ·
   rename_i b off n' c es' Dq;have Dq:=aqD Dq;simp only[fc,H5]at hn;subst hn;obtain⟨aa,cc,he,hlec,hcc,ha⟩:=hs.gU;rw[he]at su;simp only[Value.slice.injEq]at su;obtain⟨rfl,_,rfl⟩:=su;have:=hcc c rfl;subst this;split at hr
   . rename_i yL;have yL:=Zb5 yL;(split at hr<;>first|(cases hr;done)|skip);rename_i cs fz new hb tD;(split at hr<;>first|(cases hr;done)|skip);rename_i c1 c2 c3;have c1:=Zb5 c1;simp only[Zb7]at c2;have c2a:=Zb5 c2.1;have c2b:=Za8 c2.2;subst c2b;simp only[H5]at hr;subst hr;obtain⟨aW,rfl,hbound⟩:=ha (by omega);obtain⟨ys,e1,e2,_⟩:=vX (P:=P) hW hu hm (Za5 _) tD w rfl;have SK:=hlu new tD Dq;obtain⟨w2,e3,jD,hE⟩:=SH (P:=P) hW hb (by rw[SK];rw[Zj6]at c1;omega) c2a c3 e2;refine⟨_,.slice (some ⟨(ρ b).aT,(ρ b).base+off,none⟩) (n'+m) c,w2,ρ,?_,Yields.value _,λ_ _=>rfl,jD,?_,hE⟩
     .  rw[Zb4 yL,e1];simp only[Result.andThen_ok,uN];rw[Zk3,e3];rfl
     .  exact .slice _ _ _ _ _ _ _ yL (λc hc=>by cases hc;rfl) (λ_=>⟨aW,rfl,hbound⟩) (λh=>by cases h)
   . rename_i yL;have yL:¬(n'+m<=c):=λh=>by rw[Nat.ble_eq_true_of_le h]at yL;cases yL
     (split at hr<;>first|(cases hr;done)|skip);rename_i gR new HN tD;simp only[H5]at hr;subst hr;exact ahV none 0 gR new yL HN tD (hls gR HN) (hlu new tD Dq)
 ·
   rename_i b off n' es' Dq;have Dq:=aqD Dq;simp only[fc,H5]at hn;subst hn;(split at hr<;>first|(cases hr;done)|skip);rename_i cs fz gR new hb HN tD;(split at hr<;>first|(cases hr;done)|skip);rename_i c2 c3;simp only[Zb7]at c2;have c2a:=Zb5 c2.1;have c2b:=Za8 c2.2;subst c2b;simp only[H5]at hr;subst hr;by_cases yL:n'+m<=bG
   ·
     obtain ⟨aa,cc,he,hlec,hcc,ha⟩:=hs.gU;rw[he]at su;simp only[Value.slice.injEq]at su;obtain⟨rfl,_,rfl⟩:=su;obtain⟨aW,rfl,hbound⟩:=ha (by omega);obtain⟨ys,e1,e2,_⟩:=vX (P:=P) hW hu hm (Za5 _) tD w rfl;have SK:=hlu new tD Dq;have as3:=hls gR HN;obtain⟨z8,HF,c,ce,fr,g1,g2,g3,g4,g5⟩:=hW.live b _ hb;have hmul:(n'+m)*te.size<=cc*te.size:=Zh5 _ yL;have hmul2:(n'+m)*te.size=n'*te.size+m*te.size:=Zj6 _ _ _;have hyl:ys.length=m*te.size:=(by rw[<-e2.1,SK]);have hold:aN ρ st.next.toNat C gR ((c.toList.drop ((ρ b).base+off)).take (n'*te.size)):=by
        simp only[dO]at HN;split at HN
        .rename_i hz0;have hz0:=Za8 hz0;simp only[H5]at HN;subst HN;rw[hz0];simpa using(aN.nil:aN ρ st.next.toNat C [] [])
        . rw[hb]at HN;simp only at HN;obtain⟨ho1,My⟩:=ade HN;have h:=(g4.drop off).take (n'*te.size);rw[<-ho1]at h;have:List.take (n'*te.size) (List.drop off (List.take cs.length (List.drop (ρ b).base c.toList)))=(c.toList.drop ((ρ b).base+off)).take (n'*te.size):=by
            rw[Zn8,List.take_take,Zl0,Zj5 (by omega)]
          rw[this]at h;exact h
     obtain⟨w2,s1,s2,s3,s4,s5,s6,s7⟩:=xL (P:=P) (ρ b).aT ce fr ys 0 ((ρ b).base+off+n'*te.size) c w g1 (by omega) (SG c3 e2) (λk hk pX=>by
        have:=g5 (k - (ρ b).base) (by omega) (by omega)
        rwa [show(ρ b).base+(k - (ρ b).base)=k from by omega]at this)
     simp only[Zg2]at s1 s2
     let ρ':Pos->Loc:=λq=>if q=st.next then⟨(ρ b).aT,(ρ b).base+off,(ρ b).size⟩else ρ q
     have bM:∀q:Pos,q.toNat<st.next.toNat->ρ' q=ρ q:=λq hq=>Za7 (λe=>by rw[e]at hq;omega)
     have jy:ρ' st.next=⟨(ρ b).aT,(ρ b).base+off,(ρ b).size⟩:=Zb4 rfl;have hcl:c.toList.length=c.size:=(by simp);have hWn:cN ρ' C (st.br (some b) none (some (.cells (gR++new) (fz - off)))) w2:=by
        refine hW.alZ (b0:=st.next) (x0:= .cells (gR++new) (fz - off)) (by rw[Pos.aH];omega) (by rw[Pos.aH];omega) (by rw[T.gQ]) ?_ bM ?_ ?_ (by rw[jy,s3];exact HF) (by omega) (λk hk pX=>s4 k (by rw[jy]at pX;exact pX))
        .intro q x hq hx;rw[T.cJ _ (λe=>hq e.symm)]at hx;obtain⟨h1,h2⟩:=SE (some b) _ hx;refine⟨h1,?_⟩;rw[jy];exact λe=>h2 b rfl (hW.inj _ _ _ _ h1 hb e)
        . rw[jy];refine⟨_,ce,fr,s2,by simp[bf];omega,by simp[bf,as3,SK];omega,?_,λi tu hi=> ?_⟩
          . (simp only;rw[aa6 _ _ _ _ (by omega)];have htk:(bf (c.toList.drop ((ρ b).base+off)) (n'*te.size) ys).take (gR++new).length=(c.toList.drop ((ρ b).base+off)).take (n'*te.size)++ys:=by unfold bf;rw[<-Zf0,Zs0];simp[as3,SK,hyl];omega);rw[htk];exact(hold.append e2).mono bM (by rw[Pos.aH];omega)
          . have hi':(ρ b).base+off+i<c.size:=(by simp only[Zn9]at hi;have:(bf c.toList ((ρ b).base+off+n'*te.size) ys).length=c.size:=(by simp[bf];omega);omega);have:=g5 (off+i) (by omega) (by omega);simp only
            rwa [<-Zk3]at this
        .intro ad v hv;rw[jy];exact λe=>(hW.eP ad v hv).2 b _ hb e.symm
     refine⟨_,(.slice (some ⟨(ρ b).aT,(ρ b).base+off,none⟩) (n'+m) cc),w2,ρ',?_,Yields.value _,bM,hWn,?_,⟨s5,s6,s7,by omega,λk _ hk=>s4 k (λe=>hk b _ hb e.symm),λq x hx=> ?_⟩⟩;rotate_left;rotate_left
     .  left;by_cases hq:q=st.next
        .exact⟨b,_,hb,by rw[hq,jy]⟩
        .simp only[St.br,Pv]at hx;rw[T.cJ _ (λe=>hq e.symm)]at hx;obtain⟨h1,_⟩:=SE (some b) _ hx;exact⟨q,x,h1,by rw[bM q (hW.live q x h1).1]⟩
     .  rw[Zb4 yL,e1];simp only[Result.andThen_ok,uN];rw[s1];rfl
     .  refine .slice _ _ _ _ _ _ _ yL (λc hc=>by cases hc) (λ_=>⟨by simp[St.br,Pos.aH],by rw[jy];rfl,?_⟩) (λ_=>by simp[St.br,Pos.aH]);rw[jy];simp only;omega
   .exact ahV (some b) _ gR new yL HN tD (hls gR HN) (hlu new tD Dq)
end
section
variable{P:Program}{tt:TT}{ρ:Pos->Loc}{C:Cells}{st:St}{w w':World}
theorem adl{n:Nat}{xs:Array Value}{u v:AV}(h:aN ρ n C [u,v] xs.toList):∃x y,xs= #[x,y]/\aG ρ n C u x/\aG ρ n C v y:=by
 obtain⟨x,l,h1,h2,h3⟩:=h.cons_inv;obtain⟨y,l',h4,h5,h6⟩:=h3.cons_inv;have:=h6.qQ;subst this;exact⟨x,y,by apply Zm4;rw[h1,h4],h2,h5⟩
theorem aoa{n:Nat}{xs:Array Value}{u:AV}(h:aN ρ n C [u] xs.toList):∃x,xs= #[x]/\aG ρ n C u x:=by
 obtain⟨x,l,h1,h2,h3⟩:=h.cons_inv;have:=h3.qQ;subst this;exact⟨x,by apply Zm4;rw[h1],h2⟩
theorem amg{ts:Array TypeId}{t:TypeId}{l:List TypeId}(h:ts.toList=t::l):ts[0]? =some t:=by rw[<-Zk0,h];rfl
theorem arr1{ts:Array TypeId}{t t2:TypeId}{l:List TypeId}(h:ts.toList=t::t2::l):ts[1]? =some t2:=by rw[<-Zk0,h];rfl
theorem aqE(hT:dK P tt){t e:Nat}{ts:Array TypeId}{ti te:TI}(fR:tt.get (key t)=some ti)(hk:ti.k= .slice e)
   (pF:tt.get (key e)=some te) (h0:ts[0]? =some t) (ty:TypeId) {d u:AV} {xd xu:Value} {res:eZ} (hW:cN ρ C st w)
   (hd:aG ρ st.next.toNat C d xd) (hu:aG ρ st.next.toNat C u xu) (hr:pP (λb=>st.heap.get b) st.next te.size [d,u]=some res):
   Hv P ρ C st w (((Builtin.copy_ ts ty #[xd,xu]).run P w).andThen λv w=>.ok (.value v) w) res:=by
 obtain⟨dd,hdd,dW⟩:=(hT.at fR).und;rw[hk]at dW;rw[ue dW]at hdd;obtain⟨i0,tu,vJ,_⟩:=(hT.at pF).info;simp only[pP]at hr;split at hr<;>first|(cases hr;done)|skip
 rename_i n m hn hm;have hlen:=ahU (P:=P) (w:=w) hu hm;have hsl:(∃s,d= .str s)\/∃base bG,xd= .slice base n bG/\n<=bG:=by
   unfold fc at hn;split at hn<;>first|(cases hn;done)|skip
   .cases hn;exact .inr ⟨none,0,hd.jI,Za5 _⟩
   .cases hn;obtain⟨a,c,he,hle,_⟩:=hd.gU;exact .inr ⟨_,c,he,hle⟩
   .cases hn;obtain⟨a,c,_,he,hle,_⟩:=hd.yJ;exact .inr ⟨_,c,he,hle⟩
   .exact .inl ⟨_,rfl⟩
 have avm:m=0\/n=0->(Builtin.firstCells te.size 0 xu).run P w= .ok #[] w:=by
   intro _;unfold fc at hm;split at hm<;>first|(cases hm;done)|skip
   .rw[hu.jI];simp[Builtin.firstCells]
   .obtain⟨_,_,he,_⟩:=hu.gU;rw[he];simp[Builtin.firstCells,loadCells,loadCellsFrom]
   .obtain⟨_,_,_,he,_⟩:=hu.yJ;rw[he];simp[Builtin.firstCells,loadCells,loadCellsFrom]
   .obtain⟨bs,rfl,_⟩:=hu.fM;simp only[Builtin.firstCells,Sem.run_pure];congr 1;apply Zm4;simp
 have vI:∀base bG,xd= .slice base n bG->(Builtin.copy_ ts ty #[xd,xu]).run P w=((Builtin.firstCells te.size (Nat.min m n) xu).run P w).andThen λcells w=>((match base with|some a=>storeCells a cells.toList|none=>pure ()).run P w).andThen λ_ w=>.ok (goInt (Nat.min m n)) w:=by
   intro base bG he;unfold Builtin.copy_;simp only[h0,he,List.getElem?_toArray,Za4,Zb6,Sem.run_bind,bD hdd,Result.andThen_ok,mQ tu,vJ,hlen];cases base<;>simp only[Sem.run_bind,Sem.run_pure,Result.andThen_ok]
 split at hr
 . rename_i tE;have tE:=Za8 tE;(split at hr<;>first|(cases hr;done)|skip);rename_i hns;simp only[H5]at hr;subst hr;rcases hsl with⟨s,rfl⟩|⟨base,bG,he,hle⟩
   .exact absurd rfl (hns s)
   .have hk0':Nat.min m n=0:=tE;refine .pure (x:=goInt 0) ?_ (.int _ _);rw[vI base bG he,hk0',avm (by have:min m n=0:=tE;omega)];cases base<;>simp[storeCells]
 . rename_i tE;have tE:=Ze9 tE;(split at hr<;>first|(cases hr;done)|skip);rename_i b off n' cap es';(split at hr<;>first|(cases hr;done)|skip);rename_i cs fz new hb tD;(split at hr<;>first|(cases hr;done)|skip);rename_i c1 c2 c3;have c1:=Zb5 c1;have c2:=Zb5 c2;simp only[H5]at hr;subst hr;simp only[fc,H5]at hn;subst hn;obtain⟨aa,bG,he,hle,_,ha⟩:=hd.gU;have amh:min m n'<=m/\min m n'<=n':=⟨Nat.min_le_left _ _,Nat.min_le_right _ _⟩
   obtain⟨aW,rfl,_⟩:=ha (by omega);obtain⟨ys,e1,e2,e3⟩:=vX (P:=P) hW hu hm amh.1 tD w rfl;have SK:new.length=min m n'*te.size:=by
     rcases e3 with rfl|e3
     .simp[fc]at hm;omega
     .exact e3
   obtain⟨w2,f1,jD,hE⟩:=SH (P:=P) hW hb (by rw[SK];exact c1) c2 c3 e2;refine⟨_,goInt ((min m n':Nat):Int),w2,ρ,?_,Yields.value _,λ_ _=>rfl,jD,.int _ _,hE⟩;rw[vI _ _ he];have hmm:Nat.min m n'=min m n':=rfl;rw[hmm,e1];simp only[Result.andThen_ok];rw[f1];rfl
theorem aty(hT:dK P tt){t:Nat}{ts:Array TypeId}{ti:TI}(fR:tt.get (key t)=some ti){k:LK}(hk:(k= .s/\ti.k= .string)\/(k= .l/\∃e,ti.k= .slice e)\/(k= .m/\∃a b,ti.k= .map a b))
   (h0:ts[0]? =some t) (ty:TypeId) {u:AV} {xu:Value} {res:eZ} (hW:cN ρ C st w)
   (hu:aG ρ st.next.toNat C u xu) (hr:Qy (λb=>st.heap.get b) st.next k [u]=some res):
   Hv P ρ C st w (((Builtin.len_ ts ty #[xu]).run P w).andThen λv w=>.ok (.value v) w) res:=by
 obtain⟨d,hd,dW⟩:=(hT.at fR).und;have vI:∀x,xu=x->(Builtin.len_ ts ty #[xu]).run P w=(Builtin.len_ ts ty #[x]).run P w:=λx e=>by rw[e]
 simp only[Qy]at hr;rcases hk with⟨rfl,hk⟩|⟨rfl,e,hk⟩|⟨rfl,a,b,hk⟩<;>rw[hk]at dW
 .rw[vG dW]at hd;(cases u<;>simp only[reduceCtorEq]at hr<;>first|(cases hr;done)|skip);simp only[H5]at hr;subst hr;obtain⟨bs,rfl,hs⟩:=hu.fM;exact .pure (x:=goInt bs.size) (by unfold Builtin.len_;simp[h0,bD hd]) (by rw[Mt hs];exact .int _ _)
 . rw[ue dW]at hd;cases u<;>simp only[reduceCtorEq]at hr<;>first|(cases hr;done)|skip
   .simp only[H5]at hr;subst hr;rw[hu.jI];exact .pure (x:=goInt 0) (by unfold Builtin.len_;simp[h0,bD hd]) (.int _ _)
   .simp only[H5]at hr;subst hr;obtain⟨aa,c,he,_⟩:=hu.gU;rw[he];exact .pure (by unfold Builtin.len_;simp[h0,bD hd];rfl) (.int _ _)
   .simp only[H5]at hr;subst hr;obtain⟨aa,c,_,he,_⟩:=hu.yJ;rw[he];exact .pure (by unfold Builtin.len_;simp[h0,bD hd];rfl) (.int _ _)
 . rw[Xo dW]at hd;cases u<;>simp only[reduceCtorEq]at hr<;>first|(cases hr;done)|skip
   .simp only[H5]at hr;subst hr;rw[hu.Gf];exact .pure (x:=goInt 0) (by unfold Builtin.len_;simp[h0,bD hd]) (.int _ _)
   . (split at hr<;>first|(cases hr;done)|skip);rename_i es c hb;simp only[H5]at hr;subst hr;obtain⟨_,he⟩:=hu.Cy;obtain⟨_,_,es',eG,hlen,_⟩:=hW.live _ _ hb;rw[he];exact .pure (x:=goInt es'.size) (by unfold Builtin.len_;simp[h0,bD hd,run_getObj_map eG]) (by rw[<-hlen];exact .int _ _)
theorem aeK(z:Array Value)(m:Nat):(Builtin.zeroCells z m).toList=cg z.toList m:=by
 unfold Builtin.zeroCells;by_cases h:0<z.size
 .exact ahS z m h
 .have h0:z.size=0:=(by omega);have:z= #[]:=Zo9 h0;subst this;have h1:cg ([]:List Value) m=[]:=Zc4 (by rw[lY];simp);simp[h1]
theorem aob(hT:dK P tt){t e:Nat}{ts:Array TypeId}{ti te:TI}{z:List AV}(fR:tt.get (key t)=some ti)(hk:ti.k= .slice e)
   (pF:tt.get (key e)=some te) (hz:te.zero=some z) (h0:ts[0]? =some t) (ty:TypeId) {u:AV} {xu:Value} {res:eZ} (hW:cN ρ C st w)
   (hu:aG ρ st.next.toNat C u xu) (hr:tj (λb=>st.heap.get b) st.next te.size z [u]=some res):
   Hv P ρ C st w (((Builtin.clear_ ts ty #[xu]).run P w).andThen λv w=>.ok (.value v) w) res:=by
 obtain⟨dd,hdd,dW⟩:=(hT.at fR).und;rw[hk]at dW;rw[ue dW]at hdd;obtain⟨i0,tu,vJ,_,Oy⟩:=(hT.at pF).info;obtain⟨zv0,_,_,hzl,_⟩:=Oy z hz;obtain⟨zv,Ve,_,Fx⟩:=Gh hT pF hz (ρ:=ρ) (n:=st.next.toNat) (C:=C) w;simp only[tj]at hr;split at hr<;>first|(cases hr;done)|skip
 .simp only[H5]at hr;subst hr;rw[hu.jI];exact .pure (x:=undef) (by unfold Builtin.clear_;simp[h0,bD hdd];rfl) aG.Gi
 . rename_i b off n cap es';obtain⟨aa,bG,he,hle,_,ha⟩:=hu.gU;rw[he];split at hr
   .rename_i QV;have:=Za8 QV;subst this;simp only[H5]at hr;subst hr;exact .pure (x:=undef) (by unfold Builtin.clear_;simp[h0,bD hdd];rfl) aG.Gi
   . rename_i QV;have QV:=Ze9 QV;(split at hr<;>first|(cases hr;done)|skip);rename_i cs fz hb;(split at hr<;>first|(cases hr;done)|skip);rename_i c1 c2 c3;have c1:=Zb5 c1;have c2:=Zb5 c2;simp only[H5]at hr;subst hr;obtain⟨_,rfl,_⟩:=ha (by omega);obtain⟨w2,f1,jD,hE⟩:=SH (P:=P) hW hb (vs:=cg z n) (ys:=cg zv.cells.toList n) (by rw[lY,hzl];exact c1) c2 c3 (Px Fx n);refine⟨_,undef,w2,ρ,?_,Yields.value _,λ_ _=>rfl,jD,aG.Gi,hE⟩;unfold Builtin.clear_;cases n with
     |zero=>exact absurd rfl QV
     |succ n=>simp[h0,bD hdd,Ve,aeK,f1,undef]
theorem QW(c:Call)(f:Operand)(hc:c.callee= .value f)(a:Act)(o:Oper)(ho:o.op= .call c){g:FuncId}{x y:Array Value}(he:a.eval f= .func (.func g) x y):
  (execOp a.eval o).run P w=(callFunc g (x++c.args.map a.eval++y)).run P w:=by
 simp[execOp,ho,resolve,hc,he,Deferred.ofValue,invoke]
theorem aqF (hT:dK P tt) (c:Call):fN P tt (.call c):=by
 intro ρ C st w k xs cls fr a o vs res ho hc hW hF hx hr;simp only[kD]at hc;split at hc<;>first|(cases hc;done)|skip
 rename_i l hl;split at hc<;>first|(cases hc;done)|skip
 ·
  rename_i g ahW;cases hc;have hv:=iY hl hF hx;simp only[aJ.run,abT,H5]at hr;subst hr;refine⟨c.args.toList.map a.eval,?_,hv⟩;rw[QW c _ ahW a o ho (g:=g) (x:= #[]) (y:= #[]) rfl];congr 2;apply Zm4;simp
 ·
  rename_i f hnf ahW;split at hc<;>first|(cases hc;done)|skip
  rename_i ao hao;cases hc;unfold gu at hx;split at hx<;>first|(cases hx;done)|skip
  rename_i fv hfv;split at hx<;>first|(cases hx;done)|skip
  rename_i vs' aqG;simp only[H5]at hx;subst hx;have h1:=BV hao hF hfv;have h2:=iY hl hF aqG;simp only[aJ.run,abU]at hr;split at hr<;>first|(cases hr;done)|skip
  rename_i g first captured
  simp only[H5]at hr;subst hr;obtain⟨x,y,he,hx,hy⟩:=h1.Sv;refine⟨x.toList++(c.args.toList.map a.eval++y.toList),?_,hx.append (h2.append hy)⟩;rw[QW c f ahW a o ho he];congr 2;apply Zm4;simp
 ·
  rename_i b ahW;have hex:∀(s:Sem Value),(∀consts,builtin b c.argTypes o.type consts (c.args.map a.eval)=(do pure (.value (<-s))))->(execOp a.eval o).run P w=(s.run P w).andThen λv w=>.ok (.value v) w:=by intro s hs;simp only[execOp,ho,resolve,ahW,pure_bind,invoke];rw[hs];simp
  split at hc<;>first|(cases hc;done)|skip
  ·
   (split at hc<;>first|(cases hc;done)|skip);rename_i t _ _ uO;(split at hc<;>first|(cases hc;done)|skip);rename_i ti fR;have hv:=iY hl hF (vs:=vs) (by
        split at hc<;>first|(cases hc;done)|skip
        all_goals cases hc;exact hx)
   rw[pG] at hv;rw[hex (Builtin.len_ c.argTypes o.type (c.args.map a.eval)) (λ_=>rfl)];have hu:∃u,vs=[u]      :=by
        have h1:=hv.1;have h2:(c.args.toList).length=1:=by
         have: ∀{xs:List   Operand}{os:List iy},mP xs=some os->xs.length=os.length:=by
            intro xs;induction xs with
            |nil=>intro os h;simp[mP]at h;subst h;rfl
            |cons x xs ih=>intro os h;unfold mP at h;split at h<;>first|(cases h;done)|skip
                           rename_i e1 e2;simp only[H5]at h;subst h;simp[ih e2]
         rw[this hl];rfl
        match vs,h1 with
        |[u],_=>exact⟨u,rfl⟩
        |[],h1=>simp at h1 h2;omega
        |_::_::_,h1=>simp at h1 h2;omega
   obtain⟨u,rfl⟩:=hu;obtain⟨x,su,hux⟩:=aoa hv;rw[su];split at hc<;>first|(cases hc;done)|skip
   all_goals
        rename_i hk;cases hc;simp only[aJ.run]at hr;refine aty hT fR ?_ (amg uO) o.type hW hux hr
   .    exact .inl ⟨rfl,hk⟩
   .    exact .inr (.inl ⟨rfl,_,hk⟩)
   .    exact .inr (.inr ⟨rfl,_,_,hk⟩)
  ·
   (split at hc<;>first|(cases hc;done)|skip);rename_i t t2 _ uO;(split at hc<;>first|(cases hc;done)|skip);rename_i ti t2i fR ht2;(split at hc<;>first|(cases hc;done)|skip);rename_i e hk ux _;(split at hc<;>first|(cases hc;done)|skip);rename_i te pF;(split at hc<;>first|(cases hc;done)|skip);rename_i z hz;cases hc;have hv:=iY hl hF hx;rw[pG]at hv;rw[hex (Builtin.append_ c.argTypes o.type (c.args.map a.eval)) (λ_=>rfl)];simp only[aJ.run]at hr;have hu:∃s u,vs=[s,u]:=by
        unfold lV at hr;(split at hr<;>first|(cases hr;done)|skip);exact⟨_,_,rfl⟩
   obtain⟨s,u,rfl⟩:=hu;obtain⟨x,y,su,h1,h2⟩:=adl hv;rw[su];exact amf hT fR ht2 hk (λk hk=>ux k hk) pF hz (amg uO) (arr1 uO) o.type hW h1 h2 hr
  ·
   (split at hc<;>first|(cases hc;done)|skip);rename_i t _ uO;(split at hc<;>first|(cases hc;done)|skip);rename_i ti fR;(split at hc<;>first|(cases hc;done)|skip);rename_i e hk;(split at hc<;>first|(cases hc;done)|skip);rename_i te pF;cases hc;have hv:=iY hl hF hx;rw[pG]at hv;rw[hex (Builtin.copy_ c.argTypes o.type (c.args.map a.eval)) (λ_=>rfl)];simp only[aJ.run]at hr;have hu:∃s u,vs=[s,u]:=by
        unfold pP at hr;(split at hr<;>first|(cases hr;done)|skip);exact⟨_,_,rfl⟩
   obtain⟨s,u,rfl⟩:=hu;obtain⟨x,y,su,h1,h2⟩:=adl hv;rw[su];exact aqE hT fR hk pF (amg uO) o.type hW h1 h2 hr
  ·
   (split at hc<;>first|(cases hc;done)|skip);cases hc;have hv:=iY hl hF hx;rw[pG]at hv;rw[hex (Builtin.min_ c.argTypes o.type (c.args.map a.eval)) (λ_=>rfl)];simp only[aJ.run]at hr;have hu:∃s u r,vs=[s,u]/\res= .val r:=by
        unfold LP at hr;(split at hr<;>first|(cases hr;done)|skip);split at hr<;>first|(cases hr;done)|skip
        all_goals cases hr;exact⟨_,_,_,rfl,rfl⟩
   obtain⟨s,u,r,rfl,rfl⟩:=hu;obtain⟨x,y,su,h1,h2⟩:=adl hv;obtain⟨z,hz,hvz⟩:=aqz (P:=P) (w:=w) h1 h2 hr;rw[su];refine .pure (x:=z) ?_ hvz;simp[Builtin.min_,hz]
  ·
   (split at hc<;>first|(cases hc;done)|skip);cases hc;have hv:=iY hl hF hx;rw[pG]at hv;rw[hex (Builtin.max_ c.argTypes o.type (c.args.map a.eval)) (λ_=>rfl)];simp only[aJ.run]at hr;have hu:∃s u r,vs=[s,u]/\res= .val r:=by
        unfold LQ at hr;(split at hr<;>first|(cases hr;done)|skip);split at hr<;>first|(cases hr;done)|skip
        all_goals cases hr;exact⟨_,_,_,rfl,rfl⟩
   obtain⟨s,u,r,rfl,rfl⟩:=hu;obtain⟨x,y,su,h1,h2⟩:=adl hv;obtain⟨z,hz,hvz⟩:=aqA (P:=P) (w:=w) h1 h2 hr;rw[su];refine .pure (x:=z) ?_ hvz;simp[Builtin.max_,hz]
  ·
   (split at hc<;>first|(cases hc;done)|skip);rename_i t _ uO;(split at hc<;>first|(cases hc;done)|skip);rename_i ti fR;(split at hc<;>first|(cases hc;done)|skip);rename_i e hk;(split at hc<;>first|(cases hc;done)|skip);rename_i te pF;(split at hc<;>first|(cases hc;done)|skip);rename_i z hz;cases hc;have hv:=iY hl hF hx;rw[pG]at hv;rw[hex (Builtin.clear_ c.argTypes o.type (c.args.map a.eval)) (λ_=>rfl)];simp only[aJ.run]at hr;have hu:∃u,vs=[u]:=by
        unfold tj at hr;(split at hr<;>first|(cases hr;done)|skip);exact⟨_,rfl⟩
   obtain⟨u,rfl⟩:=hu;obtain⟨x,su,hux⟩:=aoa hv;rw[su];exact aob hT fR hk pF hz (amg uO) o.type hW hux hr
theorem ZS(hT:dK P tt)(op:Op):fN P tt op:=by
 cases op with
 |move x=>exact aqv x
 |assign x=>exact al5 x
 |pick c x y=>exact aqw c x y
 |alloc t=>exact an7 hT t
 |box t x=>exact atw t x
 |build t ps=>exact an5 hT t ps
 |buildSlice t n ps=>exact aeJ hT t n ps
 |insert t m k v=>exact adk hT _ t m k v (.inr rfl)
 |load t x=>exact aqy hT t x
 |store t x y=>exact an9 hT t x y
 |nilCheck x=>exact ahQ x
 |binOp op t x y yt=>exact an1 hT op t x y yt
 |unOp op t x=>exact aqx op t x
 |convert s d x=>exact akn hT s d x
 |makeInterface t x=>exact akm hT t x
 |makeFunc f x y=>exact al6 f x y
 |makeMap t r=>exact an8 t r hT
 |makeSlice t l c=>exact ako hT t l c
 |slice t x l h m=>exact an4 hT t x l h m
 |fieldAddr t x f=>exact agI hT t x f
 |field t x f=>exact an2 hT t x f
 |indexAddr t x i=>exact agJ hT t x i
 |index t x i=>exact an3 hT t x i
 |lookup t x i ok=>exact al9 hT t x i ok
 |mapUpdate t m k v=>exact adk hT _ t m k v (.inl rfl)
 |extract x i=>exact akl x i
 |call c=>exact aqF hT c
 |_=>intro ρ C st w k xs cls fr a o vs res ho hc;simp[kD]at hc
end
def Reaches(P:Program)(R:Value->World->Prop):Result Next->Prop
 |.ok (.value x) w'=>R x w'
 |.ok .skip w'=>R undef w'
 |.ok (.enter f args) w'=>Calls P f args w' λ|.returned v,w''=>R v w''|_,_=>False
 |.ok (.row row args) w'=>Rows P row args w' R
 |_=>False
theorem Reaches.mono{P:Program}{R R':Value->World->Prop}(h:∀x w,R x w->R' x w):∀{r:Result Next},Reaches P R r->Reaches P R' r
 |.ok (.value _) _,hr=>h _ _ hr
 |.ok .skip _,hr=>h _ _ hr
 |.ok (.enter _ _) _,hr=>Calls.mono hr λe w he=>by cases e<;>first|exact h _ _ he|exact he
 |.ok (.row _ _) _,hr=>Rows.mono hr h
theorem Reaches.upon{P:Program}{R:Value->World->Prop}{o:Oper}{a:Act}{K:Act->World->Prop}{Q:Exit->Act->World->Prop}{r:Result Next}
  (hr:Reaches P R r) (h:∀x w,R x w->K (a.put o.dst x) w):o.upon P a K Q r:=by
 cases r with
 |ok n w=>
  cases n<;>simp only[Reaches]at hr
  .exact h _ _ hr
  .exact h _ _ hr
  . exact Calls.mono hr λe w he=>by
        cases e with
        |returned v=>exact h _ _ he
        |panicked c=>exact he.elim
        |outgrown=>exact he.elim
  .exact Rows.mono hr λv w he=>h _ _ he
 |halt x w=>simp only[Reaches]at hr
def oE(ρ:Pos->Loc)(C:Cells)(st:St)(w:World)(v:AV)(st':St)(x:Value)(w':World):Prop:=
 ∃ρ',aG ρ' st'.next.toNat C v x/\(∀b:Pos,b.toNat<st.next.toNat->ρ' b=ρ b)/\st.next.toNat<=st'.next.toNat/\cN ρ' C st' w'/\qJ ρ st w ρ' st' w'
def jq(P:Program)(C:Cells)(call:aj):Prop:=
 ∀  (ρ:Pos->Loc)(st:St)(w:World)(f:FuncId)(args:List AV)(v:AV)(st':St)(cZ:List Value),call f args st=some (v,st')->
    cN ρ C st w->aN ρ st.next.toNat C args cZ->Reaches P (oE ρ C st w v st') ((callFunc f cZ.toArray).run P w)
section
variable{P:Program}{tt:TT}{C:Cells}{call:aj}
theorem St.SL(st:St)(del:Option Pos)(set:Option (Pos×AB))(new:Option AB):st.next.toNat<=(st.br del set new).next.toNat:=by
 cases new with
 |none=>exact Za5 _
 |some x=>simp only[St.br,Pos.aH];omega
theorem aa9(hT:dK P tt)(dF:jq P C call){ρ:Pos->Loc}{st st':St}{w:World}{k:aJ}{xs:List iy}{cls:Cls}{fr:Fr}{a:Act}{o:Oper}{vs:List AV}{v:AV}
   (hc:kD tt o.op=some (k,xs,cls)) (hW:cN ρ C st w) (hF:lz ρ st.next.toNat C fr a.tmps) (hx:gu fr xs=some vs)
   (hs:cW call k vs st=some (v,st')):Reaches P (oE ρ C st w v st') ((execOp a.eval o).run P w):=by
 have H:=ZS hT o.op ρ C st w k xs cls fr a o vs;unfold cW at hs;split at hs
 . rename_i u hr;simp only[H5,Zd3]at hs;obtain⟨rfl,rfl⟩:=hs;obtain⟨N,x,he,hy,hv⟩:=H _ rfl hc hW hF hx hr;have hp:oE ρ C st w u st x w:=⟨ρ,hv,λ_ _=>rfl,Za5 _,hW,qJ.refl _ _ _⟩
   rw[he];rcases hy with rfl|⟨rfl,rfl⟩<;>exact hp
 . rename_i u del set new hr;simp only[H5,Zd3]at hs;obtain⟨rfl,rfl⟩:=hs;obtain⟨N,x,w',ρ',he,hy,bM,jD,hv,hE⟩:=H _ rfl hc hW hF hx hr;have hp:oE ρ C st w u (st.br del set new) x w':=⟨ρ',hv,bM,St.SL _ _ _ _,jD,hE⟩
   rw[he];rcases hy with rfl|⟨rfl,rfl⟩<;>exact hp
 .rename_i f args hr;obtain⟨cZ,he,hv⟩:=H _ rfl hc hW hF hx hr;rw[he];exact dF ρ st w f args v st' cZ hs hW hv
 .cases hs
structure zM(tt:TT)(nt:Nat)(ops:Array Oper)(o:Oper)(ao:b9):Prop where
 dst:ao.dst=o.dst.map key
 lt:∀d,o.dst=some d->d<nt
 guard:ac9 ops o.guard=some ao.guard
 op:(kD tt o.op=some (ao.k,ao.xs,ao.cls))\/(ao.k= .bad/\ao.cls= .br)
theorem xE{nt:Nat}{ops:Array Oper}:∀{os:List Oper}{bs:List Nat}{l:List b9},uM tt nt ops os bs=some l->
  l.length=os.length/\∀(i:Nat)(o:Oper),os[i]? =some o->∃ao,l[i]? =some ao/\zM tt nt ops o ao/\ao.cK=bs.getD i 0
 |[],bs,l,h=>by simp[uM]at h;subst h;exact⟨rfl,λi o ho=>by simp at ho⟩
 |o ::os,bs,l,h=>by
  unfold uM at h;split at h<;>first|(cases h;done)|skip
  rename_i g l' hg hl hd;obtain⟨h1,h2⟩:=xE hl;have aW:∀d,o.dst=some d->d<nt:=λd hdd=>by rw[hdd]at hd;simpa [uM.asX]using hd
  have hb:∀i,bs.tail.getD i 0=bs.getD (i+1) 0:=λi=>by cases bs<;>simp
  have yI:bs.headD 0=bs.getD 0 0:=by cases bs<;>simp
  split at h
  . rename_i k xs cls hc;simp only[H5]at h;subst h;refine⟨by simp[h1],λi o' ho=> ?_⟩;cases i with
    |   zero=>
        simp at ho;subst ho;exact⟨_,rfl,⟨rfl,aW,hg,.inl hc⟩,yI⟩
    |   succ i=>
        simp at ho;obtain⟨ao,h3,h4,h5⟩:=h2 i o' ho;exact⟨ao,by simpa using h3,h4,by rw[h5,hb]⟩
  . simp only[H5]at h;subst h;refine⟨by simp[h1],λi o' ho=> ?_⟩;cases i with
    |   zero=>
        simp at ho;subst ho;exact⟨_,rfl,⟨rfl,aW,hg,.inr ⟨rfl,rfl⟩⟩,yI⟩
    |   succ i=>
        simp at ho;obtain⟨ao,h3,h4,h5⟩:=h2 i o' ho;exact⟨ao,by simpa using h3,h4,by rw[h5,hb]⟩
theorem Mz{ops:Array Oper}{ρ:Pos->Loc}{n:Nat}{fr:Fr}{a:Act}{o:Oper}{g:Option (Pos×Bool)}{b:Bool}(hg:ac9 ops o.guard=some g)
   (hF:∀p v,fr.get p=some v->(∃q,g=some (p,q))->∃x,a.tmps[p.toNat - 1]? =some x/\aG ρ n C v x)
   (hw:cX fr g=some b):Region.wanted o (yielded ops a.tmps)=b:=by
 unfold Region.wanted;unfold ac9 at hg;split at hg
 .rename_i hn;simp only[H5]at hg;subst hg;simp only[cX,H5]at hw;subst hw;rw[hn]
 . rename_i j want hn;rw[hn];(split at hg<;>first|(cases hg;done)|skip);rename_i oj hj;(split at hg<;>first|(cases hg;done)|skip);rename_i d hd;simp only[H5]at hg;subst hg;simp only[cX]at hw;split at hw
   .rename_i u hu;simp only[H5]at hw;subst hw;obtain⟨x,hx,hv⟩:=hF _ _ hu ⟨_,rfl⟩;rw[iX,Zh8]at hx;have:=hv.lC;subst this;simp[yielded,hj,hd,hx]
   .rename_i l hu;simp only[H5]at hw;subst hw;obtain⟨x,hx,hv⟩:=hF _ _ hu ⟨_,rfl⟩;rw[iX,Zh8]at hx;obtain⟨cs,rfl,_⟩:=hv.Xm;simp[yielded,hj,hd,hx]
   .cases hw
theorem aG.afM{ρ:Pos->Loc}{n:Nat}:aG ρ n C AV.undef undef:= .tuple [] #[] rfl λ_ _ _ h=>by simp at h
theorem Act.kB(a:Act)(d:Option Tmp)(v:Value):(a.put d v).tmps.size=a.tmps.size:=by cases d<;>simp[Act.put]
theorem Act.mM(a:Act)(d:Option Tmp)(v:Value):(a.put d v).defers=a.defers:=by cases d<;>rfl
theorem lz.put{ρ:Pos->Loc}{n nt:Nat}{fr:Fr}{a:Act}{d:Option Tmp}{v:AV}{x:Value}(hF:lz ρ n C fr a.tmps)(hs:a.tmps.size=nt)
  (hd:∀e,d=some e->e<nt) (hv:aG ρ n C v x):lz ρ n C (eR fr (d.map key) v) (a.put d x).tmps:=by
 cases d with
 |none=>exact hF
 |some e=>
  have he:=hd e rfl;intro p u hp;simp only[Ze5,eR]at hp;simp only[Act.put];by_cases hpe:key e=p
  .subst hpe;rw[T.gQ]at hp;simp only[H5]at hp;subst hp;refine⟨x,?_,hv⟩;rw[iX,Zh8,Zp8];simp[hs,he]
  .rw[T.cJ _ hpe]at hp;obtain⟨y,hy,hr⟩:=hF p u hp;refine⟨y,?_,hr⟩;rw[Zj9,hy];intro h;apply hpe;apply Pos.toNat_inj;rw[iX];have:=p.toNat_pos;omega
theorem lz.mono{ρ ρ':Pos->Loc}{n n':Nat}{fr:Fr}{tmps:Array Value}(hF:lz ρ n C fr tmps)(bM:∀b:Pos,b.toNat<n->ρ' b=ρ b)(hn:n<=n'):lz ρ' n' C fr tmps:=
 λp v hp=>let⟨x,hx,hv⟩:=hF p v hp;⟨x,hx,hv.mono bM hn⟩
structure yM(nt:Nat)(ρ:Pos->Loc)(C:Cells)(fr:Fr)(st:St)(a:Act)(w:World):Prop where
 W:cN ρ C st w
 F:lz ρ st.next.toNat C fr a.tmps
 size:a.tmps.size=nt
 defers:a.defers=[]
def kY(nt:Nat)(ρ:Pos->Loc)(C:Cells)(st:St)(w:World)(bR:Fr)(st':St)(a':Act)(w':World):Prop:=
 ∃ρ',yM nt ρ' C bR st' a' w'/\(∀b:Pos,b.toNat<st.next.toNat->ρ' b=ρ b)/\st.next.toNat<=st'.next.toNat/\qJ ρ st w ρ' st' w'
theorem kY.refl{nt:Nat}{ρ:Pos->Loc}{fr:Fr}{st:St}{a:Act}{w:World}(h:yM nt ρ C fr st a w):kY nt ρ C st w fr st a w:=
 ⟨ρ,h,λ_ _=>rfl,Za5 _,qJ.refl _ _ _⟩
theorem kY.trans{nt:Nat}{ρ kj:Pos->Loc}{Vh:Fr}{st bK A3:St}{a2:Act}{w w1 w2:World}
  (h1:∀b:Pos,b.toNat<st.next.toNat->kj b=ρ b) (h2:st.next.toNat<=bK.next.toNat) (h3:qJ ρ st w kj bK w1)
  (h:kY nt kj C bK w1 Vh A3 a2 w2):kY nt ρ C st w Vh A3 a2 w2:=by
 obtain⟨vD,k1,k2,k3,k4⟩:=h;exact⟨vD,k1,λb hb=>(k2 b (Zd0 hb h2)).trans (h1 b hb),Zb2 h2 k3,h3.trans k4⟩
theorem Reaches.bad{k:aJ}{vs:List AV}{st:St}{r:AV×St}(hk:k= .bad)(h:cW call k vs st=some r):False:=by subst hk;simp[cW,aJ.run]at h
theorem Dr(hT:dK P tt)(dF:jq P C call){nt:Nat}{ops:Array Oper}{Q:Exit->Act->World->Prop}:∀(aos:List b9)(k:Nat)(fr bR:Fr)(st st':St)(ρ:Pos->Loc)(a:Act)(w:World),
  (∀(i:Nat)(ao:b9),aos[i]? =some ao->∃o,ops[k+i]? =some o/\zM tt nt ops o ao)->
  mO call aos fr st=some (bR,st')->yM nt ρ C fr st a w->(∀a' w',kY nt ρ C st w bR st' a' w'->Q .normal a' w')->wpOps P ops Q (List.range' k aos.length) a w
 |[],k,fr,bR,st,st',ρ,a,w,_,h,hS,hQ=>by
  simp only[mO,H5,Zd3]at h;obtain⟨rfl,rfl⟩:=h;exact hQ a w (kY.refl hS)
 |ao::aos,k,fr,bR,st,st',ρ,a,w,ho,h,hS,hQ=>by
  obtain⟨o,cF,hR⟩:=ho 0 ao rfl;rw[Zg2]at cF;have OB:∀(i:Nat)(ao':b9),aos[i]? =some ao'->∃o,ops[k+1+i]? =some o/\zM tt nt ops o ao':=λi ao' hi=>by
    obtain⟨o',h1,h2⟩:=ho (i+1) ao' (by simpa using hi);exact⟨o',by rw[<-h1];congr 1;omega,h2⟩
  simp only[Zc7,Zp0,wpOps,cF];unfold mO at h;split at h
  . rename_i hw;rw[Zb4 (Mz hR.guard (λp v hp _=>hS.F p v hp) hw)];(split at h<;>first|(cases h;done)|skip);rename_i vs Dl;(split at h<;>first|(cases h;done)|skip);rename_i v bK iQ;rcases hR.op with hc|⟨hk,_⟩
    .   have hr:=aa9 hT dF hc hS.W hS.F Dl iQ;refine .inl (hr.upon λx w1 hp=> ?_);obtain⟨kj,hv,h1,h2,hW1,hE⟩:=hp;rw[hR.dst]at h;refine Dr hT dF aos (k+1) _ bR bK st' kj _ w1 OB h ⟨hW1,lz.put (hS.F.mono h1 h2) hS.size hR.lt hv,by rw[Act.kB];exact hS.size,by rw[Act.mM];exact hS.defers⟩ λa' w' hp=>hQ a' w' (kY.trans h1 h2 hE hp)
    .   exact(Reaches.bad hk iQ).elim
  .rename_i hw;rw[Za7 (by rw[Mz hR.guard (λp v hp _=>hS.F p v hp) hw];simp)];rw[hR.dst]at h;exact Dr hT dF aos (k+1) _ bR st st' ρ _ w OB h ⟨hS.W,lz.put hS.F hS.size hR.lt .afM,by rw[Act.kB];exact hS.size,by rw[Act.mM];exact hS.defers⟩ hQ
  .cases h
theorem SM{nt:Nat}{ops:Array Oper}{l:List b9}{bs:List Nat}(h:uM tt nt ops ops.toList bs=some l)(i:Nat)(ao:b9)(hi:l[i]? =some ao):
  ∃o,ops[i]? =some o/\zM tt nt ops o ao/\ao.cK=bs.getD i 0:=by
 obtain⟨h1,h2⟩:=xE h;have aW:i<ops.toList.length:=by rw[<-h1];exact(Za1.1 hi).1
 obtain⟨ao',h3,h4,h5⟩:=h2 i _ (H0 aW);rw[hi]at h3;simp only[H5]at h3;subst h3;exact⟨_,by rw[<-Zk0];exact H0 aW,h4,h5⟩
theorem ahX(hT:dK P tt)(dF:jq P C call){nt id:Nat}{ops:Array Oper}{bs:List Nat}{l:List b9}{Q:Exit->Act->World->Prop}{fr bR:Fr}{st st':St}{ρ:Pos->Loc}{a:Act}{w:World}
  (hl:uM tt nt ops ops.toList bs=some l) (h:mO call l fr st=some (bR,st')) (hS:yM nt ρ C fr st a w)
  (hQ:∀a' w',kY nt ρ C st w bR st' a' w'->Q .normal a' w'):(Code.region id ops false).wp P Q a w:=by
 apply wp_region;have hlen:l.length=ops.size:=by rw[(xE hl).1,Zj1]
 rw[Zl4, <-hlen];exact Dr hT dF l 0 fr bR st st' ρ a w (λi ao hi=>by
  obtain⟨o,h1,h2,_⟩:=SM hl i ao hi;exact⟨o,by rw[Zb1];exact h1,h2⟩) h hS hQ
end
section
variable{P:Program}{tt:TT}{C:Cells}{call:aj}
def yN(P:Program)(tt:TT)(C:Cells)(call:aj):Prop:=
 ∀  (nt id:Nat)(ops:Array Oper)(l:List b9)(Q:Exit->Act->World->Prop)(fr bR:Fr)(st st':St)(ρ:Pos->Loc)(a:Act)(w:World),
    uM tt nt ops ops.toList (ahH ops.toList [])=some l->QE l.length 0 (BF (Mq 0 l) [])=true->eM call (BF (Mq 0 l) []) [] st.heap fr st=some (bR,st')->yM nt ρ C fr st a w->
    (∀a' w',kY nt ρ C st w bR st' a' w'->Q .normal a' w')->(Code.region id ops true).wp P Q a w
def QX:oO->Exit
 |.normal=>.normal
 |.exit id=>.exit id
 |.ret=>.ret
def adm(P:Program)(tt:TT)(C:Cells)(call:aj)(nt m:Nat):Prop:=
 ∀  (c:Code)(ac:AC)(fr bR:Fr)(st st':St)(ex:oO)(ρ:Pos->Loc)(a:Act)(w:World)(Q:Exit->Act->World->Prop),
    vU tt nt c=some ac->exec call m ac fr st=some (ex,bR,st')->yM nt ρ C fr st a w->
    (∀a' w',kY nt ρ C st w bR st' a' w'->Q (QX ex) a' w')->c.wp P Q a w
def adn(P:Program)(tt:TT)(C:Cells)(call:aj)(nt m:Nat):Prop:=
 ∀  (c:Code)(ac:AC)(fr bR:Fr)(st st':St)(ex:oO)(ρ:Pos->Loc)(a:Act)(w:World)(Q:Exit->Act->World->Prop),
    vU tt nt c=some ac->exec call m (.loop ac) fr st=some (ex,bR,st')->yM nt ρ C fr st a w->
    (∀a' w',kY nt ρ C st w bR st' a' w'->Q (QX ex) a' w')->Code.rounds P c Q m a w
theorem afN{nt m:Nat}(MA:adm P tt C call nt m)(ihL:adn P tt C call nt m):adn P tt C call nt (m+1):=by
 intro c ac fr bR st st' ex ρ a w Q hc h hS hQ;simp only[exec,bJ]at h;rw[rounds_succ];split at h
 .rename_i fC bK h1;(refine MA c ac fr fC st bK .normal ρ a w _ hc h1 hS λa1 w1 hp=> ?_);obtain⟨kj,Aa,k1,k2,k3⟩:=hp;exact ihL c ac fC bR bK st' ex kj a1 w1 Q hc h Aa λa2 w2 hp=>hQ a2 w2 (kY.trans k1 k2 k3 hp)
 . rename_i dP;cases ex with
   |normal=>exact(dP _ _ h).elim
   |exit id=>exact MA c ac fr bR st st' (.exit id) ρ a w _ hc h hS λa1 w1 hp=>hQ a1 w1 hp
   |ret=>exact MA c ac fr bR st st' .ret ρ a w _ hc h hS λa1 w1 hp=>hQ a1 w1 hp
theorem aoc(hT:dK P tt)(dF:jq P C call)(mD:yN P tt C call){nt m:Nat}(MA:adm P tt C call nt m)(ihL:adn P tt C call nt m):adm P tt C call nt (m+1):=by
 intro c ac fr bR st st' ex ρ a w Q hc h hS hQ;have awi:=afN MA ihL;unfold vU at hc;split at hc<;>first|(cases hc;done)|skip
 .simp only[H5]at hc;subst hc;simp only[exec,bJ,H5,Zd3]at h;obtain⟨rfl,rfl,rfl⟩:=h;exact wp_skip (hQ _ _ (kY.refl hS))
 . rename_i ix ops draw;(split at hc<;>first|(cases hc;done)|skip);rename_i l hl;split at hc
   .simp only[H5]at hc;subst hc;simp only[exec,bJ]at h;(split at h<;>first|(cases h;done)|skip);rename_i fC bK h1;simp only[H5,Zd3]at h;obtain⟨rfl,rfl,rfl⟩:=h;exact ahX hT dF hl h1 hS hQ
   . (split at hc<;>first|(cases hc;done)|skip);rename_i ht;simp only[H5]at hc;subst hc;simp only[exec,bJ]at h;(split at h<;>first|(cases h;done)|skip);rename_i fC bK h1;simp only[H5,Zd3]at h;obtain⟨rfl,rfl,rfl⟩:=h;exact mD nt _ ops l Q fr fC st bK ρ a w hl ht h1 hS hQ
 . (split at hc<;>first|(cases hc;done)|skip);rename_i x y h1 h2;simp only[H5]at hc;subst hc;simp only[exec,bJ]at h;apply wp_seq;split at h
   .rename_i fC bK h3;(refine MA _ _ fr fC st bK .normal ρ a w _ h1 h3 hS λa1 w1 hp=> ?_);obtain⟨kj,Aa,k1,k2,k3⟩:=hp;exact MA _ _ fC bR bK st' ex kj a1 w1 Q h2 h Aa λa2 w2 hp=>hQ a2 w2 (kY.trans k1 k2 k3 hp)
   . rename_i dP;cases ex with
     |normal=>exact(dP _ _ h).elim
     |exit id=>exact MA _ _ fr bR st st' (.exit id) ρ a w _ h1 h hS λa1 w1 hp=>hQ a1 w1 hp
     |ret=>exact MA _ _ fr bR st st' .ret ρ a w _ h1 h hS λa1 w1 hp=>hQ a1 w1 hp
 . (split at hc<;>first|(cases hc;done)|skip);rename_i x y z h1 h2 h3;simp only[H5]at hc;subst hc;simp only[exec,bJ]at h;split at h
   .rename_i hx;exact wp_cond_true ((BV h1 hS.F hx).lC) (MA _ _ fr bR st st' ex ρ a w Q h2 h hS hQ)
   .rename_i hx;exact wp_cond_false ((BV h1 hS.F hx).lC) (MA _ _ fr bR st st' ex ρ a w Q h3 h hS hQ)
   .cases h
 . (split at hc<;>first|(cases hc;done)|skip);rename_i x h1;simp only[H5]at hc;subst hc;simp only[exec,bJ]at h;apply wp_block;split at h
   . rename_i ye fC bK h2;split at h
     .  rename_i he;simp only[H5,Zd3]at h;obtain⟨rfl,rfl,rfl⟩:=h;have:=Za8 he;subst this;exact MA _ _ fr fC st bK (.exit ye) ρ a w _ h1 h2 hS λa1 w1 hp=>by simp only[QX,Exit.inBlock,Zh6];exact hQ a1 w1 hp
     .  rename_i he;simp only[H5,Zd3]at h;obtain⟨rfl,rfl,rfl⟩:=h;have:=Ze9 he;exact MA _ _ fr fC st bK (.exit ye) ρ a w _ h1 h2 hS λa1 w1 hp=>by simp only[QX,Exit.inBlock,Za7 this];exact hQ a1 w1 hp
   . rename_i dP;cases ex with
     |normal=>exact MA _ _ fr bR st st' .normal ρ a w _ h1 h hS λa1 w1 hp=>hQ a1 w1 hp
     |exit id=>exact(dP _ _ _ h).elim
     |ret=>exact MA _ _ fr bR st st' .ret ρ a w _ h1 h hS λa1 w1 hp=>hQ a1 w1 hp
 . (split at hc<;>first|(cases hc;done)|skip);rename_i x h1;simp only[H5]at hc;subst hc;exact wp_loop_rounds (m+1) (awi _ _ fr bR st st' ex ρ a w Q h1 h hS hQ)
 .simp only[H5]at hc;subst hc;simp only[exec,bJ,H5,Zd3]at h;obtain⟨rfl,rfl,rfl⟩:=h;exact wp_exit (hQ _ _ (kY.refl hS))
 .simp only[H5]at hc;subst hc;simp only[exec,bJ,H5,Zd3]at h;obtain⟨rfl,rfl,rfl⟩:=h;exact wp_ret (hQ _ _ (kY.refl hS))
 .simp only[H5]at hc;subst hc;simp[exec,bJ,mO,cX,gu,cW,aJ.run]at h
theorem Ds(hT:dK P tt)(dF:jq P C call)(mD:yN P tt C call){nt:Nat}:∀m,adm P tt C call nt m/\adn P tt C call nt m
 |0=>⟨λc ac fr bR st st' ex ρ a w Q hc h=>by simp[exec]at h,λc ac fr bR st st' ex ρ a w Q hc h=>by simp[exec]at h⟩
 |m+1=>let⟨h1,h2⟩:=Ds hT dF mD m;⟨aoc hT dF mD h1 h2,afN h1 h2⟩
def ZT(tmps:Array Value):ResultVar->Sem Value
 |.tmp t=>pure (tmps.getD t undef)
 |.cell a t=>do loadVar t (<-asAddr (tmps.getD a undef))
theorem ami(hT:dK P tt){ρ:Pos->Loc}{st:St}{w:World}{fr:Fr}{a:Act}{x:Tmp}{t:TypeId}{ti:TI}{q v:AV}(fR:tt.get (key t)=some ti)
  (hW:cN ρ C st w) (hF:lz ρ st.next.toNat C fr a.tmps) (hq:fr.get (key x)=some q) (hr:(aJ.load (Dj ti)).run (λb=>st.heap.get b) .h [q]=some (.val v)):
  ∃y,(ZT a.tmps (.cell x t)).run P w= .ok y w/\aG ρ st.next.toNat C v y:=by
 have hc:kD tt (.load t (.tmp x))=some (.load (Dj ti),[.t (key x)],.read):=by simp[kD,fR,uL]
 have hx:gu fr [.t (key x)]=some [q]:=by simp[gu,HD,hq]
 have oa:(aJ.load (Dj ti)).run (λb=>st.heap.get b) st.next [q]=some (.val v):=hr;obtain⟨N,y,he,hy,hv⟩:=ZS hT (.load t (.tmp x)) ρ C st w _ _ _ fr a { dst:=none,op:= .load t (.tmp x),type:=t,pos:=default,after:= #[],guard:=none } _ _ rfl hc hW hF hx oa;refine⟨y,?_,hv⟩;simp only[execOp,Instr.loadAt,Act.eval]at he;simp only[ZT];obtain⟨z,hz,hzq⟩:=hF _ _ hq;rw[iX,Zh8]at hz;have hzd:a.tmps.getD x undef=z:=by simp[Zm3,hz]
 rw[hzd]at he ⊢;have hp:∃ad,z= .pointer (some ad):=by
  simp only[aJ.run,zK]at hr;split at hr<;>first|(cases hr;done)|skip
  .obtain⟨_,h⟩:=hzq.qR;exact⟨_,h⟩
  .obtain⟨_,_,_,_,h,_⟩:=hzq.QI;exact⟨_,h⟩
 obtain⟨ad,rfl⟩:=hp;simp only[Instr.sureAddr,asAddr,Sem.run_bind,Sem.run_pure,Result.andThen]at he ⊢;cases hl:(loadVar t ad).run P w with
 |ok u w1=>
  rw[hl]at he;simp at he;obtain⟨h1,h2⟩:=he;subst h2;rcases hy with hy|⟨hy,_⟩
  .rw[hy]at h1;simp at h1;rw[h1]
  .rw[hy]at h1;simp at h1
 |halt u w1=>rw[hl]at he;simp at he
theorem MB(hT:dK P tt){ρ:Pos->Loc}{st:St}{w:World}{fr:Fr}{a:Act}(hW:cN ρ C st w)(hF:lz ρ st.next.toNat C fr a.tmps):
   ∀(rs:List ResultVar)(ars:List Qz)(vs:List AV),qY tt rs=some ars->ia (λb=>st.heap.get b) fr ars=some vs->
    ∃ys,(rs.mapM (ZT a.tmps)).run P w= .ok ys w/\aN ρ st.next.toNat C vs ys
 | [],ars,vs,hc,hr=>by
   simp only[qY,H5]at hc;subst hc;simp only[ia,H5]at hr;subst hr;exact⟨[],by simp,aN.nil⟩
 | .tmp t::rs,ars,vs,hc,hr=>by
   simp only[qY]at hc;(split at hc<;>first|(cases hc;done)|skip);rename_i l hl;simp only[H5]at hc;subst hc;simp only[ia]at hr;(split at hr<;>first|(cases hr;done)|skip);rename_i v hv;(split at hr<;>first|(cases hr;done)|skip);rename_i us hus;simp only[H5]at hr;subst hr;obtain⟨ys,h1,h2⟩:=MB hT hW hF rs l us hl hus;obtain⟨z,hz,hzq⟩:=hF _ _ hv;rw[iX,Zh8]at hz;refine⟨z::ys,?_,aN.cons hzq h2⟩;simp[List.mapM_cons,ZT,h1,Zm3,hz]
 | .cell x t::rs,ars,vs,hc,hr=>by
   simp only[qY]at hc;(split at hc<;>first|(cases hc;done)|skip);rename_i ti l hti hl;simp only[H5]at hc;subst hc;simp only[ia]at hr;(split at hr<;>first|(cases hr;done)|skip);rename_i q hq;(split at hr<;>first|(cases hr;done)|skip);rename_i v hv;(split at hr<;>first|(cases hr;done)|skip);rename_i us hus;simp only[H5]at hr;subst hr;obtain⟨ys,h1,h2⟩:=MB hT hW hF rs l us hl hus;obtain⟨y,h3,h4⟩:=ami hT hti hW hF hq hv;refine⟨y::ys,?_,aN.cons h4 h2⟩;simp[List.mapM_cons,h1,h3]
theorem Jn(hT:dK P tt){ρ:Pos->Loc}{st:St}{w:World}{fr:Fr}{a:Act}{fn:Func}{ars:List Qz}{vs:List AV}(hW:cN ρ C st w)(hF:lz ρ st.next.toNat C fr a.tmps)
  (hc:qY tt fn.results.toList=some ars) (hr:ia (λb=>st.heap.get b) fr ars=some vs):
  ∃y,(results fn a.tmps).run P w= .ok y w/\aG ρ st.next.toNat C (zL vs) y:=by
 obtain⟨ys,h1,h2⟩:=MB hT hW hF _ ars vs hc hr;have h3:(fn.results.mapM (ZT a.tmps)).run P w= .ok ys.toArray w:=by
  rw[Array.mapM_eq_mapM_toList];simp[h1]
 have h4:(results fn a.tmps).run P w= .ok (if h:ys.toArray.size=1 then ys.toArray[0]else .tuple ys.toArray) w:=by
  have hfun:results fn a.tmps=(fn.results.mapM (ZT a.tmps) >>= λvs=>pure (if h:vs.size=1 then vs[0]else .tuple vs)):=by unfold results;congr 2
  rw[hfun,Sem.run_bind,h3];simp
 refine⟨_,h4,?_⟩;cases vs with
 |nil=>have:=h2.qQ;subst this;simp[zL];exact .yG (by simpa using aN.nil)
 |cons v vs=>
  obtain⟨y,ys',rfl,hv,Dl⟩:=h2.cons_inv;cases vs with
  |nil=>have:=Dl.qQ;subst this;simpa [zL]using hv
  |cons v' vs'=>
   obtain⟨y',ys'',rfl,QL,aqG⟩:=Dl.cons_inv;simp[zL];exact .yG (by simpa using aN.cons hv (aN.cons QL aqG))
def GOk(P:Program)(tt:TT)(G:T dY):Prop:=
 ∀p F,G.get p=some F->∃fn,P.funcs[p.toNat - 1]? =some fn/\(fn.name== "runtime.NumGoroutine")=false/\alX tt fn=some F
def vY(P:Program)(C:Cells)(O:fk):Prop:=
 ∀  (f:FuncId)(s:List AV->St->Option (AV×St)),O f=some s->
    ∀(ρ:Pos->Loc)(st:St)(w:World)(args:List AV)(v:AV)(st':St)(cZ:List Value),s args st=some (v,st')->
     cN ρ C st w->aN ρ st.next.toNat C args cZ->Reaches P (oE ρ C st w v st') ((callFunc f cZ.toArray).run P w)
theorem SN{ρ:Pos->Loc}{n:Nat}{tmps:Array Value}:∀(vs:List AV)(xs:List Value)(i:Nat)(fr:Fr),aN ρ n C vs xs->
  (∀(j:Nat)(x:Value),xs[j]? =some x->tmps[i+j]? =some x)->lz ρ n C fr tmps->lz ρ n C (params i vs fr) tmps
 |[],_,_,_,_,_,hF=>hF
 |v ::vs,xs,i,fr,h,hx,hF=>by
  obtain⟨x,Cw,rfl,hv,Dl⟩:=h.cons_inv;unfold params;refine SN vs Cw (i+1) _ Dl (λj y hy=>by rw[<-hx (j+1) y (by simpa using hy)];congr 1;omega) λp u hp=> ?_
  by_cases hpe:key i=p
  .subst hpe;rw[T.gQ]at hp;simp only[H5]at hp;subst hp;exact⟨x,by rw[iX,Zh8];exact hx 0 x rfl,hv⟩
  .rw[T.cJ _ hpe]at hp;exact hF p u hp
def yg(call:aj)(m:Nat)(F:dY)(args:List AV)(st:St):Option (AV×St):=
 match Nat.beq args.length F.nparams with
 |  true=>match exec call m F.code (params 0 args .e) st with
    |some (.normal,fr,st')=>match ia (λb=>st'.heap.get b) fr F.results with
     |some vs=>some (zL vs,st')
     |none=>none
    |some (.ret,fr,st')=>match ia (λb=>st'.heap.get b) fr F.results with
     |some vs=>some (zL vs,st')
     |none=>none
    |_=>none
 |false=>none
theorem ado(hT:dK P tt){G:T dY}(hG:GOk P tt G){call:aj}(dF:jq P C call)(mD:yN P tt C call)(m:Nat){f:FuncId}{F:dY}(hF:G.get (key f)=some F)
   {ρ:Pos->Loc} {st:St} {w:World} {args:List AV} {v:AV} {st':St} {cZ:List Value} (h:yg call m F args st=some (v,st')) (hW:cN ρ C st w) (yh:aN ρ st.next.toNat C args cZ):
   Reaches P (oE ρ C st w v st') ((callFunc f cZ.toArray).run P w):=by
 unfold yg at h;split at h<;>first|(cases h;done)|skip
 rename_i hlen;have hlen:=Za8 hlen;obtain⟨fn,HO,qu,hcf⟩:=hG _ _ hF;rw[iX,Zh8]at HO;unfold alX at hcf;split at hcf<;>first|(cases hcf;done)|skip
 rename_i c hb;split at hcf<;>first|(cases hcf;done)|skip
 rename_i ac rs hac hrs hle;simp only[H5]at hcf;subst hcf;simp only at h hlen;have hle:=Zb5 hle;have eu:(callFunc f cZ.toArray).run P w= .ok (.enter f cZ.toArray) w:=by
   have ahY:¬fn.name= "runtime.NumGoroutine" :=(by simpa using qu);simp[callFunc,HO,ahY,hb]
 rw[eu];simp only[Reaches];refine calls_of_wp HO hb ?_;have ic:cZ.length<=fn.ntmps:=by rw[<-yh.1,hlen];exact hle
 have hS:yM fn.ntmps ρ C (params 0 args .e) st { tmps:=cZ.toArray++Array.replicate (fn.ntmps - cZ.toArray.size) undef,defers:=[] } w:=by
   refine⟨hW,?_,?_,rfl⟩
   .refine SN args cZ 0 .e yh (λj x hx=> ?_) (λp v hp=>by rw[T.dZ]at hp;cases hp);have hj:j<cZ.length:=(Za1.1 hx).1;rw[Zb1,Zq5 (by simpa using hj)];simpa using hx
   .simp;omega
 split at h<;>first|(cases h;done)|skip
 .rename_i fC bK h1;(split at h<;>first|(cases h;done)|skip);rename_i vs Dl;simp only[H5,Zd3]at h;obtain⟨rfl,rfl⟩:=h;(refine(Ds hT dF mD m).1 c ac _ fC st bK .normal ρ _ w _ hac h1 hS λa' w' hp=> ?_);obtain⟨kj,Aa,k1,k2,k3⟩:=hp;obtain⟨y,Xs,hy2⟩:=Jn hT Aa.W Aa.F hrs Dl;exact⟨Aa.defers,y,Xs,kj,hy2,k1,k2,Aa.W,k3⟩
 .rename_i fC bK h1;(split at h<;>first|(cases h;done)|skip);rename_i vs Dl;simp only[H5,Zd3]at h;obtain⟨rfl,rfl⟩:=h;(refine(Ds hT dF mD m).1 c ac _ fC st bK .ret ρ _ w _ hac h1 hS λa' w' hp=> ?_);obtain⟨kj,Aa,k1,k2,k3⟩:=hp;obtain⟨y,Xs,hy2⟩:=Jn hT Aa.W Aa.F hrs Dl;exact⟨Aa.defers,y,Xs,kj,hy2,k1,k2,Aa.W,k3⟩
theorem aba(hT:dK P tt){O:fk}{G:T dY}(hO:vY P C O)(hG:GOk P tt G)(m:Nat)(mD:∀d,jq P C (uE O G m d)->yN P tt C (uE O G m d)):∀d,jq P C (uE O G m d)
 |0=>λρ st w f args v st' cZ h=>by simp[uE]at h
 |d +1=>by
  intro ρ st w f args v st' cZ h hW yh;have ih:=aba hT hO hG m mD d;unfold uE at h;split at h
  .rename_i s hs;exact hO f s hs ρ st w args v st' cZ h hW yh
  . (split at h<;>first|(cases h;done)|skip);rename_i F hF;exact ado hT hG ih (mD _ ih) m hF h hW yh
end
end
end Go.Ai
