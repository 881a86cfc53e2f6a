/- Its operations, second part; regions. -/
import Derived.Test.YtgihekklfnjkiaaGreatDoorBEvalB
import Derived.Laws.IdiomStrings
import Derived.Laws.RangeString
import Derived.LoopN
set_option linter.all false
namespace Go.Ai
section
open Go Go.RowKit
section
variable{P:Program}{tt:TT}{ρ:Pos->Loc}{C:Cells}{st:St}{w w':World}
theorem Q6(del:Option Pos)(h:T AB){b:Pos}{x:AB}(hb:(KB del h).get b=some x):h.get b=some x/\∀c,del=some c->b≠c:=by
 cases del with
 |none=>exact⟨hb,λ_ h=>by cases h⟩
 |some c=>
  by_cases he:c=b
  .subst he;simp only[KB]at hb;rw[T.gy]at hb;cases hb
  .simp only[KB]at hb;rw[T.b9 _ he]at hb;exact⟨hb,λd hd=>by cases hd;exact λe=>he e.symm⟩
theorem OR(hW:bV ρ C st w){o:Obj}{x0:AB}{base size:Nat}(del:Option Pos)(hh:w'.heap=w.heap.push o)(h1:w'.os=w.os)(h2:w'.tape=w.tape)(h3:w'.output=w.output)
   (hB:∀ρ' n',(∀b:Pos,b.toNat<st.next.toNat->ρ' b=ρ b)->st.next.toNat<=n'->tD ρ' n' C ⟨w.heap.size,base,size⟩ w' x0):
   ∃ρ':Pos->Loc,(∀b:Pos,b.toNat<st.next.toNat->ρ' b=ρ b)/\ρ' st.next=⟨w.heap.size,base,size⟩/\bV ρ' C (st.bh del none (some x0)) w'/\oJ ρ st w ρ' (st.bh del none (some x0)) w':=by
 let ρ':Pos->Loc:=λb=>if b=st.next then⟨w.heap.size,base,size⟩else ρ b
 have bE:∀b:Pos,b.toNat<st.next.toNat->ρ' b=ρ b:=λb hb=>Za6 (λe=>by rw[e]at hb;omega)
 have jg:ρ' st.next=⟨w.heap.size,base,size⟩:=Zb4 rfl;have fQ:w'.heap.size=w.heap.size+1:=by rw[hh];simp
 have hold:∀k,k<w.heap.size->w'.heap[k]? =w.heap[k]? :=λk hk=>by rw[hh,Zq0,Za6 (by omega)]
 refine⟨ρ',bE,jg,?_,⟨h1,h2,h3,by omega,λk hk _=>hold k hk,λb x hb=> ?_⟩⟩;rotate_left
 . by_cases he:b=st.next
   .right;rw[he,jg];exact Za3 _
   .left;simp only[St.bh,NI]at hb;rw[T.b9 _ (λe=>he e.symm)]at hb;have dO:=(Q6 del _ hb).1;exact⟨b,x,dO,by rw[bE b (hW.live b x dO).1]⟩
 refine hW.aku (b0:=st.next) (x0:=x0) (by rw[Pos.aD];omega) (by rw[Pos.aD];omega) (by rw[T.gy]) ?_ bE (by rw[jg];exact hB _ _ bE (by rw[Pos.aD];omega)) ?_ (by rw[jg,fQ];simp) (by omega) (λk hk _=>hold k hk)
 .intro b x hb hx;rw[T.b9 _ (λe=>hb e.symm)]at hx;have hx:=(Q6 del _ hx).1;refine⟨hx,?_⟩;rw[jg];have:=(hW.live b x hx).2.1;simp only;omega
 .intro a v ha;have:=World.block_lt_of_cell? _ _ (hW.dS a v ha).1;rw[jg];simp only;omega
theorem agl(hW:bV ρ C st w){b:Pos}{x x0:AB}(hb:st.heap.get b=some x)(h1:w'.os=w.os)(h2:w'.tape=w.tape)(h3:w'.output=w.output)(fQ:w'.heap.size=w.heap.size)
   (Cv:∀k,k≠(ρ b).aM->w'.heap[k]? =w.heap[k]?) (hB:tD ρ st.next.toNat C (ρ b) w' x0):
   bV ρ C (st.bh none (some (b,x0)) none) w'/\oJ ρ st w ρ (st.bh none (some (b,x0)) none) w':=by
 obtain⟨aV,xH,_⟩:=hW.live b x hb;refine⟨?_,⟨h1,h2,h3,by omega,λk _ hk=>Cv k (λe=>hk b x hb e.symm),λc y hc=> ?_⟩⟩;rotate_left
 . left;by_cases he:c=b
   .exact⟨b,x,hb,by rw[he]⟩
   .simp only[St.bh,NI,KB]at hc;rw[T.b9 _ (λe=>he e.symm)]at hc;exact⟨c,y,hc,rfl⟩
 refine hW.aku (b0:=b) (x0:=x0) (Za3 _) aV (by simp only[NI,KB];rw[T.gy]) ?_ (λ_ _=>rfl) hB ?_ (by omega) (by omega) (λk _ hk=>Cv k hk)
 .intro c y hc hy;simp only[NI,KB]at hy;rw[T.b9 _ (λe=>hc e.symm)]at hy;exact⟨hy,λe=>hc (hW.inj _ _ _ _ hy hb e)⟩
 .exact λa v ha e=>(hW.dS a v ha).2 b x hb e.symm
theorem BQ{cs:List AV}{c:Array Value}{e:TypeId}{fr:Nat×Nat}{g:Nat}{n:Nat}(hg:w'.heap[g]? =some (.cells c e fr))(hle:cs.length<=c.size)(hv:aJ ρ n C cs (c.toList.take cs.length))
  (hf:∀i,i<c.size->¬(fr.1<=i/\i<fr.2)):tD ρ n C ⟨g,0,c.size⟩ w' (.cells cs 0):=
 ⟨c,e,fr,hg,rfl,by simpa using hle,by simpa using hv,λi _ hi=>by simpa using hf i (by simpa using hi)⟩
theorem amD(hT:dh P tt)(t:TypeId):fh P tt (.alloc t):=by
 intro ρ C st w k xs cls fr a o vs res ho hc hW hF hx hr;simp only[j9]at hc;split at hc<;>first|(cases hc;done)|skip
 rename_i ti fB;split at hc<;>first|(cases hc;done)|skip
 rename_i z hz;cases hc;simp only[fP,H5]at hx;subst hx;simp only[aE.run,QL,H5]at hr;subst hr;obtain⟨zv,Tr,_,EJ⟩:=Fp hT fB hz (ρ:=ρ) (n:=st.next.toNat) (C:=C) w;have hl:z.length=zv.cells.size:=by simpa using EJ.1
 obtain⟨ρ',bE,jg,ji,hE⟩:=OR (w':=w.alloc (.cells zv.cells t)) (o:= .cells zv.cells t) (x0:= .cells z 0) (base:=0) (size:=zv.cells.size) hW none rfl rfl rfl rfl (λρ' n' bE hn=>
   BQ (w':=w.alloc (.cells zv.cells t)) (e:=t) (fr:=(0,0)) (by show(w.heap.push _)[w.heap.size]? =_;simp) (by omega) (by rw[hl,Ze9 (by simp)];exact EJ.mono bE hn) (λi _=>by simp))
 refine⟨_,.pointer (some ⟨w.heap.size,0,none⟩),_,ρ',?_,Yields.value _,bE,ji,?_,hE⟩
 .simp[execOp,ho,Instr.alloc,Tr,newVar,newRow]
 .have:=aC.ptr (ρ:=ρ') (n:=(st.bh none none (some (.cells z 0))).next.toNat) (C:=C) st.next 0 (by simp[St.bh,Pos.aD]);rw[jg]at this;simpa using this
theorem ar6(t:TypeId)(x:Operand):fh P tt (.box t x):=by
 intro ρ C st w k xs cls fr a o vs res ho hc hW hF hx hr;simp only[j9]at hc;split at hc<;>first|(cases hc;done)|skip
 rename_i b hb;cases hc;obtain⟨v,rfl,hv⟩:=lC hb hF hx;simp only[aE.run,abp,H5]at hr;subst hr;have EJ:=hv.cells;have hl:v.cells.length=(a.eval x).cells.size:=by simpa using EJ.1
 obtain⟨ρ',bE,jg,ji,hE⟩:=OR (w':=w.alloc (.cells (a.eval x).cells t)) (o:= .cells (a.eval x).cells t) (x0:= .cells v.cells 0) (base:=0) (size:=(a.eval x).cells.size) hW none rfl rfl rfl rfl (λρ' n' bE hn=>
   BQ (w':=w.alloc (.cells (a.eval x).cells t)) (e:=t) (fr:=(0,0)) (by show(w.heap.push _)[w.heap.size]? =_;simp) (by omega) (by rw[hl,Ze9 (by simp)];exact EJ.mono bE hn) (λi _=>by simp))
 refine⟨_,.pointer (some ⟨w.heap.size,0,none⟩),_,ρ',?_,Yields.value _,bE,ji,?_,hE⟩
 .simp[execOp,ho,Instr.box,newVar,newRow]
 .have:=aC.ptr (ρ:=ρ') (n:=(st.bh none none (some (.cells v.cells 0))).next.toNat) (C:=C) st.next 0 (by simp[St.bh,Pos.aD]);rw[jg]at this;simpa using this
theorem NK{n:Nat}{z:List AV}{zs:List Value}(h:aJ ρ n C z zs):∀m,aJ ρ n C (bU z m) (bU zs m)
 |0=>aJ.nil
 |m+1=>h.append (NK h m)
theorem lH{α:Type}(z:List α):∀m,(bU z m).length=m*z.length
 |0=>by simp[bU]
 |m+1=>by simp[bU,lH z m,Zj8,Zr3]
theorem Zp{α:Type}(z:List α):∀(m i:Nat),i<m*z.length->(bU z m)[i]? =z[i % z.length]?
 |0,i,h=>by simp at h
 |m +1,i,h=>by
  simp only[bU];by_cases hi:i<z.length
  .rw[Zc5 hi,Zl1 hi]
  .have hi:z.length<=i:=(by omega);rw[Zc4 hi,Zp z m _ (by rw[Zj8]at h;omega)];congr 1;rw[<-Zq6 hi]
theorem agm(z:Array Value)(m:Nat)(hz:0<z.size):((Array.range (m*z.size)).map (z[· % z.size]!)).toList=bU z.toList m:=by
 apply Zi3;intro i;by_cases hi:i<m*z.size
 .rw[Zp _ _ _ (by simpa using hi)];have aV:i % z.size<z.size:=Zk8 _ hz;simp[hi,aV]
 .rw[Zc2 (by simp;omega),Zc2 (by rw[lH];simp;omega)]
theorem MM{ρ':Pos->Loc}{b:Pos}{n g len es bn size:Nat}{cap:Option Nat}(hb:b.toNat<n)(bE:ρ' b=⟨g,0,size⟩)(hl:len<=bn)(hc:∀c,cap=some c->c=bn)(hs:bn*es<=size):
  aC ρ' n C (.slice b 0 len cap es) (.slice (some ⟨g,0,none⟩) len bn):=
 .slice _ _ _ _ _ _ _ hl hc (λ_=>⟨hb,by rw[bE],by rw[bE];simpa using hs⟩) (λ_=>hb)
theorem aby{z:List AV}{zv:Value}{n m size:Nat}(EJ:aJ ρ n C z zv.cells.toList)(hl:z.length=size):
   aJ ρ n C (bU z m) ((Array.range (m*size)).map ((if m*size=0 then(#[]:Array Value)else zv.cells)[· % (if m*size=0 then(#[]:Array Value)else zv.cells).size]!)).toList/\
   ((Array.range (m*size)).map ((if m*size=0 then(#[]:Array Value)else zv.cells)[· % (if m*size=0 then(#[]:Array Value)else zv.cells).size]!)).size=m*size:=by
 refine⟨?_,by simp⟩;by_cases h0:m*size=0
 .have:bU z m=[]:=(by apply Zc0;rw[lH,hl];exact h0);rw[this];have:(Array.range (m*size))= #[]:=(by rw[h0];rfl);rw[this];simpa using(aJ.nil:aJ ρ n C [] [])
 . rw[Za6 h0];have hzs:zv.cells.size=size:=(by have:=EJ.1;simp at this;omega);have Vn:0<zv.cells.size:=by
    rw[hzs];rcases Zn7 size with h|h
    .rw[h]at h0;simp at h0
    .exact h
   have:=agm zv.cells m Vn;rw[hzs]at this ⊢;rw[this];exact NK EJ m
theorem ar7{k:IntKind}{i:Int}(h1:loI k<=i)(h2:i<=hiI k):k.wrap i=i:=by
 rw[<-yj];unfold ax;split
 . split
   .rfl
   .exact absurd h2 (by assumption)
 .exact absurd h1 (by assumption)
theorem ago{j:Nat}(h:j<=9223372036854775807):IntKind.i64.wrap (j:Int)=(j:Int):=ar7 (by simp only[loI];omega) (by simp only[hiI];omega)
theorem aiR(hT:dh P tt)(t:TypeId)(l c:Operand):fh P tt (.makeSlice t l c):=by
 intro ρ C st w k xs cls fr a o vs res ho hc hW hF hx hr;simp only[j9]at hc;split at hc<;>first|(cases hc;done)|skip
 rename_i ti l0 fB hl;split at hc<;>first|(cases hc;done)|skip
 rename_i e hk;split at hc<;>first|(cases hc;done)|skip
 rename_i te oU;split at hc<;>first|(cases hc;done)|skip
 rename_i z hz;cases hc;obtain⟨d,hd,dK⟩:=(hT.at fB).und;rw[hk]at dK;rw[tE dK]at hd;obtain⟨i0,sF,u6,hib,ML⟩:=(hT.at oU).info;obtain⟨u,v,rfl,h1,h2⟩:=ac5 hl hF hx;simp only[aE.run,Cr]at hr;split at hr<;>first|(cases hr;done)|skip
 rename_i jl jc hjl hjc;split at hr<;>first|(cases hr;done)|skip
 rename_i e1 e2 e3;have e1:=Zb5 e1;have e2:=Zb5 e2;have e3:=Zb5 e3;simp only[H5]at hr;subst hr;obtain⟨kl,iO⟩:=mI h1 hjl;obtain⟨kc,hkc⟩:=mI h2 hjc;obtain⟨zv0,hzv0,_,hzl,_⟩:=ML z hz;obtain⟨zv,Tr,_,EJ⟩:=Fp hT oU hz (ρ:=ρ) (n:=st.next.toNat) (C:=C) w;obtain⟨Vo,ac6⟩:=aby (m:=jc) EJ hzl;generalize gw:(Array.range (jc*te.size)).map ((if jc*te.size=0 then(#[]:Array Value)else zv.cells)[· % (if jc*te.size=0 then(#[]:Array Value)else zv.cells).size]!)=row at Vo ac6;obtain⟨ρ',bE,jg,ji,hE⟩:=OR (w':=w.alloc (.cells row e)) (o:= .cells row e) (x0:= .cells (bU z jc) 0) (base:=0) (size:=row.size) hW none rfl rfl rfl rfl (λρ' n' bE hn=>
   BQ (w':=w.alloc (.cells row e)) (e:=e) (fr:=(0,0)) (by show(w.heap.push _)[w.heap.size]? =_;simp) (by rw[lH,ac6,hzl];exact Za3 _)
    (by rw[lH,hzl, <-ac6, <-Zi0,Zh7];exact Vo.mono bE hn) (λi _=>by simp))
 refine⟨_,.slice (some ⟨w.heap.size,0,none⟩) jl jc,_,ρ',?_,Yields.value _,bE,ji,?_,hE⟩
 . have cO:=ago (Zb3 e1 e3);have sH:=ago e3;have hb:¬((te.bytes:Int)*(jc:Int)>2 ^ 48):=(by have h:=Int.ofNat_le.2 e2;rw[Int.natCast_mul]at h;exact Int.not_lt.2 h);have dJ:(Instr.makeSlice t (.int kl jl) (.int kc jc)).run P w= .ok (.slice (some ⟨w.heap.size,0,none⟩) jl jc) (w.alloc (.cells row e)):=by
    unfold Instr.makeSlice;simp only[Sem.run_bind,bt hd,Result.andThen_ok,asInt,asIntOf,Sem.run_pure,agc sF,cO,sH,hib];have auP:¬((decide ((jc:Int)<0)||decide ((te.bytes:Int)*(jc:Int)>2 ^ 48)||decide ((jl:Int)<0)||decide ((jl:Int)>(jc:Int)))=true):=by
        simp only[Zj3,Ze7];rintro(((h|h)|h)|h)
        .omega
        .exact hb h
        .omega
        .omega
    rw[Za6 auP];simp only[Sem.run_bind,run_askRoom,Result.andThen_ok,mG sF,u6,Zd0];rw[<-gw];by_cases h0:jc*te.size=0
    .   simp only[h0,Zh1,Sem.run_bind,Sem.run_pure,Result.andThen_ok,newRow,run_newObj,World.alloc_eq]
    .   simp only[h0,Zh0,Sem.run_bind,Sem.run_pure,Result.andThen_ok,Tr,newRow,run_newObj,World.alloc_eq]
   simp[execOp,ho,iO,hkc,dJ]
 .exact MM (by simp[St.bh,Pos.aD]) jg e1 (λc hc=>by cases hc;rfl) (by rw[ac6];exact Za3 _)
theorem ac7(hT:dh P tt)(t:TypeId)(len:Nat)(ps:Array (Nat×Operand)):fh P tt (.buildSlice t len ps):=by
 intro ρ C st w k xs cls fr a o vs res ho hc hW hF hx hr;simp only[j9]at hc;split at hc<;>first|(cases hc;done)|skip
 rename_i ti l0 fB hl;split at hc<;>first|(cases hc;done)|skip
 rename_i e hk;split at hc<;>first|(cases hc;done)|skip
 rename_i te oU;split at hc<;>first|(cases hc;done)|skip
 rename_i z hz hlim;have hlim:=Zb5 hlim;cases hc;obtain⟨d,hd,dK⟩:=(hT.at fB).und;rw[hk]at dK;rw[tE dK]at hd;obtain⟨i0,sF,u6,hib,ML⟩:=(hT.at oU).info;have hv:=iN hl hF hx;simp only[aE.run,wq]at hr;split at hr<;>first|(cases hr;done)|skip
 rename_i cs Cy;simp only[H5]at hr;subst hr;obtain⟨zv0,hzv0,_,hzl,_⟩:=ML z hz;obtain⟨zv,Tr,_,EJ⟩:=Fp hT oU hz (ρ:=ρ) (n:=st.next.toNat) (C:=C) w;obtain⟨Vo,ac6⟩:=aby (m:=len) EJ hzl;generalize gw:(Array.range (len*te.size)).map ((if len*te.size=0 then(#[]:Array Value)else zv.cells)[· % (if len*te.size=0 then(#[]:Array Value)else zv.cells).size]!)=row at Vo ac6;have hps:(ps.map λ(i,x)=>(i,a.eval x)).toList=ps.toList.map λx=>(x.1,a.eval x.2):=by simp
 obtain⟨mJ,e1,e2⟩:=aas (λi=>some (i*te.size,te.size)) Cy Vo (ps:=ps.toList.map λx=>(x.1,a.eval x.2)) (by simpa [Zh8,Zl7]using hv) (by simp[Zh8,Zl7]);have hlen:cs.length=mJ.size:=by simpa using e2.1
 have auQ:∀{pp:List (Nat×Nat)}{vs cells r:List AV},cF cells pp vs=some r->r.length=cells.length:=by
   intro pp;induction pp with
   |nil=>intro vs cells r h;unfold cF at h;split at h<;>first|(cases h;done)|(simp only[H5]at h;subst h;rfl)|(rename_i hh;cases hh)
   |cons p pp ih=>
    intro vs cells r h;unfold cF at h;(split at h<;>first|(cases h;done)|(rename_i hh;cases hh;done)|skip);rename_i hh;simp only[Zf9]at hh;obtain⟨rfl,rfl⟩:=hh;(split at h<;>first|(cases h;done)|skip);rename_i g1 g2;have g1:=Za7 g1;have g2:=Zb5 g2;rw[ih h];simp[aQ];omega
 have hcsl:=auQ Cy;rw[lH,hzl]at hcsl;obtain⟨ρ',bE,jg,ji,hE⟩:=OR (w':=w.alloc (.cells mJ e)) (o:= .cells mJ e) (x0:= .cells cs 0) (base:=0) (size:=mJ.size) hW none rfl rfl rfl rfl (λρ' n' bE hn=>
   BQ (w':=w.alloc (.cells mJ e)) (e:=e) (fr:=(0,0)) (by show(w.heap.push _)[w.heap.size]? =_;simp) (by omega)
    (by rw[hlen, <-Zi0,Zh7];exact e2.mono bE hn) (λi _=>by simp))
 refine⟨_,.slice (some ⟨w.heap.size,0,none⟩) len len,_,ρ',?_,Yields.value _,bE,ji,?_,hE⟩
 . have dJ:(Instr.buildSlice t len (ps.map λ(i,x)=>(i,a.eval x))).run P w= .ok (.slice (some ⟨w.heap.size,0,none⟩) len len) (w.alloc (.cells mJ e)):=by
    unfold Instr.buildSlice;simp only[Sem.run_bind,bt hd,Result.andThen_ok,mG sF,u6];rw[Za6 (by omega)];by_cases h0:len*te.size=0
    .   simp only[h0,Zh1,Sem.run_bind,Sem.run_pure,Result.andThen_ok];simp only[h0,Zh1]at gw;rw[gw,hps,e1];simp only[newRow,Sem.run_bind,run_newObj,World.alloc_eq,Result.andThen_ok,Sem.run_pure]
    .   simp only[h0,Zh0,Sem.run_bind,Sem.run_pure,Result.andThen_ok,Tr];simp only[h0,Zh0]at gw;rw[gw,hps,e1];simp only[newRow,Sem.run_bind,run_newObj,World.alloc_eq,Result.andThen_ok,Sem.run_pure]
   simp only[execOp,ho,Sem.run_bind];rw[dJ];rfl
 .exact MM (by simp[St.bh,Pos.aD]) jg (Za3 _) (λc hc=>by cases hc;rfl) (by omega)
theorem amE(t:TypeId)(r:Option Operand)(hT:dh P tt):fh P tt (.makeMap t r):=by
 intro ρ C st w k xs cls fr a o vs res ho hc hW hF hx hr;have key:k= .mkMap/\(execOp a.eval o).run P w= .ok (.value (.map (some w.heap.size))) (w.alloc (.map #[] 0)):=by
  simp only[j9]at hc;split at hc<;>first|(cases hc;done)|skip
  rename_i ti fB;obtain⟨d,hd,dK⟩:=(hT.at fB).und;split at hc<;>first|(cases hc;done)|skip
  .cases hc;exact⟨rfl,by simp[execOp,ho,Instr.makeMap]⟩
  .rename_i hk;rw[hk]at dK;rw[Vg dK]at hd;cases hc;exact⟨rfl,by simp[execOp,ho,Instr.makeMap,bt hd,Act.eval,asInt,asIntOf]⟩
 obtain⟨rfl,dJ⟩:=key;simp only[aE.run,QO,H5]at hr;subst hr;obtain⟨ρ',bE,jg,ji,hE⟩:=OR (w':=w.alloc (.map #[] 0)) (o:= .map #[] 0) (x0:= .map [] 0) (base:=0) (size:=0) hW none rfl rfl rfl rfl (λρ' n' bE hn=>
  ⟨#[],by show(w.heap.push _)[w.heap.size]? =_;simp,rfl,λi e e' h=>by simp at h⟩)
 refine⟨_,_,_,ρ',dJ,Yields.value _,bE,ji,?_,hE⟩;have:=aC.map (ρ:=ρ') (n:=(st.bh none none (some (.map [] 0))).next.toNat) (C:=C) st.next (by simp[St.bh,Pos.aD]);rw[jg]at this;exact this
end
section
variable{P:Program}{tt:TT}{ρ:Pos->Loc}{C:Cells}{st:St}{w w':World}
theorem Q7{n:Nat}:∀{l:List AV}{ys:List Value},aN l=true->aJ ρ n C l ys->∀y∈ys,y.oneCell'=true
 |[],ys,_,h=>by have:=h.ku;subst this;simp
 |v::l,ys,h1,h=>by
  unfold aN at h1;split at h1<;>first|(cases h1;done)|skip
  rename_i ho;obtain⟨y,ys',rfl,hv,hs⟩:=h.cons_inv;intro z hz;simp at hz;rcases hz with rfl|hz
  .cases hv<;>first|rfl|(simp[AV.one]at ho;done)
  .exact Q7 h1 hs z hz
theorem Cz{α:Type}(l:List α){i:Nat}(vs:List α)(hi:i<=l.length)(k:Nat):(aQ l i vs)[k]? =if k<i then l[k]? else if k<i+vs.length then vs[k - i]? else l[k]? :=by
 unfold aQ;have hl:(l.take i).length=i:=by simp;omega
 split
 .rename_i h;rw[Zc5 (by omega),Ze3,Zb4 h]
 . rename_i h;rw[Zc4 (by omega),hl];split
   .rename_i h';rw[Zc5 (by omega)]
   .rename_i h';rw[Zc4 (by omega),Ze5];congr 1;omega
theorem NL{α:Type}(l:List α)(b off:Nat)(vs:List α)(h:b+off<=l.length):(aQ l (b+off) vs).drop b=aQ (l.drop b) off vs:=by
 apply Zi3;intro k;rw[Ze5,Cz l vs h,Cz (l.drop b) vs (by simp;omega),Ze5];by_cases h1:k<off
 .rw[Zb4 (by omega),Zb4 h1]
 . rw[Za6 (by omega),Za6 h1];by_cases h2:k<off+vs.length
   .rw[Zb4 (by omega),Zb4 h2];congr 1;omega
   .rw[Za6 (by omega),Za6 h2]
theorem Zq{α:Type}(l:List α)(off m:Nat)(vs:List α)(h:off+vs.length<=m)(h':m<=l.length):(aQ l off vs).take m=aQ (l.take m) off vs:=by
 apply Zi3;intro k;rw[Ze3,Cz l vs (by omega),Cz (l.take m) vs (by simp;omega),Ze3];by_cases h1:k<off
 .rw[Zb4 (by omega),Zb4 h1,Zb4 h1,Zb4 (by omega)]
 . by_cases h2:k<off+vs.length
   .rw[Zb4 (by omega),Za6 h1,Zb4 h2,Za6 h1,Zb4 h2]
   .rw[Za6 h1,Za6 h2,Za6 h1,Za6 h2]
theorem Q8(hW:bV ρ C st w){b:Pos}{cs vs:List AV}{fz off:Nat}{ys:List Value}(hb:st.heap.get b=some (.cells cs fz))(hle:off+vs.length<=cs.length)(hfz:fz<=off)
   (h1:aN vs=true) (hv:aJ ρ st.next.toNat C vs ys):
   ∃w',(storeCells ⟨(ρ b).aM,(ρ b).base+off,none⟩ ys).run P w= .ok () w'/\bV ρ C (st.bh none (some (b,.cells (aQ cs off vs) fz)) none) w'/\oJ ρ st w ρ (st.bh none (some (b,.cells (aQ cs off vs) fz)) none) w':=by
 obtain⟨_,_,c,e,fr,g1,g2,g3,g4,g5⟩:=hW.live b _ hb;have hl:vs.length=ys.length:=hv.1;obtain⟨w',e1,e2,e3,e4,e5,e6,e7⟩:=wU (P:=P) (ρ b).aM e fr ys 0 ((ρ b).base+off) c w g1 (by omega) (Q7 h1 hv) (λk hk pF=>by
   have:=g5 (k - (ρ b).base) (by omega) (by omega)
   rwa [show(ρ b).base+(k - (ρ b).base)=k from by omega]at this)
 simp only[Zf5]at e1 e2;refine⟨w',e1,?_⟩;have hlen:(aQ cs off vs).length=cs.length:=by simp[aQ];omega
 refine agl hW hb e5 e6 e7 e3 e4 ⟨_,e,fr,e2,?_,?_,?_,λi hi OS=>g5 i hi ?_⟩
 .simp[aQ];omega
 .rw[hlen];simp[aQ];omega
 .rw[hlen];rw[NL _ _ _ _ (by simp;omega),Zq _ _ _ _ (by omega) (by simp;omega)];exact g4.aQ hv off
 .simp[aQ]at OS;omega
theorem aC.Fq{n:Nat}:aC ρ n C .undef undef:= .tuple [] #[] rfl (λ_ _ _ h=>by simp at h)
theorem amF(hT:dh P tt)(t:TypeId)(x y:Operand):fh P tt (.store t x y):=by
 intro ρ C st w k xs cls fr a o vs res ho hc hW hF hx hr;simp only[j9]at hc;split at hc<;>first|(cases hc;done)|skip
 rename_i ti l fB hl;cases hc;obtain⟨p,v,rfl,h1,h2⟩:=ac5 hl hF hx;obtain⟨i0,sF,u6,_⟩:=(hT.at fB).info;simp only[aE.run,KA]at hr;split at hr<;>first|(cases hr;done)|skip
 rename_i b off;split at hr<;>first|(cases hr;done)|skip
 rename_i cs fz hb;split at hr<;>first|(cases hr;done)|skip
 rename_i e1 e2 e3 e4;have e1:=Za7 e1;have e2:=Zb5 e2;have e3:=Zb5 e3;simp only[H5]at hr;subst hr;obtain⟨_,he⟩:=h1.qj;have hc:=h2.cells;obtain⟨w',dJ,ji,hE⟩:=Q8 (P:=P) hW hb (by omega) e3 e4 hc;refine⟨.skip,undef,w',ρ,?_,.inr ⟨rfl,rfl⟩,λ_ _=>rfl,ji,aC.Fq,hE⟩;have fQ:(a.eval y).cells.size=ti.size:=by have:=hc.1;simp at this;omega
 simp[execOp,ho,he,Instr.storeAt,Instr.sureAddr,storeVar,mG sF,u6,fQ,dJ]
theorem run_setObj_map{r:Nat}{es:Array MapEntry}{c:Nat}{o:Obj}{w:World}(h:w.heap[r]? =some (.map es c)):(setObj r o).run P w= .ok () { w with heap:=w.heap.setIfInBounds r o }:=by
 simp[setObj,Sem.run,h]
theorem abz(hW:bV ρ C st w){b:Pos}{es:List (AV×AV×Nat)}{clock:Nat}(hb:st.heap.get b=some (.map es clock)){Tt:List (AV×AV×Nat)}{akD:Array MapEntry}{OT:Nat}
  (hE:MK ρ st.next.toNat C Tt akD.toList):
  bV ρ C (st.bh none (some (b,.map Tt OT)) none) { w with heap:=w.heap.setIfInBounds (ρ b).aM (.map akD OT) }/\oJ ρ st w ρ (st.bh none (some (b,.map Tt OT)) none) { w with heap:=w.heap.setIfInBounds (ρ b).aM (.map akD OT) }:=by
 have aV:=(hW.live b _ hb).2.1;refine agl hW hb rfl rfl rfl (by simp) (λk hk=>by simp[Zk0 (Ne.symm hk)]) ⟨akD,by simp[aV],by simpa using hE.1,λi e e' h1 h2=>hE.2 i e e' h1 (by simpa using h2)⟩
theorem aat{n:Nat}{pk:PK}{u v:AV}{x y:Value}(h1:aC ρ n C u x)(h2:aC ρ n C v y)(h:yd pk u v=some true)(m:Nat):Instr.sameBits m y x=true:=by
 unfold yd at h;split at h<;>first|(cases h;done)|skip
 .simp only[H5]at h;rw[h1.kR,h2.kR];rename_i p q;have:p=q:=(by simpa using h);subst this;cases m<;>simp[Instr.sameBits]
 . (split at h<;>first|(cases h;done)|skip);rename_i MH;have:=BO MH;subst this;simp only[H5,n9]at h;rw[h1.iq,h2.iq];rename_i p q _;have:p=q:=(by simpa using h);subst this;cases m<;>simp[Instr.sameBits]
 .simp only[H5]at h;obtain⟨bx,rfl,e1⟩:=h1.ff;obtain⟨bz,rfl,e2⟩:=h2.ff;have:bz==bx:=(by rw[beq_toListBytes,OM e2 e1,mH];exact(mH.1 h).symm);cases m<;>simpa [Instr.sameBits]using this
theorem aed{pk:PK}{u:AV}:∀{es:List (AV×AV×Nat)}{i j:Nat}{v:AV},gM pk u es i=some (some (j,v))->∃e,i<=j/\es[j - i]? =some e/\yd pk u e.1=some true
 |[],i,j,v,h=>by simp[gM]at h
 |(k',v',born)::es,i,j,v,h=>by
  unfold gM at h;split at h<;>first|(cases h;done)|skip
  .rename_i hq;simp only[H5,Zd4]at h;obtain⟨rfl,_⟩:=h;exact⟨(k',v',born),Za3 _,by simp,hq⟩
  .obtain⟨e,h1,h2,h3⟩:=aed h;refine⟨e,by omega,?_,h3⟩;rw[show j - i=(j - (i+1))+1 from by omega];simpa using h2
theorem Vp(k v:AV):∀(es:List (AV×AV×Nat))(i j:Nat),(tu k v es i)[j]? =if j=i then(es[i]?).map (λe=>(k,v,e.2.2))else es[j]?
 |[],i,j=>by cases i<;>cases j<;>simp[tu]
 |(a,b,born)::es,0,j=>by cases j<;>simp[tu]
 |e::es,i+1,j=>by
  cases j with
  |zero=>simp[tu]
  |succ j=>simp[tu,Vp k v es i j]
theorem abA (hT:dh P tt)(op:Op)(t:TypeId)(m k0 v0:Operand)(hop:op= .mapUpdate t m k0 v0\/op= .insert t m k0 v0):fh P tt op:=by
 intro ρ C st w k xs cls fr a o vs res ho hc hW hF hx hr;have hc:j9.akr tt t m k0 v0=some (k,xs,cls):=by rcases hop with rfl|rfl<;>simpa only[j9]using hc
 have hex:(execOp a.eval o).run P w=((Instr.mapUpdate t (a.eval m) (a.eval k0) (a.eval v0)).run P w).andThen λ_ w=>.ok .skip w:=by
   rcases hop with rfl|rfl<;>simp[execOp,ho]
 unfold j9.akr at hc;split at hc<;>first|(cases hc;done)|skip
 rename_i ti l fB hl;split at hc<;>first|(cases hc;done)|skip
 rename_i kt et hk;split at hc<;>first|(cases hc;done)|skip
 rename_i tk htk;obtain⟨d,hd,dK⟩:=(hT.at fB).und;rw[hk]at dK;rw[Vg dK]at hd;obtain⟨dk,hdk,MH⟩:=(hT.at htk).und;have key:∃pk,k= .mapSet pk/\xs=l/\pk.fits dk=true:=by
   split at hc<;>first|(cases hc;done)|skip
   all_goals
     rename_i h1;cases hc;refine⟨_,rfl,rfl,arA tk.k MH ?_⟩
   .exact .inr (.inl ⟨⟨_,h1⟩,rfl⟩)
   .exact .inr (.inr ⟨h1,rfl⟩)
   .exact .inl ⟨h1,rfl⟩
 obtain⟨pk,rfl,rfl,NJ⟩:=key;obtain⟨mm,kk,vv,rfl,h1,h2,h3⟩:=evs3 hl hF hx;have hck:∀e w,(Instr.checkKey e 10000 kt (a.eval k0)).run P w= .ok () w:=λe w=>OQ hdk NJ e 9999 _ w
 simp only[aE.run,ye]at hr;split at hr<;>first|(cases hr;done)|skip
 rename_i b;split at hr<;>first|(cases hr;done)|skip
 rename_i es clock hb;obtain⟨_,he⟩:=h1.BP;obtain⟨_,_,es',dW,hlen,o8⟩:=hW.live _ _ hb;have hE:MK ρ st.next.toNat C es es'.toList:=⟨by simpa using hlen,λi e e' h1 h2=>o8 i e e' h1 (by simpa using h2)⟩
 split at hr<;>first|(cases hr;done)|skip
 . rename_i i v hpk hf;simp only[H5]at hr;subst hr;obtain⟨r',hf',oK⟩:=Gj NJ h2 hE hf;rcases oK with⟨e1,_⟩|⟨j',v',y,e1,e2,e3,_,e5⟩
   .cases e1
   . cases  e1;subst e2;obtain⟨e,_,hei,hek⟩:=aed hf;rw[Zr4]at hei;have hi:i<es'.size:=(by omega);have akE:es'[i]? =some es'[i]:=Zg0 hi;have apg:=(o8 i e es'[i] hei akE).1;have hsb:=aat h2 apg hek 10000;have hE2:MK ρ st.next.toNat C (tu kk vv es i) (es'.modify i λe=>{ e with key:=a.eval k0,val:=a.eval v0 }).toList:=by
        refine⟨?_,λj e e' g1 g2=> ?_⟩
        . have hsl:∀(es:List (AV×AV×Nat))(i:Nat),(tu kk vv es i).length=es.length:=by
            intro es;induction es with
            |nil=>intro i;cases i<;>rfl
            | cons e es ih=>intro i;cases i with
              |zero=>obtain⟨a,b,c⟩:=e;rfl
              |succ i=>simp[tu,ih i]
          rw[hsl];simpa using hlen
        . rw[Vp]at g1;simp only[Zi2,Zj1]at g2;by_cases hji:j=i
          .subst hji;rw[Zb4 rfl,hei]at g1;simp[akE]at g1 g2;subst g1;subst g2;exact⟨h2,h3,(o8 j e es'[j] hei akE).2.2⟩
          .rw[Za6 hji]at g1;rw[Za6 (λe=>hji e.symm)]at g2;exact o8 j e e' g1 g2
     obtain⟨ji,hE'⟩:=abz hW hb (OT:=clock) hE2;refine⟨.skip,undef,_,ρ,?_,.inr ⟨rfl,rfl⟩,λ_ _=>rfl,ji,aC.Fq,hE'⟩;rw[hex];simp only[Instr.mapUpdate,Sem.run_bind,bt hd,Result.andThen_ok,he,run_getObj_map dW,hck,run_findKey hdk hf',akE,Zd9,Ze8,Instr.keyThatStays,hsb,Zh1,Sem.run_pure,run_setObj_map dW]
 . rename_i hpk hf;simp only[H5]at hr;subst hr;obtain⟨r',hf',oK⟩:=Gj NJ h2 hE hf;rcases oK with⟨_,e2⟩|⟨j',v',y,e1,_⟩
   . subst  e2;have hE2:MK ρ st.next.toNat C (es++[(kk,vv,clock)]) (es'.push { key:=a.eval k0,val:=a.eval v0,born:=clock }).toList:=by
        refine⟨by simp[hlen],λj e e' g1 g2=> ?_⟩;simp only[Array.toList_push]at g2;rcases Zj2 j es.length with hj|hj
        .rw[Zc5 hj]at g1;rw[Zc5 (by simp;omega)]at g2;exact o8 j e e' g1 (by simpa using g2)
        .rw[Zc4 hj]at g1;rw[Zc4 (by simp;omega)]at g2;have:j - es.length=0:=(by have:=(Za1.1 g1).1;simp at this;omega);rw[this]at g1;have:j - es'.toList.length=0:=(by simp;omega);rw[this]at g2;simp at g1 g2;subst g1;subst g2;exact⟨h2,h3,rfl⟩
     obtain⟨ji,hE'⟩:=abz hW hb (OT:=clock+1) hE2;refine⟨.skip,undef,_,ρ,?_,.inr ⟨rfl,rfl⟩,λ_ _=>rfl,ji,aC.Fq,hE'⟩;rw[hex];simp only[Instr.mapUpdate,Sem.run_bind,bt hd,Result.andThen_ok,he,run_getObj_map dW,hck,run_findKey hdk hf',run_setObj_map dW]
   .cases e1
end
section
variable{P:Program}{tt:TT}{ρ:Pos->Loc}{C:Cells}{st:St}{w w':World}
theorem bV.of_heap(hW:bV ρ C st w)(h:w'.heap=w.heap):bV ρ C st w' where
 live b x hb:=let⟨h1,h2,h3⟩:=hW.live b x hb;⟨h1,by rw[h];exact h2,h3.of_heap (by rw[h])⟩
 inj:=hW.inj
 dS a v ha:=let⟨h1,h2⟩:=hW.dS a v ha;⟨by unfold World.cell? at h1 ⊢; rw[h];exact h1,h2⟩
 whole a v ha o ho:=by have:=hW.whole a v ha o ho;unfold World.cell? at this ⊢; rw[h];exact this
theorem Zr{es:Nat}:∀{xs:List (List AV)}(_h:∀(i:Nat)(cs:List AV),xs[i]? =some cs->cs.length=es)(q:Nat)(v:AV),
  xs.flatten[q]? =some v->∃cs,xs[q / es]? =some cs/\cs[q % es]? =some v
 |[],_,q,v,hv=>by simp at hv
 |c ::xs,h,q,v,hv=>by
  have hc:c.length=es:=h 0 c rfl;have qZ:∀(i:Nat)(cs:List AV),xs[i]? =some cs->cs.length=es:=λi cs hi=>h (i+1) cs (by simpa using hi)
  rw[Zf8]at hv;rcases Zj2 q c.length with hq|hq
  . rw[Zc5 hq]at hv;refine⟨c,?_,?_⟩
    .   rw[Nat.div_eq_of_lt (by omega)];rfl
    .   rw[Zl1 (by omega)];exact hv
  . rw[   Zc4 hq]at hv;obtain⟨cs,h1,h2⟩:=Zr qZ (q - c.length) v hv;rw[hc]at hq h1 h2;have Vn:0<es:=by
        rcases Zn7 es with h0|h0
        .subst h0;have hl:=qZ _ _ h1;have:=(Za1.1 h2).1;omega
        .exact h0
    refine⟨cs,?_,?_⟩
    .   rw[Nat.div_eq_sub_div Vn hq];simpa using h1
    .   rw[Zq6 hq];exact h2
theorem Zs{es:Nat}:∀{xs:List (List AV)}(_h:∀(i:Nat)(cs:List AV),xs[i]? =some cs->cs.length=es),xs.flatten.length=xs.length*es
 |[],_=>by simp
 |c::xs,h=>by have hc:c.length=es:=h 0 c rfl;rw[Zf8,Zd8,Zs (λi cs hi=>h (i+1) cs (by simpa using hi)),hc,Zc9,Zj8];omega
theorem vt(hW:bV ρ C st w){es m:Nat}{u:AV}{x:Value}{new:List AV}{k:Nat}(hu:aC ρ st.next.toNat C u x)(hk:dR u=some k)(hmk:m<=k)(h:cX es m (λb=>st.heap.get b) u=some new)(w2:World)(sH:w2.heap=w.heap):
   ∃ys:List Value,(Builtin.firstCells es m x).run P w2= .ok ys.toArray w2/\aJ ρ st.next.toNat C new ys/\(u= .af\/new.length=m*es):=by
 have hW2:=hW.of_heap (w':=w2) sH;unfold cX at h;split at h
 .simp only[H5]at h;subst h;rw[hu.ir];exact⟨[],by simp[Builtin.firstCells],aJ.nil,.inl rfl⟩
 . rename_i b off len cap es';simp only[dR,H5]at hk;subst hk;obtain⟨aa,bn,he,hle,_,ha⟩:=hu.fA;rw[he];split at h
   .rename_i h0;have h0:=Za7 h0;simp only[H5]at h;subst h;exact⟨[],by simp[Builtin.firstCells,h0,loadCells,loadCellsFrom],aJ.nil,.inr (by simp[h0])⟩
   .rename_i h0;have h0:=Zf2 h0;(split at h<;>first|(cases h;done)|skip);rename_i cs fz hb;have hm:m≠0:=(by intro e;subst e;simp at h0);obtain⟨_,rfl,_⟩:=ha (by omega);obtain⟨ys,h1,h2⟩:=hW2.loadCells (P:=P) hb h;exact⟨ys,by simp only[Builtin.firstCells];exact h1,h2,.inr (Q4 h)⟩
 . rename_i xs es';simp only[dR,H5]at hk;subst hk;(split at h<;>first|(cases h;done)|skip);rename_i he1 OU;have he1:=Za7 he1;have OU:=Zb5 OU;subst he1;simp only[H5]at h;subst h;obtain⟨aa,bn,cell,he,hle,Ao,g1,g2,g3⟩:=hu.yh;rw[he];have dW:∀(i:Nat)(cs:List AV),(xs.take m)[i]? =some cs->cs.length=es:=λi cs hi=>by
     rw[Ze3]at hi;split at hi
     .exact g1 i cs hi
     .cases hi
   have hfl:=Zs dW;rw[Zg7,Zl6 OU]at hfl;have arB:∀q v,(xs.take m).flatten[q]? =some v->∃cs,xs[q / es]? =some cs/\cs[q % es]? =some v:=λq v hv=>by
     obtain⟨cs,h1,h2⟩:=Zr dW q v hv;rw[Ze3]at h1;split at h1
     .exact⟨cs,h1,h2⟩
     .cases h1
   refine⟨(List.range (m*es)).map λq=>cell (q / es) (q % es),?_,⟨by simp[hfl],λq v y hv hy=> ?_⟩,.inr hfl⟩
   .simp only[Builtin.firstCells];(refine run_loadCells w2 _ _ _ λq hq=> ?_);have aV:q<(xs.take m).flatten.length:=(by rw[hfl];exact hq);obtain⟨cs,h1,h2⟩:=arB q _ (H0 aV);have Ao:=Ao (by intro e;rw[e]at h1;simp at h1);obtain⟨ab,ao,asp⟩:=aa;simp only at Ao;subst Ao;have:=(hW2.dS _ _ (g2 _ _ _ _ h1 h2)).1;rw[uk];simp only at this;rw[show ao+q=ao+q / es*es+q % es from by rw[Zk5,Nat.mul_comm,Nat.div_add_mod]];exact this
   .obtain⟨cs,h1,h2⟩:=arB q v hv;have hq:q<m*es:=(by rw[<-hfl];exact(Za1.1 hv).1);simp[hq]at hy;subst hy;exact g3 _ _ _ _ h1 h2
 . rename_i s;simp only[dR,H5]at hk;subst hk;(split at h<;>first|(cases h;done)|skip);rename_i he1 OU;have he1:=Za7 he1;have OU:=Zb5 OU;subst he1;simp only[H5]at h;subst h;obtain⟨bs,rfl,hs⟩:=hu.ff;refine⟨(s.take m).map λ(c:Nat)=>Value.int .u8 (.ofNat c),?_,⟨by simp,λq v y hv hy=> ?_⟩,.inr (by simp;omega)⟩
   .simp only[Builtin.firstCells,Sem.run_pure];congr 1;apply Zm6;simp only[Array.toList_map,ByteArray.data_extract,Zp6,List.extract,Ze6,Zr4];rw[<-hs, <-List.map_take,Zh8];rfl
   .simp only[Zb7,Zf6]at hv hy;obtain⟨c,hc,rfl⟩:=hv;obtain⟨c',Zt,rfl⟩:=hy;rw[hc]at Zt;cases Zt;exact .int _ _
 .cases h
theorem agp{n:Nat}{u:AV}{x:Value}{k:Nat}(hu:aC ρ n C u x)(hk:dR u=some k):(Builtin.lenOf x).run P w= .ok k w:=by
 unfold dR at hk;split at hk<;>first|(cases hk;done)|skip
 all_goals simp only[H5]at hk;subst hk
 .rw[hu.ir];rfl
 .obtain⟨_,_,he,_⟩:=hu.fA;rw[he];rfl
 .obtain⟨_,_,_,he,_⟩:=hu.yh;rw[he];rfl
 .obtain⟨bs,rfl,hs⟩:=hu.ff;rw[<-KF hs];rfl
theorem aee(nl:Nat):∀(r c:Nat),c<=nl+(nl+768) / 4->Builtin.growBy nl r c<=nl+(nl+768) / 4
 |0,c,h=>h
 |r+1,c,h=>by
  unfold Builtin.growBy;split
  .exact h
  .exact aee nl r _ (by omega)
theorem nextslicecap_le{akF gG:Nat}(h:gG<akF):Builtin.nextslicecap akF gG<=2*akF+768:=by
 unfold Builtin.nextslicecap;split
 .omega
 . split
   .omega
   .have:=aee akF 4 gG (by omega);omega
theorem akG(hT:dh P tt){t t2 e:Nat}{ts:Array TypeId}{ti t2i te:TI}(fB:tt.get (key t)=some ti)(ht2:tt.get (key t2)=some t2i)(hk:ti.k= .slice e)(tS:∀k,t2i.k≠ .int k)
  (oU:tt.get (key e)=some te) (h0:ts[0]? =some t) (h1:ts[1]? =some t2) (ty:TypeId) (base:Option Addr) (n cap m:Nat) (x:Value) (w:World)
  (hx:(Builtin.lenOf x).run P w= .ok m w) (hb:(2*(n+m)+768)*te.bytes<=281474976710656) (hi:n+m<=9223372036854775807):
  (Builtin.append_ ts ty #[.slice base n cap,x]).run P w=
    if n+m<=cap then((Builtin.firstCells te.size m x).run P w).andThen λnew w=>((match base with|some a=>storeCells (a.add (n*te.size)) new.toList|none=>pure ()).run P w).andThen λ_ w=>.ok (.slice base (n+m) cap) w
    else((Builtin.firstCells te.size n (.slice base n cap)).run P w.drew).andThen λgG w1=>((Builtin.firstCells te.size m x).run P w1).andThen λnew w2=>((zeroValue e).run P w2).andThen λz w3=>
        .ok (.slice (some ⟨w3.heap.size,0,none⟩) (n+m) (grownCap w (n+m) cap e)) (w3.alloc (.cells (gG++new++Builtin.zeroCells z.cells (grownCap w (n+m) cap e - (n+m))) e)):=by
 obtain⟨d,hd,dK⟩:=(hT.at fB).und;rw[hk]at dK;rw[tE dK]at hd;obtain⟨d2,hd2,aph⟩:=(hT.at ht2).und;obtain⟨i0,sF,u6,hib,_⟩:=(hT.at oU).info;have auR:∀k,d2≠ .int k:=by
  rintro k rfl;cases MH:t2i.k<;>rw[MH]at aph<;>first|(simp[cm]at aph;done)|exact absurd MH (tS _)
 have hmax:¬(((n+m:Nat):Int)>IntKind.i64.max):=by
  have:IntKind.i64.max=9223372036854775807:=by decide
  rw[this];omega
 have auS:¬(n+m<=cap)->¬(Builtin.nextslicecap (n+m) cap*te.bytes>2 ^ 48):=λhc=>by
  have h1:=nextslicecap_le (Nat.lt_of_not_le hc);have h2:=Zh3 te.bytes h1;have:(2:Nat) ^ 48=281474976710656:=by decide
  omega
 have agj:∀q,(Question.appendCap (n+m) cap e).forced=q->q=false:=by rintro q rfl;rfl
 clear aph;cases d2<;>first|(exact absurd rfl (auR _))|skip
 all_goals
  unfold Builtin.append_;simp only[h0,h1,List.getElem?_toArray,Za4,Zb6,Sem.run_bind,bt hd,Result.andThen_ok,mG sF,u6,bt hd2,Sem.run_pure,hx,Zf4,Zh0,Zl3,Zh1,Sem.run_ite];by_cases hc:n+m<=cap
  .rw[Zb4 hc,Zb4 hc];cases base<;>simp only[Sem.run_bind,Sem.run_pure,Result.andThen_ok]
  .rw[Za6 hc,Za6 hc];simp only[Sem.run_bind,agc sF,hib,Result.andThen_ok,hmax,false_and,Zh0,auS hc,run_choose,Question.forced,Zf4,World.drew_eq,run_askRoom,Sem.run_pure,newRow,run_newObj,World.alloc_eq];rfl
end
section
variable{P:Program}{tt:TT}{ρ:Pos->Loc}{C:Cells}{st:St}{w w':World}
theorem api{L:Loc}{cs:List AV}{n:Nat}(fz:Nat)(h:tD ρ n C L w' (.cells cs 0)):tD ρ n C L w' (.cells cs fz):=
 let⟨c,e,fr,h1,h2,h3,h4,h5⟩:=h
 ⟨c,e,fr,h1,h2,h3,h4,λi _ hi=>h5 i (Zi1 _) hi⟩
theorem akH(hW:bV ρ C st w)(del:Option Pos)(fz:Nat){gG new rest:List Value}{ol nl:List AV}{e:TypeId}{n m es bn:Nat}(h1:aJ ρ st.next.toNat C ol gG)(h2:aJ ρ st.next.toNat C nl new)
  (MN:ol.length=n*es) (hln:nl.length=m*es) (hr:rest.length=(bn - (n+m))*es) (hc:n+m<=bn) {w2:World} (sH:w2=w.drew.alloc (.cells (gG++new++rest).toArray e)):
  ∃ρ':Pos->Loc,(∀b:Pos,b.toNat<st.next.toNat->ρ' b=ρ b)/\bV ρ' C (st.bh del none (some (.cells (ol++nl) fz))) w2/\oJ ρ st w ρ' (st.bh del none (some (.cells (ol++nl) fz))) w2/\
   aC ρ' (st.bh del none (some (.cells (ol++nl) fz))).next.toNat C (.slice st.next 0 (n+m) none es) (.slice (some ⟨w.heap.size,0,none⟩) (n+m) bn):=by
 subst sH;have hl1:gG.length=n*es:=by rw[<-h1.1,MN]
 have ri:new.length=m*es:=by rw[<-h2.1,hln]
 have fQ:(gG++new++rest).length=bn*es:=by simp only[Zd8,hl1,ri,hr];rw[<-Zj8, <-Zj8];congr 1;omega
 obtain ⟨ρ',bE,jg,ji,hE⟩:=OR (w':=w.drew.alloc (.cells (gG++new++rest).toArray e)) (o:= .cells (gG++new++rest).toArray e) (x0:= .cells (ol++nl) fz) (base:=0) (size:=(gG++new++rest).toArray.size) hW del rfl rfl rfl rfl (λρ' n' bE hn=>
  api   fz <| BQ (e:=e) (fr:=(0,0)) (by show(w.heap.push _)[w.heap.size]? =_;simp) (by simp[MN,hln,hl1,ri])
   (by
        have:(gG++new++rest).toArray.toList.take (ol++nl).length=gG++new:=by
         rw[Zr8 (by simp[MN,hln,hl1,ri])]
        rw[this];exact(h1.append h2).mono bE hn) (λi _=>by simp))
 refine⟨ρ',bE,ji,hE,MM (by simp[St.bh,Pos.aD]) jg hc (λc hc=>by cases hc) (by simp only[Zo3,fQ];exact Za3 _)⟩
theorem afb(z:Array Value)(m:Nat):(Builtin.zeroCells z m).toList.length=m*z.size:=by simp[Builtin.zeroCells]
theorem apj{m:Nat}(h:Nat.beq m 0=false):m≠0:=Zf2 h
theorem akI (hT:dh P tt){t t2 e:Nat}{ts:Array TypeId}{ti t2i te:TI}{z:List AV}(fB:tt.get (key t)=some ti)(ht2:tt.get (key t2)=some t2i)(hk:ti.k= .slice e)(tS:∀k,t2i.k≠ .int k)
   (oU:tt.get (key e)=some te) (hz:te.zero=some z) (h0:ts[0]? =some t) (h1:ts[1]? =some t2) (ty:TypeId) {s u:AV} {xs xu:Value} {res:eG} (hW:bV ρ C st w)
   (hs:aC ρ st.next.toNat C s xs) (hu:aC ρ st.next.toNat C u xu) (hr:ic (λb=>st.heap.get b) st.next te.size te.bytes [s,u]=some res):
   F6 P ρ C st w (((Builtin.append_ ts ty #[xs,xu]).run P w).andThen λv w=>.ok (.value v) w) res:=by
 simp only[ic]at hr;split at hr<;>first|(cases hr;done)|skip
 rename_i n m hn hm;split at hr<;>first|(cases hr;done)|skip
 rename_i b1 b2;have b1:=Zb5 b1;have b2:=Zb5 b2;have hlen:=agp (P:=P) (w:=w) hu hm;obtain⟨i0,sF,u6,_,ML⟩:=(hT.at oU).info;obtain⟨zv0,hzv0,_,hzl,_⟩:=ML z hz;have hzr:=λw=>Fp hT oU hz (ρ:=ρ) (n:=st.next.toNat) (C:=C) w
 have hsl:∃base bn,xs= .slice base n bn/\n<=bn:=by
   unfold dR at hn;split at hn<;>first|(cases hn;done)|skip
   .cases hn;exact⟨none,0,hs.ir,Za3 _⟩
   .cases hn;obtain⟨a,c,he,hle,_⟩:=hs.fA;exact⟨_,c,he,hle⟩
   .cases hn;obtain⟨a,c,_,he,hle,_⟩:=hs.yh;exact⟨_,c,he,hle⟩
   .rename_i s';exfalso;cases hbm:Nat.beq m 0<;>simp[hbm]at hr
 obtain⟨base,bn,qZ,hle⟩:=hsl;have dJ:=akG hT fB ht2 hk tS oU h0 h1 ty base n bn m xu w hlen b1 b2;rw[qZ,dJ];have hg:∀c,n+m<=grownCap w (n+m) c e:=λc=>by unfold grownCap Question.cut;exact Nat.le_add_right _ _
 have aau:∀(del:Option Pos)(fz:Nat)(ol nl:List AV),¬(n+m<=bn)->cX te.size n (λb=>st.heap.get b) s=some ol->cX te.size m (λb=>st.heap.get b) u=some nl->ol.length=n*te.size->nl.length=m*te.size->
     F6 P ρ C st w ((if n+m<=bn then((Builtin.firstCells te.size m xu).run P w).andThen λnew w=>((match base with|some a=>storeCells (a.add (n*te.size)) new.toList|none=>pure ()).run P w).andThen λ_ w=>.ok (.slice base (n+m) bn) w
     else((Builtin.firstCells te.size n (.slice base n bn)).run P w.drew).andThen λgG w1=>((Builtin.firstCells te.size m xu).run P w1).andThen λnew w2=>((zeroValue e).run P w2).andThen λz w3=>
        .ok (.slice (some ⟨w3.heap.size,0,none⟩) (n+m) (grownCap w (n+m) bn e)) (w3.alloc (.cells (gG++new++Builtin.zeroCells z.cells (grownCap w (n+m) bn e - (n+m))) e))).andThen λv w=>.ok (.value v) w)
        (.bh (.slice st.next 0 (n+m) none te.size) del none (some (.cells (ol++nl) fz))):=by
   intro del fz ol nl hc ho sI MN hln;obtain⟨gG,e1,e2,_⟩:=vt (P:=P) hW hs hn (Za3 _) ho w.drew rfl;obtain⟨new,e3,e4,_⟩:=vt (P:=P) hW hu hm (Za3 _) sI w.drew rfl;obtain⟨zv,Tr,_,EJ⟩:=hzr w.drew;rw[qZ]at e1;have afO:(Builtin.zeroCells zv.cells (grownCap w (n+m) bn e - (n+m))).toList.length=(grownCap w (n+m) bn e - (n+m))*te.size:=(by rw[afb];congr 1;have:=EJ.1;simp at this;omega);obtain⟨ρ',bE,ji,hE,hv⟩:=akH hW del fz e2 e4 MN hln afO (hg bn) (e:=e) rfl;refine⟨_,_,_,ρ',?_,Yields.value _,bE,ji,hv,hE⟩;rw[Za6 hc];simp only[e1,e3,Tr,Result.andThen_ok,World.size_drew];congr 2;simp
 have hlu:∀nl,cX te.size m (λb=>st.heap.get b) u=some nl->m≠0->nl.length=m*te.size:=by
   intro nl sI hm0;obtain⟨_,_,_,h⟩:=vt (P:=P) hW hu hm (Za3 _) sI w rfl;rcases h with rfl|h
   .simp[dR]at hm;omega
   .exact h
 have hls:∀ol,cX te.size n (λb=>st.heap.get b) s=some ol->ol.length=n*te.size:=by
   intro ol Gl;obtain⟨ys,_,zw,h⟩:=vt (P:=P) hW hs hn (Za3 _) Gl w rfl;rcases h with rfl|h
   .simp[dR]at hn;subst hn;simp[cX]at Gl;subst Gl;simp
   .exact h
 have hzero:m=0->aC ρ st.next.toNat C s xs->F6 P ρ C st w ((if n+m<=bn then((Builtin.firstCells te.size m xu).run P w).andThen λnew w=>((match base with|some a=>storeCells (a.add (n*te.size)) new.toList|none=>pure ()).run P w).andThen λ_ w=>.ok (.slice base (n+m) bn) w
     else((Builtin.firstCells te.size n (.slice base n bn)).run P w.drew).andThen λgG w1=>((Builtin.firstCells te.size m xu).run P w1).andThen λnew w2=>((zeroValue e).run P w2).andThen λz w3=>
        .ok (.slice (some ⟨w3.heap.size,0,none⟩) (n+m) (grownCap w (n+m) bn e)) (w3.alloc (.cells (gG++new++Builtin.zeroCells z.cells (grownCap w (n+m) bn e - (n+m))) e))).andThen λv w=>.ok (.value v) w) (.val s):=by
   rintro rfl hsx;have hf:(Builtin.firstCells te.size 0 xu).run P w= .ok #[] w:=by
     unfold dR at hm;split at hm<;>first|(cases hm;done)|skip
     .  rw[hu.ir];simp[Builtin.firstCells]
     .  obtain⟨_,_,he,_⟩:=hu.fA;rw[he];simp[Builtin.firstCells,loadCells,loadCellsFrom]
     .  obtain⟨_,_,_,he,_⟩:=hu.yh;rw[he];simp[Builtin.firstCells,loadCells,loadCellsFrom]
     .  obtain⟨bs,rfl,_⟩:=hu.ff;simp only[Builtin.firstCells,Sem.run_pure];congr 1;apply Zm6;simp
   rw[qZ]at hsx;refine .pure (x:= .slice base n bn) ?_ hsx;rw[Zb4 (by omega),hf];cases base<;>simp[storeCells]
 split at hr<;>first|(cases hr;done)|skip
 .rename_i CA;simp only[H5]at hr;subst hr;exact hzero (Za7 CA) hs
 .rename_i CA;simp only[H5]at hr;subst hr;exact hzero (Za7 CA) hs
 .rename_i CA;simp only[H5]at hr;subst hr;exact hzero (Za7 CA) hs
 ·
   rename_i CA;have CA:=apj CA;(split at hr<;>first|(cases hr;done)|skip);rename_i new sI;simp only[H5]at hr;subst hr;have he:=hs.ir;rw[he]at qZ;simp only[Value.slice.injEq]at qZ;obtain⟨rfl,rfl,rfl⟩:=qZ;have:=aau none 0 [] new (by omega) rfl sI (by simp) (hlu new sI CA);simpa using this
 ·
   rename_i b off n' c es' CA;have CA:=apj CA;simp only[dR,H5]at hn;subst hn;obtain⟨aa,cc,he,hlec,hcc,ha⟩:=hs.fA;rw[he]at qZ;simp only[Value.slice.injEq]at qZ;obtain⟨rfl,_,rfl⟩:=qZ;have:=hcc c rfl;subst this;split at hr
   . rename_i sJ;have sJ:=Zb5 sJ;(split at hr<;>first|(cases hr;done)|skip);rename_i cs fz new hb sI;(split at hr<;>first|(cases hr;done)|skip);rename_i c1 c2 c3;have c1:=Zb5 c1;simp only[Zb2]at c2;have c2a:=Zb5 c2.1;have c2b:=Za7 c2.2;subst c2b;simp only[H5]at hr;subst hr;obtain⟨aV,rfl,hbound⟩:=ha (by omega);obtain⟨ys,e1,e2,_⟩:=vt (P:=P) hW hu hm (Za3 _) sI w rfl;have Q9:=hlu new sI CA;obtain⟨w2,e3,ji,hE⟩:=Q8 (P:=P) hW hb (by rw[Q9];rw[Zj8]at c1;omega) c2a c3 e2;refine⟨_,.slice (some ⟨(ρ b).aM,(ρ b).base+off,none⟩) (n'+m) c,w2,ρ,?_,Yields.value _,λ_ _=>rfl,ji,?_,hE⟩
     .  rw[Zb4 sJ,e1];simp only[Result.andThen_ok,uk];rw[Zk5,e3];rfl
     .  exact .slice _ _ _ _ _ _ _ sJ (λc hc=>by cases hc;rfl) (λ_=>⟨aV,rfl,hbound⟩) (λh=>by cases h)
   . rename_i sJ;have sJ:¬(n'+m<=c):=λh=>by rw[Nat.ble_eq_true_of_le h]at sJ;cases sJ
     (split at hr<;>first|(cases hr;done)|skip);rename_i gG new Gl sI;simp only[H5]at hr;subst hr;exact aau none 0 gG new sJ Gl sI (hls gG Gl) (hlu new sI CA)
 ·
   rename_i b off n' es' CA;have CA:=apj CA;simp only[dR,H5]at hn;subst hn;(split at hr<;>first|(cases hr;done)|skip);rename_i cs fz gG new hb Gl sI;(split at hr<;>first|(cases hr;done)|skip);rename_i c2 c3;simp only[Zb2]at c2;have c2a:=Zb5 c2.1;have c2b:=Za7 c2.2;subst c2b;simp only[H5]at hr;subst hr;by_cases sJ:n'+m<=bn
   ·
     obtain ⟨aa,cc,he,hlec,hcc,ha⟩:=hs.fA;rw[he]at qZ;simp only[Value.slice.injEq]at qZ;obtain⟨rfl,_,rfl⟩:=qZ;obtain⟨aV,rfl,hbound⟩:=ha (by omega);obtain⟨ys,e1,e2,_⟩:=vt (P:=P) hW hu hm (Za3 _) sI w rfl;have Q9:=hlu new sI CA;have arC:=hls gG Gl;obtain⟨xH,Gi,c,ce,fr,g1,g2,g3,g4,g5⟩:=hW.live b _ hb;have hmul:(n'+m)*te.size<=cc*te.size:=Zh3 _ sJ;have hmul2:(n'+m)*te.size=n'*te.size+m*te.size:=Zj8 _ _ _;have hyl:ys.length=m*te.size:=(by rw[<-e2.1,Q9]);have hold:aJ ρ st.next.toNat C gG ((c.toList.drop ((ρ b).base+off)).take (n'*te.size)):=by
        simp only[cX]at Gl;split at Gl
        .rename_i hz0;have hz0:=Za7 hz0;simp only[H5]at Gl;subst Gl;rw[hz0];simpa using(aJ.nil:aJ ρ st.next.toNat C [] [])
        . rw[hb]at Gl;simp only at Gl;obtain⟨ho1,KI⟩:=abu Gl;have h:=(g4.drop off).take (n'*te.size);rw[<-ho1]at h;have:List.take (n'*te.size) (List.drop off (List.take cs.length (List.drop (ρ b).base c.toList)))=(c.toList.drop ((ρ b).base+off)).take (n'*te.size):=by
            rw[Zo2,List.take_take,Zl4,Zl6 (by omega)]
          rw[this]at h;exact h
     obtain⟨w2,s1,s2,s3,s4,s5,s6,s7⟩:=wU (P:=P) (ρ b).aM ce fr ys 0 ((ρ b).base+off+n'*te.size) c w g1 (by omega) (Q7 c3 e2) (λk hk pF=>by
        have:=g5 (k - (ρ b).base) (by omega) (by omega)
        rwa [show(ρ b).base+(k - (ρ b).base)=k from by omega]at this)
     simp only[Zf5]at s1 s2
     let ρ':Pos->Loc:=λq=>if q=st.next then⟨(ρ b).aM,(ρ b).base+off,(ρ b).size⟩else ρ q
     have bE:∀q:Pos,q.toNat<st.next.toNat->ρ' q=ρ q:=λq hq=>Za6 (λe=>by rw[e]at hq;omega)
     have jg:ρ' st.next=⟨(ρ b).aM,(ρ b).base+off,(ρ b).size⟩:=Zb4 rfl;have hcl:c.toList.length=c.size:=(by simp);have hWn:bV ρ' C (st.bh (some b) none (some (.cells (gG++new) (fz - off)))) w2:=by
        refine hW.aku (b0:=st.next) (x0:= .cells (gG++new) (fz - off)) (by rw[Pos.aD];omega) (by rw[Pos.aD];omega) (by rw[T.gy]) ?_ bE ?_ ?_ (by rw[jg,s3];exact Gi) (by omega) (λk hk pF=>s4 k (by rw[jg]at pF;exact pF))
        .intro q x hq hx;rw[T.b9 _ (λe=>hq e.symm)]at hx;obtain⟨h1,h2⟩:=Q6 (some b) _ hx;refine⟨h1,?_⟩;rw[jg];exact λe=>h2 b rfl (hW.inj _ _ _ _ h1 hb e)
        . rw[jg];refine⟨_,ce,fr,s2,by simp[aQ];omega,by simp[aQ,arC,Q9];omega,?_,λi sF hi=> ?_⟩
          . (simp only;rw[NL _ _ _ _ (by omega)];have htk:(aQ (c.toList.drop ((ρ b).base+off)) (n'*te.size) ys).take (gG++new).length=(c.toList.drop ((ρ b).base+off)).take (n'*te.size)++ys:=by unfold aQ;rw[<-Zf7,Zr8];simp[arC,Q9,hyl];omega);rw[htk];exact(hold.append e2).mono bE (by rw[Pos.aD];omega)
          . have OS:(ρ b).base+off+i<c.size:=(by simp only[Zo3]at hi;have:(aQ c.toList ((ρ b).base+off+n'*te.size) ys).length=c.size:=(by simp[aQ];omega);omega);have:=g5 (off+i) (by omega) (by omega);simp only
            rwa [<-Zk5]at this
        .intro ad v hv;rw[jg];exact λe=>(hW.dS ad v hv).2 b _ hb e.symm
     refine⟨_,(.slice (some ⟨(ρ b).aM,(ρ b).base+off,none⟩) (n'+m) cc),w2,ρ',?_,Yields.value _,bE,hWn,?_,⟨s5,s6,s7,by omega,λk _ hk=>s4 k (λe=>hk b _ hb e.symm),λq x hx=> ?_⟩⟩;rotate_left;rotate_left
     .  left;by_cases hq:q=st.next
        .exact⟨b,_,hb,by rw[hq,jg]⟩
        .simp only[St.bh,NI]at hx;rw[T.b9 _ (λe=>hq e.symm)]at hx;obtain⟨h1,_⟩:=Q6 (some b) _ hx;exact⟨q,x,h1,by rw[bE q (hW.live q x h1).1]⟩
     .  rw[Zb4 sJ,e1];simp only[Result.andThen_ok,uk];rw[s1];rfl
     .  refine .slice _ _ _ _ _ _ _ sJ (λc hc=>by cases hc) (λ_=>⟨by simp[St.bh,Pos.aD],by rw[jg];rfl,?_⟩) (λ_=>by simp[St.bh,Pos.aD]);rw[jg];simp only;omega
   .exact aau (some b) _ gG new sJ Gl sI (hls gG Gl) (hlu new sI CA)
end
section
variable{P:Program}{tt:TT}{ρ:Pos->Loc}{C:Cells}{st:St}{w w':World}
theorem abB{n:Nat}{xs:Array Value}{u v:AV}(h:aJ ρ n C [u,v] xs.toList):∃x y,xs= #[x,y]/\aC ρ n C u x/\aC ρ n C v y:=by
 obtain⟨x,l,h1,h2,h3⟩:=h.cons_inv;obtain⟨y,l',h4,h5,h6⟩:=h3.cons_inv;have:=h6.ku;subst this;exact⟨x,y,by apply Zm6;rw[h1,h4],h2,h5⟩
theorem amG{n:Nat}{xs:Array Value}{u:AV}(h:aJ ρ n C [u] xs.toList):∃x,xs= #[x]/\aC ρ n C u x:=by
 obtain⟨x,l,h1,h2,h3⟩:=h.cons_inv;have:=h3.ku;subst this;exact⟨x,by apply Zm6;rw[h1],h2⟩
theorem akJ{ts:Array TypeId}{t:TypeId}{l:List TypeId}(h:ts.toList=t::l):ts[0]? =some t:=by rw[<-Zi2,h];rfl
theorem arr1{ts:Array TypeId}{t t2:TypeId}{l:List TypeId}(h:ts.toList=t::t2::l):ts[1]? =some t2:=by rw[<-Zi2,h];rfl
theorem apk(hT:dh P tt){t e:Nat}{ts:Array TypeId}{ti te:TI}(fB:tt.get (key t)=some ti)(hk:ti.k= .slice e)
   (oU:tt.get (key e)=some te) (h0:ts[0]? =some t) (ty:TypeId) {d u:AV} {xd xu:Value} {res:eG} (hW:bV ρ C st w)
   (hd:aC ρ st.next.toNat C d xd) (hu:aC ρ st.next.toNat C u xu) (hr:o7 (λb=>st.heap.get b) st.next te.size [d,u]=some res):
   F6 P ρ C st w (((Builtin.copy_ ts ty #[xd,xu]).run P w).andThen λv w=>.ok (.value v) w) res:=by
 obtain⟨dd,hdd,dK⟩:=(hT.at fB).und;rw[hk]at dK;rw[tE dK]at hdd;obtain⟨i0,sF,u6,_⟩:=(hT.at oU).info;simp only[o7]at hr;split at hr<;>first|(cases hr;done)|skip
 rename_i n m hn hm;have hlen:=agp (P:=P) (w:=w) hu hm;have hsl:(∃s,d= .str s)\/∃base bn,xd= .slice base n bn/\n<=bn:=by
   unfold dR at hn;split at hn<;>first|(cases hn;done)|skip
   .cases hn;exact .inr ⟨none,0,hd.ir,Za3 _⟩
   .cases hn;obtain⟨a,c,he,hle,_⟩:=hd.fA;exact .inr ⟨_,c,he,hle⟩
   .cases hn;obtain⟨a,c,_,he,hle,_⟩:=hd.yh;exact .inr ⟨_,c,he,hle⟩
   .exact .inl ⟨_,rfl⟩
 have atT:m=0\/n=0->(Builtin.firstCells te.size 0 xu).run P w= .ok #[] w:=by
   intro _;unfold dR at hm;split at hm<;>first|(cases hm;done)|skip
   .rw[hu.ir];simp[Builtin.firstCells]
   .obtain⟨_,_,he,_⟩:=hu.fA;rw[he];simp[Builtin.firstCells,loadCells,loadCellsFrom]
   .obtain⟨_,_,_,he,_⟩:=hu.yh;rw[he];simp[Builtin.firstCells,loadCells,loadCellsFrom]
   .obtain⟨bs,rfl,_⟩:=hu.ff;simp only[Builtin.firstCells,Sem.run_pure];congr 1;apply Zm6;simp
 have u0:∀base bn,xd= .slice base n bn->(Builtin.copy_ ts ty #[xd,xu]).run P w=((Builtin.firstCells te.size (Nat.min m n) xu).run P w).andThen λcells w=>((match base with|some a=>storeCells a cells.toList|none=>pure ()).run P w).andThen λ_ w=>.ok (goInt (Nat.min m n)) w:=by
   intro base bn he;unfold Builtin.copy_;simp only[h0,he,List.getElem?_toArray,Za4,Zb6,Sem.run_bind,bt hdd,Result.andThen_ok,mG sF,u6,hlen];cases base<;>simp only[Sem.run_bind,Sem.run_pure,Result.andThen_ok]
 split at hr
 . rename_i rj;have rj:=Za7 rj;(split at hr<;>first|(cases hr;done)|skip);rename_i hns;simp only[H5]at hr;subst hr;rcases hsl with⟨s,rfl⟩|⟨base,bn,he,hle⟩
   .exact absurd rfl (hns s)
   .have hk0':Nat.min m n=0:=rj;refine .pure (x:=goInt 0) ?_ (.int _ _);rw[u0 base bn he,hk0',atT (by have:min m n=0:=rj;omega)];cases base<;>simp[storeCells]
 . rename_i rj;have rj:=Zf2 rj;(split at hr<;>first|(cases hr;done)|skip);rename_i b off n' cap es';(split at hr<;>first|(cases hr;done)|skip);rename_i cs fz new hb sI;(split at hr<;>first|(cases hr;done)|skip);rename_i c1 c2 c3;have c1:=Zb5 c1;have c2:=Zb5 c2;simp only[H5]at hr;subst hr;simp only[dR,H5]at hn;subst hn;obtain⟨aa,bn,he,hle,_,ha⟩:=hd.fA;have akK:min m n'<=m/\min m n'<=n':=⟨Nat.min_le_left _ _,Nat.min_le_right _ _⟩
   obtain⟨aV,rfl,_⟩:=ha (by omega);obtain⟨ys,e1,e2,e3⟩:=vt (P:=P) hW hu hm akK.1 sI w rfl;have Q9:new.length=min m n'*te.size:=by
     rcases e3 with rfl|e3
     .simp[dR]at hm;omega
     .exact e3
   obtain⟨w2,f1,ji,hE⟩:=Q8 (P:=P) hW hb (by rw[Q9];exact c1) c2 c3 e2;refine⟨_,goInt ((min m n':Nat):Int),w2,ρ,?_,Yields.value _,λ_ _=>rfl,ji,.int _ _,hE⟩;rw[u0 _ _ he];have hmm:Nat.min m n'=min m n':=rfl;rw[hmm,e1];simp only[Result.andThen_ok];rw[f1];rfl
theorem ar8(hT:dh P tt){t:Nat}{ts:Array TypeId}{ti:TI}(fB:tt.get (key t)=some ti){k:LK}(hk:(k= .s/\ti.k= .string)\/(k= .l/\∃e,ti.k= .slice e)\/(k= .m/\∃a b,ti.k= .map a b))
   (h0:ts[0]? =some t) (ty:TypeId) {u:AV} {xu:Value} {res:eG} (hW:bV ρ C st w)
   (hu:aC ρ st.next.toNat C u xu) (hr:OB (λb=>st.heap.get b) st.next k [u]=some res):
   F6 P ρ C st w (((Builtin.len_ ts ty #[xu]).run P w).andThen λv w=>.ok (.value v) w) res:=by
 obtain⟨d,hd,dK⟩:=(hT.at fB).und;have u0:∀x,xu=x->(Builtin.len_ ts ty #[xu]).run P w=(Builtin.len_ ts ty #[x]).run P w:=λx e=>by rw[e]
 simp only[OB]at hr;rcases hk with⟨rfl,hk⟩|⟨rfl,e,hk⟩|⟨rfl,a,b,hk⟩<;>rw[hk]at dK
 .rw[uZ dK]at hd;(cases u<;>simp only[reduceCtorEq]at hr<;>first|(cases hr;done)|skip);simp only[H5]at hr;subst hr;obtain⟨bs,rfl,hs⟩:=hu.ff;exact .pure (x:=goInt bs.size) (by unfold Builtin.len_;simp[h0,bt hd]) (by rw[KF hs];exact .int _ _)
 . rw[tE dK]at hd;cases u<;>simp only[reduceCtorEq]at hr<;>first|(cases hr;done)|skip
   .simp only[H5]at hr;subst hr;rw[hu.ir];exact .pure (x:=goInt 0) (by unfold Builtin.len_;simp[h0,bt hd]) (.int _ _)
   .simp only[H5]at hr;subst hr;obtain⟨aa,c,he,_⟩:=hu.fA;rw[he];exact .pure (by unfold Builtin.len_;simp[h0,bt hd];rfl) (.int _ _)
   .simp only[H5]at hr;subst hr;obtain⟨aa,c,_,he,_⟩:=hu.yh;rw[he];exact .pure (by unfold Builtin.len_;simp[h0,bt hd];rfl) (.int _ _)
 . rw[Vg dK]at hd;cases u<;>simp only[reduceCtorEq]at hr<;>first|(cases hr;done)|skip
   .simp only[H5]at hr;subst hr;rw[hu.Fo];exact .pure (x:=goInt 0) (by unfold Builtin.len_;simp[h0,bt hd]) (.int _ _)
   . (split at hr<;>first|(cases hr;done)|skip);rename_i es c hb;simp only[H5]at hr;subst hr;obtain⟨_,he⟩:=hu.BP;obtain⟨_,_,es',dW,hlen,_⟩:=hW.live _ _ hb;rw[he];exact .pure (x:=goInt es'.size) (by unfold Builtin.len_;simp[h0,bt hd,run_getObj_map dW]) (by rw[<-hlen];exact .int _ _)
theorem ac8(z:Array Value)(m:Nat):(Builtin.zeroCells z m).toList=bU z.toList m:=by
 unfold Builtin.zeroCells;by_cases h:0<z.size
 .exact agm z m h
 .have h0:z.size=0:=(by omega);have:z= #[]:=Zo9 h0;subst this;have h1:bU ([]:List Value) m=[]:=Zc0 (by rw[lH];simp);simp[h1]
theorem amH(hT:dh P tt){t e:Nat}{ts:Array TypeId}{ti te:TI}{z:List AV}(fB:tt.get (key t)=some ti)(hk:ti.k= .slice e)
   (oU:tt.get (key e)=some te) (hz:te.zero=some z) (h0:ts[0]? =some t) (ty:TypeId) {u:AV} {xu:Value} {res:eG} (hW:bV ρ C st w)
   (hu:aC ρ st.next.toNat C u xu) (hr:sw (λb=>st.heap.get b) st.next te.size z [u]=some res):
   F6 P ρ C st w (((Builtin.clear_ ts ty #[xu]).run P w).andThen λv w=>.ok (.value v) w) res:=by
 obtain⟨dd,hdd,dK⟩:=(hT.at fB).und;rw[hk]at dK;rw[tE dK]at hdd;obtain⟨i0,sF,u6,_,ML⟩:=(hT.at oU).info;obtain⟨zv0,_,_,hzl,_⟩:=ML z hz;obtain⟨zv,Tr,_,EJ⟩:=Fp hT oU hz (ρ:=ρ) (n:=st.next.toNat) (C:=C) w;simp only[sw]at hr;split at hr<;>first|(cases hr;done)|skip
 .simp only[H5]at hr;subst hr;rw[hu.ir];exact .pure (x:=undef) (by unfold Builtin.clear_;simp[h0,bt hdd];rfl) aC.Fq
 . rename_i b off n cap es';obtain⟨aa,bn,he,hle,_,ha⟩:=hu.fA;rw[he];split at hr
   .rename_i OV;have:=Za7 OV;subst this;simp only[H5]at hr;subst hr;exact .pure (x:=undef) (by unfold Builtin.clear_;simp[h0,bt hdd];rfl) aC.Fq
   . rename_i OV;have OV:=Zf2 OV;(split at hr<;>first|(cases hr;done)|skip);rename_i cs fz hb;(split at hr<;>first|(cases hr;done)|skip);rename_i c1 c2 c3;have c1:=Zb5 c1;have c2:=Zb5 c2;simp only[H5]at hr;subst hr;obtain⟨_,rfl,_⟩:=ha (by omega);obtain⟨w2,f1,ji,hE⟩:=Q8 (P:=P) hW hb (vs:=bU z n) (ys:=bU zv.cells.toList n) (by rw[lH,hzl];exact c1) c2 c3 (NK EJ n);refine⟨_,undef,w2,ρ,?_,Yields.value _,λ_ _=>rfl,ji,aC.Fq,hE⟩;unfold Builtin.clear_;cases n with
     |zero=>exact absurd rfl OV
     |succ n=>simp[h0,bt hdd,Tr,ac8,f1,undef]
theorem OW(c:Call)(f:Operand)(hc:c.callee= .value f)(a:Act)(o:Oper)(ho:o.op= .call c){g:FuncId}{x y:Array Value}(he:a.eval f= .func (.func g) x y):
  (execOp a.eval o).run P w=(callFunc g (x++c.args.map a.eval++y)).run P w:=by
 simp[execOp,ho,resolve,hc,he,Deferred.ofValue,invoke]
theorem apl (hT:dh P tt) (c:Call):fh P tt (.call c):=by
 intro ρ C st w k xs cls fr a o vs res ho hc hW hF hx hr;simp only[j9]at hc;split at hc<;>first|(cases hc;done)|skip
 rename_i l hl;split at hc<;>first|(cases hc;done)|skip
 ·
  rename_i g agq;cases hc;have hv:=iN hl hF hx;simp only[aE.run,aan,H5]at hr;subst hr;refine⟨c.args.toList.map a.eval,?_,hv⟩;rw[OW c _ agq a o ho (g:=g) (x:= #[]) (y:= #[]) rfl];congr 2;apply Zm6;simp
 ·
  rename_i f hnf agq;split at hc<;>first|(cases hc;done)|skip
  rename_i ao hao;cases hc;unfold fP at hx;split at hx<;>first|(cases hx;done)|skip
  rename_i fv hfv;split at hx<;>first|(cases hx;done)|skip
  rename_i vs' apm;simp only[H5]at hx;subst hx;have h1:=Bk hao hF hfv;have h2:=iN hl hF apm;simp only[aE.run,aao]at hr;split at hr<;>first|(cases hr;done)|skip
  rename_i g first captured
  simp only[H5]at hr;subst hr;obtain⟨x,y,he,hx,hy⟩:=h1.QV;refine⟨x.toList++(c.args.toList.map a.eval++y.toList),?_,hx.append (h2.append hy)⟩;rw[OW c f agq a o ho he];congr 2;apply Zm6;simp
 ·
  rename_i b agq;have hex:∀(s:Sem Value),(∀consts,builtin b c.argTypes o.type consts (c.args.map a.eval)=(do pure (.value (<-s))))->(execOp a.eval o).run P w=(s.run P w).andThen λv w=>.ok (.value v) w:=by intro s hs;simp only[execOp,ho,resolve,agq,pure_bind,invoke];rw[hs];simp
  split at hc<;>first|(cases hc;done)|skip
  ·
   (split at hc<;>first|(cases hc;done)|skip);rename_i t _ _ um;(split at hc<;>first|(cases hc;done)|skip);rename_i ti fB;have hv:=iN hl hF (vs:=vs) (by
        split at hc<;>first|(cases hc;done)|skip
        all_goals cases hc;exact hx)
   rw[oV] at hv;rw[hex (Builtin.len_ c.argTypes o.type (c.args.map a.eval)) (λ_=>rfl)];have hu:∃u,vs=[u]      :=by
        have h1:=hv.1;have h2:(c.args.toList).length=1:=by
         have: ∀{xs:List   Operand}{os:List gX},mF xs=some os->xs.length=os.length:=by
            intro xs;induction xs with
            |nil=>intro os h;simp[mF]at h;subst h;rfl
            |cons x xs ih=>intro os h;unfold mF at h;split at h<;>first|(cases h;done)|skip
                           rename_i e1 e2;simp only[H5]at h;subst h;simp[ih e2]
         rw[this hl];rfl
        match vs,h1 with
        |[u],_=>exact⟨u,rfl⟩
        |[],h1=>simp at h1 h2;omega
        |_::_::_,h1=>simp at h1 h2;omega
   obtain⟨u,rfl⟩:=hu;obtain⟨x,qZ,hux⟩:=amG hv;rw[qZ];split at hc<;>first|(cases hc;done)|skip
   all_goals
        rename_i hk;cases hc;simp only[aE.run]at hr;refine ar8 hT fB ?_ (akJ um) o.type hW hux hr
   .    exact .inl ⟨rfl,hk⟩
   .    exact .inr (.inl ⟨rfl,_,hk⟩)
   .    exact .inr (.inr ⟨rfl,_,_,hk⟩)
  ·
   (split at hc<;>first|(cases hc;done)|skip);rename_i t t2 _ um;(split at hc<;>first|(cases hc;done)|skip);rename_i ti t2i fB ht2;(split at hc<;>first|(cases hc;done)|skip);rename_i e hk tS _;(split at hc<;>first|(cases hc;done)|skip);rename_i te oU;(split at hc<;>first|(cases hc;done)|skip);rename_i z hz;cases hc;have hv:=iN hl hF hx;rw[oV]at hv;rw[hex (Builtin.append_ c.argTypes o.type (c.args.map a.eval)) (λ_=>rfl)];simp only[aE.run]at hr;have hu:∃s u,vs=[s,u]:=by
        unfold ic at hr;(split at hr<;>first|(cases hr;done)|skip);exact⟨_,_,rfl⟩
   obtain⟨s,u,rfl⟩:=hu;obtain⟨x,y,qZ,h1,h2⟩:=abB hv;rw[qZ];exact akI hT fB ht2 hk (λk hk=>tS k hk) oU hz (akJ um) (arr1 um) o.type hW h1 h2 hr
  ·
   (split at hc<;>first|(cases hc;done)|skip);rename_i t _ um;(split at hc<;>first|(cases hc;done)|skip);rename_i ti fB;(split at hc<;>first|(cases hc;done)|skip);rename_i e hk;(split at hc<;>first|(cases hc;done)|skip);rename_i te oU;cases hc;have hv:=iN hl hF hx;rw[oV]at hv;rw[hex (Builtin.copy_ c.argTypes o.type (c.args.map a.eval)) (λ_=>rfl)];simp only[aE.run]at hr;have hu:∃s u,vs=[s,u]:=by
        unfold o7 at hr;(split at hr<;>first|(cases hr;done)|skip);exact⟨_,_,rfl⟩
   obtain⟨s,u,rfl⟩:=hu;obtain⟨x,y,qZ,h1,h2⟩:=abB hv;rw[qZ];exact apk hT fB hk oU (akJ um) o.type hW h1 h2 hr
  ·
   (split at hc<;>first|(cases hc;done)|skip);cases hc;have hv:=iN hl hF hx;rw[oV]at hv;rw[hex (Builtin.min_ c.argTypes o.type (c.args.map a.eval)) (λ_=>rfl)];simp only[aE.run]at hr;have hu:∃s u r,vs=[s,u]/\res= .val r:=by
        unfold Kj at hr;(split at hr<;>first|(cases hr;done)|skip);split at hr<;>first|(cases hr;done)|skip
        all_goals cases hr;exact⟨_,_,_,rfl,rfl⟩
   obtain⟨s,u,r,rfl,rfl⟩:=hu;obtain⟨x,y,qZ,h1,h2⟩:=abB hv;obtain⟨z,hz,hvz⟩:=ape (P:=P) (w:=w) h1 h2 hr;rw[qZ];refine .pure (x:=z) ?_ hvz;simp[Builtin.min_,hz]
  ·
   (split at hc<;>first|(cases hc;done)|skip);cases hc;have hv:=iN hl hF hx;rw[oV]at hv;rw[hex (Builtin.max_ c.argTypes o.type (c.args.map a.eval)) (λ_=>rfl)];simp only[aE.run]at hr;have hu:∃s u r,vs=[s,u]/\res= .val r:=by
        unfold Kk at hr;(split at hr<;>first|(cases hr;done)|skip);split at hr<;>first|(cases hr;done)|skip
        all_goals cases hr;exact⟨_,_,_,rfl,rfl⟩
   obtain⟨s,u,r,rfl,rfl⟩:=hu;obtain⟨x,y,qZ,h1,h2⟩:=abB hv;obtain⟨z,hz,hvz⟩:=apf (P:=P) (w:=w) h1 h2 hr;rw[qZ];refine .pure (x:=z) ?_ hvz;simp[Builtin.max_,hz]
  ·
   (split at hc<;>first|(cases hc;done)|skip);rename_i t _ um;(split at hc<;>first|(cases hc;done)|skip);rename_i ti fB;(split at hc<;>first|(cases hc;done)|skip);rename_i e hk;(split at hc<;>first|(cases hc;done)|skip);rename_i te oU;(split at hc<;>first|(cases hc;done)|skip);rename_i z hz;cases hc;have hv:=iN hl hF hx;rw[oV]at hv;rw[hex (Builtin.clear_ c.argTypes o.type (c.args.map a.eval)) (λ_=>rfl)];simp only[aE.run]at hr;have hu:∃u,vs=[u]:=by
        unfold sw at hr;(split at hr<;>first|(cases hr;done)|skip);exact⟨_,rfl⟩
   obtain⟨u,rfl⟩:=hu;obtain⟨x,qZ,hux⟩:=amG hv;rw[qZ];exact amH hT fB hk oU hz (akJ um) o.type hW hux hr
theorem Yb(hT:dh P tt)(op:Op):fh P tt op:=by
 cases op with
 |move x=>exact apa x
 |assign x=>exact aky x
 |pick c x y=>exact apb c x y
 |alloc t=>exact amD hT t
 |box t x=>exact ar6 t x
 |build t ps=>exact amC hT t ps
 |buildSlice t n ps=>exact ac7 hT t n ps
 |insert t m k v=>exact abA hT _ t m k v (.inr rfl)
 |load t x=>exact apd hT t x
 |store t x y=>exact amF hT t x y
 |nilCheck x=>exact agi x
 |binOp op t x y yt=>exact amy hT op t x y yt
 |unOp op t x=>exact apc op t x
 |convert s d x=>exact aiQ hT s d x
 |makeInterface t x=>exact aiP hT t x
 |makeFunc f x y=>exact akz f x y
 |makeMap t r=>exact amE t r hT
 |makeSlice t l c=>exact aiR hT t l c
 |slice t x l h m=>exact amB hT t x l h m
 |fieldAddr t x f=>exact ae9 hT t x f
 |field t x f=>exact amz hT t x f
 |indexAddr t x i=>exact afa hT t x i
 |index t x i=>exact amA hT t x i
 |lookup t x i ok=>exact akC hT t x i ok
 |mapUpdate t m k v=>exact abA hT _ t m k v (.inl rfl)
 |extract x i=>exact aiO x i
 |call c=>exact apl hT c
 |_=>intro ρ C st w k xs cls fr a o vs res ho hc;simp[j9]at hc
end
def Reaches(P:Program)(R:Value->World->Prop):Result Next->Prop
 |.ok (.value x) w'=>R x w'
 |.ok .skip w'=>R undef w'
 |.ok (.enter f args) w'=>Calls P f args w' λ|.returned v,w''=>R v w''|_,_=>False
 |.ok (.row row args) w'=>Rows P row args w' R
 |_=>False
theorem Reaches.mono{P:Program}{R R':Value->World->Prop}(h:∀x w,R x w->R' x w):∀{r:Result Next},Reaches P R r->Reaches P R' r
 |.ok (.value _) _,hr=>h _ _ hr
 |.ok .skip _,hr=>h _ _ hr
 |.ok (.enter _ _) _,hr=>Calls.mono hr λe w he=>by cases e<;>first|exact h _ _ he|exact he
 |.ok (.row _ _) _,hr=>Rows.mono hr h
theorem Reaches.upon{P:Program}{R:Value->World->Prop}{o:Oper}{a:Act}{K:Act->World->Prop}{Q:Exit->Act->World->Prop}{r:Result Next}
  (hr:Reaches P R r) (h:∀x w,R x w->K (a.put o.dst x) w):o.upon P a K Q r:=by
 cases r with
 |ok n w=>
  cases n<;>simp only[Reaches]at hr
  .exact h _ _ hr
  .exact h _ _ hr
  . exact Calls.mono hr λe w he=>by
        cases e with
        |returned v=>exact h _ _ he
        |panicked c=>exact he.elim
        |outgrown=>exact he.elim
  .exact Rows.mono hr λv w he=>h _ _ he
 |halt x w=>simp only[Reaches]at hr
def kV(ρ:Pos->Loc)(C:Cells)(st:St)(w:World)(v:AV)(st':St)(x:Value)(w':World):Prop:=
 ∃ρ',aC ρ' st'.next.toNat C v x/\(∀b:Pos,b.toNat<st.next.toNat->ρ' b=ρ b)/\st.next.toNat<=st'.next.toNat/\bV ρ' C st' w'/\oJ ρ st w ρ' st' w'
def iX(P:Program)(C:Cells)(call:aj):Prop:=
 ∀  (ρ:Pos->Loc)(st:St)(w:World)(f:FuncId)(args:List AV)(v:AV)(st':St)(bZ:List Value),call f args st=some (v,st')->
    bV ρ C st w->aJ ρ st.next.toNat C args bZ->Reaches P (kV ρ C st w v st') ((callFunc f bZ.toArray).run P w)
section
variable{P:Program}{tt:TT}{C:Cells}{call:aj}
theorem St.Ra(st:St)(del:Option Pos)(set:Option (Pos×AB))(new:Option AB):st.next.toNat<=(st.bh del set new).next.toNat:=by
 cases new with
 |none=>exact Za3 _
 |some x=>simp only[St.bh,Pos.aD];omega
theorem Zu(hT:dh P tt)(dD:iX P C call){ρ:Pos->Loc}{st st':St}{w:World}{k:aE}{xs:List gX}{cls:Cls}{fr:Fr}{a:Act}{o:Oper}{vs:List AV}{v:AV}
   (hc:j9 tt o.op=some (k,xs,cls)) (hW:bV ρ C st w) (hF:kQ ρ st.next.toNat C fr a.tmps) (hx:fP fr xs=some vs)
   (hs:cC call k vs st=some (v,st')):Reaches P (kV ρ C st w v st') ((execOp a.eval o).run P w):=by
 have H:=Yb hT o.op ρ C st w k xs cls fr a o vs;unfold cC at hs;split at hs
 . rename_i u hr;simp only[H5,Zd4]at hs;obtain⟨rfl,rfl⟩:=hs;obtain⟨N,x,he,hy,hv⟩:=H _ rfl hc hW hF hx hr;have hp:kV ρ C st w u st x w:=⟨ρ,hv,λ_ _=>rfl,Za3 _,hW,oJ.refl _ _ _⟩
   rw[he];rcases hy with rfl|⟨rfl,rfl⟩<;>exact hp
 . rename_i u del set new hr;simp only[H5,Zd4]at hs;obtain⟨rfl,rfl⟩:=hs;obtain⟨N,x,w',ρ',he,hy,bE,ji,hv,hE⟩:=H _ rfl hc hW hF hx hr;have hp:kV ρ C st w u (st.bh del set new) x w':=⟨ρ',hv,bE,St.Ra _ _ _ _,ji,hE⟩
   rw[he];rcases hy with rfl|⟨rfl,rfl⟩<;>exact hp
 .rename_i f args hr;obtain⟨bZ,he,hv⟩:=H _ rfl hc hW hF hx hr;rw[he];exact dD ρ st w f args v st' bZ hs hW hv
 .cases hs
structure zh(tt:TT)(nt:Nat)(ops:Array Oper)(o:Oper)(ao:bS):Prop where
 dst:ao.dst=o.dst.map key
 lt:∀d,o.dst=some d->d<nt
 guard:abq ops o.guard=some ao.guard
 op:(j9 tt o.op=some (ao.k,ao.xs,ao.cls))\/(ao.k= .bad/\ao.cls= .bh)
theorem wO{nt:Nat}{ops:Array Oper}:∀{os:List Oper}{bs:List Nat}{l:List bS},uj tt nt ops os bs=some l->
  l.length=os.length/\∀(i:Nat)(o:Oper),os[i]? =some o->∃ao,l[i]? =some ao/\zh tt nt ops o ao/\ao.cg=bs.getD i 0
 |[],bs,l,h=>by simp[uj]at h;subst h;exact⟨rfl,λi o ho=>by simp at ho⟩
 |o ::os,bs,l,h=>by
  unfold uj at h;split at h<;>first|(cases h;done)|skip
  rename_i g l' hg hl hd;obtain⟨h1,h2⟩:=wO hl;have aV:∀d,o.dst=some d->d<nt:=λd hdd=>by rw[hdd]at hd;simpa [uj.ary]using hd
  have hb:∀i,bs.tail.getD i 0=bs.getD (i+1) 0:=λi=>by cases bs<;>simp
  have yg:bs.headD 0=bs.getD 0 0:=by cases bs<;>simp
  split at h
  . rename_i k xs cls hc;simp only[H5]at h;subst h;refine⟨by simp[h1],λi o' ho=> ?_⟩;cases i with
    |   zero=>
        simp at ho;subst ho;exact⟨_,rfl,⟨rfl,aV,hg,.inl hc⟩,yg⟩
    |   succ i=>
        simp at ho;obtain⟨ao,h3,h4,h5⟩:=h2 i o' ho;exact⟨ao,by simpa using h3,h4,by rw[h5,hb]⟩
  . simp only[H5]at h;subst h;refine⟨by simp[h1],λi o' ho=> ?_⟩;cases i with
    |   zero=>
        simp at ho;subst ho;exact⟨_,rfl,⟨rfl,aV,hg,.inr ⟨rfl,rfl⟩⟩,yg⟩
    |   succ i=>
        simp at ho;obtain⟨ao,h3,h4,h5⟩:=h2 i o' ho;exact⟨ao,by simpa using h3,h4,by rw[h5,hb]⟩
theorem KJ{ops:Array Oper}{ρ:Pos->Loc}{n:Nat}{fr:Fr}{a:Act}{o:Oper}{g:Option (Pos×Bool)}{b:Bool}(hg:abq ops o.guard=some g)
   (hF:∀p v,fr.get p=some v->(∃q,g=some (p,q))->∃x,a.tmps[p.toNat - 1]? =some x/\aC ρ n C v x)
   (hw:cJ fr g=some b):Region.wanted o (yielded ops a.tmps)=b:=by
 unfold Region.wanted;unfold abq at hg;split at hg
 .rename_i hn;simp only[H5]at hg;subst hg;simp only[cJ,H5]at hw;subst hw;rw[hn]
 . rename_i j want hn;rw[hn];(split at hg<;>first|(cases hg;done)|skip);rename_i oj hj;(split at hg<;>first|(cases hg;done)|skip);rename_i d hd;simp only[H5]at hg;subst hg;simp only[cJ]at hw;split at hw
   .rename_i u hu;simp only[H5]at hw;subst hw;obtain⟨x,hx,hv⟩:=hF _ _ hu ⟨_,rfl⟩;rw[iM,Zh5]at hx;have:=hv.kR;subst this;simp[yielded,hj,hd,hx]
   .rename_i l hu;simp only[H5]at hw;subst hw;obtain⟨x,hx,hv⟩:=hF _ _ hu ⟨_,rfl⟩;rw[iM,Zh5]at hx;obtain⟨cs,rfl,_⟩:=hv.Ve;simp[yielded,hj,hd,hx]
   .cases hw
theorem aC.aef{ρ:Pos->Loc}{n:Nat}:aC ρ n C AV.undef undef:= .tuple [] #[] rfl λ_ _ _ h=>by simp at h
theorem Act.j7(a:Act)(d:Option Tmp)(v:Value):(a.put d v).tmps.size=a.tmps.size:=by cases d<;>simp[Act.put]
theorem Act.mC(a:Act)(d:Option Tmp)(v:Value):(a.put d v).defers=a.defers:=by cases d<;>rfl
theorem kQ.put{ρ:Pos->Loc}{n nt:Nat}{fr:Fr}{a:Act}{d:Option Tmp}{v:AV}{x:Value}(hF:kQ ρ n C fr a.tmps)(hs:a.tmps.size=nt)
  (hd:∀e,d=some e->e<nt) (hv:aC ρ n C v x):kQ ρ n C (ez fr (d.map key) v) (a.put d x).tmps:=by
 cases d with
 |none=>exact hF
 |some e=>
  have he:=hd e rfl;intro p u hp;simp only[Zd9,ez]at hp;simp only[Act.put];by_cases hpe:key e=p
  .subst hpe;rw[T.gy]at hp;simp only[H5]at hp;subst hp;refine⟨x,?_,hv⟩;rw[iM,Zh5,Zp8];simp[hs,he]
  .rw[T.b9 _ hpe]at hp;obtain⟨y,hy,hr⟩:=hF p u hp;refine⟨y,?_,hr⟩;rw[Zk0,hy];intro h;apply hpe;apply Pos.toNat_inj;rw[iM];have:=p.toNat_pos;omega
theorem kQ.mono{ρ ρ':Pos->Loc}{n n':Nat}{fr:Fr}{tmps:Array Value}(hF:kQ ρ n C fr tmps)(bE:∀b:Pos,b.toNat<n->ρ' b=ρ b)(hn:n<=n'):kQ ρ' n' C fr tmps:=
 λp v hp=>let⟨x,hx,hv⟩:=hF p v hp;⟨x,hx,hv.mono bE hn⟩
structure yl(nt:Nat)(ρ:Pos->Loc)(C:Cells)(fr:Fr)(st:St)(a:Act)(w:World):Prop where
 W:bV ρ C st w
 F:kQ ρ st.next.toNat C fr a.tmps
 size:a.tmps.size=nt
 defers:a.defers=[]
def kJ(nt:Nat)(ρ:Pos->Loc)(C:Cells)(st:St)(w:World)(bI:Fr)(st':St)(a':Act)(w':World):Prop:=
 ∃ρ',yl nt ρ' C bI st' a' w'/\(∀b:Pos,b.toNat<st.next.toNat->ρ' b=ρ b)/\st.next.toNat<=st'.next.toNat/\oJ ρ st w ρ' st' w'
theorem kJ.refl{nt:Nat}{ρ:Pos->Loc}{fr:Fr}{st:St}{a:Act}{w:World}(h:yl nt ρ C fr st a w):kJ nt ρ C st w fr st a w:=
 ⟨ρ,h,λ_ _=>rfl,Za3 _,oJ.refl _ _ _⟩
theorem kJ.trans{nt:Nat}{ρ jW:Pos->Loc}{Tu:Fr}{st bD An:St}{a2:Act}{w w1 w2:World}
  (h1:∀b:Pos,b.toNat<st.next.toNat->jW b=ρ b) (h2:st.next.toNat<=bD.next.toNat) (h3:oJ ρ st w jW bD w1)
  (h:kJ nt jW C bD w1 Tu An a2 w2):kJ nt ρ C st w Tu An a2 w2:=by
 obtain⟨uW,k1,k2,k3,k4⟩:=h;exact⟨uW,k1,λb hb=>(k2 b (Zd1 hb h2)).trans (h1 b hb),Zb3 h2 k3,h3.trans k4⟩
theorem Reaches.bad{k:aE}{vs:List AV}{st:St}{r:AV×St}(hk:k= .bad)(h:cC call k vs st=some r):False:=by subst hk;simp[cC,aE.run]at h
theorem CB(hT:dh P tt)(dD:iX P C call){nt:Nat}{ops:Array Oper}{Q:Exit->Act->World->Prop}:∀(aos:List bS)(k:Nat)(fr bI:Fr)(st st':St)(ρ:Pos->Loc)(a:Act)(w:World),
  (∀(i:Nat)(ao:bS),aos[i]? =some ao->∃o,ops[k+i]? =some o/\zh tt nt ops o ao)->
  mE call aos fr st=some (bI,st')->yl nt ρ C fr st a w->(∀a' w',kJ nt ρ C st w bI st' a' w'->Q .normal a' w')->wpOps P ops Q (List.range' k aos.length) a w
 |[],k,fr,bI,st,st',ρ,a,w,_,h,hS,hQ=>by
  simp only[mE,H5,Zd4]at h;obtain⟨rfl,rfl⟩:=h;exact hQ a w (kJ.refl hS)
 |ao::aos,k,fr,bI,st,st',ρ,a,w,ho,h,hS,hQ=>by
  obtain⟨o,cw,hR⟩:=ho 0 ao rfl;rw[Zf5]at cw;have MO:∀(i:Nat)(ao':bS),aos[i]? =some ao'->∃o,ops[k+1+i]? =some o/\zh tt nt ops o ao':=λi ao' hi=>by
    obtain⟨o',h1,h2⟩:=ho (i+1) ao' (by simpa using hi);exact⟨o',by rw[<-h1];congr 1;omega,h2⟩
  simp only[Zc9,Zp0,wpOps,cw];unfold mE at h;split at h
  . rename_i hw;rw[Zb4 (KJ hR.guard (λp v hp _=>hS.F p v hp) hw)];(split at h<;>first|(cases h;done)|skip);rename_i vs Cw;(split at h<;>first|(cases h;done)|skip);rename_i v bD iY;rcases hR.op with hc|⟨hk,_⟩
    .   have hr:=Zu hT dD hc hS.W hS.F Cw iY;refine .inl (hr.upon λx w1 hp=> ?_);obtain⟨jW,hv,h1,h2,hW1,hE⟩:=hp;rw[hR.dst]at h;refine CB hT dD aos (k+1) _ bI bD st' jW _ w1 MO h ⟨hW1,kQ.put (hS.F.mono h1 h2) hS.size hR.lt hv,by rw[Act.j7];exact hS.size,by rw[Act.mC];exact hS.defers⟩ λa' w' hp=>hQ a' w' (kJ.trans h1 h2 hE hp)
    .   exact(Reaches.bad hk iY).elim
  .rename_i hw;rw[Za6 (by rw[KJ hR.guard (λp v hp _=>hS.F p v hp) hw];simp)];rw[hR.dst]at h;exact CB hT dD aos (k+1) _ bI st st' ρ _ w MO h ⟨hS.W,kQ.put hS.F hS.size hR.lt .aef,by rw[Act.j7];exact hS.size,by rw[Act.mC];exact hS.defers⟩ hQ
  .cases h
theorem Rb{nt:Nat}{ops:Array Oper}{l:List bS}{bs:List Nat}(h:uj tt nt ops ops.toList bs=some l)(i:Nat)(ao:bS)(hi:l[i]? =some ao):
  ∃o,ops[i]? =some o/\zh tt nt ops o ao/\ao.cg=bs.getD i 0:=by
 obtain⟨h1,h2⟩:=wO h;have aV:i<ops.toList.length:=by rw[<-h1];exact(Za1.1 hi).1
 obtain⟨ao',h3,h4,h5⟩:=h2 i _ (H0 aV);rw[hi]at h3;simp only[H5]at h3;subst h3;exact⟨_,by rw[<-Zi2];exact H0 aV,h4,h5⟩
theorem agr(hT:dh P tt)(dD:iX P C call){nt id:Nat}{ops:Array Oper}{bs:List Nat}{l:List bS}{Q:Exit->Act->World->Prop}{fr bI:Fr}{st st':St}{ρ:Pos->Loc}{a:Act}{w:World}
  (hl:uj tt nt ops ops.toList bs=some l) (h:mE call l fr st=some (bI,st')) (hS:yl nt ρ C fr st a w)
  (hQ:∀a' w',kJ nt ρ C st w bI st' a' w'->Q .normal a' w'):(Code.region id ops false).wp P Q a w:=by
 apply wp_region;have hlen:l.length=ops.size:=by rw[(wO hl).1,Zi0]
 rw[Zl8, <-hlen];exact CB hT dD l 0 fr bI st st' ρ a w (λi ao hi=>by
  obtain⟨o,h1,h2,_⟩:=Rb hl i ao hi;exact⟨o,by rw[Zb9];exact h1,h2⟩) h hS hQ
end
section
variable{P:Program}{tt:TT}{C:Cells}{call:aj}
def ym(P:Program)(tt:TT)(C:Cells)(call:aj):Prop:=
 ∀  (nt id:Nat)(ops:Array Oper)(l:List bS)(Q:Exit->Act->World->Prop)(fr bI:Fr)(st st':St)(ρ:Pos->Loc)(a:Act)(w:World),
    uj tt nt ops ops.toList (af8 ops.toList [])=some l->OG l.length 0 (A4 (KC 0 l) [])=true->ei call (A4 (KC 0 l) []) [] st.heap fr st=some (bI,st')->yl nt ρ C fr st a w->
    (∀a' w',kJ nt ρ C st w bI st' a' w'->Q .normal a' w')->(Code.region id ops true).wp P Q a w
def OX:oE->Exit
 |.normal=>.normal
 |.exit id=>.exit id
 |.ret=>.ret
def abC(P:Program)(tt:TT)(C:Cells)(call:aj)(nt m:Nat):Prop:=
 ∀  (c:Code)(ac:AC)(fr bI:Fr)(st st':St)(ex:oE)(ρ:Pos->Loc)(a:Act)(w:World)(Q:Exit->Act->World->Prop),
    vq tt nt c=some ac->exec call m ac fr st=some (ex,bI,st')->yl nt ρ C fr st a w->
    (∀a' w',kJ nt ρ C st w bI st' a' w'->Q (OX ex) a' w')->c.wp P Q a w
def abD(P:Program)(tt:TT)(C:Cells)(call:aj)(nt m:Nat):Prop:=
 ∀  (c:Code)(ac:AC)(fr bI:Fr)(st st':St)(ex:oE)(ρ:Pos->Loc)(a:Act)(w:World)(Q:Exit->Act->World->Prop),
    vq tt nt c=some ac->exec call m (.loop ac) fr st=some (ex,bI,st')->yl nt ρ C fr st a w->
    (∀a' w',kJ nt ρ C st w bI st' a' w'->Q (OX ex) a' w')->Code.rounds P c Q m a w
theorem aeg{nt m:Nat}(KL:abC P tt C call nt m)(ihL:abD P tt C call nt m):abD P tt C call nt (m+1):=by
 intro c ac fr bI st st' ex ρ a w Q hc h hS hQ;simp only[exec,bC]at h;rw[rounds_succ];split at h
 .rename_i eX bD h1;(refine KL c ac fr eX st bD .normal ρ a w _ hc h1 hS λa1 w1 hp=> ?_);obtain⟨jW,zz,k1,k2,k3⟩:=hp;exact ihL c ac eX bI bD st' ex jW a1 w1 Q hc h zz λa2 w2 hp=>hQ a2 w2 (kJ.trans k1 k2 k3 hp)
 . rename_i cN;cases ex with
   |normal=>exact(cN _ _ h).elim
   |exit id=>exact KL c ac fr bI st st' (.exit id) ρ a w _ hc h hS λa1 w1 hp=>hQ a1 w1 hp
   |ret=>exact KL c ac fr bI st st' .ret ρ a w _ hc h hS λa1 w1 hp=>hQ a1 w1 hp
theorem amI(hT:dh P tt)(dD:iX P C call)(lZ:ym P tt C call){nt m:Nat}(KL:abC P tt C call nt m)(ihL:abD P tt C call nt m):abC P tt C call nt (m+1):=by
 intro c ac fr bI st st' ex ρ a w Q hc h hS hQ;have auT:=aeg KL ihL;unfold vq at hc;split at hc<;>first|(cases hc;done)|skip
 .simp only[H5]at hc;subst hc;simp only[exec,bC,H5,Zd4]at h;obtain⟨rfl,rfl,rfl⟩:=h;exact wp_skip (hQ _ _ (kJ.refl hS))
 . rename_i ix ops draw;(split at hc<;>first|(cases hc;done)|skip);rename_i l hl;split at hc
   .simp only[H5]at hc;subst hc;simp only[exec,bC]at h;(split at h<;>first|(cases h;done)|skip);rename_i eX bD h1;simp only[H5,Zd4]at h;obtain⟨rfl,rfl,rfl⟩:=h;exact agr hT dD hl h1 hS hQ
   . (split at hc<;>first|(cases hc;done)|skip);rename_i ht;simp only[H5]at hc;subst hc;simp only[exec,bC]at h;(split at h<;>first|(cases h;done)|skip);rename_i eX bD h1;simp only[H5,Zd4]at h;obtain⟨rfl,rfl,rfl⟩:=h;exact lZ nt _ ops l Q fr eX st bD ρ a w hl ht h1 hS hQ
 . (split at hc<;>first|(cases hc;done)|skip);rename_i x y h1 h2;simp only[H5]at hc;subst hc;simp only[exec,bC]at h;apply wp_seq;split at h
   .rename_i eX bD h3;(refine KL _ _ fr eX st bD .normal ρ a w _ h1 h3 hS λa1 w1 hp=> ?_);obtain⟨jW,zz,k1,k2,k3⟩:=hp;exact KL _ _ eX bI bD st' ex jW a1 w1 Q h2 h zz λa2 w2 hp=>hQ a2 w2 (kJ.trans k1 k2 k3 hp)
   . rename_i cN;cases ex with
     |normal=>exact(cN _ _ h).elim
     |exit id=>exact KL _ _ fr bI st st' (.exit id) ρ a w _ h1 h hS λa1 w1 hp=>hQ a1 w1 hp
     |ret=>exact KL _ _ fr bI st st' .ret ρ a w _ h1 h hS λa1 w1 hp=>hQ a1 w1 hp
 . (split at hc<;>first|(cases hc;done)|skip);rename_i x y z h1 h2 h3;simp only[H5]at hc;subst hc;simp only[exec,bC]at h;split at h
   .rename_i hx;exact wp_cond_true ((Bk h1 hS.F hx).kR) (KL _ _ fr bI st st' ex ρ a w Q h2 h hS hQ)
   .rename_i hx;exact wp_cond_false ((Bk h1 hS.F hx).kR) (KL _ _ fr bI st st' ex ρ a w Q h3 h hS hQ)
   .cases h
 . (split at hc<;>first|(cases hc;done)|skip);rename_i x h1;simp only[H5]at hc;subst hc;simp only[exec,bC]at h;apply wp_block;split at h
   . rename_i xF eX bD h2;split at h
     .  rename_i he;simp only[H5,Zd4]at h;obtain⟨rfl,rfl,rfl⟩:=h;have:=Za7 he;subst this;exact KL _ _ fr eX st bD (.exit xF) ρ a w _ h1 h2 hS λa1 w1 hp=>by simp only[OX,Exit.inBlock,Zh1];exact hQ a1 w1 hp
     .  rename_i he;simp only[H5,Zd4]at h;obtain⟨rfl,rfl,rfl⟩:=h;have:=Zf2 he;exact KL _ _ fr eX st bD (.exit xF) ρ a w _ h1 h2 hS λa1 w1 hp=>by simp only[OX,Exit.inBlock,Za6 this];exact hQ a1 w1 hp
   . rename_i cN;cases ex with
     |normal=>exact KL _ _ fr bI st st' .normal ρ a w _ h1 h hS λa1 w1 hp=>hQ a1 w1 hp
     |exit id=>exact(cN _ _ _ h).elim
     |ret=>exact KL _ _ fr bI st st' .ret ρ a w _ h1 h hS λa1 w1 hp=>hQ a1 w1 hp
 . (split at hc<;>first|(cases hc;done)|skip);rename_i x h1;simp only[H5]at hc;subst hc;exact wp_loop_rounds (m+1) (auT _ _ fr bI st st' ex ρ a w Q h1 h hS hQ)
 .simp only[H5]at hc;subst hc;simp only[exec,bC,H5,Zd4]at h;obtain⟨rfl,rfl,rfl⟩:=h;exact wp_exit (hQ _ _ (kJ.refl hS))
 .simp only[H5]at hc;subst hc;simp only[exec,bC,H5,Zd4]at h;obtain⟨rfl,rfl,rfl⟩:=h;exact wp_ret (hQ _ _ (kJ.refl hS))
 .simp only[H5]at hc;subst hc;simp[exec,bC,mE,cJ,fP,cC,aE.run]at h
theorem CC(hT:dh P tt)(dD:iX P C call)(lZ:ym P tt C call){nt:Nat}:∀m,abC P tt C call nt m/\abD P tt C call nt m
 |0=>⟨λc ac fr bI st st' ex ρ a w Q hc h=>by simp[exec]at h,λc ac fr bI st st' ex ρ a w Q hc h=>by simp[exec]at h⟩
 |m+1=>let⟨h1,h2⟩:=CC hT dD lZ m;⟨amI hT dD lZ h1 h2,aeg h1 h2⟩
def Yc(tmps:Array Value):ResultVar->Sem Value
 |.tmp t=>pure (tmps.getD t undef)
 |.cell a t=>do loadVar t (<-asAddr (tmps.getD a undef))
theorem akL(hT:dh P tt){ρ:Pos->Loc}{st:St}{w:World}{fr:Fr}{a:Act}{x:Tmp}{t:TypeId}{ti:TI}{q v:AV}(fB:tt.get (key t)=some ti)
  (hW:bV ρ C st w) (hF:kQ ρ st.next.toNat C fr a.tmps) (hq:fr.get (key x)=some q) (hr:(aE.load (Ct ti)).run (λb=>st.heap.get b) .h [q]=some (.val v)):
  ∃y,(Yc a.tmps (.cell x t)).run P w= .ok y w/\aC ρ st.next.toNat C v y:=by
 have hc:j9 tt (.load t (.tmp x))=some (.load (Ct ti),[.t (key x)],.read):=by simp[j9,fB,uh]
 have hx:fP fr [.t (key x)]=some [q]:=by simp[fP,Gg,hq]
 have oK:(aE.load (Ct ti)).run (λb=>st.heap.get b) st.next [q]=some (.val v):=hr;obtain⟨N,y,he,hy,hv⟩:=Yb hT (.load t (.tmp x)) ρ C st w _ _ _ fr a { dst:=none,op:= .load t (.tmp x),type:=t,pos:=default,after:= #[],guard:=none } _ _ rfl hc hW hF hx oK;refine⟨y,?_,hv⟩;simp only[execOp,Instr.loadAt,Act.eval]at he;simp only[Yc];obtain⟨z,hz,hzq⟩:=hF _ _ hq;rw[iM,Zh5]at hz;have hzd:a.tmps.getD x undef=z:=by simp[Zm4,hz]
 rw[hzd]at he ⊢;have hp:∃ad,z= .pointer (some ad):=by
  simp only[aE.run,ze]at hr;split at hr<;>first|(cases hr;done)|skip
  .obtain⟨_,h⟩:=hzq.qj;exact⟨_,h⟩
  .obtain⟨_,_,_,_,h,_⟩:=hzq.OK;exact⟨_,h⟩
 obtain⟨ad,rfl⟩:=hp;simp only[Instr.sureAddr,asAddr,Sem.run_bind,Sem.run_pure,Result.andThen]at he ⊢;cases hl:(loadVar t ad).run P w with
 |ok u w1=>
  rw[hl]at he;simp at he;obtain⟨h1,h2⟩:=he;subst h2;rcases hy with hy|⟨hy,_⟩
  .rw[hy]at h1;simp at h1;rw[h1]
  .rw[hy]at h1;simp at h1
 |halt u w1=>rw[hl]at he;simp at he
theorem KM(hT:dh P tt){ρ:Pos->Loc}{st:St}{w:World}{fr:Fr}{a:Act}(hW:bV ρ C st w)(hF:kQ ρ st.next.toNat C fr a.tmps):
   ∀(rs:List ResultVar)(ars:List OC)(vs:List AV),qq tt rs=some ars->gP (λb=>st.heap.get b) fr ars=some vs->
    ∃ys,(rs.mapM (Yc a.tmps)).run P w= .ok ys w/\aJ ρ st.next.toNat C vs ys
 | [],ars,vs,hc,hr=>by
   simp only[qq,H5]at hc;subst hc;simp only[gP,H5]at hr;subst hr;exact⟨[],by simp,aJ.nil⟩
 | .tmp t::rs,ars,vs,hc,hr=>by
   simp only[qq]at hc;(split at hc<;>first|(cases hc;done)|skip);rename_i l hl;simp only[H5]at hc;subst hc;simp only[gP]at hr;(split at hr<;>first|(cases hr;done)|skip);rename_i v hv;(split at hr<;>first|(cases hr;done)|skip);rename_i us hus;simp only[H5]at hr;subst hr;obtain⟨ys,h1,h2⟩:=KM hT hW hF rs l us hl hus;obtain⟨z,hz,hzq⟩:=hF _ _ hv;rw[iM,Zh5]at hz;refine⟨z::ys,?_,aJ.cons hzq h2⟩;simp[List.mapM_cons,Yc,h1,Zm4,hz]
 | .cell x t::rs,ars,vs,hc,hr=>by
   simp only[qq]at hc;(split at hc<;>first|(cases hc;done)|skip);rename_i ti l hti hl;simp only[H5]at hc;subst hc;simp only[gP]at hr;(split at hr<;>first|(cases hr;done)|skip);rename_i q hq;(split at hr<;>first|(cases hr;done)|skip);rename_i v hv;(split at hr<;>first|(cases hr;done)|skip);rename_i us hus;simp only[H5]at hr;subst hr;obtain⟨ys,h1,h2⟩:=KM hT hW hF rs l us hl hus;obtain⟨y,h3,h4⟩:=akL hT hti hW hF hq hv;refine⟨y::ys,?_,aJ.cons h4 h2⟩;simp[List.mapM_cons,h1,h3]
theorem HW(hT:dh P tt){ρ:Pos->Loc}{st:St}{w:World}{fr:Fr}{a:Act}{fn:Func}{ars:List OC}{vs:List AV}(hW:bV ρ C st w)(hF:kQ ρ st.next.toNat C fr a.tmps)
  (hc:qq tt fn.results.toList=some ars) (hr:gP (λb=>st.heap.get b) fr ars=some vs):
  ∃y,(results fn a.tmps).run P w= .ok y w/\aC ρ st.next.toNat C (zf vs) y:=by
 obtain⟨ys,h1,h2⟩:=KM hT hW hF _ ars vs hc hr;have h3:(fn.results.mapM (Yc a.tmps)).run P w= .ok ys.toArray w:=by
  rw[Array.mapM_eq_mapM_toList];simp[h1]
 have h4:(results fn a.tmps).run P w= .ok (if h:ys.toArray.size=1 then ys.toArray[0]else .tuple ys.toArray) w:=by
  have hfun:results fn a.tmps=(fn.results.mapM (Yc a.tmps) >>= λvs=>pure (if h:vs.size=1 then vs[0]else .tuple vs)):=by unfold results;congr 2
  rw[hfun,Sem.run_bind,h3];simp
 refine⟨_,h4,?_⟩;cases vs with
 |nil=>have:=h2.ku;subst this;simp[zf];exact .qt (by simpa using aJ.nil)
 |cons v vs=>
  obtain⟨y,ys',rfl,hv,Cw⟩:=h2.cons_inv;cases vs with
  |nil=>have:=Cw.ku;subst this;simpa [zf]using hv
  |cons v' vs'=>
   obtain⟨y',ys'',rfl,ON,apm⟩:=Cw.cons_inv;simp[zf];exact .qt (by simpa using aJ.cons hv (aJ.cons ON apm))
def GOk(P:Program)(tt:TT)(G:T dM):Prop:=
 ∀p F,G.get p=some F->∃fn,P.funcs[p.toNat - 1]? =some fn/\(fn.name== "runtime.NumGoroutine")=false/\aks tt fn=some F
def vu(P:Program)(C:Cells)(O:eP):Prop:=
 ∀  (f:FuncId)(s:List AV->St->Option (AV×St)),O f=some s->
    ∀(ρ:Pos->Loc)(st:St)(w:World)(args:List AV)(v:AV)(st':St)(bZ:List Value),s args st=some (v,st')->
     bV ρ C st w->aJ ρ st.next.toNat C args bZ->Reaches P (kV ρ C st w v st') ((callFunc f bZ.toArray).run P w)
theorem Rc{ρ:Pos->Loc}{n:Nat}{tmps:Array Value}:∀(vs:List AV)(xs:List Value)(i:Nat)(fr:Fr),aJ ρ n C vs xs->
  (∀(j:Nat)(x:Value),xs[j]? =some x->tmps[i+j]? =some x)->kQ ρ n C fr tmps->kQ ρ n C (params i vs fr) tmps
 |[],_,_,_,_,_,hF=>hF
 |v ::vs,xs,i,fr,h,hx,hF=>by
  obtain⟨x,Am,rfl,hv,Cw⟩:=h.cons_inv;unfold params;refine Rc vs Am (i+1) _ Cw (λj y hy=>by rw[<-hx (j+1) y (by simpa using hy)];congr 1;omega) λp u hp=> ?_
  by_cases hpe:key i=p
  .subst hpe;rw[T.gy]at hp;simp only[H5]at hp;subst hp;exact⟨x,by rw[iM,Zh5];exact hx 0 x rfl,hv⟩
  .rw[T.b9 _ hpe]at hp;exact hF p u hp
def xI(call:aj)(m:Nat)(F:dM)(args:List AV)(st:St):Option (AV×St):=
 match Nat.beq args.length F.nparams with
 |  true=>match exec call m F.code (params 0 args .e) st with
    |some (.normal,fr,st')=>match gP (λb=>st'.heap.get b) fr F.results with
     |some vs=>some (zf vs,st')
     |none=>none
    |some (.ret,fr,st')=>match gP (λb=>st'.heap.get b) fr F.results with
     |some vs=>some (zf vs,st')
     |none=>none
    |_=>none
 |false=>none
theorem abE(hT:dh P tt){G:T dM}(hG:GOk P tt G){call:aj}(dD:iX P C call)(lZ:ym P tt C call)(m:Nat){f:FuncId}{F:dM}(hF:G.get (key f)=some F)
   {ρ:Pos->Loc} {st:St} {w:World} {args:List AV} {v:AV} {st':St} {bZ:List Value} (h:xI call m F args st=some (v,st')) (hW:bV ρ C st w) (xJ:aJ ρ st.next.toNat C args bZ):
   Reaches P (kV ρ C st w v st') ((callFunc f bZ.toArray).run P w):=by
 unfold xI at h;split at h<;>first|(cases h;done)|skip
 rename_i hlen;have hlen:=Za7 hlen;obtain⟨fn,Gm,oF,hcf⟩:=hG _ _ hF;rw[iM,Zh5]at Gm;unfold aks at hcf;split at hcf<;>first|(cases hcf;done)|skip
 rename_i c hb;split at hcf<;>first|(cases hcf;done)|skip
 rename_i ac rs hac hrs hle;simp only[H5]at hcf;subst hcf;simp only at h hlen;have hle:=Zb5 hle;have dJ:(callFunc f bZ.toArray).run P w= .ok (.enter f bZ.toArray) w:=by
   have ags:¬fn.name= "runtime.NumGoroutine" :=(by simpa using oF);simp[callFunc,Gm,ags,hb]
 rw[dJ];simp only[Reaches];refine calls_of_wp Gm hb ?_;have fQ:bZ.length<=fn.ntmps:=by rw[<-xJ.1,hlen];exact hle
 have hS:yl fn.ntmps ρ C (params 0 args .e) st { tmps:=bZ.toArray++Array.replicate (fn.ntmps - bZ.toArray.size) undef,defers:=[] } w:=by
   refine⟨hW,?_,?_,rfl⟩
   .refine Rc args bZ 0 .e xJ (λj x hx=> ?_) (λp v hp=>by rw[T.dN]at hp;cases hp);have hj:j<bZ.length:=(Za1.1 hx).1;rw[Zb9,Zq7 (by simpa using hj)];simpa using hx
   .simp;omega
 split at h<;>first|(cases h;done)|skip
 .rename_i eX bD h1;(split at h<;>first|(cases h;done)|skip);rename_i vs Cw;simp only[H5,Zd4]at h;obtain⟨rfl,rfl⟩:=h;(refine(CC hT dD lZ m).1 c ac _ eX st bD .normal ρ _ w _ hac h1 hS λa' w' hp=> ?_);obtain⟨jW,zz,k1,k2,k3⟩:=hp;obtain⟨y,Vk,hy2⟩:=HW hT zz.W zz.F hrs Cw;exact⟨zz.defers,y,Vk,jW,hy2,k1,k2,zz.W,k3⟩
 .rename_i eX bD h1;(split at h<;>first|(cases h;done)|skip);rename_i vs Cw;simp only[H5,Zd4]at h;obtain⟨rfl,rfl⟩:=h;(refine(CC hT dD lZ m).1 c ac _ eX st bD .ret ρ _ w _ hac h1 hS λa' w' hp=> ?_);obtain⟨jW,zz,k1,k2,k3⟩:=hp;obtain⟨y,Vk,hy2⟩:=HW hT zz.W zz.F hrs Cw;exact⟨zz.defers,y,Vk,jW,hy2,k1,k2,zz.W,k3⟩
theorem Zv(hT:dh P tt){O:eP}{G:T dM}(hO:vu P C O)(hG:GOk P tt G)(m:Nat)(lZ:∀d,iX P C (tZ O G m d)->ym P tt C (tZ O G m d)):∀d,iX P C (tZ O G m d)
 |0=>λρ st w f args v st' bZ h=>by simp[tZ]at h
 |d +1=>by
  intro ρ st w f args v st' bZ h hW xJ;have ih:=Zv hT hO hG m lZ d;unfold tZ at h;split at h
  .rename_i s hs;exact hO f s hs ρ st w args v st' bZ h hW xJ
  . (split at h<;>first|(cases h;done)|skip);rename_i F hF;exact abE hT hG ih (lZ _ ih) m hF h hW xJ
end
end
end Go.Ai
