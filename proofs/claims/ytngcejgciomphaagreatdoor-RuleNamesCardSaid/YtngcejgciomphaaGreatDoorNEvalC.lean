/- Its operations, second part; regions. -/
import Derived.Test.YtngcejgciomphaaGreatDoorNEvalB
import Derived.Laws.IdiomStrings
import Derived.Laws.RangeString
import Derived.LoopN
set_option linter.all false
namespace Go.Ai
section
open Go Go.RowKit
section
variable{P:Program}{tt:TT}{ρ:Pos->Loc}{C:Cells}{st:St}{w w':World}
theorem N6(del:Option Pos)(h:T AB){b:Pos}{x:AB}(hb:(HW del h).get b=some x):h.get b=some x/\∀c,del=some c->b≠c:=by
 cases del with
 |none=>exact⟨hb,λ_ h=>by cases h⟩
 |some c=>
  by_cases he:c=b
  .subst he;simp only[HW]at hb;rw[T.fP]at hb;cases hb
  .simp only[HW]at hb;rw[T.bY _ he]at hb;exact⟨hb,λd hd=>by cases hd;exact λe=>he e.symm⟩
theorem Mz(hW:bS ρ C st w){o:Obj}{x0:AB}{base size:Nat}(del:Option Pos)(hh:w'.heap=w.heap.push o)(h1:w'.os=w.os)(h2:w'.tape=w.tape)(h3:w'.output=w.output)
   (hB:∀ρ' n',(∀b:Pos,b.toNat<st.next.toNat->ρ' b=ρ b)->st.next.toNat<=n'->ri ρ' n' C ⟨w.heap.size,base,size⟩ w' x0):
   ∃ρ':Pos->Loc,(∀b:Pos,b.toNat<st.next.toNat->ρ' b=ρ b)/\ρ' st.next=⟨w.heap.size,base,size⟩/\bS ρ' C (st.br del none (some x0)) w'/\nh ρ st w ρ' (st.br del none (some x0)) w':=by
 let ρ':Pos->Loc:=λb=>if b=st.next then⟨w.heap.size,base,size⟩else ρ b
 have bG:∀b:Pos,b.toNat<st.next.toNat->ρ' b=ρ b:=λb hb=>Zb2 (λe=>by rw[e]at hb;omega)
 have iV:ρ' st.next=⟨w.heap.size,base,size⟩:=Zb5 rfl;have fC:w'.heap.size=w.heap.size+1:=by rw[hh];simp
 have hold:∀k,k<w.heap.size->w'.heap[k]? =w.heap[k]? :=λk hk=>by rw[hh,Zp6,Zb2 (by omega)]
 refine⟨ρ',bG,iV,?_,⟨h1,h2,h3,by omega,λk hk _=>hold k hk,λb x hb=> ?_⟩⟩;rotate_left
 . by_cases he:b=st.next
   .right;rw[he,iV];exact Za6 _
   .left;simp only[St.br,Lg]at hb;rw[T.bY _ (λe=>he e.symm)]at hb;have gK:=(N6 del _ hb).1;exact⟨b,x,gK,by rw[bG b (hW.live b x gK).1]⟩
 refine hW.ae2 (b0:=st.next) (x0:=x0) (by rw[Pos.aK];omega) (by rw[Pos.aK];omega) (by rw[T.fP]) ?_ bG (by rw[iV];exact hB _ _ bG (by rw[Pos.aK];omega)) ?_ (by rw[iV,fC];simp) (by omega) (λk hk _=>hold k hk)
 .intro b x hb hx;rw[T.bY _ (λe=>hb e.symm)]at hx;have hx:=(N6 del _ hx).1;refine⟨hx,?_⟩;rw[iV];have:=(hW.live b x hx).2.1;simp only;omega
 .intro a v ha;have:=World.block_lt_of_cell? _ _ (hW.dH a v ha).1;rw[iV];simp only;omega
theorem abC(hW:bS ρ C st w){b:Pos}{x x0:AB}(hb:st.heap.get b=some x)(h1:w'.os=w.os)(h2:w'.tape=w.tape)(h3:w'.output=w.output)(fC:w'.heap.size=w.heap.size)
   (Cq:∀k,k≠(ρ b).aQ->w'.heap[k]? =w.heap[k]?) (hB:ri ρ st.next.toNat C (ρ b) w' x0):
   bS ρ C (st.br none (some (b,x0)) none) w'/\nh ρ st w ρ (st.br none (some (b,x0)) none) w':=by
 obtain⟨aW,WQ,_⟩:=hW.live b x hb;refine⟨?_,⟨h1,h2,h3,by omega,λk _ hk=>Cq k (λe=>hk b x hb e.symm),λc y hc=> ?_⟩⟩;rotate_left
 . left;by_cases he:c=b
   .exact⟨b,x,hb,by rw[he]⟩
   .simp only[St.br,Lg,HW]at hc;rw[T.bY _ (λe=>he e.symm)]at hc;exact⟨c,y,hc,rfl⟩
 refine hW.ae2 (b0:=b) (x0:=x0) (Za6 _) aW (by simp only[Lg,HW];rw[T.fP]) ?_ (λ_ _=>rfl) hB ?_ (by omega) (by omega) (λk _ hk=>Cq k hk)
 .intro c y hc hy;simp only[Lg,HW]at hy;rw[T.bY _ (λe=>hc e.symm)]at hy;exact⟨hy,λe=>hc (hW.inj _ _ _ _ hy hb e)⟩
 .exact λa v ha e=>(hW.dH a v ha).2 b x hb e.symm
theorem Bo{cs:List AV}{c:Array Value}{e:TypeId}{fr:Nat×Nat}{g:Nat}{n:Nat}(hg:w'.heap[g]? =some (.cells c e fr))(hle:cs.length<=c.size)(hv:aI ρ n C cs (c.toList.take cs.length))
  (hf:∀i,i<c.size->¬(fr.1<=i/\i<fr.2)):ri ρ n C ⟨g,0,c.size⟩ w' (.cells cs 0):=
 ⟨c,e,fr,hg,rfl,by simpa using hle,by simpa using hv,λi _ hi=>by simpa using hf i (by simpa using hi)⟩
theorem agF(hT:cQ P tt)(t:TypeId):eS P tt (.alloc t):=by
 intro ρ C st w k xs cls fr a o vs res ho hc hW hF hx hr;simp only[jV]at hc;split at hc<;>first|(cases hc;done)|skip
 rename_i ti fA;split at hc<;>first|(cases hc;done)|skip
 rename_i z hz;cases hc;simp only[fE,H0]at hx;subst hx;simp only[aJ.run,NO,H0]at hr;subst hr;obtain⟨zv,PN,_,DU⟩:=Ek hT fA hz (ρ:=ρ) (n:=st.next.toNat) (C:=C) w;have hl:z.length=zv.cells.size:=by simpa using DU.1
 obtain⟨ρ',bG,iV,iW,hE⟩:=Mz (w':=w.alloc (.cells zv.cells t)) (o:= .cells zv.cells t) (x0:= .cells z 0) (base:=0) (size:=zv.cells.size) hW none rfl rfl rfl rfl (λρ' n' bG hn=>
   Bo (w':=w.alloc (.cells zv.cells t)) (e:=t) (fr:=(0,0)) (by show(w.heap.push _)[w.heap.size]? =_;simp) (by omega) (by rw[hl,Zg0 (by simp)];exact DU.mono bG hn) (λi _=>by simp))
 refine⟨_,.pointer (some ⟨w.heap.size,0,none⟩),_,ρ',?_,Yields.value _,bG,iW,?_,hE⟩
 .simp[execOp,ho,Instr.alloc,PN,newVar,newRow]
 .have:=aC.ptr (ρ:=ρ') (n:=(st.br none none (some (.cells z 0))).next.toNat) (C:=C) st.next 0 (by simp[St.br,Pos.aK]);rw[iV]at this;simpa using this
theorem akO(t:TypeId)(x:Operand):eS P tt (.box t x):=by
 intro ρ C st w k xs cls fr a o vs res ho hc hW hF hx hr;simp only[jV]at hc;split at hc<;>first|(cases hc;done)|skip
 rename_i b hb;cases hc;obtain⟨v,rfl,hv⟩:=kM hb hF hx;simp only[aJ.run,WD,H0]at hr;subst hr;have DU:=hv.cells;have hl:v.cells.length=(a.eval x).cells.size:=by simpa using DU.1
 obtain⟨ρ',bG,iV,iW,hE⟩:=Mz (w':=w.alloc (.cells (a.eval x).cells t)) (o:= .cells (a.eval x).cells t) (x0:= .cells v.cells 0) (base:=0) (size:=(a.eval x).cells.size) hW none rfl rfl rfl rfl (λρ' n' bG hn=>
   Bo (w':=w.alloc (.cells (a.eval x).cells t)) (e:=t) (fr:=(0,0)) (by show(w.heap.push _)[w.heap.size]? =_;simp) (by omega) (by rw[hl,Zg0 (by simp)];exact DU.mono bG hn) (λi _=>by simp))
 refine⟨_,.pointer (some ⟨w.heap.size,0,none⟩),_,ρ',?_,Yields.value _,bG,iW,?_,hE⟩
 .simp[execOp,ho,Instr.box,newVar,newRow]
 .have:=aC.ptr (ρ:=ρ') (n:=(st.br none none (some (.cells v.cells 0))).next.toNat) (C:=C) st.next 0 (by simp[St.br,Pos.aK]);rw[iV]at this;simpa using this
theorem Li{n:Nat}{z:List AV}{zs:List Value}(h:aI ρ n C z zs):∀m,aI ρ n C (cv z m) (cv zs m)
 |0=>aI.nil
 |m+1=>h.append (Li h m)
theorem kO{α:Type}(z:List α):∀m,(cv z m).length=m*z.length
 |0=>by simp[cv]
 |m+1=>by simp[cv,kO z m,Zj0,Zq9]
theorem UI{α:Type}(z:List α):∀(m i:Nat),i<m*z.length->(cv z m)[i]? =z[i % z.length]?
 |0,i,h=>by simp at h
 |m +1,i,h=>by
  simp only[cv];by_cases hi:i<z.length
  .rw[Zd9 hi,Zl2 hi]
  .have hi:z.length<=i:=(by omega);rw[Zd6 hi,UI z m _ (by rw[Zj0]at h;omega)];congr 1;rw[<-Zq1 hi]
theorem abD(z:Array Value)(m:Nat)(hz:0<z.size):((Array.range (m*z.size)).map (z[· % z.size]!)).toList=cv z.toList m:=by
 apply Zj4;intro i;by_cases hi:i<m*z.size
 .rw[UI _ _ _ (by simpa using hi)];have aW:i % z.size<z.size:=Nat.mod_lt _ hz;simp[hi,aW]
 .rw[Zc6 (by simp;omega),Zc6 (by rw[kO];simp;omega)]
theorem Kg{ρ':Pos->Loc}{b:Pos}{n g len es bA size:Nat}{cap:Option Nat}(hb:b.toNat<n)(bG:ρ' b=⟨g,0,size⟩)(hl:len<=bA)(hc:∀c,cap=some c->c=bA)(hs:bA*es<=size):
  aC ρ' n C (.slice b 0 len cap es) (.slice (some ⟨g,0,none⟩) len bA):=
 .slice _ _ _ _ _ _ _ hl hc (λ_=>⟨hb,by rw[bG],by rw[bG];simpa using hs⟩) (λ_=>hb)
theorem WR{z:List AV}{zv:Value}{n m size:Nat}(DU:aI ρ n C z zv.cells.toList)(hl:z.length=size):
   aI ρ n C (cv z m) ((Array.range (m*size)).map ((if m*size=0 then(#[]:Array Value)else zv.cells)[· % (if m*size=0 then(#[]:Array Value)else zv.cells).size]!)).toList/\
   ((Array.range (m*size)).map ((if m*size=0 then(#[]:Array Value)else zv.cells)[· % (if m*size=0 then(#[]:Array Value)else zv.cells).size]!)).size=m*size:=by
 refine⟨?_,by simp⟩;by_cases h0:m*size=0
 .have:cv z m=[]:=(by apply Zc1;rw[kO,hl];exact h0);rw[this];have:(Array.range (m*size))= #[]:=(by rw[h0];rfl);rw[this];simpa using(aI.nil:aI ρ n C [] [])
 . rw[Zb2 h0];have hzs:zv.cells.size=size:=(by have:=DU.1;simp at this;omega);have Yz:0<zv.cells.size:=by
    rw[hzs];rcases Zq2 size with h|h
    .rw[h]at h0;simp at h0
    .exact h
   have:=abD zv.cells m Yz;rw[hzs]at this ⊢;rw[this];exact Li DU m
theorem akP{k:IntKind}{i:Int}(h1:loI k<=i)(h2:i<=hiI k):k.wrap i=i:=by
 rw[<-xO];unfold az;split
 . split
   .rfl
   .exact absurd h2 (by assumption)
 .exact absurd h1 (by assumption)
theorem abE{j:Nat}(h:j<=9223372036854775807):IntKind.i64.wrap (j:Int)=(j:Int):=akP (by simp only[loI];omega) (by simp only[hiI];omega)
theorem adG(hT:cQ P tt)(t:TypeId)(l c:Operand):eS P tt (.makeSlice t l c):=by
 intro ρ C st w k xs cls fr a o vs res ho hc hW hF hx hr;simp only[jV]at hc;split at hc<;>first|(cases hc;done)|skip
 rename_i ti l0 fA hl;split at hc<;>first|(cases hc;done)|skip
 rename_i e hk;split at hc<;>first|(cases hc;done)|skip
 rename_i te nH;split at hc<;>first|(cases hc;done)|skip
 rename_i z hz;cases hc;obtain⟨d,hd,dD⟩:=(hT.at fA).und;rw[hk]at dD;rw[rj dD]at hd;obtain⟨i0,xP,tV,hib,Kf⟩:=(hT.at nH).info;obtain⟨u,v,rfl,h1,h2⟩:=Yy hl hF hx;simp only[aJ.run,Cl]at hr;split at hr<;>first|(cases hr;done)|skip
 rename_i jl jc EW hjc;split at hr<;>first|(cases hr;done)|skip
 rename_i e1 e2 e3;have e1:=Za9 e1;have e2:=Za9 e2;have e3:=Za9 e3;simp only[H0]at hr;subst hr;obtain⟨kl,wN⟩:=lQ h1 EW;obtain⟨kc,Rw⟩:=lQ h2 hjc;obtain⟨zv0,hzv0,_,WS,_⟩:=Kf z hz;obtain⟨zv,PN,_,DU⟩:=Ek hT nH hz (ρ:=ρ) (n:=st.next.toNat) (C:=C) w;obtain⟨Rx,YA⟩:=WR (m:=jc) DU WS;generalize gy:(Array.range (jc*te.size)).map ((if jc*te.size=0 then(#[]:Array Value)else zv.cells)[· % (if jc*te.size=0 then(#[]:Array Value)else zv.cells).size]!)=row at Rx YA;obtain⟨ρ',bG,iV,iW,hE⟩:=Mz (w':=w.alloc (.cells row e)) (o:= .cells row e) (x0:= .cells (cv z jc) 0) (base:=0) (size:=row.size) hW none rfl rfl rfl rfl (λρ' n' bG hn=>
   Bo (w':=w.alloc (.cells row e)) (e:=e) (fr:=(0,0)) (by show(w.heap.push _)[w.heap.size]? =_;simp) (by rw[kO,YA,WS];exact Za6 _)
    (by rw[kO,WS, <-YA, <-Zh7,Zh6];exact Rx.mono bG hn) (λi _=>by simp))
 refine⟨_,.slice (some ⟨w.heap.size,0,none⟩) jl jc,_,ρ',?_,Yields.value _,bG,iW,?_,hE⟩
 . have bX:=abE (Zb7 e1 e3);have gS:=abE e3;have hb:¬((te.bytes:Int)*(jc:Int)>2 ^ 48):=(by have h:=Int.ofNat_le.2 e2;rw[Int.natCast_mul]at h;exact Int.not_lt.2 h);have dy:(Instr.makeSlice t (.int kl jl) (.int kc jc)).run P w= .ok (.slice (some ⟨w.heap.size,0,none⟩) jl jc) (w.alloc (.cells row e)):=by
    unfold Instr.makeSlice;simp only[Sem.run_bind,bB hd,Result.andThen_ok,asInt,asIntOf,Sem.run_pure,abv xP,bX,gS,hib];have am6:¬((decide ((jc:Int)<0)||decide ((te.bytes:Int)*(jc:Int)>2 ^ 48)||decide ((jl:Int)<0)||decide ((jl:Int)>(jc:Int)))=true):=by
        simp only[Zg5,Zd1];rintro(((h|h)|h)|h)
        .omega
        .exact hb h
        .omega
        .omega
    rw[Zb2 am6];simp only[Sem.run_bind,run_askRoom,Result.andThen_ok,lN xP,tV,Zk9];rw[<-gy];by_cases h0:jc*te.size=0
    .   simp only[h0,Zg7,Sem.run_bind,Sem.run_pure,Result.andThen_ok,newRow,run_newObj,World.alloc_eq]
    .   simp only[h0,Ze8,Sem.run_bind,Sem.run_pure,Result.andThen_ok,PN,newRow,run_newObj,World.alloc_eq]
   simp[execOp,ho,wN,Rw,dy]
 .exact Kg (by simp[St.br,Pos.aK]) iV e1 (λc hc=>by cases hc;rfl) (by rw[YA];exact Za6 _)
theorem YB(hT:cQ P tt)(t:TypeId)(len:Nat)(ps:Array (Nat×Operand)):eS P tt (.buildSlice t len ps):=by
 intro ρ C st w k xs cls fr a o vs res ho hc hW hF hx hr;simp only[jV]at hc;split at hc<;>first|(cases hc;done)|skip
 rename_i ti l0 fA hl;split at hc<;>first|(cases hc;done)|skip
 rename_i e hk;split at hc<;>first|(cases hc;done)|skip
 rename_i te nH;split at hc<;>first|(cases hc;done)|skip
 rename_i z hz hlim;have hlim:=Za9 hlim;cases hc;obtain⟨d,hd,dD⟩:=(hT.at fA).und;rw[hk]at dD;rw[rj dD]at hd;obtain⟨i0,xP,tV,hib,Kf⟩:=(hT.at nH).info;have hv:=iC hl hF hx;simp only[aJ.run,vr]at hr;split at hr<;>first|(cases hr;done)|skip
 rename_i cs Ct;simp only[H0]at hr;subst hr;obtain⟨zv0,hzv0,_,WS,_⟩:=Kf z hz;obtain⟨zv,PN,_,DU⟩:=Ek hT nH hz (ρ:=ρ) (n:=st.next.toNat) (C:=C) w;obtain⟨Rx,YA⟩:=WR (m:=len) DU WS;generalize gy:(Array.range (len*te.size)).map ((if len*te.size=0 then(#[]:Array Value)else zv.cells)[· % (if len*te.size=0 then(#[]:Array Value)else zv.cells).size]!)=row at Rx YA;have hps:(ps.map λ(i,x)=>(i,a.eval x)).toList=ps.toList.map λx=>(x.1,a.eval x.2):=by simp
 obtain⟨cs',e1,e2⟩:=VL (λi=>some (i*te.size,te.size)) Ct Rx (ps:=ps.toList.map λx=>(x.1,a.eval x.2)) (by simpa [Zi0,Zk8]using hv) (by simp[Zi0,Zk8]);have hlen:cs.length=cs'.size:=by simpa using e2.1
 have am7:∀{pp:List (Nat×Nat)}{vs cells r:List AV},cH cells pp vs=some r->r.length=cells.length:=by
   intro pp;induction pp with
   |nil=>intro vs cells r h;unfold cH at h;split at h<;>first|(cases h;done)|(simp only[H0]at h;subst h;rfl)|(rename_i hh;cases hh)
   |cons p pp ih=>
    intro vs cells r h;unfold cH at h;(split at h<;>first|(cases h;done)|(rename_i hh;cases hh;done)|skip);rename_i hh;simp only[Zh1]at hh;obtain⟨rfl,rfl⟩:=hh;(split at h<;>first|(cases h;done)|skip);rename_i g1 g2;have g1:=Za7 g1;have g2:=Za9 g2;rw[ih h];simp[aZ];omega
 have hcsl:=am7 Ct;rw[kO,WS]at hcsl;obtain⟨ρ',bG,iV,iW,hE⟩:=Mz (w':=w.alloc (.cells cs' e)) (o:= .cells cs' e) (x0:= .cells cs 0) (base:=0) (size:=cs'.size) hW none rfl rfl rfl rfl (λρ' n' bG hn=>
   Bo (w':=w.alloc (.cells cs' e)) (e:=e) (fr:=(0,0)) (by show(w.heap.push _)[w.heap.size]? =_;simp) (by omega)
    (by rw[hlen, <-Zh7,Zh6];exact e2.mono bG hn) (λi _=>by simp))
 refine⟨_,.slice (some ⟨w.heap.size,0,none⟩) len len,_,ρ',?_,Yields.value _,bG,iW,?_,hE⟩
 . have dy:(Instr.buildSlice t len (ps.map λ(i,x)=>(i,a.eval x))).run P w= .ok (.slice (some ⟨w.heap.size,0,none⟩) len len) (w.alloc (.cells cs' e)):=by
    unfold Instr.buildSlice;simp only[Sem.run_bind,bB hd,Result.andThen_ok,lN xP,tV];rw[Zb2 (by omega)];by_cases h0:len*te.size=0
    .   simp only[h0,Zg7,Sem.run_bind,Sem.run_pure,Result.andThen_ok];simp only[h0,Zg7]at gy;rw[gy,hps,e1];simp only[newRow,Sem.run_bind,run_newObj,World.alloc_eq,Result.andThen_ok,Sem.run_pure]
    .   simp only[h0,Ze8,Sem.run_bind,Sem.run_pure,Result.andThen_ok,PN];simp only[h0,Ze8]at gy;rw[gy,hps,e1];simp only[newRow,Sem.run_bind,run_newObj,World.alloc_eq,Result.andThen_ok,Sem.run_pure]
   simp only[execOp,ho,Sem.run_bind];rw[dy];rfl
 .exact Kg (by simp[St.br,Pos.aK]) iV (Za6 _) (λc hc=>by cases hc;rfl) (by omega)
theorem agG(t:TypeId)(r:Option Operand)(hT:cQ P tt):eS P tt (.makeMap t r):=by
 intro ρ C st w k xs cls fr a o vs res ho hc hW hF hx hr;have key:k= .mkMap/\(execOp a.eval o).run P w= .ok (.value (.map (some w.heap.size))) (w.alloc (.map #[] 0)):=by
  simp only[jV]at hc;split at hc<;>first|(cases hc;done)|skip
  rename_i ti fA;obtain⟨d,hd,dD⟩:=(hT.at fA).und;split at hc<;>first|(cases hc;done)|skip
  .cases hc;exact⟨rfl,by simp[execOp,ho,Instr.makeMap]⟩
  .rename_i hk;rw[hk]at dD;rw[Ro dD]at hd;cases hc;exact⟨rfl,by simp[execOp,ho,Instr.makeMap,bB hd,Act.eval,asInt,asIntOf]⟩
 obtain⟨rfl,dy⟩:=key;simp only[aJ.run,NR,H0]at hr;subst hr;obtain⟨ρ',bG,iV,iW,hE⟩:=Mz (w':=w.alloc (.map #[] 0)) (o:= .map #[] 0) (x0:= .map [] 0) (base:=0) (size:=0) hW none rfl rfl rfl rfl (λρ' n' bG hn=>
  ⟨#[],by show(w.heap.push _)[w.heap.size]? =_;simp,rfl,λi e e' h=>by simp at h⟩)
 refine⟨_,_,_,ρ',dy,Yields.value _,bG,iW,?_,hE⟩;have:=aC.map (ρ:=ρ') (n:=(st.br none none (some (.map [] 0))).next.toNat) (C:=C) st.next (by simp[St.br,Pos.aK]);rw[iV]at this;exact this
end
section
variable{P:Program}{tt:TT}{ρ:Pos->Loc}{C:Cells}{st:St}{w w':World}
theorem N7{n:Nat}:∀{l:List AV}{ys:List Value},aV l=true->aI ρ n C l ys->∀y∈ys,y.oneCell'=true
 |[],ys,_,h=>by have:=h.j5;subst this;simp
 |v::l,ys,h1,h=>by
  unfold aV at h1;split at h1<;>first|(cases h1;done)|skip
  rename_i ho;obtain⟨y,ys',rfl,hv,hs⟩:=h.cons_inv;intro z hz;simp at hz;rcases hz with rfl|hz
  .cases hv<;>first|rfl|(simp[AV.one]at ho;done)
  .exact N7 h1 hs z hz
theorem Cu{α:Type}(l:List α){i:Nat}(vs:List α)(hi:i<=l.length)(k:Nat):(aZ l i vs)[k]? =if k<i then l[k]? else if k<i+vs.length then vs[k - i]? else l[k]? :=by
 unfold aZ;have hl:(l.take i).length=i:=by simp;omega
 split
 .rename_i h;rw[Zd9 (by omega),Zd7,Zb5 h]
 . rename_i h;rw[Zd6 (by omega),hl];split
   .rename_i h';rw[Zd9 (by omega)]
   .rename_i h';rw[Zd6 (by omega),Zf5];congr 1;omega
theorem Lj{α:Type}(l:List α)(b off:Nat)(vs:List α)(h:b+off<=l.length):(aZ l (b+off) vs).drop b=aZ (l.drop b) off vs:=by
 apply Zj4;intro k;rw[Zf5,Cu l vs h,Cu (l.drop b) vs (by simp;omega),Zf5];by_cases h1:k<off
 .rw[Zb5 (by omega),Zb5 h1]
 . rw[Zb2 (by omega),Zb2 h1];by_cases h2:k<off+vs.length
   .rw[Zb5 (by omega),Zb5 h2];congr 1;omega
   .rw[Zb2 (by omega),Zb2 h2]
theorem UJ{α:Type}(l:List α)(off m:Nat)(vs:List α)(h:off+vs.length<=m)(h':m<=l.length):(aZ l off vs).take m=aZ (l.take m) off vs:=by
 apply Zj4;intro k;rw[Zd7,Cu l vs (by omega),Cu (l.take m) vs (by simp;omega),Zd7];by_cases h1:k<off
 .rw[Zb5 (by omega),Zb5 h1,Zb5 h1,Zb5 (by omega)]
 . by_cases h2:k<off+vs.length
   .rw[Zb5 (by omega),Zb2 h1,Zb5 h2,Zb2 h1,Zb5 h2]
   .rw[Zb2 h1,Zb2 h2,Zb2 h1,Zb2 h2]
theorem N8(hW:bS ρ C st w){b:Pos}{cs vs:List AV}{fz off:Nat}{ys:List Value}(hb:st.heap.get b=some (.cells cs fz))(hle:off+vs.length<=cs.length)(hfz:fz<=off)
   (h1:aV vs=true) (hv:aI ρ st.next.toNat C vs ys):
   ∃w',(storeCells ⟨(ρ b).aQ,(ρ b).base+off,none⟩ ys).run P w= .ok () w'/\bS ρ C (st.br none (some (b,.cells (aZ cs off vs) fz)) none) w'/\nh ρ st w ρ (st.br none (some (b,.cells (aZ cs off vs) fz)) none) w':=by
 obtain⟨_,_,c,e,fr,g1,g2,g3,g4,g5⟩:=hW.live b _ hb;have hl:vs.length=ys.length:=hv.1;obtain⟨w',e1,e2,e3,e4,e5,e6,e7⟩:=vT (P:=P) (ρ b).aQ e fr ys 0 ((ρ b).base+off) c w g1 (by omega) (N7 h1 hv) (λk hk qM=>by
   have:=g5 (k - (ρ b).base) (by omega) (by omega)
   rwa [show(ρ b).base+(k - (ρ b).base)=k from by omega]at this)
 simp only[Zl0]at e1 e2;refine⟨w',e1,?_⟩;have hlen:(aZ cs off vs).length=cs.length:=by simp[aZ];omega
 refine abC hW hb e5 e6 e7 e3 e4 ⟨_,e,fr,e2,?_,?_,?_,λi hi Ge=>g5 i hi ?_⟩
 .simp[aZ];omega
 .rw[hlen];simp[aZ];omega
 .rw[hlen];rw[Lj _ _ _ _ (by simp;omega),UJ _ _ _ _ (by omega) (by simp;omega)];exact g4.aZ hv off
 .simp[aZ]at Ge;omega
theorem aC.El{n:Nat}:aC ρ n C .undef undef:= .tuple [] #[] rfl (λ_ _ _ h=>by simp at h)
theorem agH(hT:cQ P tt)(t:TypeId)(x y:Operand):eS P tt (.store t x y):=by
 intro ρ C st w k xs cls fr a o vs res ho hc hW hF hx hr;simp only[jV]at hc;split at hc<;>first|(cases hc;done)|skip
 rename_i ti l fA hl;cases hc;obtain⟨p,v,rfl,h1,h2⟩:=Yy hl hF hx;obtain⟨i0,xP,tV,_⟩:=(hT.at fA).info;simp only[aJ.run,HV]at hr;split at hr<;>first|(cases hr;done)|skip
 rename_i b off;split at hr<;>first|(cases hr;done)|skip
 rename_i cs fz hb;split at hr<;>first|(cases hr;done)|skip
 rename_i e1 e2 e3 e4;have e1:=Za7 e1;have e2:=Za9 e2;have e3:=Za9 e3;simp only[H0]at hr;subst hr;obtain⟨_,he⟩:=h1.o9;have hc:=h2.cells;obtain⟨w',dy,iW,hE⟩:=N8 (P:=P) hW hb (by omega) e3 e4 hc;refine⟨.skip,undef,w',ρ,?_,.inr ⟨rfl,rfl⟩,λ_ _=>rfl,iW,aC.El,hE⟩;have fC:(a.eval y).cells.size=ti.size:=by have:=hc.1;simp at this;omega
 simp[execOp,ho,he,Instr.storeAt,Instr.sureAddr,storeVar,lN xP,tV,fC,dy]
theorem run_setObj_map{r:Nat}{es:Array MapEntry}{c:Nat}{o:Obj}{w:World}(h:w.heap[r]? =some (.map es c)):(setObj r o).run P w= .ok () { w with heap:=w.heap.setIfInBounds r o }:=by
 simp[setObj,Sem.run,h]
theorem WT(hW:bS ρ C st w){b:Pos}{es:List (AV×AV×Nat)}{clock:Nat}(hb:st.heap.get b=some (.map es clock)){PU:List (AV×AV×Nat)}{afb:Array MapEntry}{MA:Nat}
  (hE:Ke ρ st.next.toNat C PU afb.toList):
  bS ρ C (st.br none (some (b,.map PU MA)) none) { w with heap:=w.heap.setIfInBounds (ρ b).aQ (.map afb MA) }/\nh ρ st w ρ (st.br none (some (b,.map PU MA)) none) { w with heap:=w.heap.setIfInBounds (ρ b).aQ (.map afb MA) }:=by
 have aW:=(hW.live b _ hb).2.1;refine abC hW hb rfl rfl rfl (by simp) (λk hk=>by simp[Zj7 (Ne.symm hk)]) ⟨afb,by simp[aW],by simpa using hE.1,λi e e' h1 h2=>hE.2 i e e' h1 (by simpa using h2)⟩
theorem VM{n:Nat}{pk:PK}{u v:AV}{x y:Value}(h1:aC ρ n C u x)(h2:aC ρ n C v y)(h:zG pk u v=some true)(m:Nat):Instr.sameBits m y x=true:=by
 unfold zG at h;split at h<;>first|(cases h;done)|skip
 .simp only[H0]at h;rw[h1.kD,h2.kD];rename_i p q;have:p=q:=(by simpa using h);subst this;cases m<;>simp[Instr.sameBits]
 . (split at h<;>first|(cases h;done)|skip);rename_i J9;have:=Bm J9;subst this;simp only[H0,pI]at h;rw[h1.gX,h2.gX];rename_i p q _;have:p=q:=(by simpa using h);subst this;cases m<;>simp[Instr.sameBits]
 .simp only[H0]at h;obtain⟨bx,rfl,e1⟩:=h1.eR;obtain⟨bz,rfl,e2⟩:=h2.eR;have:bz==bx:=(by rw[beq_toListBytes,Mt e2 e1,qN];exact(qN.1 h).symm);cases m<;>simpa [Instr.sameBits]using this
theorem ZC{pk:PK}{u:AV}:∀{es:List (AV×AV×Nat)}{i j:Nat}{v:AV},lJ pk u es i=some (some (j,v))->∃e,i<=j/\es[j - i]? =some e/\zG pk u e.1=some true
 |[],i,j,v,h=>by simp[lJ]at h
 |(k',v',born)::es,i,j,v,h=>by
  unfold lJ at h;split at h<;>first|(cases h;done)|skip
  .rename_i hq;simp only[H0,Zc7]at h;obtain⟨rfl,_⟩:=h;exact⟨(k',v',born),Za6 _,by simp,hq⟩
  .obtain⟨e,h1,h2,h3⟩:=ZC h;refine⟨e,by omega,?_,h3⟩;rw[show j - i=(j - (i+1))+1 from by omega];simpa using h2
theorem Ry(k v:AV):∀(es:List (AV×AV×Nat))(i j:Nat),(rf k v es i)[j]? =if j=i then(es[i]?).map (λe=>(k,v,e.2.2))else es[j]?
 |[],i,j=>by cases i<;>cases j<;>simp[rf]
 |(a,b,born)::es,0,j=>by cases j<;>simp[rf]
 |e::es,i+1,j=>by
  cases j with
  |zero=>simp[rf]
  |succ j=>simp[rf,Ry k v es i j]
theorem WU (hT:cQ P tt)(op:Op)(t:TypeId)(m k0 v0:Operand)(hop:op= .mapUpdate t m k0 v0\/op= .insert t m k0 v0):eS P tt op:=by
 intro ρ C st w k xs cls fr a o vs res ho hc hW hF hx hr;have hc:jV.aeZ tt t m k0 v0=some (k,xs,cls):=by rcases hop with rfl|rfl<;>simpa only[jV]using hc
 have hex:(execOp a.eval o).run P w=((Instr.mapUpdate t (a.eval m) (a.eval k0) (a.eval v0)).run P w).andThen λ_ w=>.ok .skip w:=by
   rcases hop with rfl|rfl<;>simp[execOp,ho]
 unfold jV.aeZ at hc;split at hc<;>first|(cases hc;done)|skip
 rename_i ti l fA hl;split at hc<;>first|(cases hc;done)|skip
 rename_i kt et hk;split at hc<;>first|(cases hc;done)|skip
 rename_i tk htk;obtain⟨d,hd,dD⟩:=(hT.at fA).und;rw[hk]at dD;rw[Ro dD]at hd;obtain⟨dk,ZA,J9⟩:=(hT.at htk).und;have key:∃pk,k= .mapSet pk/\xs=l/\pk.fits dk=true:=by
   split at hc<;>first|(cases hc;done)|skip
   all_goals
     rename_i h1;cases hc;refine⟨_,rfl,rfl,akp tk.k J9 ?_⟩
   .exact .inr (.inl ⟨⟨_,h1⟩,rfl⟩)
   .exact .inr (.inr ⟨h1,rfl⟩)
   .exact .inl ⟨h1,rfl⟩
 obtain⟨pk,rfl,rfl,Lh⟩:=key;obtain⟨mm,kk,vv,rfl,h1,h2,h3⟩:=evs3 hl hF hx;have hck:∀e w,(Instr.checkKey e 10000 kt (a.eval k0)).run P w= .ok () w:=λe w=>Mx ZA Lh e 9999 _ w
 simp only[aJ.run,Bj]at hr;split at hr<;>first|(cases hr;done)|skip
 rename_i b;split at hr<;>first|(cases hr;done)|skip
 rename_i es clock hb;obtain⟨_,he⟩:=h1.Bn;obtain⟨_,_,es',dB,hlen,nT⟩:=hW.live _ _ hb;have hE:Ke ρ st.next.toNat C es es'.toList:=⟨by simpa using hlen,λi e e' h1 h2=>nT i e e' h1 (by simpa using h2)⟩
 split at hr<;>first|(cases hr;done)|skip
 . rename_i i v hpk hf;simp only[H0]at hr;subst hr;obtain⟨r',hf',ni⟩:=EV Lh h2 hE hf;rcases ni with⟨e1,_⟩|⟨j',v',y,e1,e2,e3,_,e5⟩
   .cases e1
   . cases  e1;subst e2;obtain⟨e,_,hei,hek⟩:=ZC hf;rw[Zm0]at hei;have hi:i<es'.size:=(by omega);have afc:es'[i]? =some es'[i]:=Zf3 hi;have ait:=(nT i e es'[i] hei afc).1;have hsb:=VM h2 ait hek 10000;have hE2:Ke ρ st.next.toNat C (rf kk vv es i) (es'.modify i λe=>{ e with key:=a.eval k0,val:=a.eval v0 }).toList:=by
        refine⟨?_,λj e e' g1 g2=> ?_⟩
        . have hsl:∀(es:List (AV×AV×Nat))(i:Nat),(rf kk vv es i).length=es.length:=by
            intro es;induction es with
            |nil=>intro i;cases i<;>rfl
            | cons e es ih=>intro i;cases i with
              |zero=>obtain⟨a,b,c⟩:=e;rfl
              |succ i=>simp[rf,ih i]
          rw[hsl];simpa using hlen
        . rw[Ry]at g1;simp only[Zh9,Zj2]at g2;by_cases hji:j=i
          .subst hji;rw[Zb5 rfl,hei]at g1;simp[afc]at g1 g2;subst g1;subst g2;exact⟨h2,h3,(nT j e es'[j] hei afc).2.2⟩
          .rw[Zb2 hji]at g1;rw[Zb2 (λe=>hji e.symm)]at g2;exact nT j e e' g1 g2
     obtain⟨iW,hE'⟩:=WT hW hb (MA:=clock) hE2;refine⟨.skip,undef,_,ρ,?_,.inr ⟨rfl,rfl⟩,λ_ _=>rfl,iW,aC.El,hE'⟩;rw[hex];simp only[Instr.mapUpdate,Sem.run_bind,bB hd,Result.andThen_ok,he,run_getObj_map dB,hck,run_findKey ZA hf',afc,Zd8,Zj8,Instr.keyThatStays,hsb,Zg7,Sem.run_pure,run_setObj_map dB]
 . rename_i hpk hf;simp only[H0]at hr;subst hr;obtain⟨r',hf',ni⟩:=EV Lh h2 hE hf;rcases ni with⟨_,e2⟩|⟨j',v',y,e1,_⟩
   . subst  e2;have hE2:Ke ρ st.next.toNat C (es++[(kk,vv,clock)]) (es'.push { key:=a.eval k0,val:=a.eval v0,born:=clock }).toList:=by
        refine⟨by simp[hlen],λj e e' g1 g2=> ?_⟩;simp only[Array.toList_push]at g2;rcases Zj9 j es.length with hj|hj
        .rw[Zd9 hj]at g1;rw[Zd9 (by simp;omega)]at g2;exact nT j e e' g1 (by simpa using g2)
        .rw[Zd6 hj]at g1;rw[Zd6 (by simp;omega)]at g2;have:j - es.length=0:=(by have:=(Za4.1 g1).1;simp at this;omega);rw[this]at g1;have:j - es'.toList.length=0:=(by simp;omega);rw[this]at g2;simp at g1 g2;subst g1;subst g2;exact⟨h2,h3,rfl⟩
     obtain⟨iW,hE'⟩:=WT hW hb (MA:=clock+1) hE2;refine⟨.skip,undef,_,ρ,?_,.inr ⟨rfl,rfl⟩,λ_ _=>rfl,iW,aC.El,hE'⟩;rw[hex];simp only[Instr.mapUpdate,Sem.run_bind,bB hd,Result.andThen_ok,he,run_getObj_map dB,hck,run_findKey ZA hf',run_setObj_map dB]
   .cases e1
end
section
variable{P:Program}{tt:TT}{ρ:Pos->Loc}{C:Cells}{st:St}{w w':World}
theorem bS.of_heap(hW:bS ρ C st w)(h:w'.heap=w.heap):bS ρ C st w' where
 live b x hb:=let⟨h1,h2,h3⟩:=hW.live b x hb;⟨h1,by rw[h];exact h2,h3.of_heap (by rw[h])⟩
 inj:=hW.inj
 dH a v ha:=let⟨h1,h2⟩:=hW.dH a v ha;⟨by unfold World.cell? at h1 ⊢; rw[h];exact h1,h2⟩
 whole a v ha o ho:=by have:=hW.whole a v ha o ho;unfold World.cell? at this ⊢; rw[h];exact this
theorem UK{es:Nat}:∀{xs:List (List AV)}(_h:∀(i:Nat)(cs:List AV),xs[i]? =some cs->cs.length=es)(q:Nat)(v:AV),
  xs.flatten[q]? =some v->∃cs,xs[q / es]? =some cs/\cs[q % es]? =some v
 |[],_,q,v,hv=>by simp at hv
 |c ::xs,h,q,v,hv=>by
  have hc:c.length=es:=h 0 c rfl;have qe:∀(i:Nat)(cs:List AV),xs[i]? =some cs->cs.length=es:=λi cs hi=>h (i+1) cs (by simpa using hi)
  rw[Ze9]at hv;rcases Zj9 q c.length with hq|hq
  . rw[Zd9 hq]at hv;refine⟨c,?_,?_⟩
    .   rw[Nat.div_eq_of_lt (by omega)];rfl
    .   rw[Zl2 (by omega)];exact hv
  . rw[   Zd6 hq]at hv;obtain⟨cs,h1,h2⟩:=UK qe (q - c.length) v hv;rw[hc]at hq h1 h2;have Yz:0<es:=by
        rcases Zq2 es with h0|h0
        .subst h0;have hl:=qe _ _ h1;have:=(Za4.1 h2).1;omega
        .exact h0
    refine⟨cs,?_,?_⟩
    .   rw[Nat.div_eq_sub_div Yz hq];simpa using h1
    .   rw[Zq1 hq];exact h2
theorem UL{es:Nat}:∀{xs:List (List AV)}(_h:∀(i:Nat)(cs:List AV),xs[i]? =some cs->cs.length=es),xs.flatten.length=xs.length*es
 |[],_=>by simp
 |c::xs,h=>by have hc:c.length=es:=h 0 c rfl;rw[Ze9,Zc9,UL (λi cs hi=>h (i+1) cs (by simpa using hi)),hc,Zc2,Zj0];omega
theorem uz(hW:bS ρ C st w){es m:Nat}{u:AV}{x:Value}{new:List AV}{k:Nat}(hu:aC ρ st.next.toNat C u x)(hk:dX u=some k)(hmk:m<=k)(h:cZ es m (λb=>st.heap.get b) u=some new)(w2:World)(gS:w2.heap=w.heap):
   ∃ys:List Value,(Builtin.firstCells es m x).run P w2= .ok ys.toArray w2/\aI ρ st.next.toNat C new ys/\(u= .af\/new.length=m*es):=by
 have hW2:=hW.of_heap (w':=w2) gS;unfold cZ at h;split at h
 .simp only[H0]at h;subst h;rw[hu.gZ];exact⟨[],by simp[Builtin.firstCells],aI.nil,.inl rfl⟩
 . rename_i b off len cap es';simp only[dX,H0]at hk;subst hk;obtain⟨aa,bA,he,hle,_,ha⟩:=hu.ff;rw[he];split at h
   .rename_i h0;have h0:=Za7 h0;simp only[H0]at h;subst h;exact⟨[],by simp[Builtin.firstCells,h0,loadCells,loadCellsFrom],aI.nil,.inr (by simp[h0])⟩
   .rename_i h0;have h0:=Ze6 h0;(split at h<;>first|(cases h;done)|skip);rename_i cs fz hb;have hm:m≠0:=(by intro e;subst e;simp at h0);obtain⟨_,rfl,_⟩:=ha (by omega);obtain⟨ys,h1,h2⟩:=hW2.loadCells (P:=P) hb h;exact⟨ys,by simp only[Builtin.firstCells];exact h1,h2,.inr (N4 h)⟩
 . rename_i xs es';simp only[dX,H0]at hk;subst hk;(split at h<;>first|(cases h;done)|skip);rename_i he1 he2;have he1:=Za7 he1;have he2:=Za9 he2;subst he1;simp only[H0]at h;subst h;obtain⟨aa,bA,cell,he,hle,zc,g1,g2,g3⟩:=hu.xN;rw[he];have dB:∀(i:Nat)(cs:List AV),(xs.take m)[i]? =some cs->cs.length=es:=λi cs hi=>by
     rw[Zd7]at hi;split at hi
     .exact g1 i cs hi
     .cases hi
   have hfl:=UL dB;rw[Ze0,Zh5 he2]at hfl;have akq:∀q v,(xs.take m).flatten[q]? =some v->∃cs,xs[q / es]? =some cs/\cs[q % es]? =some v:=λq v hv=>by
     obtain⟨cs,h1,h2⟩:=UK dB q v hv;rw[Zd7]at h1;split at h1
     .exact⟨cs,h1,h2⟩
     .cases h1
   refine⟨(List.range (m*es)).map λq=>cell (q / es) (q % es),?_,⟨by simp[hfl],λq v y hv hy=> ?_⟩,.inr hfl⟩
   .simp only[Builtin.firstCells];(refine run_loadCells w2 _ _ _ λq hq=> ?_);have aW:q<(xs.take m).flatten.length:=(by rw[hfl];exact hq);obtain⟨cs,h1,h2⟩:=akq q _ (Za0 aW);have zc:=zc (by intro e;rw[e]at h1;simp at h1);obtain⟨ab,ao,asp⟩:=aa;simp only at zc;subst zc;have:=(hW2.dH _ _ (g2 _ _ _ _ h1 h2)).1;rw[sI];simp only at this;rw[show ao+q=ao+q / es*es+q % es from by rw[Zk0,Nat.mul_comm,Nat.div_add_mod]];exact this
   .obtain⟨cs,h1,h2⟩:=akq q v hv;have hq:q<m*es:=(by rw[<-hfl];exact(Za4.1 hv).1);simp[hq]at hy;subst hy;exact g3 _ _ _ _ h1 h2
 . rename_i s;simp only[dX,H0]at hk;subst hk;(split at h<;>first|(cases h;done)|skip);rename_i he1 he2;have he1:=Za7 he1;have he2:=Za9 he2;subst he1;simp only[H0]at h;subst h;obtain⟨bs,rfl,hs⟩:=hu.eR;refine⟨(s.take m).map λ(c:Nat)=>Value.int .u8 (.ofNat c),?_,⟨by simp,λq v y hv hy=> ?_⟩,.inr (by simp;omega)⟩
   .simp only[Builtin.firstCells,Sem.run_pure];congr 1;apply Zl7;simp only[Array.toList_map,ByteArray.data_extract,Zo9,List.extract,Zf4,Zm0];rw[<-hs, <-Zo6,Zi0];rfl
   .simp only[Zc3,Zi7]at hv hy;obtain⟨c,hc,rfl⟩:=hv;obtain⟨c',UM,rfl⟩:=hy;rw[hc]at UM;cases UM;exact .int _ _
 .cases h
theorem abF{n:Nat}{u:AV}{x:Value}{k:Nat}(hu:aC ρ n C u x)(hk:dX u=some k):(Builtin.lenOf x).run P w= .ok k w:=by
 unfold dX at hk;split at hk<;>first|(cases hk;done)|skip
 all_goals simp only[H0]at hk;subst hk
 .rw[hu.gZ];rfl
 .obtain⟨_,_,he,_⟩:=hu.ff;rw[he];rfl
 .obtain⟨_,_,_,he,_⟩:=hu.xN;rw[he];rfl
 .obtain⟨bs,rfl,hs⟩:=hu.eR;rw[<-H8 hs];rfl
theorem ZD(nl:Nat):∀(r c:Nat),c<=nl+(nl+768) / 4->Builtin.growBy nl r c<=nl+(nl+768) / 4
 |0,c,h=>h
 |r+1,c,h=>by
  unfold Builtin.growBy;split
  .exact h
  .exact ZD nl r _ (by omega)
theorem nextslicecap_le{afd iA:Nat}(h:iA<afd):Builtin.nextslicecap afd iA<=2*afd+768:=by
 unfold Builtin.nextslicecap;split
 .omega
 . split
   .omega
   .have:=ZD afd 4 iA (by omega);omega
theorem afe(hT:cQ P tt){t t2 e:Nat}{ts:Array TypeId}{ti WE te:TI}(fA:tt.get (key t)=some ti)(vw:tt.get (key t2)=some WE)(hk:ti.k= .slice e)(rU:∀k,WE.k≠ .int k)
  (nH:tt.get (key e)=some te) (h0:ts[0]? =some t) (h1:ts[1]? =some t2) (ty:TypeId) (base:Option Addr) (n cap m:Nat) (x:Value) (w:World)
  (hx:(Builtin.lenOf x).run P w= .ok m w) (hb:(2*(n+m)+768)*te.bytes<=281474976710656) (hi:n+m<=9223372036854775807):
  (Builtin.append_ ts ty #[.slice base n cap,x]).run P w=
    if n+m<=cap then((Builtin.firstCells te.size m x).run P w).andThen λnew w=>((match base with|some a=>storeCells (a.add (n*te.size)) new.toList|none=>pure ()).run P w).andThen λ_ w=>.ok (.slice base (n+m) cap) w
    else((Builtin.firstCells te.size n (.slice base n cap)).run P w.drew).andThen λiA w1=>((Builtin.firstCells te.size m x).run P w1).andThen λnew w2=>((zeroValue e).run P w2).andThen λz w3=>
        .ok (.slice (some ⟨w3.heap.size,0,none⟩) (n+m) (grownCap w (n+m) cap e)) (w3.alloc (.cells (iA++new++Builtin.zeroCells z.cells (grownCap w (n+m) cap e - (n+m))) e)):=by
 obtain⟨d,hd,dD⟩:=(hT.at fA).und;rw[hk]at dD;rw[rj dD]at hd;obtain⟨d2,hd2,aiu⟩:=(hT.at vw).und;obtain⟨i0,xP,tV,hib,_⟩:=(hT.at nH).info;have am8:∀k,d2≠ .int k:=by
  rintro k rfl;cases J9:WE.k<;>rw[J9]at aiu<;>first|(simp[b9]at aiu;done)|exact absurd J9 (rU _)
 have hmax:¬(((n+m:Nat):Int)>IntKind.i64.max):=by
  have:IntKind.i64.max=9223372036854775807:=by decide
  rw[this];omega
 have am9:¬(n+m<=cap)->¬(Builtin.nextslicecap (n+m) cap*te.bytes>2 ^ 48):=λhc=>by
  have h1:=nextslicecap_le (Nat.lt_of_not_le hc);have h2:=Zi3 te.bytes h1;have:(2:Nat) ^ 48=281474976710656:=by decide
  omega
 have VK:∀q,(Question.appendCap (n+m) cap e).forced=q->q=false:=by rintro q rfl;rfl
 clear aiu;cases d2<;>first|(exact absurd rfl (am8 _))|skip
 all_goals
  unfold Builtin.append_;simp only[h0,h1,List.getElem?_toArray,Zb0,Zb3,Sem.run_bind,bB hd,Result.andThen_ok,lN xP,tV,bB hd2,Sem.run_pure,hx,Zd3,Ze8,Zi4,Zg7,Sem.run_ite];by_cases hc:n+m<=cap
  .rw[Zb5 hc,Zb5 hc];cases base<;>simp only[Sem.run_bind,Sem.run_pure,Result.andThen_ok]
  .rw[Zb2 hc,Zb2 hc];simp only[Sem.run_bind,abv xP,hib,Result.andThen_ok,hmax,false_and,Ze8,am9 hc,run_choose,Question.forced,Zd3,World.drew_eq,run_askRoom,Sem.run_pure,newRow,run_newObj,World.alloc_eq];rfl
end
section
variable{P:Program}{tt:TT}{ρ:Pos->Loc}{C:Cells}{st:St}{w w':World}
theorem aiv{L:Loc}{cs:List AV}{n:Nat}(fz:Nat)(h:ri ρ n C L w' (.cells cs 0)):ri ρ n C L w' (.cells cs fz):=
 let⟨c,e,fr,h1,h2,h3,h4,h5⟩:=h
 ⟨c,e,fr,h1,h2,h3,h4,λi _ hi=>h5 i (Zj1 _) hi⟩
theorem aff(hW:bS ρ C st w)(del:Option Pos)(fz:Nat){iA new rest:List Value}{ol nl:List AV}{e:TypeId}{n m es bA:Nat}(h1:aI ρ st.next.toNat C ol iA)(h2:aI ρ st.next.toNat C nl new)
  (Cv:ol.length=n*es) (hln:nl.length=m*es) (hr:rest.length=(bA - (n+m))*es) (hc:n+m<=bA) {w2:World} (gS:w2=w.drew.alloc (.cells (iA++new++rest).toArray e)):
  ∃ρ':Pos->Loc,(∀b:Pos,b.toNat<st.next.toNat->ρ' b=ρ b)/\bS ρ' C (st.br del none (some (.cells (ol++nl) fz))) w2/\nh ρ st w ρ' (st.br del none (some (.cells (ol++nl) fz))) w2/\
   aC ρ' (st.br del none (some (.cells (ol++nl) fz))).next.toNat C (.slice st.next 0 (n+m) none es) (.slice (some ⟨w.heap.size,0,none⟩) (n+m) bA):=by
 subst gS;have Rz:iA.length=n*es:=by rw[<-h1.1,Cv]
 have gx:new.length=m*es:=by rw[<-h2.1,hln]
 have fC:(iA++new++rest).length=bA*es:=by simp only[Zc9,Rz,gx,hr];rw[<-Zj0, <-Zj0];congr 1;omega
 obtain ⟨ρ',bG,iV,iW,hE⟩:=Mz (w':=w.drew.alloc (.cells (iA++new++rest).toArray e)) (o:= .cells (iA++new++rest).toArray e) (x0:= .cells (ol++nl) fz) (base:=0) (size:=(iA++new++rest).toArray.size) hW del rfl rfl rfl rfl (λρ' n' bG hn=>
  aiv   fz <| Bo (e:=e) (fr:=(0,0)) (by show(w.heap.push _)[w.heap.size]? =_;simp) (by simp[Cv,hln,Rz,gx])
   (by
        have:(iA++new++rest).toArray.toList.take (ol++nl).length=iA++new:=by
         rw[Zr2 (by simp[Cv,hln,Rz,gx])]
        rw[this];exact(h1.append h2).mono bG hn) (λi _=>by simp))
 refine⟨ρ',bG,iW,hE,Kg (by simp[St.br,Pos.aK]) iV hc (λc hc=>by cases hc) (by simp only[Zn0,fC];exact Za6 _)⟩
theorem aaz(z:Array Value)(m:Nat):(Builtin.zeroCells z m).toList.length=m*z.size:=by simp[Builtin.zeroCells]
theorem aiw{m:Nat}(h:Nat.beq m 0=false):m≠0:=Ze6 h
theorem afg (hT:cQ P tt){t t2 e:Nat}{ts:Array TypeId}{ti WE te:TI}{z:List AV}(fA:tt.get (key t)=some ti)(vw:tt.get (key t2)=some WE)(hk:ti.k= .slice e)(rU:∀k,WE.k≠ .int k)
   (nH:tt.get (key e)=some te) (hz:te.zero=some z) (h0:ts[0]? =some t) (h1:ts[1]? =some t2) (ty:TypeId) {s u:AV} {xs xu:Value} {res:eH} (hW:bS ρ C st w)
   (hs:aC ρ st.next.toNat C s xs) (hu:aC ρ st.next.toNat C u xu) (hr:gR (λb=>st.heap.get b) st.next te.size te.bytes [s,u]=some res):
   EN P ρ C st w (((Builtin.append_ ts ty #[xs,xu]).run P w).andThen λv w=>.ok (.value v) w) res:=by
 simp only[gR]at hr;split at hr<;>first|(cases hr;done)|skip
 rename_i n m hn hm;split at hr<;>first|(cases hr;done)|skip
 rename_i b1 b2;have b1:=Za9 b1;have b2:=Za9 b2;have hlen:=abF (P:=P) (w:=w) hu hm;obtain⟨i0,xP,tV,_,Kf⟩:=(hT.at nH).info;obtain⟨zv0,hzv0,_,WS,_⟩:=Kf z hz;have hzr:=λw=>Ek hT nH hz (ρ:=ρ) (n:=st.next.toNat) (C:=C) w
 have hsl:∃base bA,xs= .slice base n bA/\n<=bA:=by
   unfold dX at hn;split at hn<;>first|(cases hn;done)|skip
   .cases hn;exact⟨none,0,hs.gZ,Za6 _⟩
   .cases hn;obtain⟨a,c,he,hle,_⟩:=hs.ff;exact⟨_,c,he,hle⟩
   .cases hn;obtain⟨a,c,_,he,hle,_⟩:=hs.xN;exact⟨_,c,he,hle⟩
   .rename_i s';exfalso;cases hbm:Nat.beq m 0<;>simp[hbm]at hr
 obtain⟨base,bA,qe,hle⟩:=hsl;have dy:=afe hT fA vw hk rU nH h0 h1 ty base n bA m xu w hlen b1 b2;rw[qe,dy];have hg:∀c,n+m<=grownCap w (n+m) c e:=λc=>by unfold grownCap Question.cut;exact Nat.le_add_right _ _
 have abG:∀(del:Option Pos)(fz:Nat)(ol nl:List AV),¬(n+m<=bA)->cZ te.size n (λb=>st.heap.get b) s=some ol->cZ te.size m (λb=>st.heap.get b) u=some nl->ol.length=n*te.size->nl.length=m*te.size->
     EN P ρ C st w ((if n+m<=bA then((Builtin.firstCells te.size m xu).run P w).andThen λnew w=>((match base with|some a=>storeCells (a.add (n*te.size)) new.toList|none=>pure ()).run P w).andThen λ_ w=>.ok (.slice base (n+m) bA) w
     else((Builtin.firstCells te.size n (.slice base n bA)).run P w.drew).andThen λiA w1=>((Builtin.firstCells te.size m xu).run P w1).andThen λnew w2=>((zeroValue e).run P w2).andThen λz w3=>
        .ok (.slice (some ⟨w3.heap.size,0,none⟩) (n+m) (grownCap w (n+m) bA e)) (w3.alloc (.cells (iA++new++Builtin.zeroCells z.cells (grownCap w (n+m) bA e - (n+m))) e))).andThen λv w=>.ok (.value v) w)
        (.br (.slice st.next 0 (n+m) none te.size) del none (some (.cells (ol++nl) fz))):=by
   intro del fz ol nl hc ho Cw Cv hln;obtain⟨iA,e1,e2,_⟩:=uz (P:=P) hW hs hn (Za6 _) ho w.drew rfl;obtain⟨new,e3,e4,_⟩:=uz (P:=P) hW hu hm (Za6 _) Cw w.drew rfl;obtain⟨zv,PN,_,DU⟩:=hzr w.drew;rw[qe]at e1;have abe:(Builtin.zeroCells zv.cells (grownCap w (n+m) bA e - (n+m))).toList.length=(grownCap w (n+m) bA e - (n+m))*te.size:=(by rw[aaz];congr 1;have:=DU.1;simp at this;omega);obtain⟨ρ',bG,iW,hE,hv⟩:=aff hW del fz e2 e4 Cv hln abe (hg bA) (e:=e) rfl;refine⟨_,_,_,ρ',?_,Yields.value _,bG,iW,hv,hE⟩;rw[Zb2 hc];simp only[e1,e3,PN,Result.andThen_ok,World.size_drew];congr 2;simp
 have hlu:∀nl,cZ te.size m (λb=>st.heap.get b) u=some nl->m≠0->nl.length=m*te.size:=by
   intro nl Cw hm0;obtain⟨_,_,_,h⟩:=uz (P:=P) hW hu hm (Za6 _) Cw w rfl;rcases h with rfl|h
   .simp[dX]at hm;omega
   .exact h
 have hls:∀ol,cZ te.size n (λb=>st.heap.get b) s=some ol->ol.length=n*te.size:=by
   intro ol EX;obtain⟨ys,_,xK,h⟩:=uz (P:=P) hW hs hn (Za6 _) EX w rfl;rcases h with rfl|h
   .simp[dX]at hn;subst hn;simp[cZ]at EX;subst EX;simp
   .exact h
 have hzero:m=0->aC ρ st.next.toNat C s xs->EN P ρ C st w ((if n+m<=bA then((Builtin.firstCells te.size m xu).run P w).andThen λnew w=>((match base with|some a=>storeCells (a.add (n*te.size)) new.toList|none=>pure ()).run P w).andThen λ_ w=>.ok (.slice base (n+m) bA) w
     else((Builtin.firstCells te.size n (.slice base n bA)).run P w.drew).andThen λiA w1=>((Builtin.firstCells te.size m xu).run P w1).andThen λnew w2=>((zeroValue e).run P w2).andThen λz w3=>
        .ok (.slice (some ⟨w3.heap.size,0,none⟩) (n+m) (grownCap w (n+m) bA e)) (w3.alloc (.cells (iA++new++Builtin.zeroCells z.cells (grownCap w (n+m) bA e - (n+m))) e))).andThen λv w=>.ok (.value v) w) (.val s):=by
   rintro rfl hsx;have hf:(Builtin.firstCells te.size 0 xu).run P w= .ok #[] w:=by
     unfold dX at hm;split at hm<;>first|(cases hm;done)|skip
     .  rw[hu.gZ];simp[Builtin.firstCells]
     .  obtain⟨_,_,he,_⟩:=hu.ff;rw[he];simp[Builtin.firstCells,loadCells,loadCellsFrom]
     .  obtain⟨_,_,_,he,_⟩:=hu.xN;rw[he];simp[Builtin.firstCells,loadCells,loadCellsFrom]
     .  obtain⟨bs,rfl,_⟩:=hu.eR;simp only[Builtin.firstCells,Sem.run_pure];congr 1;apply Zl7;simp
   rw[qe]at hsx;refine .pure (x:= .slice base n bA) ?_ hsx;rw[Zb5 (by omega),hf];cases base<;>simp[storeCells]
 split at hr<;>first|(cases hr;done)|skip
 .rename_i Cx;simp only[H0]at hr;subst hr;exact hzero (Za7 Cx) hs
 .rename_i Cx;simp only[H0]at hr;subst hr;exact hzero (Za7 Cx) hs
 .rename_i Cx;simp only[H0]at hr;subst hr;exact hzero (Za7 Cx) hs
 ·
   rename_i Cx;have Cx:=aiw Cx;(split at hr<;>first|(cases hr;done)|skip);rename_i new Cw;simp only[H0]at hr;subst hr;have he:=hs.gZ;rw[he]at qe;simp only[Value.slice.injEq]at qe;obtain⟨rfl,rfl,rfl⟩:=qe;have:=abG none 0 [] new (by omega) rfl Cw (by simp) (hlu new Cw Cx);simpa using this
 ·
   rename_i b off n' c es' Cx;have Cx:=aiw Cx;simp only[dX,H0]at hn;subst hn;obtain⟨aa,cc,he,hlec,hcc,ha⟩:=hs.ff;rw[he]at qe;simp only[Value.slice.injEq]at qe;obtain⟨rfl,_,rfl⟩:=qe;have:=hcc c rfl;subst this;split at hr
   . rename_i rV;have rV:=Za9 rV;(split at hr<;>first|(cases hr;done)|skip);rename_i cs fz new hb Cw;(split at hr<;>first|(cases hr;done)|skip);rename_i c1 c2 c3;have c1:=Za9 c1;simp only[Zb6]at c2;have c2a:=Za9 c2.1;have c2b:=Za7 c2.2;subst c2b;simp only[H0]at hr;subst hr;obtain⟨aW,rfl,hbound⟩:=ha (by omega);obtain⟨ys,e1,e2,_⟩:=uz (P:=P) hW hu hm (Za6 _) Cw w rfl;have N9:=hlu new Cw Cx;obtain⟨w2,e3,iW,hE⟩:=N8 (P:=P) hW hb (by rw[N9];rw[Zj0]at c1;omega) c2a c3 e2;refine⟨_,.slice (some ⟨(ρ b).aQ,(ρ b).base+off,none⟩) (n'+m) c,w2,ρ,?_,Yields.value _,λ_ _=>rfl,iW,?_,hE⟩
     .  rw[Zb5 rV,e1];simp only[Result.andThen_ok,sI];rw[Zk0,e3];rfl
     .  exact .slice _ _ _ _ _ _ _ rV (λc hc=>by cases hc;rfl) (λ_=>⟨aW,rfl,hbound⟩) (λh=>by cases h)
   . rename_i rV;have rV:¬(n'+m<=c):=λh=>by rw[Nat.ble_eq_true_of_le h]at rV;cases rV
     (split at hr<;>first|(cases hr;done)|skip);rename_i iA new EX Cw;simp only[H0]at hr;subst hr;exact abG none 0 iA new rV EX Cw (hls iA EX) (hlu new Cw Cx)
 ·
   rename_i b off n' es' Cx;have Cx:=aiw Cx;simp only[dX,H0]at hn;subst hn;(split at hr<;>first|(cases hr;done)|skip);rename_i cs fz iA new hb EX Cw;(split at hr<;>first|(cases hr;done)|skip);rename_i c2 c3;simp only[Zb6]at c2;have c2a:=Za9 c2.1;have c2b:=Za7 c2.2;subst c2b;simp only[H0]at hr;subst hr;by_cases rV:n'+m<=bA
   ·
     obtain ⟨aa,cc,he,hlec,hcc,ha⟩:=hs.ff;rw[he]at qe;simp only[Value.slice.injEq]at qe;obtain⟨rfl,_,rfl⟩:=qe;obtain⟨aW,rfl,hbound⟩:=ha (by omega);obtain⟨ys,e1,e2,_⟩:=uz (P:=P) hW hu hm (Za6 _) Cw w rfl;have N9:=hlu new Cw Cx;have akr:=hls iA EX;obtain⟨WQ,Ia,c,ce,fr,g1,g2,g3,g4,g5⟩:=hW.live b _ hb;have hmul:(n'+m)*te.size<=cc*te.size:=Zi3 _ rV;have hmul2:(n'+m)*te.size=n'*te.size+m*te.size:=Zj0 _ _ _;have hyl:ys.length=m*te.size:=(by rw[<-e2.1,N9]);have hold:aI ρ st.next.toNat C iA ((c.toList.drop ((ρ b).base+off)).take (n'*te.size)):=by
        simp only[cZ]at EX;split at EX
        .rename_i hz0;have hz0:=Za7 hz0;simp only[H0]at EX;subst EX;rw[hz0];simpa using(aI.nil:aI ρ st.next.toNat C [] [])
        . rw[hb]at EX;simp only at EX;obtain⟨ho1,RA⟩:=WJ EX;have h:=(g4.drop off).take (n'*te.size);rw[<-ho1]at h;have:List.take (n'*te.size) (List.drop off (List.take cs.length (List.drop (ρ b).base c.toList)))=(c.toList.drop ((ρ b).base+off)).take (n'*te.size):=by
            rw[Zq0,List.take_take,Zn1,Zh5 (by omega)]
          rw[this]at h;exact h
     obtain⟨w2,s1,s2,s3,s4,s5,s6,s7⟩:=vT (P:=P) (ρ b).aQ ce fr ys 0 ((ρ b).base+off+n'*te.size) c w g1 (by omega) (N7 c3 e2) (λk hk qM=>by
        have:=g5 (k - (ρ b).base) (by omega) (by omega)
        rwa [show(ρ b).base+(k - (ρ b).base)=k from by omega]at this)
     simp only[Zl0]at s1 s2
     let ρ':Pos->Loc:=λq=>if q=st.next then⟨(ρ b).aQ,(ρ b).base+off,(ρ b).size⟩else ρ q
     have bG:∀q:Pos,q.toNat<st.next.toNat->ρ' q=ρ q:=λq hq=>Zb2 (λe=>by rw[e]at hq;omega)
     have iV:ρ' st.next=⟨(ρ b).aQ,(ρ b).base+off,(ρ b).size⟩:=Zb5 rfl;have hcl:c.toList.length=c.size:=(by simp);have hWn:bS ρ' C (st.br (some b) none (some (.cells (iA++new) (fz - off)))) w2:=by
        refine hW.ae2 (b0:=st.next) (x0:= .cells (iA++new) (fz - off)) (by rw[Pos.aK];omega) (by rw[Pos.aK];omega) (by rw[T.fP]) ?_ bG ?_ ?_ (by rw[iV,s3];exact Ia) (by omega) (λk hk qM=>s4 k (by rw[iV]at qM;exact qM))
        .intro q x hq hx;rw[T.bY _ (λe=>hq e.symm)]at hx;obtain⟨h1,h2⟩:=N6 (some b) _ hx;refine⟨h1,?_⟩;rw[iV];exact λe=>h2 b rfl (hW.inj _ _ _ _ h1 hb e)
        . rw[iV];refine⟨_,ce,fr,s2,by simp[aZ];omega,by simp[aZ,akr,N9];omega,?_,λi xP hi=> ?_⟩
          . (simp only;rw[Lj _ _ _ _ (by omega)];have htk:(aZ (c.toList.drop ((ρ b).base+off)) (n'*te.size) ys).take (iA++new).length=(c.toList.drop ((ρ b).base+off)).take (n'*te.size)++ys:=by unfold aZ;rw[<-Zg4,Zr2];simp[akr,N9,hyl];omega);rw[htk];exact(hold.append e2).mono bG (by rw[Pos.aK];omega)
          . have Ge:(ρ b).base+off+i<c.size:=(by simp only[Zn0]at hi;have:(aZ c.toList ((ρ b).base+off+n'*te.size) ys).length=c.size:=(by simp[aZ];omega);omega);have:=g5 (off+i) (by omega) (by omega);simp only
            rwa [<-Zk0]at this
        .intro ad v hv;rw[iV];exact λe=>(hW.dH ad v hv).2 b _ hb e.symm
     refine⟨_,(.slice (some ⟨(ρ b).aQ,(ρ b).base+off,none⟩) (n'+m) cc),w2,ρ',?_,Yields.value _,bG,hWn,?_,⟨s5,s6,s7,by omega,λk _ hk=>s4 k (λe=>hk b _ hb e.symm),λq x hx=> ?_⟩⟩;rotate_left;rotate_left
     .  left;by_cases hq:q=st.next
        .exact⟨b,_,hb,by rw[hq,iV]⟩
        .simp only[St.br,Lg]at hx;rw[T.bY _ (λe=>hq e.symm)]at hx;obtain⟨h1,_⟩:=N6 (some b) _ hx;exact⟨q,x,h1,by rw[bG q (hW.live q x h1).1]⟩
     .  rw[Zb5 rV,e1];simp only[Result.andThen_ok,sI];rw[s1];rfl
     .  refine .slice _ _ _ _ _ _ _ rV (λc hc=>by cases hc) (λ_=>⟨by simp[St.br,Pos.aK],by rw[iV];rfl,?_⟩) (λ_=>by simp[St.br,Pos.aK]);rw[iV];simp only;omega
   .exact abG (some b) _ iA new rV EX Cw (hls iA EX) (hlu new Cw Cx)
end
section
variable{P:Program}{tt:TT}{ρ:Pos->Loc}{C:Cells}{st:St}{w w':World}
theorem WV{n:Nat}{xs:Array Value}{u v:AV}(h:aI ρ n C [u,v] xs.toList):∃x y,xs= #[x,y]/\aC ρ n C u x/\aC ρ n C v y:=by
 obtain⟨x,l,h1,h2,h3⟩:=h.cons_inv;obtain⟨y,l',h4,h5,h6⟩:=h3.cons_inv;have:=h6.j5;subst this;exact⟨x,y,by apply Zl7;rw[h1,h4],h2,h5⟩
theorem agI{n:Nat}{xs:Array Value}{u:AV}(h:aI ρ n C [u] xs.toList):∃x,xs= #[x]/\aC ρ n C u x:=by
 obtain⟨x,l,h1,h2,h3⟩:=h.cons_inv;have:=h3.j5;subst this;exact⟨x,by apply Zl7;rw[h1],h2⟩
theorem afh{ts:Array TypeId}{t:TypeId}{l:List TypeId}(h:ts.toList=t::l):ts[0]? =some t:=by rw[<-Zh9,h];rfl
theorem arr1{ts:Array TypeId}{t t2:TypeId}{l:List TypeId}(h:ts.toList=t::t2::l):ts[1]? =some t2:=by rw[<-Zh9,h];rfl
theorem aix(hT:cQ P tt){t e:Nat}{ts:Array TypeId}{ti te:TI}(fA:tt.get (key t)=some ti)(hk:ti.k= .slice e)
   (nH:tt.get (key e)=some te) (h0:ts[0]? =some t) (ty:TypeId) {d u:AV} {xd xu:Value} {res:eH} (hW:bS ρ C st w)
   (hd:aC ρ st.next.toNat C d xd) (hu:aC ρ st.next.toNat C u xu) (hr:Ef (λb=>st.heap.get b) st.next te.size [d,u]=some res):
   EN P ρ C st w (((Builtin.copy_ ts ty #[xd,xu]).run P w).andThen λv w=>.ok (.value v) w) res:=by
 obtain⟨dd,hdd,dD⟩:=(hT.at fA).und;rw[hk]at dD;rw[rj dD]at hdd;obtain⟨i0,xP,tV,_⟩:=(hT.at nH).info;simp only[Ef]at hr;split at hr<;>first|(cases hr;done)|skip
 rename_i n m hn hm;have hlen:=abF (P:=P) (w:=w) hu hm;have hsl:(∃s,d= .str s)\/∃base bA,xd= .slice base n bA/\n<=bA:=by
   unfold dX at hn;split at hn<;>first|(cases hn;done)|skip
   .cases hn;exact .inr ⟨none,0,hd.gZ,Za6 _⟩
   .cases hn;obtain⟨a,c,he,hle,_⟩:=hd.ff;exact .inr ⟨_,c,he,hle⟩
   .cases hn;obtain⟨a,c,_,he,hle,_⟩:=hd.xN;exact .inr ⟨_,c,he,hle⟩
   .exact .inl ⟨_,rfl⟩
 have amm:m=0\/n=0->(Builtin.firstCells te.size 0 xu).run P w= .ok #[] w:=by
   intro _;unfold dX at hm;split at hm<;>first|(cases hm;done)|skip
   .rw[hu.gZ];simp[Builtin.firstCells]
   .obtain⟨_,_,he,_⟩:=hu.ff;rw[he];simp[Builtin.firstCells,loadCells,loadCellsFrom]
   .obtain⟨_,_,_,he,_⟩:=hu.xN;rw[he];simp[Builtin.firstCells,loadCells,loadCellsFrom]
   .obtain⟨bs,rfl,_⟩:=hu.eR;simp only[Builtin.firstCells,Sem.run_pure];congr 1;apply Zl7;simp
 have tU:∀base bA,xd= .slice base n bA->(Builtin.copy_ ts ty #[xd,xu]).run P w=((Builtin.firstCells te.size (Nat.min m n) xu).run P w).andThen λcells w=>((match base with|some a=>storeCells a cells.toList|none=>pure ()).run P w).andThen λ_ w=>.ok (goInt (Nat.min m n)) w:=by
   intro base bA he;unfold Builtin.copy_;simp only[h0,he,List.getElem?_toArray,Zb0,Zb3,Sem.run_bind,bB hdd,Result.andThen_ok,lN xP,tV,hlen];cases base<;>simp only[Sem.run_bind,Sem.run_pure,Result.andThen_ok]
 split at hr
 . rename_i tX;have tX:=Za7 tX;(split at hr<;>first|(cases hr;done)|skip);rename_i hns;simp only[H0]at hr;subst hr;rcases hsl with⟨s,rfl⟩|⟨base,bA,he,hle⟩
   .exact absurd rfl (hns s)
   .have hk0':Nat.min m n=0:=tX;refine .pure (x:=goInt 0) ?_ (.int _ _);rw[tU base bA he,hk0',amm (by have:min m n=0:=tX;omega)];cases base<;>simp[storeCells]
 . rename_i tX;have tX:=Ze6 tX;(split at hr<;>first|(cases hr;done)|skip);rename_i b off n' cap es';(split at hr<;>first|(cases hr;done)|skip);rename_i cs fz new hb Cw;(split at hr<;>first|(cases hr;done)|skip);rename_i c1 c2 c3;have c1:=Za9 c1;have c2:=Za9 c2;simp only[H0]at hr;subst hr;simp only[dX,H0]at hn;subst hn;obtain⟨aa,bA,he,hle,_,ha⟩:=hd.ff;have hmin:min m n'<=m/\min m n'<=n':=⟨Nat.min_le_left _ _,Nat.min_le_right _ _⟩
   obtain⟨aW,rfl,_⟩:=ha (by omega);obtain⟨ys,e1,e2,e3⟩:=uz (P:=P) hW hu hm hmin.1 Cw w rfl;have N9:new.length=min m n'*te.size:=by
     rcases e3 with rfl|e3
     .simp[dX]at hm;omega
     .exact e3
   obtain⟨w2,f1,iW,hE⟩:=N8 (P:=P) hW hb (by rw[N9];exact c1) c2 c3 e2;refine⟨_,goInt ((min m n':Nat):Int),w2,ρ,?_,Yields.value _,λ_ _=>rfl,iW,.int _ _,hE⟩;rw[tU _ _ he];have hmm:Nat.min m n'=min m n':=rfl;rw[hmm,e1];simp only[Result.andThen_ok];rw[f1];rfl
theorem akQ(hT:cQ P tt){t:Nat}{ts:Array TypeId}{ti:TI}(fA:tt.get (key t)=some ti){k:LK}(hk:(k= .s/\ti.k= .string)\/(k= .l/\∃e,ti.k= .slice e)\/(k= .m/\∃a b,ti.k= .map a b))
   (h0:ts[0]? =some t) (ty:TypeId) {u:AV} {xu:Value} {res:eH} (hW:bS ρ C st w)
   (hu:aC ρ st.next.toNat C u xu) (hr:Mj (λb=>st.heap.get b) st.next k [u]=some res):
   EN P ρ C st w (((Builtin.len_ ts ty #[xu]).run P w).andThen λv w=>.ok (.value v) w) res:=by
 obtain⟨d,hd,dD⟩:=(hT.at fA).und;have tU:∀x,xu=x->(Builtin.len_ ts ty #[xu]).run P w=(Builtin.len_ ts ty #[x]).run P w:=λx e=>by rw[e]
 simp only[Mj]at hr;rcases hk with⟨rfl,hk⟩|⟨rfl,e,hk⟩|⟨rfl,a,b,hk⟩<;>rw[hk]at dD
 .rw[tT dD]at hd;(cases u<;>simp only[reduceCtorEq]at hr<;>first|(cases hr;done)|skip);simp only[H0]at hr;subst hr;obtain⟨bs,rfl,hs⟩:=hu.eR;exact .pure (x:=goInt bs.size) (by unfold Builtin.len_;simp[h0,bB hd]) (by rw[H8 hs];exact .int _ _)
 . rw[rj dD]at hd;cases u<;>simp only[reduceCtorEq]at hr<;>first|(cases hr;done)|skip
   .simp only[H0]at hr;subst hr;rw[hu.gZ];exact .pure (x:=goInt 0) (by unfold Builtin.len_;simp[h0,bB hd]) (.int _ _)
   .simp only[H0]at hr;subst hr;obtain⟨aa,c,he,_⟩:=hu.ff;rw[he];exact .pure (by unfold Builtin.len_;simp[h0,bB hd];rfl) (.int _ _)
   .simp only[H0]at hr;subst hr;obtain⟨aa,c,_,he,_⟩:=hu.xN;rw[he];exact .pure (by unfold Builtin.len_;simp[h0,bB hd];rfl) (.int _ _)
 . rw[Ro dD]at hd;cases u<;>simp only[reduceCtorEq]at hr<;>first|(cases hr;done)|skip
   .simp only[H0]at hr;subst hr;rw[hu.Ej];exact .pure (x:=goInt 0) (by unfold Builtin.len_;simp[h0,bB hd]) (.int _ _)
   . (split at hr<;>first|(cases hr;done)|skip);rename_i es c hb;simp only[H0]at hr;subst hr;obtain⟨_,he⟩:=hu.Bn;obtain⟨_,_,es',dB,hlen,_⟩:=hW.live _ _ hb;rw[he];exact .pure (x:=goInt es'.size) (by unfold Builtin.len_;simp[h0,bB hd,run_getObj_map dB]) (by rw[<-hlen];exact .int _ _)
theorem YC(z:Array Value)(m:Nat):(Builtin.zeroCells z m).toList=cv z.toList m:=by
 unfold Builtin.zeroCells;by_cases h:0<z.size
 .exact abD z m h
 .have h0:z.size=0:=(by omega);have:z= #[]:=Zo2 h0;subst this;have h1:cv ([]:List Value) m=[]:=Zc1 (by rw[kO];simp);simp[h1]
theorem agJ(hT:cQ P tt){t e:Nat}{ts:Array TypeId}{ti te:TI}{z:List AV}(fA:tt.get (key t)=some ti)(hk:ti.k= .slice e)
   (nH:tt.get (key e)=some te) (hz:te.zero=some z) (h0:ts[0]? =some t) (ty:TypeId) {u:AV} {xu:Value} {res:eH} (hW:bS ρ C st w)
   (hu:aC ρ st.next.toNat C u xu) (hr:Bk (λb=>st.heap.get b) st.next te.size z [u]=some res):
   EN P ρ C st w (((Builtin.clear_ ts ty #[xu]).run P w).andThen λv w=>.ok (.value v) w) res:=by
 obtain⟨dd,hdd,dD⟩:=(hT.at fA).und;rw[hk]at dD;rw[rj dD]at hdd;obtain⟨i0,xP,tV,_,Kf⟩:=(hT.at nH).info;obtain⟨zv0,_,_,WS,_⟩:=Kf z hz;obtain⟨zv,PN,_,DU⟩:=Ek hT nH hz (ρ:=ρ) (n:=st.next.toNat) (C:=C) w;simp only[Bk]at hr;split at hr<;>first|(cases hr;done)|skip
 .simp only[H0]at hr;subst hr;rw[hu.gZ];exact .pure (x:=undef) (by unfold Builtin.clear_;simp[h0,bB hdd];rfl) aC.El
 . rename_i b off n cap es';obtain⟨aa,bA,he,hle,_,ha⟩:=hu.ff;rw[he];split at hr
   .rename_i MB;have:=Za7 MB;subst this;simp only[H0]at hr;subst hr;exact .pure (x:=undef) (by unfold Builtin.clear_;simp[h0,bB hdd];rfl) aC.El
   . rename_i MB;have MB:=Ze6 MB;(split at hr<;>first|(cases hr;done)|skip);rename_i cs fz hb;(split at hr<;>first|(cases hr;done)|skip);rename_i c1 c2 c3;have c1:=Za9 c1;have c2:=Za9 c2;simp only[H0]at hr;subst hr;obtain⟨_,rfl,_⟩:=ha (by omega);obtain⟨w2,f1,iW,hE⟩:=N8 (P:=P) hW hb (vs:=cv z n) (ys:=cv zv.cells.toList n) (by rw[kO,WS];exact c1) c2 c3 (Li DU n);refine⟨_,undef,w2,ρ,?_,Yields.value _,λ_ _=>rfl,iW,aC.El,hE⟩;unfold Builtin.clear_;cases n with
     |zero=>exact absurd rfl MB
     |succ n=>simp[h0,bB hdd,PN,YC,f1,undef]
theorem MC(c:Call)(f:Operand)(hc:c.callee= .value f)(a:Act)(o:Oper)(ho:o.op= .call c){g:FuncId}{x y:Array Value}(he:a.eval f= .func (.func g) x y):
  (execOp a.eval o).run P w=(callFunc g (x++c.args.map a.eval++y)).run P w:=by
 simp[execOp,ho,resolve,hc,he,Deferred.ofValue,invoke]
theorem aiy (hT:cQ P tt) (c:Call):eS P tt (.call c):=by
 intro ρ C st w k xs cls fr a o vs res ho hc hW hF hx hr;simp only[jV]at hc;split at hc<;>first|(cases hc;done)|skip
 rename_i l hl;split at hc<;>first|(cases hc;done)|skip
 ·
  rename_i g abH;cases hc;have hv:=iC hl hF hx;simp only[aJ.run,VF,H0]at hr;subst hr;refine⟨c.args.toList.map a.eval,?_,hv⟩;rw[MC c _ abH a o ho (g:=g) (x:= #[]) (y:= #[]) rfl];congr 2;apply Zl7;simp
 ·
  rename_i f hnf abH;split at hc<;>first|(cases hc;done)|skip
  rename_i ao hao;cases hc;unfold fE at hx;split at hx<;>first|(cases hx;done)|skip
  rename_i fv hfv;split at hx<;>first|(cases hx;done)|skip
  rename_i vs' aiz;simp only[H0]at hx;subst hx;have h1:=AY hao hF hfv;have h2:=iC hl hF aiz;simp only[aJ.run,VG]at hr;split at hr<;>first|(cases hr;done)|skip
  rename_i g first captured
  simp only[H0]at hr;subst hr;obtain⟨x,y,he,hx,hy⟩:=h1.NT;refine⟨x.toList++(c.args.toList.map a.eval++y.toList),?_,hx.append (h2.append hy)⟩;rw[MC c f abH a o ho he];congr 2;apply Zl7;simp
 ·
  rename_i b abH;have hex:∀(s:Sem Value),(∀consts,builtin b c.argTypes o.type consts (c.args.map a.eval)=(do pure (.value (<-s))))->(execOp a.eval o).run P w=(s.run P w).andThen λv w=>.ok (.value v) w:=by intro s hs;simp only[execOp,ho,resolve,abH,pure_bind,invoke];rw[hs];simp
  split at hc<;>first|(cases hc;done)|skip
  ·
   (split at hc<;>first|(cases hc;done)|skip);rename_i t _ _ Gf;(split at hc<;>first|(cases hc;done)|skip);rename_i ti fA;have hv:=iC hl hF (vs:=vs) (by
        split at hc<;>first|(cases hc;done)|skip
        all_goals cases hc;exact hx)
   rw[nI] at hv;rw[hex (Builtin.len_ c.argTypes o.type (c.args.map a.eval)) (λ_=>rfl)];have hu:∃u,vs=[u]      :=by
        have h1:=hv.1;have h2:(c.args.toList).length=1:=by
         have: ∀{xs:List   Operand}{os:List gO},lM xs=some os->xs.length=os.length:=by
            intro xs;induction xs with
            |nil=>intro os h;simp[lM]at h;subst h;rfl
            |cons x xs ih=>intro os h;unfold lM at h;split at h<;>first|(cases h;done)|skip
                           rename_i e1 e2;simp only[H0]at h;subst h;simp[ih e2]
         rw[this hl];rfl
        match vs,h1 with
        |[u],_=>exact⟨u,rfl⟩
        |[],h1=>simp at h1 h2;omega
        |_::_::_,h1=>simp at h1 h2;omega
   obtain⟨u,rfl⟩:=hu;obtain⟨x,qe,hux⟩:=agI hv;rw[qe];split at hc<;>first|(cases hc;done)|skip
   all_goals
        rename_i hk;cases hc;simp only[aJ.run]at hr;refine akQ hT fA ?_ (afh Gf) o.type hW hux hr
   .    exact .inl ⟨rfl,hk⟩
   .    exact .inr (.inl ⟨rfl,_,hk⟩)
   .    exact .inr (.inr ⟨rfl,_,_,hk⟩)
  ·
   (split at hc<;>first|(cases hc;done)|skip);rename_i t t2 _ Gf;(split at hc<;>first|(cases hc;done)|skip);rename_i ti WE fA vw;(split at hc<;>first|(cases hc;done)|skip);rename_i e hk rU _;(split at hc<;>first|(cases hc;done)|skip);rename_i te nH;(split at hc<;>first|(cases hc;done)|skip);rename_i z hz;cases hc;have hv:=iC hl hF hx;rw[nI]at hv;rw[hex (Builtin.append_ c.argTypes o.type (c.args.map a.eval)) (λ_=>rfl)];simp only[aJ.run]at hr;have hu:∃s u,vs=[s,u]:=by
        unfold gR at hr;(split at hr<;>first|(cases hr;done)|skip);exact⟨_,_,rfl⟩
   obtain⟨s,u,rfl⟩:=hu;obtain⟨x,y,qe,h1,h2⟩:=WV hv;rw[qe];exact afg hT fA vw hk (λk hk=>rU k hk) nH hz (afh Gf) (arr1 Gf) o.type hW h1 h2 hr
  ·
   (split at hc<;>first|(cases hc;done)|skip);rename_i t _ Gf;(split at hc<;>first|(cases hc;done)|skip);rename_i ti fA;(split at hc<;>first|(cases hc;done)|skip);rename_i e hk;(split at hc<;>first|(cases hc;done)|skip);rename_i te nH;cases hc;have hv:=iC hl hF hx;rw[nI]at hv;rw[hex (Builtin.copy_ c.argTypes o.type (c.args.map a.eval)) (λ_=>rfl)];simp only[aJ.run]at hr;have hu:∃s u,vs=[s,u]:=by
        unfold Ef at hr;(split at hr<;>first|(cases hr;done)|skip);exact⟨_,_,rfl⟩
   obtain⟨s,u,rfl⟩:=hu;obtain⟨x,y,qe,h1,h2⟩:=WV hv;rw[qe];exact aix hT fA hk nH (afh Gf) o.type hW h1 h2 hr
  ·
   (split at hc<;>first|(cases hc;done)|skip);cases hc;have hv:=iC hl hF hx;rw[nI]at hv;rw[hex (Builtin.min_ c.argTypes o.type (c.args.map a.eval)) (λ_=>rfl)];simp only[aJ.run]at hr;have hu:∃s u r,vs=[s,u]/\res= .val r:=by
        unfold HA at hr;(split at hr<;>first|(cases hr;done)|skip);split at hr<;>first|(cases hr;done)|skip
        all_goals cases hr;exact⟨_,_,_,rfl,rfl⟩
   obtain⟨s,u,r,rfl,rfl⟩:=hu;obtain⟨x,y,qe,h1,h2⟩:=WV hv;obtain⟨z,hz,hvz⟩:=aiq (P:=P) (w:=w) h1 h2 hr;rw[qe];refine .pure (x:=z) ?_ hvz;simp[Builtin.min_,hz]
  ·
   (split at hc<;>first|(cases hc;done)|skip);cases hc;have hv:=iC hl hF hx;rw[nI]at hv;rw[hex (Builtin.max_ c.argTypes o.type (c.args.map a.eval)) (λ_=>rfl)];simp only[aJ.run]at hr;have hu:∃s u r,vs=[s,u]/\res= .val r:=by
        unfold HC at hr;(split at hr<;>first|(cases hr;done)|skip);split at hr<;>first|(cases hr;done)|skip
        all_goals cases hr;exact⟨_,_,_,rfl,rfl⟩
   obtain⟨s,u,r,rfl,rfl⟩:=hu;obtain⟨x,y,qe,h1,h2⟩:=WV hv;obtain⟨z,hz,hvz⟩:=air (P:=P) (w:=w) h1 h2 hr;rw[qe];refine .pure (x:=z) ?_ hvz;simp[Builtin.max_,hz]
  ·
   (split at hc<;>first|(cases hc;done)|skip);rename_i t _ Gf;(split at hc<;>first|(cases hc;done)|skip);rename_i ti fA;(split at hc<;>first|(cases hc;done)|skip);rename_i e hk;(split at hc<;>first|(cases hc;done)|skip);rename_i te nH;(split at hc<;>first|(cases hc;done)|skip);rename_i z hz;cases hc;have hv:=iC hl hF hx;rw[nI]at hv;rw[hex (Builtin.clear_ c.argTypes o.type (c.args.map a.eval)) (λ_=>rfl)];simp only[aJ.run]at hr;have hu:∃u,vs=[u]:=by
        unfold Bk at hr;(split at hr<;>first|(cases hr;done)|skip);exact⟨_,rfl⟩
   obtain⟨u,rfl⟩:=hu;obtain⟨x,qe,hux⟩:=agI hv;rw[qe];exact agJ hT fA hk nH hz (afh Gf) o.type hW hux hr
theorem TH(hT:cQ P tt)(op:Op):eS P tt op:=by
 cases op with
 |move x=>exact aim x
 |assign x=>exact ae7 x
 |pick c x y=>exact ain c x y
 |alloc t=>exact agF hT t
 |box t x=>exact akO t x
 |build t ps=>exact agE hT t ps
 |buildSlice t n ps=>exact YB hT t n ps
 |insert t m k v=>exact WU hT _ t m k v (.inr rfl)
 |load t x=>exact aip hT t x
 |store t x y=>exact agH hT t x y
 |nilCheck x=>exact abA x
 |binOp op t x y yt=>exact agA hT op t x y yt
 |unOp op t x=>exact aio op t x
 |convert s d x=>exact adF hT s d x
 |makeInterface t x=>exact adE hT t x
 |makeFunc f x y=>exact ae8 f x y
 |makeMap t r=>exact agG t r hT
 |makeSlice t l c=>exact adG hT t l c
 |slice t x l h m=>exact agD hT t x l h m
 |fieldAddr t x f=>exact aax hT t x f
 |field t x f=>exact agB hT t x f
 |indexAddr t x i=>exact aay hT t x i
 |index t x i=>exact agC hT t x i
 |lookup t x i ok=>exact afa hT t x i ok
 |mapUpdate t m k v=>exact WU hT _ t m k v (.inl rfl)
 |extract x i=>exact adD x i
 |call c=>exact aiy hT c
 |_=>intro ρ C st w k xs cls fr a o vs res ho hc;simp[jV]at hc
end
def Reaches(P:Program)(R:Value->World->Prop):Result Next->Prop
 |.ok (.value x) w'=>R x w'
 |.ok .skip w'=>R undef w'
 |.ok (.enter f args) w'=>Calls P f args w' λ|.returned v,w''=>R v w''|_,_=>False
 |.ok (.row row args) w'=>Rows P row args w' R
 |_=>False
theorem Reaches.mono{P:Program}{R R':Value->World->Prop}(h:∀x w,R x w->R' x w):∀{r:Result Next},Reaches P R r->Reaches P R' r
 |.ok (.value _) _,hr=>h _ _ hr
 |.ok .skip _,hr=>h _ _ hr
 |.ok (.enter _ _) _,hr=>Calls.mono hr λe w he=>by cases e<;>first|exact h _ _ he|exact he
 |.ok (.row _ _) _,hr=>Rows.mono hr h
theorem Reaches.upon{P:Program}{R:Value->World->Prop}{o:Oper}{a:Act}{K:Act->World->Prop}{Q:Exit->Act->World->Prop}{r:Result Next}
  (hr:Reaches P R r) (h:∀x w,R x w->K (a.put o.dst x) w):o.upon P a K Q r:=by
 cases r with
 |ok n w=>
  cases n<;>simp only[Reaches]at hr
  .exact h _ _ hr
  .exact h _ _ hr
  . exact Calls.mono hr λe w he=>by
        cases e with
        |returned v=>exact h _ _ he
        |panicked c=>exact he.elim
        |outgrown=>exact he.elim
  .exact Rows.mono hr λv w he=>h _ _ he
 |halt x w=>simp only[Reaches]at hr
def kE(ρ:Pos->Loc)(C:Cells)(st:St)(w:World)(v:AV)(st':St)(x:Value)(w':World):Prop:=
 ∃ρ',aC ρ' st'.next.toNat C v x/\(∀b:Pos,b.toNat<st.next.toNat->ρ' b=ρ b)/\st.next.toNat<=st'.next.toNat/\bS ρ' C st' w'/\nh ρ st w ρ' st' w'
def iK(P:Program)(C:Cells)(call:aq):Prop:=
 ∀  (ρ:Pos->Loc)(st:St)(w:World)(f:FuncId)(args:List AV)(v:AV)(st':St)(bV:List Value),call f args st=some (v,st')->
    bS ρ C st w->aI ρ st.next.toNat C args bV->Reaches P (kE ρ C st w v st') ((callFunc f bV.toArray).run P w)
section
variable{P:Program}{tt:TT}{C:Cells}{call:aq}
theorem St.Oa(st:St)(del:Option Pos)(set:Option (Pos×AB))(new:Option AB):st.next.toNat<=(st.br del set new).next.toNat:=by
 cases new with
 |none=>exact Za6 _
 |some x=>simp only[St.br,Pos.aK];omega
theorem UN(hT:cQ P tt)(c9:iK P C call){ρ:Pos->Loc}{st st':St}{w:World}{k:aJ}{xs:List gO}{cls:Cls}{fr:Fr}{a:Act}{o:Oper}{vs:List AV}{v:AV}
   (hc:jV tt o.op=some (k,xs,cls)) (hW:bS ρ C st w) (hF:kC ρ st.next.toNat C fr a.tmps) (hx:fE fr xs=some vs)
   (hs:cJ call k vs st=some (v,st')):Reaches P (kE ρ C st w v st') ((execOp a.eval o).run P w):=by
 have H:=TH hT o.op ρ C st w k xs cls fr a o vs;unfold cJ at hs;split at hs
 . rename_i u hr;simp only[H0,Zc7]at hs;obtain⟨rfl,rfl⟩:=hs;obtain⟨N,x,he,hy,hv⟩:=H _ rfl hc hW hF hx hr;have hp:kE ρ C st w u st x w:=⟨ρ,hv,λ_ _=>rfl,Za6 _,hW,nh.refl _ _ _⟩
   rw[he];rcases hy with rfl|⟨rfl,rfl⟩<;>exact hp
 . rename_i u del set new hr;simp only[H0,Zc7]at hs;obtain⟨rfl,rfl⟩:=hs;obtain⟨N,x,w',ρ',he,hy,bG,iW,hv,hE⟩:=H _ rfl hc hW hF hx hr;have hp:kE ρ C st w u (st.br del set new) x w':=⟨ρ',hv,bG,St.Oa _ _ _ _,iW,hE⟩
   rw[he];rcases hy with rfl|⟨rfl,rfl⟩<;>exact hp
 .rename_i f args hr;obtain⟨bV,he,hv⟩:=H _ rfl hc hW hF hx hr;rw[he];exact c9 ρ st w f args v st' bV hs hW hv
 .cases hs
structure yZ(tt:TT)(nt:Nat)(ops:Array Oper)(o:Oper)(ao:bR):Prop where
 dst:ao.dst=o.dst.map key
 lt:∀d,o.dst=some d->d<nt
 guard:WG ops o.guard=some ao.guard
 op:(jV tt o.op=some (ao.k,ao.xs,ao.cls))\/(ao.k= .bad/\ao.cls= .br)
theorem vP{nt:Nat}{ops:Array Oper}:∀{os:List Oper}{bs:List Nat}{l:List bR},sH tt nt ops os bs=some l->
  l.length=os.length/\∀(i:Nat)(o:Oper),os[i]? =some o->∃ao,l[i]? =some ao/\yZ tt nt ops o ao/\ao.bZ=bs.getD i 0
 |[],bs,l,h=>by simp[sH]at h;subst h;exact⟨rfl,λi o ho=>by simp at ho⟩
 |o ::os,bs,l,h=>by
  unfold sH at h;split at h<;>first|(cases h;done)|skip
  rename_i g l' hg hl hd;obtain⟨h1,h2⟩:=vP hl;have aW:∀d,o.dst=some d->d<nt:=λd hdd=>by rw[hdd]at hd;simpa [sH.akn]using hd
  have hb:∀i,bs.tail.getD i 0=bs.getD (i+1) 0:=λi=>by cases bs<;>simp
  have xM:bs.headD 0=bs.getD 0 0:=by cases bs<;>simp
  split at h
  . rename_i k xs cls hc;simp only[H0]at h;subst h;refine⟨by simp[h1],λi o' ho=> ?_⟩;cases i with
    |   zero=>
        simp at ho;subst ho;exact⟨_,rfl,⟨rfl,aW,hg,.inl hc⟩,xM⟩
    |   succ i=>
        simp at ho;obtain⟨ao,h3,h4,h5⟩:=h2 i o' ho;exact⟨ao,by simpa using h3,h4,by rw[h5,hb]⟩
  . simp only[H0]at h;subst h;refine⟨by simp[h1],λi o' ho=> ?_⟩;cases i with
    |   zero=>
        simp at ho;subst ho;exact⟨_,rfl,⟨rfl,aW,hg,.inr ⟨rfl,rfl⟩⟩,xM⟩
    |   succ i=>
        simp at ho;obtain⟨ao,h3,h4,h5⟩:=h2 i o' ho;exact⟨ao,by simpa using h3,h4,by rw[h5,hb]⟩
theorem Ic{ops:Array Oper}{ρ:Pos->Loc}{n:Nat}{fr:Fr}{a:Act}{o:Oper}{g:Option (Pos×Bool)}{b:Bool}(hg:WG ops o.guard=some g)
   (hF:∀p v,fr.get p=some v->(∃q,g=some (p,q))->∃x,a.tmps[p.toNat - 1]? =some x/\aC ρ n C v x)
   (hw:cw fr g=some b):Region.wanted o (yielded ops a.tmps)=b:=by
 unfold Region.wanted;unfold WG at hg;split at hg
 .rename_i hn;simp only[H0]at hg;subst hg;simp only[cw,H0]at hw;subst hw;rw[hn]
 . rename_i j want hn;rw[hn];(split at hg<;>first|(cases hg;done)|skip);rename_i oj hj;(split at hg<;>first|(cases hg;done)|skip);rename_i d hd;simp only[H0]at hg;subst hg;simp only[cw]at hw;split at hw
   .rename_i u hu;simp only[H0]at hw;subst hw;obtain⟨x,hx,hv⟩:=hF _ _ hu ⟨_,rfl⟩;rw[iB,Zg6]at hx;have:=hv.kD;subst this;simp[yielded,hj,hd,hx]
   .rename_i l hu;simp only[H0]at hw;subst hw;obtain⟨x,hx,hv⟩:=hF _ _ hu ⟨_,rfl⟩;rw[iB,Zg6]at hx;obtain⟨cs,rfl,_⟩:=hv.Rm;simp[yielded,hj,hd,hx]
   .cases hw
theorem aC.ZE{ρ:Pos->Loc}{n:Nat}:aC ρ n C AV.undef undef:= .tuple [] #[] rfl λ_ _ _ h=>by simp at h
theorem Act.jQ(a:Act)(d:Option Tmp)(v:Value):(a.put d v).tmps.size=a.tmps.size:=by cases d<;>simp[Act.put]
theorem Act.lH(a:Act)(d:Option Tmp)(v:Value):(a.put d v).defers=a.defers:=by cases d<;>rfl
theorem kC.put{ρ:Pos->Loc}{n nt:Nat}{fr:Fr}{a:Act}{d:Option Tmp}{v:AV}{x:Value}(hF:kC ρ n C fr a.tmps)(hs:a.tmps.size=nt)
  (hd:∀e,d=some e->e<nt) (hv:aC ρ n C v x):kC ρ n C (dZ fr (d.map key) v) (a.put d x).tmps:=by
 cases d with
 |none=>exact hF
 |some e=>
  have he:=hd e rfl;intro p u hp;simp only[Zd8,dZ]at hp;simp only[Act.put];by_cases hpe:key e=p
  .subst hpe;rw[T.fP]at hp;simp only[H0]at hp;subst hp;refine⟨x,?_,hv⟩;rw[iB,Zg6,Zp4];simp[hs,he]
  .rw[T.bY _ hpe]at hp;obtain⟨y,hy,hr⟩:=hF p u hp;refine⟨y,?_,hr⟩;rw[Zj7,hy];intro h;apply hpe;apply Pos.toNat_inj;rw[iB];have:=p.toNat_pos;omega
theorem kC.mono{ρ ρ':Pos->Loc}{n n':Nat}{fr:Fr}{tmps:Array Value}(hF:kC ρ n C fr tmps)(bG:∀b:Pos,b.toNat<n->ρ' b=ρ b)(hn:n<=n'):kC ρ' n' C fr tmps:=
 λp v hp=>let⟨x,hx,hv⟩:=hF p v hp;⟨x,hx,hv.mono bG hn⟩
structure xQ(nt:Nat)(ρ:Pos->Loc)(C:Cells)(fr:Fr)(st:St)(a:Act)(w:World):Prop where
 W:bS ρ C st w
 F:kC ρ st.next.toNat C fr a.tmps
 size:a.tmps.size=nt
 defers:a.defers=[]
def kz(nt:Nat)(ρ:Pos->Loc)(C:Cells)(st:St)(w:World)(bK:Fr)(st':St)(a':Act)(w':World):Prop:=
 ∃ρ',xQ nt ρ' C bK st' a' w'/\(∀b:Pos,b.toNat<st.next.toNat->ρ' b=ρ b)/\st.next.toNat<=st'.next.toNat/\nh ρ st w ρ' st' w'
theorem kz.refl{nt:Nat}{ρ:Pos->Loc}{fr:Fr}{st:St}{a:Act}{w:World}(h:xQ nt ρ C fr st a w):kz nt ρ C st w fr st a w:=
 ⟨ρ,h,λ_ _=>rfl,Za6 _,nh.refl _ _ _⟩
theorem kz.trans{nt:Nat}{ρ jH:Pos->Loc}{PV:Fr}{st bQ zZ:St}{a2:Act}{w w1 w2:World}
  (h1:∀b:Pos,b.toNat<st.next.toNat->jH b=ρ b) (h2:st.next.toNat<=bQ.next.toNat) (h3:nh ρ st w jH bQ w1)
  (h:kz nt jH C bQ w1 PV zZ a2 w2):kz nt ρ C st w PV zZ a2 w2:=by
 obtain⟨tQ,k1,k2,k3,k4⟩:=h;exact⟨tQ,k1,λb hb=>(k2 b (Zc5 hb h2)).trans (h1 b hb),Zb7 h2 k3,h3.trans k4⟩
theorem Reaches.bad{k:aJ}{vs:List AV}{st:St}{r:AV×St}(hk:k= .bad)(h:cJ call k vs st=some r):False:=by subst hk;simp[cJ,aJ.run]at h
theorem Cy(hT:cQ P tt)(c9:iK P C call){nt:Nat}{ops:Array Oper}{Q:Exit->Act->World->Prop}:∀(aos:List bR)(k:Nat)(fr bK:Fr)(st st':St)(ρ:Pos->Loc)(a:Act)(w:World),
  (∀(i:Nat)(ao:bR),aos[i]? =some ao->∃o,ops[k+i]? =some o/\yZ tt nt ops o ao)->
  lK call aos fr st=some (bK,st')->xQ nt ρ C fr st a w->(∀a' w',kz nt ρ C st w bK st' a' w'->Q .normal a' w')->wpOps P ops Q (List.range' k aos.length) a w
 |[],k,fr,bK,st,st',ρ,a,w,_,h,hS,hQ=>by
  simp only[lK,H0,Zc7]at h;obtain⟨rfl,rfl⟩:=h;exact hQ a w (kz.refl hS)
 |ao::aos,k,fr,bK,st,st',ρ,a,w,ho,h,hS,hQ=>by
  obtain⟨o,cR,hR⟩:=ho 0 ao rfl;rw[Zl0]at cR;have Kh:∀(i:Nat)(ao':bR),aos[i]? =some ao'->∃o,ops[k+1+i]? =some o/\yZ tt nt ops o ao':=λi ao' hi=>by
    obtain⟨o',h1,h2⟩:=ho (i+1) ao' (by simpa using hi);exact⟨o',by rw[<-h1];congr 1;omega,h2⟩
  simp only[Zc2,Zq7,wpOps,cR];unfold lK at h;split at h
  . rename_i hw;rw[Zb5 (Ic hR.guard (λp v hp _=>hS.F p v hp) hw)];(split at h<;>first|(cases h;done)|skip);rename_i vs Cr;(split at h<;>first|(cases h;done)|skip);rename_i v bQ nj;rcases hR.op with hc|⟨hk,_⟩
    .   have hr:=UN hT c9 hc hS.W hS.F Cr nj;refine .inl (hr.upon λx w1 hp=> ?_);obtain⟨jH,hv,h1,h2,hW1,hE⟩:=hp;rw[hR.dst]at h;refine Cy hT c9 aos (k+1) _ bK bQ st' jH _ w1 Kh h ⟨hW1,kC.put (hS.F.mono h1 h2) hS.size hR.lt hv,by rw[Act.jQ];exact hS.size,by rw[Act.lH];exact hS.defers⟩ λa' w' hp=>hQ a' w' (kz.trans h1 h2 hE hp)
    .   exact(Reaches.bad hk nj).elim
  .rename_i hw;rw[Zb2 (by rw[Ic hR.guard (λp v hp _=>hS.F p v hp) hw];simp)];rw[hR.dst]at h;exact Cy hT c9 aos (k+1) _ bK st st' ρ _ w Kh h ⟨hS.W,kC.put hS.F hS.size hR.lt .ZE,by rw[Act.jQ];exact hS.size,by rw[Act.lH];exact hS.defers⟩ hQ
  .cases h
theorem Ob{nt:Nat}{ops:Array Oper}{l:List bR}{bs:List Nat}(h:sH tt nt ops ops.toList bs=some l)(i:Nat)(ao:bR)(hi:l[i]? =some ao):
  ∃o,ops[i]? =some o/\yZ tt nt ops o ao/\ao.bZ=bs.getD i 0:=by
 obtain⟨h1,h2⟩:=vP h;have aW:i<ops.toList.length:=by rw[<-h1];exact(Za4.1 hi).1
 obtain⟨ao',h3,h4,h5⟩:=h2 i _ (Za0 aW);rw[hi]at h3;simp only[H0]at h3;subst h3;exact⟨_,by rw[<-Zh9];exact Za0 aW,h4,h5⟩
theorem abI(hT:cQ P tt)(c9:iK P C call){nt id:Nat}{ops:Array Oper}{bs:List Nat}{l:List bR}{Q:Exit->Act->World->Prop}{fr bK:Fr}{st st':St}{ρ:Pos->Loc}{a:Act}{w:World}
  (hl:sH tt nt ops ops.toList bs=some l) (h:lK call l fr st=some (bK,st')) (hS:xQ nt ρ C fr st a w)
  (hQ:∀a' w',kz nt ρ C st w bK st' a' w'->Q .normal a' w'):(Code.region id ops false).wp P Q a w:=by
 apply wp_region;have hlen:l.length=ops.size:=by rw[(vP hl).1,Zh7]
 rw[Zl8, <-hlen];exact Cy hT c9 l 0 fr bK st st' ρ a w (λi ao hi=>by
  obtain⟨o,h1,h2,_⟩:=Ob hl i ao hi;exact⟨o,by rw[Za5];exact h1,h2⟩) h hS hQ
end
section
variable{P:Program}{tt:TT}{C:Cells}{call:aq}
def xR(P:Program)(tt:TT)(C:Cells)(call:aq):Prop:=
 ∀  (nt id:Nat)(ops:Array Oper)(l:List bR)(Q:Exit->Act->World->Prop)(fr bK:Fr)(st st':St)(ρ:Pos->Loc)(a:Act)(w:World),
    sH tt nt ops ops.toList (abq ops.toList [])=some l->Mo l.length 0 (AP (HX 0 l) [])=true->dV call (AP (HX 0 l) []) [] st.heap fr st=some (bK,st')->xQ nt ρ C fr st a w->
    (∀a' w',kz nt ρ C st w bK st' a' w'->Q .normal a' w')->(Code.region id ops true).wp P Q a w
def MD:mY->Exit
 |.normal=>.normal
 |.exit id=>.exit id
 |.ret=>.ret
def WW(P:Program)(tt:TT)(C:Cells)(call:aq)(nt m:Nat):Prop:=
 ∀  (c:Code)(ac:AC)(fr bK:Fr)(st st':St)(ex:mY)(ρ:Pos->Loc)(a:Act)(w:World)(Q:Exit->Act->World->Prop),
    ux tt nt c=some ac->exec call m ac fr st=some (ex,bK,st')->xQ nt ρ C fr st a w->
    (∀a' w',kz nt ρ C st w bK st' a' w'->Q (MD ex) a' w')->c.wp P Q a w
def WX(P:Program)(tt:TT)(C:Cells)(call:aq)(nt m:Nat):Prop:=
 ∀  (c:Code)(ac:AC)(fr bK:Fr)(st st':St)(ex:mY)(ρ:Pos->Loc)(a:Act)(w:World)(Q:Exit->Act->World->Prop),
    ux tt nt c=some ac->exec call m (.loop ac) fr st=some (ex,bK,st')->xQ nt ρ C fr st a w->
    (∀a' w',kz nt ρ C st w bK st' a' w'->Q (MD ex) a' w')->Code.rounds P c Q m a w
theorem ZF{nt m:Nat}(Ie:WW P tt C call nt m)(ihL:WX P tt C call nt m):WX P tt C call nt (m+1):=by
 intro c ac fr bK st st' ex ρ a w Q hc h hS hQ;simp only[exec,bF]at h;rw[rounds_succ];split at h
 .rename_i eG bQ h1;(refine Ie c ac fr eG st bQ .normal ρ a w _ hc h1 hS λa1 w1 hp=> ?_);obtain⟨jH,Bp,k1,k2,k3⟩:=hp;exact ihL c ac eG bK bQ st' ex jH a1 w1 Q hc h Bp λa2 w2 hp=>hQ a2 w2 (kz.trans k1 k2 k3 hp)
 . rename_i cA;cases ex with
   |normal=>exact(cA _ _ h).elim
   |exit id=>exact Ie c ac fr bK st st' (.exit id) ρ a w _ hc h hS λa1 w1 hp=>hQ a1 w1 hp
   |ret=>exact Ie c ac fr bK st st' .ret ρ a w _ hc h hS λa1 w1 hp=>hQ a1 w1 hp
theorem agK(hT:cQ P tt)(c9:iK P C call)(kX:xR P tt C call){nt m:Nat}(Ie:WW P tt C call nt m)(ihL:WX P tt C call nt m):WW P tt C call nt (m+1):=by
 intro c ac fr bK st st' ex ρ a w Q hc h hS hQ;have ana:=ZF Ie ihL;unfold ux at hc;split at hc<;>first|(cases hc;done)|skip
 .simp only[H0]at hc;subst hc;simp only[exec,bF,H0,Zc7]at h;obtain⟨rfl,rfl,rfl⟩:=h;exact wp_skip (hQ _ _ (kz.refl hS))
 . rename_i ix ops draw;(split at hc<;>first|(cases hc;done)|skip);rename_i l hl;split at hc
   .simp only[H0]at hc;subst hc;simp only[exec,bF]at h;(split at h<;>first|(cases h;done)|skip);rename_i eG bQ h1;simp only[H0,Zc7]at h;obtain⟨rfl,rfl,rfl⟩:=h;exact abI hT c9 hl h1 hS hQ
   . (split at hc<;>first|(cases hc;done)|skip);rename_i ht;simp only[H0]at hc;subst hc;simp only[exec,bF]at h;(split at h<;>first|(cases h;done)|skip);rename_i eG bQ h1;simp only[H0,Zc7]at h;obtain⟨rfl,rfl,rfl⟩:=h;exact kX nt _ ops l Q fr eG st bQ ρ a w hl ht h1 hS hQ
 . (split at hc<;>first|(cases hc;done)|skip);rename_i x y h1 h2;simp only[H0]at hc;subst hc;simp only[exec,bF]at h;apply wp_seq;split at h
   .rename_i eG bQ h3;(refine Ie _ _ fr eG st bQ .normal ρ a w _ h1 h3 hS λa1 w1 hp=> ?_);obtain⟨jH,Bp,k1,k2,k3⟩:=hp;exact Ie _ _ eG bK bQ st' ex jH a1 w1 Q h2 h Bp λa2 w2 hp=>hQ a2 w2 (kz.trans k1 k2 k3 hp)
   . rename_i cA;cases ex with
     |normal=>exact(cA _ _ h).elim
     |exit id=>exact Ie _ _ fr bK st st' (.exit id) ρ a w _ h1 h hS λa1 w1 hp=>hQ a1 w1 hp
     |ret=>exact Ie _ _ fr bK st st' .ret ρ a w _ h1 h hS λa1 w1 hp=>hQ a1 w1 hp
 . (split at hc<;>first|(cases hc;done)|skip);rename_i x y z h1 h2 h3;simp only[H0]at hc;subst hc;simp only[exec,bF]at h;split at h
   .rename_i hx;exact wp_cond_true ((AY h1 hS.F hx).kD) (Ie _ _ fr bK st st' ex ρ a w Q h2 h hS hQ)
   .rename_i hx;exact wp_cond_false ((AY h1 hS.F hx).kD) (Ie _ _ fr bK st st' ex ρ a w Q h3 h hS hQ)
   .cases h
 . (split at hc<;>first|(cases hc;done)|skip);rename_i x h1;simp only[H0]at hc;subst hc;simp only[exec,bF]at h;apply wp_block;split at h
   . rename_i wL eG bQ h2;split at h
     .  rename_i he;simp only[H0,Zc7]at h;obtain⟨rfl,rfl,rfl⟩:=h;have:=Za7 he;subst this;exact Ie _ _ fr eG st bQ (.exit wL) ρ a w _ h1 h2 hS λa1 w1 hp=>by simp only[MD,Exit.inBlock,Zg7];exact hQ a1 w1 hp
     .  rename_i he;simp only[H0,Zc7]at h;obtain⟨rfl,rfl,rfl⟩:=h;have:=Ze6 he;exact Ie _ _ fr eG st bQ (.exit wL) ρ a w _ h1 h2 hS λa1 w1 hp=>by simp only[MD,Exit.inBlock,Zb2 this];exact hQ a1 w1 hp
   . rename_i cA;cases ex with
     |normal=>exact Ie _ _ fr bK st st' .normal ρ a w _ h1 h hS λa1 w1 hp=>hQ a1 w1 hp
     |exit id=>exact(cA _ _ _ h).elim
     |ret=>exact Ie _ _ fr bK st st' .ret ρ a w _ h1 h hS λa1 w1 hp=>hQ a1 w1 hp
 . (split at hc<;>first|(cases hc;done)|skip);rename_i x h1;simp only[H0]at hc;subst hc;exact wp_loop_rounds (m+1) (ana _ _ fr bK st st' ex ρ a w Q h1 h hS hQ)
 .simp only[H0]at hc;subst hc;simp only[exec,bF,H0,Zc7]at h;obtain⟨rfl,rfl,rfl⟩:=h;exact wp_exit (hQ _ _ (kz.refl hS))
 .simp only[H0]at hc;subst hc;simp only[exec,bF,H0,Zc7]at h;obtain⟨rfl,rfl,rfl⟩:=h;exact wp_ret (hQ _ _ (kz.refl hS))
 .simp only[H0]at hc;subst hc;simp[exec,bF,lK,cw,fE,cJ,aJ.run]at h
theorem Cz(hT:cQ P tt)(c9:iK P C call)(kX:xR P tt C call){nt:Nat}:∀m,WW P tt C call nt m/\WX P tt C call nt m
 |0=>⟨λc ac fr bK st st' ex ρ a w Q hc h=>by simp[exec]at h,λc ac fr bK st st' ex ρ a w Q hc h=>by simp[exec]at h⟩
 |m+1=>let⟨h1,h2⟩:=Cz hT c9 kX m;⟨agK hT c9 kX h1 h2,ZF h1 h2⟩
def TJ(tmps:Array Value):ResultVar->Sem Value
 |.tmp t=>pure (tmps.getD t undef)
 |.cell a t=>do loadVar t (<-asAddr (tmps.getD a undef))
theorem afi(hT:cQ P tt){ρ:Pos->Loc}{st:St}{w:World}{fr:Fr}{a:Act}{x:Tmp}{t:TypeId}{ti:TI}{q v:AV}(fA:tt.get (key t)=some ti)
  (hW:bS ρ C st w) (hF:kC ρ st.next.toNat C fr a.tmps) (hq:fr.get (key x)=some q) (hr:(aJ.load (Co ti)).run (λb=>st.heap.get b) .h [q]=some (.val v)):
  ∃y,(TJ a.tmps (.cell x t)).run P w= .ok y w/\aC ρ st.next.toNat C v y:=by
 have hc:jV tt (.load t (.tmp x))=some (.load (Co ti),[.t (key x)],.read):=by simp[jV,fA,sG]
 have hx:fE fr [.t (key x)]=some [q]:=by simp[fE,ET,hq]
 have ni:(aJ.load (Co ti)).run (λb=>st.heap.get b) st.next [q]=some (.val v):=hr;obtain⟨N,y,he,hy,hv⟩:=TH hT (.load t (.tmp x)) ρ C st w _ _ _ fr a { dst:=none,op:= .load t (.tmp x),type:=t,pos:=default,after:= #[],guard:=none } _ _ rfl hc hW hF hx ni;refine⟨y,?_,hv⟩;simp only[execOp,Instr.loadAt,Act.eval]at he;simp only[TJ];obtain⟨z,hz,hzq⟩:=hF _ _ hq;rw[iB,Zg6]at hz;have hzd:a.tmps.getD x undef=z:=by simp[Zl5,hz]
 rw[hzd]at he ⊢;have hp:∃ad,z= .pointer (some ad):=by
  simp only[aJ.run,yX]at hr;split at hr<;>first|(cases hr;done)|skip
  .obtain⟨_,h⟩:=hzq.o9;exact⟨_,h⟩
  .obtain⟨_,_,_,_,h,_⟩:=hzq.Mr;exact⟨_,h⟩
 obtain⟨ad,rfl⟩:=hp;simp only[Instr.sureAddr,asAddr,Sem.run_bind,Sem.run_pure,Result.andThen]at he ⊢;cases hl:(loadVar t ad).run P w with
 |ok u w1=>
  rw[hl]at he;simp at he;obtain⟨h1,h2⟩:=he;subst h2;rcases hy with hy|⟨hy,_⟩
  .rw[hy]at h1;simp at h1;rw[h1]
  .rw[hy]at h1;simp at h1
 |halt u w1=>rw[hl]at he;simp at he
theorem Ig(hT:cQ P tt){ρ:Pos->Loc}{st:St}{w:World}{fr:Fr}{a:Act}(hW:bS ρ C st w)(hF:kC ρ st.next.toNat C fr a.tmps):
   ∀(rs:List ResultVar)(WY:List Ml)(vs:List AV),pG tt rs=some WY->gw (λb=>st.heap.get b) fr WY=some vs->
    ∃ys,(rs.mapM (TJ a.tmps)).run P w= .ok ys w/\aI ρ st.next.toNat C vs ys
 | [],WY,vs,hc,hr=>by
   simp only[pG,H0]at hc;subst hc;simp only[gw,H0]at hr;subst hr;exact⟨[],by simp,aI.nil⟩
 | .tmp t::rs,WY,vs,hc,hr=>by
   simp only[pG]at hc;(split at hc<;>first|(cases hc;done)|skip);rename_i l hl;simp only[H0]at hc;subst hc;simp only[gw]at hr;(split at hr<;>first|(cases hr;done)|skip);rename_i v hv;(split at hr<;>first|(cases hr;done)|skip);rename_i us hus;simp only[H0]at hr;subst hr;obtain⟨ys,h1,h2⟩:=Ig hT hW hF rs l us hl hus;obtain⟨z,hz,hzq⟩:=hF _ _ hv;rw[iB,Zg6]at hz;refine⟨z::ys,?_,aI.cons hzq h2⟩;simp[List.mapM_cons,TJ,h1,Zl5,hz]
 | .cell x t::rs,WY,vs,hc,hr=>by
   simp only[pG]at hc;(split at hc<;>first|(cases hc;done)|skip);rename_i ti l ZB hl;simp only[H0]at hc;subst hc;simp only[gw]at hr;(split at hr<;>first|(cases hr;done)|skip);rename_i q hq;(split at hr<;>first|(cases hr;done)|skip);rename_i v hv;(split at hr<;>first|(cases hr;done)|skip);rename_i us hus;simp only[H0]at hr;subst hr;obtain⟨ys,h1,h2⟩:=Ig hT hW hF rs l us hl hus;obtain⟨y,h3,h4⟩:=afi hT ZB hW hF hq hv;refine⟨y::ys,?_,aI.cons h4 h2⟩;simp[List.mapM_cons,h1,h3]
theorem FE(hT:cQ P tt){ρ:Pos->Loc}{st:St}{w:World}{fr:Fr}{a:Act}{fn:Func}{WY:List Ml}{vs:List AV}(hW:bS ρ C st w)(hF:kC ρ st.next.toNat C fr a.tmps)
  (hc:pG tt fn.results.toList=some WY) (hr:gw (λb=>st.heap.get b) fr WY=some vs):
  ∃y,(results fn a.tmps).run P w= .ok y w/\aC ρ st.next.toNat C (yY vs) y:=by
 obtain⟨ys,h1,h2⟩:=Ig hT hW hF _ WY vs hc hr;have h3:(fn.results.mapM (TJ a.tmps)).run P w= .ok ys.toArray w:=by
  rw[Array.mapM_eq_mapM_toList];simp[h1]
 have h4:(results fn a.tmps).run P w= .ok (if h:ys.toArray.size=1 then ys.toArray[0]else .tuple ys.toArray) w:=by
  have hfun:results fn a.tmps=(fn.results.mapM (TJ a.tmps) >>= λvs=>pure (if h:vs.size=1 then vs[0]else .tuple vs)):=by unfold results;congr 2
  rw[hfun,Sem.run_bind,h3];simp
 refine⟨_,h4,?_⟩;cases vs with
 |nil=>have:=h2.j5;subst this;simp[yY];exact .pH (by simpa using aI.nil)
 |cons v vs=>
  obtain⟨y,ys',rfl,hv,Cr⟩:=h2.cons_inv;cases vs with
  |nil=>have:=Cr.j5;subst this;simpa [yY]using hv
  |cons v' vs'=>
   obtain⟨y',ys'',rfl,Gd,aiz⟩:=Cr.cons_inv;simp[yY];exact .pH (by simpa using aI.cons hv (aI.cons Gd aiz))
def WZ(P:Program)(tt:TT)(G:T dF):Prop:=
 ∀p F,G.get p=some F->∃fn,P.funcs[p.toNat - 1]? =some fn/\(fn.name== "runtime.NumGoroutine")=false/\ae0 tt fn=some F
def uA(P:Program)(C:Cells)(O:eE):Prop:=
 ∀  (f:FuncId)(s:List AV->St->Option (AV×St)),O f=some s->
    ∀(ρ:Pos->Loc)(st:St)(w:World)(args:List AV)(v:AV)(st':St)(bV:List Value),s args st=some (v,st')->
     bS ρ C st w->aI ρ st.next.toNat C args bV->Reaches P (kE ρ C st w v st') ((callFunc f bV.toArray).run P w)
theorem Oc{ρ:Pos->Loc}{n:Nat}{tmps:Array Value}:∀(vs:List AV)(xs:List Value)(i:Nat)(fr:Fr),aI ρ n C vs xs->
  (∀(j:Nat)(x:Value),xs[j]? =some x->tmps[i+j]? =some x)->kC ρ n C fr tmps->kC ρ n C (params i vs fr) tmps
 |[],_,_,_,_,_,hF=>hF
 |v ::vs,xs,i,fr,h,hx,hF=>by
  obtain⟨x,zY,rfl,hv,Cr⟩:=h.cons_inv;unfold params;refine Oc vs zY (i+1) _ Cr (λj y hy=>by rw[<-hx (j+1) y (by simpa using hy)];congr 1;omega) λp u hp=> ?_
  by_cases hpe:key i=p
  .subst hpe;rw[T.fP]at hp;simp only[H0]at hp;subst hp;exact⟨x,by rw[iB,Zg6];exact hx 0 x rfl,hv⟩
  .rw[T.bY _ hpe]at hp;exact hF p u hp
def wO(call:aq)(m:Nat)(F:dF)(args:List AV)(st:St):Option (AV×St):=
 match Nat.beq args.length F.nparams with
 |  true=>match exec call m F.code (params 0 args .e) st with
    |some (.normal,fr,st')=>match gw (λb=>st'.heap.get b) fr F.results with
     |some vs=>some (yY vs,st')
     |none=>none
    |some (.ret,fr,st')=>match gw (λb=>st'.heap.get b) fr F.results with
     |some vs=>some (yY vs,st')
     |none=>none
    |_=>none
 |false=>none
theorem W6(hT:cQ P tt){G:T dF}(hG:WZ P tt G){call:aq}(c9:iK P C call)(kX:xR P tt C call)(m:Nat){f:FuncId}{F:dF}(hF:G.get (key f)=some F)
   {ρ:Pos->Loc} {st:St} {w:World} {args:List AV} {v:AV} {st':St} {bV:List Value} (h:wO call m F args st=some (v,st')) (hW:bS ρ C st w) (wP:aI ρ st.next.toNat C args bV):
   Reaches P (kE ρ C st w v st') ((callFunc f bV.toArray).run P w):=by
 unfold wO at h;split at h<;>first|(cases h;done)|skip
 rename_i hlen;have hlen:=Za7 hlen;obtain⟨fn,EY,mC,hcf⟩:=hG _ _ hF;rw[iB,Zg6]at EY;unfold ae0 at hcf;split at hcf<;>first|(cases hcf;done)|skip
 rename_i c hb;split at hcf<;>first|(cases hcf;done)|skip
 rename_i ac rs hac ZG hle;simp only[H0]at hcf;subst hcf;simp only at h hlen;have hle:=Za9 hle;have dy:(callFunc f bV.toArray).run P w= .ok (.enter f bV.toArray) w:=by
   have abJ:¬fn.name= "runtime.NumGoroutine" :=(by simpa using mC);simp[callFunc,EY,abJ,hb]
 rw[dy];simp only[Reaches];refine calls_of_wp EY hb ?_;have fC:bV.length<=fn.ntmps:=by rw[<-wP.1,hlen];exact hle
 have hS:xQ fn.ntmps ρ C (params 0 args .e) st { tmps:=bV.toArray++Array.replicate (fn.ntmps - bV.toArray.size) undef,defers:=[] } w:=by
   refine⟨hW,?_,?_,rfl⟩
   .refine Oc args bV 0 .e wP (λj x hx=> ?_) (λp v hp=>by rw[T.eV]at hp;cases hp);have hj:j<bV.length:=(Za4.1 hx).1;rw[Za5,Zq3 (by simpa using hj)];simpa using hx
   .simp;omega
 split at h<;>first|(cases h;done)|skip
 .rename_i eG bQ h1;(split at h<;>first|(cases h;done)|skip);rename_i vs Cr;simp only[H0,Zc7]at h;obtain⟨rfl,rfl⟩:=h;(refine(Cz hT c9 kX m).1 c ac _ eG st bQ .normal ρ _ w _ hac h1 hS λa' w' hp=> ?_);obtain⟨jH,Bp,k1,k2,k3⟩:=hp;obtain⟨y,Rt,WL⟩:=FE hT Bp.W Bp.F ZG Cr;exact⟨Bp.defers,y,Rt,jH,WL,k1,k2,Bp.W,k3⟩
 .rename_i eG bQ h1;(split at h<;>first|(cases h;done)|skip);rename_i vs Cr;simp only[H0,Zc7]at h;obtain⟨rfl,rfl⟩:=h;(refine(Cz hT c9 kX m).1 c ac _ eG st bQ .ret ρ _ w _ hac h1 hS λa' w' hp=> ?_);obtain⟨jH,Bp,k1,k2,k3⟩:=hp;obtain⟨y,Rt,WL⟩:=FE hT Bp.W Bp.F ZG Cr;exact⟨Bp.defers,y,Rt,jH,WL,k1,k2,Bp.W,k3⟩
theorem UO(hT:cQ P tt){O:eE}{G:T dF}(hO:uA P C O)(hG:WZ P tt G)(m:Nat)(kX:∀d,iK P C (sr O G m d)->xR P tt C (sr O G m d)):∀d,iK P C (sr O G m d)
 |0=>λρ st w f args v st' bV h=>by simp[sr]at h
 |d +1=>by
  intro ρ st w f args v st' bV h hW wP;have ih:=UO hT hO hG m kX d;unfold sr at h;split at h
  .rename_i s hs;exact hO f s hs ρ st w args v st' bV h hW wP
  . (split at h<;>first|(cases h;done)|skip);rename_i F hF;exact W6 hT hG ih (kX _ ih) m hF h hW wP
end
end
end Go.Ai
