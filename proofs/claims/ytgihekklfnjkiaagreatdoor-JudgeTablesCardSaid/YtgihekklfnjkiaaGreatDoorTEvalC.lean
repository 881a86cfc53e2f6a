/- Its operations, second part; regions. -/
import Derived.Test.YtgihekklfnjkiaaGreatDoorTEvalB
import Derived.Laws.IdiomStrings
import Derived.Laws.RangeString
import Derived.LoopN
set_option linter.all false
set_option linter.unusedSectionVars false
set_option linter.deprecated false
namespace Go.Ai
section
open Go Go.RowKit
section
variable{P : Program}{tt : TT}{ρ : Pos -> Loc}{C : Cells}{st : St}{w w' : World}
theorem RW(del:Option Pos)(h:T AB){b:Pos}{x:AB}(hb:(Lx del h).get b=some x):h.get b=some x/\∀c,del=some c->b≠c:=by
 cases del with
 |none=>exact⟨hb,λ_ h=>by cases h⟩
 |some c=>
  by_cases he:c=b
  . subst he;simp only[Lx]at hb;rw[T.gH]at hb;cases hb
  . simp only[Lx]at hb;rw[T.bX _ he]at hb;exact⟨hb,λd hd=>by cases hd;exact λe=>he e.symm⟩
theorem Qd(hW:cq ρ C st w){o:Obj}{x0:AB}{base size:Nat}(del:Option Pos)(hh:w'.heap=w.heap.push o)(h1:w'.os=w.os)(h2:w'.tape=w.tape)(h3:w'.output=w.output)
   (hB:∀ρ' n',(∀b:Pos,b.toNat<st.next.toNat->ρ' b=ρ b)->st.next.toNat<=n'->tO ρ' n' C ⟨w.heap.size,base,size⟩ w' x0):
   ∃ρ':Pos->Loc,(∀b:Pos,b.toNat<st.next.toNat->ρ' b=ρ b)/\ρ' st.next=⟨w.heap.size,base,size⟩/\cq ρ' C (st.bh del none (some x0)) w'/\qi ρ st w ρ' (st.bh del none (some x0)) w':=by
 let ρ':Pos->Loc:=λb=>if b=st.next then⟨w.heap.size,base,size⟩else ρ b
 have bF:∀b:Pos,b.toNat<st.next.toNat->ρ' b=ρ b:=λb hb=>Za7 (λe=>by rw[e]at hb;omega)
 have ji:ρ' st.next=⟨w.heap.size,base,size⟩:=Zb3 rfl;have gU:w'.heap.size=w.heap.size+1:=by rw[hh];simp
 have hold:∀k,k<w.heap.size->w'.heap[k]? =w.heap[k]? :=λk hk=>by rw[hh,Zp1,Za7 (by omega)]
 refine⟨ρ',bF,ji,?_,⟨h1,h2,h3,by omega,λk hk _=>hold k hk,λb x hb=> ?_⟩⟩;rotate_left
 . by_cases he:b=st.next
   . right;rw[he,ji];exact Za3 _
   . left;simp only[St.bh,ON]at hb;rw[T.bX _ (λe=>he e.symm)]at hb;have dZ:=(RW del _ hb).1;exact⟨b,x,dZ,by rw[bF b (hW.live b x dZ).1]⟩
 refine hW.akK (b0:=st.next) (x0:=x0) (by rw[Pos.aC];omega) (by rw[Pos.aC];omega) (by rw[T.gH]) ?_ bF (by rw[ji];exact hB _ _ bF (by rw[Pos.aC];omega)) ?_ (by rw[ji,gU];simp) (by omega) (λk hk _=>hold k hk)
 . intro b x hb hx;rw[T.bX _ (λe=>hb e.symm)]at hx;have hx:=(RW del _ hx).1;refine⟨hx,?_⟩;rw[ji];have:=(hW.live b x hx).2.1;simp only;omega
 . intro a v ha;have:=World.block_lt_of_cell? _ _ (hW.eD a v ha).1;rw[ji];simp only;omega
theorem amP(hW:cq ρ C st w){b:Pos}{x x0:AB}(hb:st.heap.get b=some x)(h1:w'.os=w.os)(h2:w'.tape=w.tape)(h3:w'.output=w.output)(gU:w'.heap.size=w.heap.size)
   (VZ:∀k,k≠(ρ b).aN->w'.heap[k]? =w.heap[k]?) (hB:tO ρ st.next.toNat C (ρ b) w' x0):
   cq ρ C (st.bh none (some (b,x0)) none) w'/\qi ρ st w ρ (st.bh none (some (b,x0)) none) w':=by
 obtain⟨aV,Af,_⟩:=hW.live b x hb;refine⟨?_,⟨h1,h2,h3,by omega,λk _ hk=>VZ k (λe=>hk b x hb e.symm),λc y hc=> ?_⟩⟩;rotate_left
 . left;by_cases he:c=b
   . exact⟨b,x,hb,by rw[he]⟩
   . simp only[St.bh,ON,Lx]at hc;rw[T.bX _ (λe=>he e.symm)]at hc;exact⟨c,y,hc,rfl⟩
 refine hW.akK (b0:=b) (x0:=x0) (Za3 _) aV (by simp only[ON,Lx];rw[T.gH]) ?_ (λ_ _=>rfl) hB ?_ (by omega) (by omega) (λk _ hk=>VZ k hk)
 . intro c y hc hy;simp only[ON,Lx]at hy;rw[T.bX _ (λe=>hc e.symm)]at hy;exact⟨hy,λe=>hc (hW.inj _ _ _ _ hy hb e)⟩
 . exact λa v ha e=>(hW.eD a v ha).2 b x hb e.symm
theorem Cw{cs:List AV}{c:Array Value}{e:TypeId}{fr:Nat×Nat}{g:Nat}{n:Nat}(hg:w'.heap[g]? =some (.cells c e fr))(hle:cs.length<=c.size)(hv:aL ρ n C cs (c.toList.take cs.length))
  (hf:∀i,i<c.size->¬(fr.1<=i/\i<fr.2)):tO ρ n C ⟨g,0,c.size⟩ w' (.cells cs 0):=
 ⟨c,e,fr,hg,rfl,by simpa using hle,by simpa using hv,λi _ hi=>by simpa using hf i (by simpa using hi)⟩
theorem amQ(hT:di P tt)(t:TypeId):fy P tt (.alloc t):=by
 intro ρ C st w k xs cls fr a o vs res ho hc hW hF hx hr;simp only[ku]at hc;split at hc<;>first|(cases hc;done)|skip
 rename_i ti gI;split at hc<;>first|(cases hc;done)|skip
 rename_i z hz;cases hc;simp only[fU,H5]at hx;subst hx;simp only[aF.run,Rz,H5]at hr;subst hr;obtain⟨zv,Ug,_,Fi⟩:=FW hT gI hz (ρ:=ρ) (n:=st.next.toNat) (C:=C) w;have hl:z.length=zv.cells.size:=by simpa using Fi.1
 obtain⟨ρ',bF,ji,jk,hE⟩:=Qd (w':=w.alloc (.cells zv.cells t)) (o:= .cells zv.cells t) (x0:= .cells z 0) (base:=0) (size:=zv.cells.size) hW none rfl rfl rfl rfl (λρ' n' bF hn=>
   Cw (w':=w.alloc (.cells zv.cells t)) (e:=t) (fr:=(0,0)) (by show(w.heap.push _)[w.heap.size]? =_;simp) (by omega) (by rw[hl,Zf9 (by simp)];exact Fi.mono bF hn) (λi _=>by simp))
 refine⟨_,.pointer (some ⟨w.heap.size,0,none⟩),_,ρ',?_,Yields.value _,bF,jk,?_,hE⟩
 . simp[execOp,ho,Instr.alloc,Ug,newVar,newRow]
 . have:=aD.ptr (ρ:=ρ') (n:=(st.bh none none (some (.cells z 0))).next.toNat) (C:=C) st.next 0 (by simp[St.bh,Pos.aC]);rw[ji]at this;simpa using this
theorem arW(t:TypeId)(x:Operand):fy P tt (.box t x):=by
 intro ρ C st w k xs cls fr a o vs res ho hc hW hF hx hr;simp only[ku]at hc;split at hc<;>first|(cases hc;done)|skip
 rename_i b hb;cases hc;obtain⟨v,rfl,hv⟩:=lM hb hF hx;simp only[aF.run,abJ,H5]at hr;subst hr;have Fi:=hv.cells;have hl:v.cells.length=(a.eval x).cells.size:=by simpa using Fi.1
 obtain⟨ρ',bF,ji,jk,hE⟩:=Qd (w':=w.alloc (.cells (a.eval x).cells t)) (o:= .cells (a.eval x).cells t) (x0:= .cells v.cells 0) (base:=0) (size:=(a.eval x).cells.size) hW none rfl rfl rfl rfl (λρ' n' bF hn=>
   Cw (w':=w.alloc (.cells (a.eval x).cells t)) (e:=t) (fr:=(0,0)) (by show(w.heap.push _)[w.heap.size]? =_;simp) (by omega) (by rw[hl,Zf9 (by simp)];exact Fi.mono bF hn) (λi _=>by simp))
 refine⟨_,.pointer (some ⟨w.heap.size,0,none⟩),_,ρ',?_,Yields.value _,bF,jk,?_,hE⟩
 . simp[execOp,ho,Instr.box,newVar,newRow]
 . have:=aD.ptr (ρ:=ρ') (n:=(st.bh none none (some (.cells v.cells 0))).next.toNat) (C:=C) st.next 0 (by simp[St.bh,Pos.aC]);rw[ji]at this;simpa using this
theorem OO{n:Nat}{z:List AV}{zs:List Value}(h:aL ρ n C z zs):∀m,aL ρ n C (bU z m) (bU zs m)
 |0=>aL.nil
 |m+1=>h.append (OO h m)
theorem lO{α:Type}(z:List α):∀m,(bU z m).length=m*z.length
 |0=>by simp[bU]
 |m+1=>by simp[bU,lO z m,Zj3,Zq2]
theorem ZU{α:Type}(z:List α):∀(m i:Nat),i<m*z.length->(bU z m)[i]? =z[i % z.length]?
 |0,i,h=>by simp at h
 |m +1,i,h=>by
  simp only[bU];by_cases hi:i<z.length
  . rw[Zc1 hi,Zk4 hi]
  . have hi:z.length<=i:=(by omega);rw[Zb9 hi,ZU z m _ (by rw[Zj3]at h;omega)];congr 1;rw[<-Zp4 hi]
theorem agG(z:Array Value)(m:Nat)(hz:0<z.size):((Array.range (m*z.size)).map (z[· % z.size]!)).toList=bU z.toList m:=by
 apply Zi7;intro i;by_cases hi:i<m*z.size
 . rw[ZU _ _ _ (by simpa using hi)];have aV:i % z.size<z.size:=Zl8 _ hz;simp[hi,aV]
 . rw[Zc4 (by simp;omega),Zc4 (by rw[lO];simp;omega)]
theorem NO{ρ':Pos->Loc}{b:Pos}{n g len es bC size:Nat}{cap:Option Nat}(hb:b.toNat<n)(bF:ρ' b=⟨g,0,size⟩)(hl:len<=bC)(hc:∀c,cap=some c->c=bC)(hs:bC*es<=size):
  aD ρ' n C (.slice b 0 len cap es) (.slice (some ⟨g,0,none⟩) len bC):=
 .slice _ _ _ _ _ _ _ hl hc (λ_=>⟨hb,by rw[bF],by rw[bF];simpa using hs⟩) (λ_=>hb)
theorem abR{z:List AV}{zv:Value}{n m size:Nat}(Fi:aL ρ n C z zv.cells.toList)(hl:z.length=size):
   aL ρ n C (bU z m) ((Array.range (m*size)).map ((if m*size=0 then(#[]:Array Value)else zv.cells)[· % (if m*size=0 then(#[]:Array Value)else zv.cells).size]!)).toList/\
   ((Array.range (m*size)).map ((if m*size=0 then(#[]:Array Value)else zv.cells)[· % (if m*size=0 then(#[]:Array Value)else zv.cells).size]!)).size=m*size:=by
 refine⟨?_,by simp⟩;by_cases h0:m*size=0
 . have:bU z m=[]:=(by apply Zc5;rw[lO,hl];exact h0);rw[this];have:(Array.range (m*size))= #[]:=(by rw[h0];rfl);rw[this];simpa using(aL.nil:aL ρ n C [] [])
 . rw[Za7 h0];have hzs:zv.cells.size=size:=(by have:=Fi.1;simp at this;omega);have We:0<zv.cells.size:=by
    rw[hzs];rcases Zm8 size with h|h
    . rw[h]at h0;simp at h0
    . exact h
   have:=agG zv.cells m We;rw[hzs]at this ⊢;rw[this];exact OO Fi m
theorem arX{k:IntKind}{i:Int}(h1:loI k<=i)(h2:i<=hiI k):k.wrap i=i:=by
 rw[<-yL];unfold ax;split
 . split
   . rfl
   . exact absurd h2 (by assumption)
 . exact absurd h1 (by assumption)
theorem agH{j:Nat}(h:j<=9223372036854775807):IntKind.i64.wrap (j:Int)=(j:Int):=arX (by simp only[loI];omega) (by simp only[hiI];omega)
theorem aja(hT:di P tt)(t:TypeId)(l c:Operand):fy P tt (.makeSlice t l c):=by
 intro ρ C st w k xs cls fr a o vs res ho hc hW hF hx hr;simp only[ku]at hc;split at hc<;>first|(cases hc;done)|skip
 rename_i ti l0 gI hl;split at hc<;>first|(cases hc;done)|skip
 rename_i e hk;split at hc<;>first|(cases hc;done)|skip
 rename_i te oK;split at hc<;>first|(cases hc;done)|skip
 rename_i z hz;cases hc;obtain⟨d,hd,dM⟩:=(hT.at gI).und;rw[hk]at dM;rw[tP dM]at hd;obtain⟨i0,sV,vz,hib,NN⟩:=(hT.at oK).info;obtain⟨u,v,rfl,h1,h2⟩:=adq hl hF hx;simp only[aF.run,Dc]at hr;split at hr<;>first|(cases hr;done)|skip
 rename_i jl jc hjl hjc;split at hr<;>first|(cases hr;done)|skip
 rename_i e1 e2 e3;have e1:=Zb2 e1;have e2:=Zb2 e2;have e3:=Zb2 e3;simp only[H5]at hr;subst hr;obtain⟨kl,jO⟩:=mI h1 hjl;obtain⟨kc,hkc⟩:=mI h2 hjc;obtain⟨zv0,hzv0,_,hzl,_⟩:=NN z hz;obtain⟨zv,Ug,_,Fi⟩:=FW hT oK hz (ρ:=ρ) (n:=st.next.toNat) (C:=C) w;obtain⟨Wg,adr⟩:=abR (m:=jc) Fi hzl;generalize gF:(Array.range (jc*te.size)).map ((if jc*te.size=0 then(#[]:Array Value)else zv.cells)[· % (if jc*te.size=0 then(#[]:Array Value)else zv.cells).size]!)=row at Wg adr;obtain⟨ρ',bF,ji,jk,hE⟩:=Qd (w':=w.alloc (.cells row e)) (o:= .cells row e) (x0:= .cells (bU z jc) 0) (base:=0) (size:=row.size) hW none rfl rfl rfl rfl (λρ' n' bF hn=>
   Cw (w':=w.alloc (.cells row e)) (e:=e) (fr:=(0,0)) (by show(w.heap.push _)[w.heap.size]? =_;simp) (by rw[lO,adr,hzl];exact Za3 _)
    (by rw[lO,hzl, <-adr, <-Zi6,Zj1];exact Wg.mono bF hn) (λi _=>by simp))
 refine⟨_,.slice (some ⟨w.heap.size,0,none⟩) jl jc,_,ρ',?_,Yields.value _,bF,jk,?_,hE⟩
 . have cg:=agH (Zb0 e1 e3);have kW:=agH e3;have hb:¬((te.bytes:Int)*(jc:Int)>2 ^ 48):=(by have h:=Int.ofNat_le.2 e2;rw[Int.natCast_mul]at h;exact Int.not_lt.2 h);have dR:(Instr.makeSlice t (.int kl jl) (.int kc jc)).run P w= .ok (.slice (some ⟨w.heap.size,0,none⟩) jl jc) (w.alloc (.cells row e)):=by
    unfold Instr.makeSlice;simp only[Sem.run_bind,bt hd,Result.andThen_ok,asInt,asIntOf,Sem.run_pure,agy sV,cg,kW,hib];have auC:¬((decide ((jc:Int)<0)||decide ((te.bytes:Int)*(jc:Int)>2 ^ 48)||decide ((jl:Int)<0)||decide ((jl:Int)>(jc:Int)))=true):=by
        simp only[Zj4,Ze7];rintro(((h|h)|h)|h)
        . omega
        . exact hb h
        . omega
        . omega
    rw[Za7 auC];simp only[Sem.run_bind,run_askRoom,Result.andThen_ok,mF sV,vz,Zd4];rw[<-gF];by_cases h0:jc*te.size=0
    .   simp only[h0,Zh7,Sem.run_bind,Sem.run_pure,Result.andThen_ok,newRow,run_newObj,World.alloc_eq]
    .   simp only[h0,Zh0,Sem.run_bind,Sem.run_pure,Result.andThen_ok,Ug,newRow,run_newObj,World.alloc_eq]
   simp[execOp,ho,jO,hkc,dR]
 . exact NO (by simp[St.bh,Pos.aC]) ji e1 (λc hc=>by cases hc;rfl) (by rw[adr];exact Za3 _)
theorem ads(hT:di P tt)(t:TypeId)(len:Nat)(ps:Array (Nat×Operand)):fy P tt (.buildSlice t len ps):=by
 intro ρ C st w k xs cls fr a o vs res ho hc hW hF hx hr;simp only[ku]at hc;split at hc<;>first|(cases hc;done)|skip
 rename_i ti l0 gI hl;split at hc<;>first|(cases hc;done)|skip
 rename_i e hk;split at hc<;>first|(cases hc;done)|skip
 rename_i te oK;split at hc<;>first|(cases hc;done)|skip
 rename_i z hz hlim;have hlim:=Zb2 hlim;cases hc;obtain⟨d,hd,dM⟩:=(hT.at gI).und;rw[hk]at dM;rw[tP dM]at hd;obtain⟨i0,sV,vz,hib,NN⟩:=(hT.at oK).info;have hv:=iR hl hF hx;simp only[aF.run,wZ]at hr;split at hr<;>first|(cases hr;done)|skip
 rename_i cs zS;simp only[H5]at hr;subst hr;obtain⟨zv0,hzv0,_,hzl,_⟩:=NN z hz;obtain⟨zv,Ug,_,Fi⟩:=FW hT oK hz (ρ:=ρ) (n:=st.next.toNat) (C:=C) w;obtain⟨Wg,adr⟩:=abR (m:=len) Fi hzl;generalize gF:(Array.range (len*te.size)).map ((if len*te.size=0 then(#[]:Array Value)else zv.cells)[· % (if len*te.size=0 then(#[]:Array Value)else zv.cells).size]!)=row at Wg adr;have hps:(ps.map λ(i,x)=>(i,a.eval x)).toList=ps.toList.map λx=>(x.1,a.eval x.2):=by simp
 obtain⟨nh,e1,e2⟩:=aaP (λi=>some (i*te.size,te.size)) zS Wg (ps:=ps.toList.map λx=>(x.1,a.eval x.2)) (by simpa [Zh4,Zk9]using hv) (by simp[Zh4,Zk9]);have hlen:cs.length=nh.size:=by simpa using e2.1
 have auD:∀{pp:List (Nat×Nat)}{vs cells r:List AV},bY cells pp vs=some r->r.length=cells.length:=by
   intro pp;induction pp with
   |nil=>intro vs cells r h;unfold bY at h;split at h<;>first|(cases h;done)|(simp only[H5]at h;subst h;rfl)|(rename_i hh;cases hh)
   |cons p pp ih=>
    intro vs cells r h;unfold bY at h;(split at h<;>first|(cases h;done)|(rename_i hh;cases hh;done)|skip);rename_i hh;simp only[Zf7]at hh;obtain⟨rfl,rfl⟩:=hh;(split at h<;>first|(cases h;done)|skip);rename_i g1 g2;have g1:=Za6 g1;have g2:=Zb2 g2;rw[ih h];simp[aU];omega
 have hcsl:=auD zS;rw[lO,hzl]at hcsl;obtain⟨ρ',bF,ji,jk,hE⟩:=Qd (w':=w.alloc (.cells nh e)) (o:= .cells nh e) (x0:= .cells cs 0) (base:=0) (size:=nh.size) hW none rfl rfl rfl rfl (λρ' n' bF hn=>
   Cw (w':=w.alloc (.cells nh e)) (e:=e) (fr:=(0,0)) (by show(w.heap.push _)[w.heap.size]? =_;simp) (by omega)
    (by rw[hlen, <-Zi6,Zj1];exact e2.mono bF hn) (λi _=>by simp))
 refine⟨_,.slice (some ⟨w.heap.size,0,none⟩) len len,_,ρ',?_,Yields.value _,bF,jk,?_,hE⟩
 . have dR:(Instr.buildSlice t len (ps.map λ(i,x)=>(i,a.eval x))).run P w= .ok (.slice (some ⟨w.heap.size,0,none⟩) len len) (w.alloc (.cells nh e)):=by
    unfold Instr.buildSlice;simp only[Sem.run_bind,bt hd,Result.andThen_ok,mF sV,vz];rw[Za7 (by omega)];by_cases h0:len*te.size=0
    .   simp only[h0,Zh7,Sem.run_bind,Sem.run_pure,Result.andThen_ok];simp only[h0,Zh7]at gF;rw[gF,hps,e1];simp only[newRow,Sem.run_bind,run_newObj,World.alloc_eq,Result.andThen_ok,Sem.run_pure]
    .   simp only[h0,Zh0,Sem.run_bind,Sem.run_pure,Result.andThen_ok,Ug];simp only[h0,Zh0]at gF;rw[gF,hps,e1];simp only[newRow,Sem.run_bind,run_newObj,World.alloc_eq,Result.andThen_ok,Sem.run_pure]
   simp only[execOp,ho,Sem.run_bind];rw[dR];rfl
 . exact NO (by simp[St.bh,Pos.aC]) ji (Za3 _) (λc hc=>by cases hc;rfl) (by omega)
theorem amR(t:TypeId)(r:Option Operand)(hT:di P tt):fy P tt (.makeMap t r):=by
 intro ρ C st w k xs cls fr a o vs res ho hc hW hF hx hr;have key:k= .mkMap/\(execOp a.eval o).run P w= .ok (.value (.map (some w.heap.size))) (w.alloc (.map #[] 0)):=by
  simp only[ku]at hc;split at hc<;>first|(cases hc;done)|skip
  rename_i ti gI;obtain⟨d,hd,dM⟩:=(hT.at gI).und;split at hc<;>first|(cases hc;done)|skip
  . cases hc;exact⟨rfl,by simp[execOp,ho,Instr.makeMap]⟩
  . rename_i hk;rw[hk]at dM;rw[VX dM]at hd;cases hc;exact⟨rfl,by simp[execOp,ho,Instr.makeMap,bt hd,Act.eval,asInt,asIntOf]⟩
 obtain⟨rfl,dR⟩:=key;simp only[aF.run,RD,H5]at hr;subst hr;obtain⟨ρ',bF,ji,jk,hE⟩:=Qd (w':=w.alloc (.map #[] 0)) (o:= .map #[] 0) (x0:= .map [] 0) (base:=0) (size:=0) hW none rfl rfl rfl rfl (λρ' n' bF hn=>
  ⟨#[],by show(w.heap.push _)[w.heap.size]? =_;simp,rfl,λi e e' h=>by simp at h⟩)
 refine⟨_,_,_,ρ',dR,Yields.value _,bF,jk,?_,hE⟩;have:=aD.map (ρ:=ρ') (n:=(st.bh none none (some (.map [] 0))).next.toNat) (C:=C) st.next (by simp[St.bh,Pos.aC]);rw[ji]at this;exact this
end
section
variable{P : Program}{tt : TT}{ρ : Pos -> Loc}{C : Cells}{st : St}{w w' : World}
theorem RX{n:Nat}:∀{l:List AV}{ys:List Value},aM l=true->aL ρ n C l ys->∀y∈ys,y.oneCell'=true
 |[],ys,_,h=>by have:=h.qx;subst this;simp
 |v::l,ys,h1,h=>by
  unfold aM at h1;split at h1<;>first|(cases h1;done)|skip
  rename_i ho;obtain⟨y,ys',rfl,hv,hs⟩:=h.cons_inv;intro z hz;simp at hz;rcases hz with rfl|hz
  . cases hv<;>first|rfl|(simp[AV.one]at ho;done)
  . exact RX h1 hs z hz
theorem KG{α:Type}(l:List α){i:Nat}(vs:List α)(hi:i<=l.length)(k:Nat):(aU l i vs)[k]? =if k<i then l[k]? else if k<i+vs.length then vs[k - i]? else l[k]? :=by
 unfold aU;have hl:(l.take i).length=i:=by simp;omega
 split
 . rename_i h;rw[Zc1 (by omega),Zd5,Zb3 h]
 . rename_i h;rw[Zb9 (by omega),hl];split
   . rename_i h';rw[Zc1 (by omega)]
   . rename_i h';rw[Zb9 (by omega),Ze5];congr 1;omega
theorem ZV{α:Type}(l:List α)(b off:Nat)(vs:List α)(h:b+off<=l.length):(aU l (b+off) vs).drop b=aU (l.drop b) off vs:=by
 apply Zi7;intro k;rw[Ze5,KG l vs h,KG (l.drop b) vs (by simp;omega),Ze5];by_cases h1:k<off
 . rw[Zb3 (by omega),Zb3 h1]
 . rw[Za7 (by omega),Za7 h1];by_cases h2:k<off+vs.length
   . rw[Zb3 (by omega),Zb3 h2];congr 1;omega
   . rw[Za7 (by omega),Za7 h2]
theorem ajb{α:Type}(l:List α)(off m:Nat)(vs:List α)(h:off+vs.length<=m)(h':m<=l.length):(aU l off vs).take m=aU (l.take m) off vs:=by
 apply Zi7;intro k;rw[Zd5,KG l vs (by omega),KG (l.take m) vs (by simp;omega),Zd5];by_cases h1:k<off
 . rw[Zb3 (by omega),Zb3 h1,Zb3 h1,Zb3 (by omega)]
 . by_cases h2:k<off+vs.length
   . rw[Zb3 (by omega),Za7 h1,Zb3 h2,Za7 h1,Zb3 h2]
   . rw[Za7 h1,Za7 h2,Za7 h1,Za7 h2]
theorem RY(hW:cq ρ C st w){b:Pos}{cs vs:List AV}{fz off:Nat}{ys:List Value}(hb:st.heap.get b=some (.cells cs fz))(hle:off+vs.length<=cs.length)(hfz:fz<=off)
   (h1:aM vs=true) (hv:aL ρ st.next.toNat C vs ys):
   ∃w',(storeCells ⟨(ρ b).aN,(ρ b).base+off,none⟩ ys).run P w= .ok () w'/\cq ρ C (st.bh none (some (b,.cells (aU cs off vs) fz)) none) w'/\qi ρ st w ρ (st.bh none (some (b,.cells (aU cs off vs) fz)) none) w':=by
 obtain⟨_,_,c,e,fr,g1,g2,g3,g4,g5⟩:=hW.live b _ hb;have hl:vs.length=ys.length:=hv.1;obtain⟨w',e1,e2,e3,e4,e5,e6,e7⟩:=xJ (P:=P) (ρ b).aN e fr ys 0 ((ρ b).base+off) c w g1 (by omega) (RX h1 hv) (λk hk uj=>by
   have:=g5 (k - (ρ b).base) (by omega) (by omega)
   rwa [show(ρ b).base+(k - (ρ b).base)=k from by omega]at this)
 simp only[Zg0]at e1 e2;refine⟨w',e1,?_⟩;have hlen:(aU cs off vs).length=cs.length:=by simp[aU];omega
 refine amP hW hb e5 e6 e7 e3 e4 ⟨_,e,fr,e2,?_,?_,?_,λi hi hi'=>g5 i hi ?_⟩
 . simp[aU];omega
 . rw[hlen];simp[aU];omega
 . rw[hlen];rw[ZV _ _ _ _ (by simp;omega),ajb _ _ _ _ (by omega) (by simp;omega)];exact g4.aU hv off
 . simp[aU]at hi';omega
theorem aD.FX{n:Nat}:aD ρ n C .undef undef:= .tuple [] #[] rfl (λ_ _ _ h=>by simp at h)
theorem amS(hT:di P tt)(t:TypeId)(x y:Operand):fy P tt (.store t x y):=by
 intro ρ C st w k xs cls fr a o vs res ho hc hW hF hx hr;simp only[ku]at hc;split at hc<;>first|(cases hc;done)|skip
 rename_i ti l gI hl;cases hc;obtain⟨p,v,rfl,h1,h2⟩:=adq hl hF hx;obtain⟨i0,sV,vz,_⟩:=(hT.at gI).info;simp only[aF.run,Lw]at hr;split at hr<;>first|(cases hr;done)|skip
 rename_i b off;split at hr<;>first|(cases hr;done)|skip
 rename_i cs fz hb;split at hr<;>first|(cases hr;done)|skip
 rename_i e1 e2 e3 e4;have e1:=Za6 e1;have e2:=Zb2 e2;have e3:=Zb2 e3;simp only[H5]at hr;subst hr;obtain⟨_,he⟩:=h1.qy;have hc:=h2.cells;obtain⟨w',dR,jk,hE⟩:=RY (P:=P) hW hb (by omega) e3 e4 hc;refine⟨.skip,undef,w',ρ,?_,.inr ⟨rfl,rfl⟩,λ_ _=>rfl,jk,aD.FX,hE⟩;have gU:(a.eval y).cells.size=ti.size:=by have:=hc.1;simp at this;omega
 simp[execOp,ho,he,Instr.storeAt,Instr.sureAddr,storeVar,mF sV,vz,gU,dR]
theorem run_setObj_map{r:Nat}{es:Array MapEntry}{c:Nat}{o:Obj}{w:World}(h:w.heap[r]? =some (.map es c)):(setObj r o).run P w= .ok () { w with heap:=w.heap.setIfInBounds r o }:=by
 simp[setObj,Sem.run,h]
theorem abS(hW:cq ρ C st w){b:Pos}{es:List (AV×AV×Nat)}{clock:Nat}(hb:st.heap.get b=some (.map es clock)){Wh:List (AV×AV×Nat)}{akT:Array MapEntry}{Qe:Nat}
  (hE:NM ρ st.next.toNat C Wh akT.toList):
  cq ρ C (st.bh none (some (b,.map Wh Qe)) none) { w with heap:=w.heap.setIfInBounds (ρ b).aN (.map akT Qe) }/\qi ρ st w ρ (st.bh none (some (b,.map Wh Qe)) none) { w with heap:=w.heap.setIfInBounds (ρ b).aN (.map akT Qe) }:=by
 have aV:=(hW.live b _ hb).2.1;refine amP hW hb rfl rfl rfl (by simp) (λk hk=>by simp[Zj6 (Ne.symm hk)]) ⟨akT,by simp[aV],by simpa using hE.1,λi e e' h1 h2=>hE.2 i e e' h1 (by simpa using h2)⟩
theorem aaQ{n:Nat}{pk:PK}{u v:AV}{x y:Value}(h1:aD ρ n C u x)(h2:aD ρ n C v y)(h:AD pk u v=some true)(m:Nat):Instr.sameBits m y x=true:=by
 unfold AD at h;split at h<;>first|(cases h;done)|skip
 . simp only[H5]at h;rw[h1.kZ,h2.kZ];rename_i p q;have:p=q:=(by simpa using h);subst this;cases m<;>simp[Instr.sameBits]
 . (split at h<;>first|(cases h;done)|skip);rename_i NJ;have:=Cu NJ;subst this;simp only[H5,mG]at h;rw[h1.iM,h2.iM];rename_i p q _;have:p=q:=(by simpa using h);subst this;cases m<;>simp[Instr.sameBits]
 . simp only[H5]at h;obtain⟨bx,rfl,e1⟩:=h1.fu;obtain⟨bz,rfl,e2⟩:=h2.fu;have:bz==bx:=(by rw[beq_toListBytes,P8 e2 e1,mH];exact(mH.1 h).symm);cases m<;>simpa [Instr.sameBits]using this
theorem aev{pk:PK}{u:AV}:∀{es:List (AV×AV×Nat)}{i j:Nat}{v:AV},gP pk u es i=some (some (j,v))->∃e,i<=j/\es[j - i]? =some e/\AD pk u e.1=some true
 |[],i,j,v,h=>by simp[gP]at h
 |(k',v',born)::es,i,j,v,h=>by
  unfold gP at h;split at h<;>first|(cases h;done)|skip
  . rename_i hq;simp only[H5,Zd1]at h;obtain⟨rfl,_⟩:=h;exact⟨(k',v',born),Za3 _,by simp,hq⟩
  . obtain⟨e,h1,h2,h3⟩:=aev h;refine⟨e,by omega,?_,h3⟩;rw[show j - i=(j - (i+1))+1 from by omega];simpa using h2
theorem Wi(k v:AV):∀(es:List (AV×AV×Nat))(i j:Nat),(tL k v es i)[j]? =if j=i then(es[i]?).map (λe=>(k,v,e.2.2))else es[j]?
 |[],i,j=>by cases i<;>cases j<;>simp[tL]
 |(a,b,born)::es,0,j=>by cases j<;>simp[tL]
 |e::es,i+1,j=>by
  cases j with
  |zero=>simp[tL]
  |succ j=>simp[tL,Wi k v es i j]
theorem abT (hT:di P tt)(op:Op)(t:TypeId)(m k0 v0:Operand)(hop:op= .mapUpdate t m k0 v0\/op= .insert t m k0 v0):fy P tt op:=by
 intro ρ C st w k xs cls fr a o vs res ho hc hW hF hx hr;have hc:ku.akH tt t m k0 v0=some (k,xs,cls):=by rcases hop with rfl|rfl<;>simpa only[ku]using hc
 have hex:(execOp a.eval o).run P w=((Instr.mapUpdate t (a.eval m) (a.eval k0) (a.eval v0)).run P w).andThen λ_ w=> .ok .skip w:=by
   rcases hop with rfl|rfl<;>simp[execOp,ho]
 unfold ku.akH at hc;split at hc<;>first|(cases hc;done)|skip
 rename_i ti l gI hl;split at hc<;>first|(cases hc;done)|skip
 rename_i kt et hk;split at hc<;>first|(cases hc;done)|skip
 rename_i tk htk;obtain⟨d,hd,dM⟩:=(hT.at gI).und;rw[hk]at dM;rw[VX dM]at hd;obtain⟨dk,hdk,NJ⟩:=(hT.at htk).und;have key:∃pk,k= .mapSet pk/\xs=l/\pk.fits dk=true:=by
   split at hc<;>first|(cases hc;done)|skip
   all_goals
     rename_i h1;cases hc;refine⟨_,rfl,rfl,arp tk.k NJ ?_⟩
   . exact .inr (.inl ⟨⟨_,h1⟩,rfl⟩)
   . exact .inr (.inr ⟨h1,rfl⟩)
   . exact .inl ⟨h1,rfl⟩
 obtain⟨pk,rfl,rfl,FV⟩:=key;obtain⟨mm,kk,vv,rfl,h1,h2,h3⟩:=evs3 hl hF hx;have hck:∀e w,(Instr.checkKey e 10000 kt (a.eval k0)).run P w= .ok () w:=λe w=>Qc hdk FV e 9999 _ w
 simp only[aF.run,yG]at hr;split at hr<;>first|(cases hr;done)|skip
 rename_i b;split at hr<;>first|(cases hr;done)|skip
 rename_i es clock hb;obtain⟨_,he⟩:=h1.Cv;obtain⟨_,_,es',dY,hlen,oY⟩:=hW.live _ _ hb;have hE:NM ρ st.next.toNat C es es'.toList:=⟨by simpa using hlen,λi e e' h1 h2=>oY i e e' h1 (by simpa using h2)⟩
 split at hr<;>first|(cases hr;done)|skip
 . rename_i i v hpk hf;simp only[H5]at hr;subst hr;obtain⟨r',hf',oC⟩:=Hh FV h2 hE hf;rcases oC with⟨e1,_⟩|⟨j',v',y,e1,e2,e3,_,e5⟩
   . cases e1
   . cases  e1;subst e2;obtain⟨e,_,hei,hek⟩:=aev hf;rw[Zq3]at hei;have hi:i<es'.size:=(by omega);have akU:es'[i]? =some es'[i]:=Zg5 hi;have hkey:=(oY i e es'[i] hei akU).1;have hsb:=aaQ h2 hkey hek 10000;have hE2:NM ρ st.next.toNat C (tL kk vv es i) (es'.modify i λe=>{ e with key:=a.eval k0,val:=a.eval v0 }).toList:=by
        refine⟨?_,λj e e' g1 g2=> ?_⟩
        . have hsl:∀(es:List (AV×AV×Nat))(i:Nat),(tL kk vv es i).length=es.length:=by
            intro es;induction es with
            |nil=>intro i;cases i<;>rfl
            | cons e es ih=>intro i;cases i with
              |zero=>obtain⟨a,b,c⟩:=e;rfl
              |succ i=>simp[tL,ih i]
          rw[hsl];simpa using hlen
        . rw[Wi]at g1;simp only[Zj7,Zk6]at g2;by_cases hji:j=i
          . subst hji;rw[Zb3 rfl,hei]at g1;simp[akU]at g1 g2;subst g1;subst g2;exact⟨h2,h3,(oY j e es'[j] hei akU).2.2⟩
          . rw[Za7 hji]at g1;rw[Za7 (λe=>hji e.symm)]at g2;exact oY j e e' g1 g2
     obtain⟨jk,hE'⟩:=abS hW hb (Qe:=clock) hE2;refine⟨.skip,undef,_,ρ,?_,.inr ⟨rfl,rfl⟩,λ_ _=>rfl,jk,aD.FX,hE'⟩;rw[hex];simp only[Instr.mapUpdate,Sem.run_bind,bt hd,Result.andThen_ok,he,run_getObj_map dY,hck,run_findKey hdk hf',akU,Ze2,Ze9,Instr.keyThatStays,hsb,Zh7,Sem.run_pure,run_setObj_map dY]
 . rename_i hpk hf;simp only[H5]at hr;subst hr;obtain⟨r',hf',oC⟩:=Hh FV h2 hE hf;rcases oC with⟨_,e2⟩|⟨j',v',y,e1,_⟩
   . subst  e2;have hE2:NM ρ st.next.toNat C (es++[(kk,vv,clock)]) (es'.push { key:=a.eval k0,val:=a.eval v0,born:=clock }).toList:=by
        refine⟨by simp[hlen],λj e e' g1 g2=> ?_⟩;simp only[Array.toList_push]at g2;rcases Zi4 j es.length with hj|hj
        . rw[Zc1 hj]at g1;rw[Zc1 (by simp;omega)]at g2;exact oY j e e' g1 (by simpa using g2)
        . rw[Zb9 hj]at g1;rw[Zb9 (by simp;omega)]at g2;have:j - es.length=0:=(by have:=(Za1.1 g1).1;simp at this;omega);rw[this]at g1;have:j - es'.toList.length=0:=(by simp;omega);rw[this]at g2;simp at g1 g2;subst g1;subst g2;exact⟨h2,h3,rfl⟩
     obtain⟨jk,hE'⟩:=abS hW hb (Qe:=clock+1) hE2;refine⟨.skip,undef,_,ρ,?_,.inr ⟨rfl,rfl⟩,λ_ _=>rfl,jk,aD.FX,hE'⟩;rw[hex];simp only[Instr.mapUpdate,Sem.run_bind,bt hd,Result.andThen_ok,he,run_getObj_map dY,hck,run_findKey hdk hf',run_setObj_map dY]
   . cases e1
end
section
variable{P : Program}{tt : TT}{ρ : Pos -> Loc}{C : Cells}{st : St}{w w' : World}
theorem cq.of_heap(hW:cq ρ C st w)(h:w'.heap=w.heap):cq ρ C st w' where
 live b x hb:=let⟨h1,h2,h3⟩:=hW.live b x hb;⟨h1,by rw[h];exact h2,h3.of_heap (by rw[h])⟩
 inj:=hW.inj
 eD a v ha:=let⟨h1,h2⟩:=hW.eD a v ha;⟨by unfold World.cell? at h1 ⊢; rw[h];exact h1,h2⟩
 whole a v ha o ho:=by have:=hW.whole a v ha o ho;unfold World.cell? at this ⊢; rw[h];exact this
theorem ZW{es:Nat}:∀{xs:List (List AV)}(_h:∀(i:Nat)(cs:List AV),xs[i]? =some cs->cs.length=es)(q:Nat)(v:AV),
  xs.flatten[q]? =some v->∃cs,xs[q / es]? =some cs/\cs[q % es]? =some v
 |[],_,q,v,hv=>by simp at hv
 |c ::xs,h,q,v,hv=>by
  have hc:c.length=es:=h 0 c rfl;have rF:∀(i:Nat)(cs:List AV),xs[i]? =some cs->cs.length=es:=λi cs hi=>h (i+1) cs (by simpa using hi)
  rw[Zf5]at hv;rcases Zi4 q c.length with hq|hq
  . rw[Zc1 hq]at hv;refine⟨c,?_,?_⟩
    .   rw[Nat.div_eq_of_lt (by omega)];rfl
    .   rw[Zk4 (by omega)];exact hv
  . rw[   Zb9 hq]at hv;obtain⟨cs,h1,h2⟩:=ZW rF (q - c.length) v hv;rw[hc]at hq h1 h2;have We:0<es:=by
        rcases Zm8 es with h0|h0
        . subst h0;have hl:=rF _ _ h1;have:=(Za1.1 h2).1;omega
        . exact h0
    refine⟨cs,?_,?_⟩
    .   rw[Nat.div_eq_sub_div We hq];simpa using h1
    .   rw[Zp4 hq];exact h2
theorem ZX{es:Nat}:∀{xs:List (List AV)}(_h:∀(i:Nat)(cs:List AV),xs[i]? =some cs->cs.length=es),xs.flatten.length=xs.length*es
 |[],_=>by simp
 |c::xs,h=>by have hc:c.length=es:=h 0 c rfl;rw[Zf5,Ze6,ZX (λi cs hi=>h (i+1) cs (by simpa using hi)),hc,Zc9,Zj3];omega
theorem vS(hW:cq ρ C st w){es m:Nat}{u:AV}{x:Value}{new:List AV}{k:Nat}(hu:aD ρ st.next.toNat C u x)(hk:eJ u=some k)(hmk:m<=k)(h:dy es m (λb=>st.heap.get b) u=some new)(w2:World)(kW:w2.heap=w.heap):
   ∃ys:List Value,(Builtin.firstCells es m x).run P w2= .ok ys.toArray w2/\aL ρ st.next.toNat C new ys/\(u= .af\/new.length=m*es):=by
 have hW2:=hW.of_heap (w':=w2) kW;unfold dy at h;split at h
 . simp only[H5]at h;subst h;rw[hu.jx];exact⟨[],by simp[Builtin.firstCells],aL.nil,.inl rfl⟩
 . rename_i b off len cap es';simp only[eJ,H5]at hk;subst hk;obtain⟨aa,bC,he,hle,_,ha⟩:=hu.gM;rw[he];split at h
   . rename_i h0;have h0:=Za6 h0;simp only[H5]at h;subst h;exact⟨[],by simp[Builtin.firstCells,h0,loadCells,loadCellsFrom],aL.nil,.inr (by simp[h0])⟩
   . rename_i h0;have h0:=Ze8 h0;(split at h<;>first|(cases h;done)|skip);rename_i cs fz hb;have hm:m≠0:=(by intro e;subst e;simp at h0);obtain⟨_,rfl,_⟩:=ha (by omega);obtain⟨ys,h1,h2⟩:=hW2.loadCells (P:=P) hb h;exact⟨ys,by simp only[Builtin.firstCells];exact h1,h2,.inr (RU h)⟩
 . rename_i xs es';simp only[eJ,H5]at hk;subst hk;(split at h<;>first|(cases h;done)|skip);rename_i he1 Qf;have he1:=Za6 he1;have Qf:=Zb2 Qf;subst he1;simp only[H5]at h;subst h;obtain⟨aa,bC,cell,he,hle,A7,g1,g2,g3⟩:=hu.yK;rw[he];have dY:∀(i:Nat)(cs:List AV),(xs.take m)[i]? =some cs->cs.length=es:=λi cs hi=>by
     rw[Zd5]at hi;split at hi
     . exact g1 i cs hi
     . cases hi
   have hfl:=ZX dY;rw[Zh9,Zk8 Qf]at hfl;have arq:∀q v,(xs.take m).flatten[q]? =some v->∃cs,xs[q / es]? =some cs/\cs[q % es]? =some v:=λq v hv=>by
     obtain⟨cs,h1,h2⟩:=ZW dY q v hv;rw[Zd5]at h1;split at h1
     . exact⟨cs,h1,h2⟩
     . cases h1
   refine⟨(List.range (m*es)).map λq=>cell (q / es) (q % es),?_,⟨by simp[hfl],λq v y hv hy=> ?_⟩,.inr hfl⟩
   . simp only[Builtin.firstCells];(refine run_loadCells w2 _ _ _ λq hq=> ?_);have aV:q<(xs.take m).flatten.length:=(by rw[hfl];exact hq);obtain⟨cs,h1,h2⟩:=arq q _ (H0 aV);have A7:=A7 (by intro e;rw[e]at h1;simp at h1);obtain⟨ab,ao,asp⟩:=aa;simp only at A7;subst A7;have:=(hW2.eD _ _ (g2 _ _ _ _ h1 h2)).1;rw[uF];simp only at this;rw[show ao+q=ao+q / es*es+q % es from by rw[Zj9,Nat.mul_comm,Nat.div_add_mod]];exact this
   . obtain⟨cs,h1,h2⟩:=arq q v hv;have hq:q<m*es:=(by rw[<-hfl];exact(Za1.1 hv).1);simp[hq]at hy;subst hy;exact g3 _ _ _ _ h1 h2
 . rename_i s;simp only[eJ,H5]at hk;subst hk;(split at h<;>first|(cases h;done)|skip);rename_i he1 Qf;have he1:=Za6 he1;have Qf:=Zb2 Qf;subst he1;simp only[H5]at h;subst h;obtain⟨bs,rfl,hs⟩:=hu.fu;refine⟨(s.take m).map λ(c:Nat)=>Value.int .u8 (.ofNat c),?_,⟨by simp,λq v y hv hy=> ?_⟩,.inr (by simp;omega)⟩
   . simp only[Builtin.firstCells,Sem.run_pure];congr 1;apply Zl9;simp only[Array.toList_map,ByteArray.data_extract,Zo6,List.extract,Zf3,Zq3];rw[<-hs, <-List.map_take,Zh4];rfl
   . simp only[Zb4,Zf1]at hv hy;obtain⟨c,hc,rfl⟩:=hv;obtain⟨c',ZY,rfl⟩:=hy;rw[hc]at ZY;cases ZY;exact .int _ _
 . cases h
theorem agI{n:Nat}{u:AV}{x:Value}{k:Nat}(hu:aD ρ n C u x)(hk:eJ u=some k):(Builtin.lenOf x).run P w= .ok k w:=by
 unfold eJ at hk;split at hk<;>first|(cases hk;done)|skip
 all_goals simp only[H5]at hk;subst hk
 . rw[hu.jx];rfl
 . obtain⟨_,_,he,_⟩:=hu.gM;rw[he];rfl
 . obtain⟨_,_,_,he,_⟩:=hu.yK;rw[he];rfl
 . obtain⟨bs,rfl,hs⟩:=hu.fu;rw[<-LB hs];rfl
theorem aew(nl:Nat):∀(r c:Nat),c<=nl+(nl+768) / 4->Builtin.growBy nl r c<=nl+(nl+768) / 4
 |0,c,h=>h
 |r+1,c,h=>by
  unfold Builtin.growBy;split
  . exact h
  . exact aew nl r _ (by omega)
theorem nextslicecap_le{akV gL:Nat}(h:gL<akV):Builtin.nextslicecap akV gL<=2*akV+768:=by
 unfold Builtin.nextslicecap;split
 . omega
 . split
   . omega
   . have:=aew akV 4 gL (by omega);omega
theorem akW(hT:di P tt){t t2 e:Nat}{ts:Array TypeId}{ti t2i te:TI}(gI:tt.get (key t)=some ti)(ht2:tt.get (key t2)=some t2i)(hk:ti.k= .slice e)(uk:∀k,t2i.k≠ .int k)
  (oK:tt.get (key e)=some te) (h0:ts[0]? =some t) (h1:ts[1]? =some t2) (ty:TypeId) (base:Option Addr) (n cap m:Nat) (x:Value) (w:World)
  (hx:(Builtin.lenOf x).run P w= .ok m w) (hb:(2*(n+m)+768)*te.bytes<=281474976710656) (hi:n+m<=9223372036854775807):
  (Builtin.append_ ts ty #[.slice base n cap,x]).run P w=
    if n+m<=cap then((Builtin.firstCells te.size m x).run P w).andThen λnew w=>((match base with|some a=>storeCells (a.add (n*te.size)) new.toList|none=>pure ()).run P w).andThen λ_ w=> .ok (.slice base (n+m) cap) w
    else((Builtin.firstCells te.size n (.slice base n cap)).run P w.drew).andThen λgL w1=>((Builtin.firstCells te.size m x).run P w1).andThen λnew w2=>((zeroValue e).run P w2).andThen λz w3=>
        .ok (.slice (some ⟨w3.heap.size,0,none⟩) (n+m) (grownCap w (n+m) cap e)) (w3.alloc (.cells (gL++new++Builtin.zeroCells z.cells (grownCap w (n+m) cap e - (n+m))) e)):=by
 obtain⟨d,hd,dM⟩:=(hT.at gI).und;rw[hk]at dM;rw[tP dM]at hd;obtain⟨d2,hd2,apa⟩:=(hT.at ht2).und;obtain⟨i0,sV,vz,hib,_⟩:=(hT.at oK).info;have auE:∀k,d2≠ .int k:=by
  rintro k rfl;cases NJ:t2i.k<;>rw[NJ]at apa<;>first|(simp[b9]at apa;done)|exact absurd NJ (uk _)
 have hmax:¬(((n+m:Nat):Int)>IntKind.i64.max):=by
  have:IntKind.i64.max=9223372036854775807:=by decide
  rw[this];omega
 have auF:¬(n+m<=cap)->¬(Builtin.nextslicecap (n+m) cap*te.bytes>2 ^ 48):=λhc=>by
  have h1:=nextslicecap_le (Nat.lt_of_not_le hc);have h2:=Zg8 te.bytes h1;have:(2:Nat) ^ 48=281474976710656:=by decide
  omega
 have agE:∀q,(Question.appendCap (n+m) cap e).forced=q->q=false:=by rintro q rfl;rfl
 clear apa;cases d2<;>first|(exact absurd rfl (auE _))|skip
 all_goals
  unfold Builtin.append_;simp only[h0,h1,List.getElem?_toArray,Za4,Zb8,Sem.run_bind,bt hd,Result.andThen_ok,mF sV,vz,bt hd2,Sem.run_pure,hx,Zf4,Zh0,Zk1,Zh7,Sem.run_ite];by_cases hc:n+m<=cap
  . rw[Zb3 hc,Zb3 hc];cases base<;>simp only[Sem.run_bind,Sem.run_pure,Result.andThen_ok]
  . rw[Za7 hc,Za7 hc];simp only[Sem.run_bind,agy sV,hib,Result.andThen_ok,hmax,false_and,Zh0,auF hc,run_choose,Question.forced,Zf4,World.drew_eq,run_askRoom,Sem.run_pure,newRow,run_newObj,World.alloc_eq];rfl
end
section
variable{P : Program}{tt : TT}{ρ : Pos -> Loc}{C : Cells}{st : St}{w w' : World}
theorem apb{L:Loc}{cs:List AV}{n:Nat}(fz:Nat)(h:tO ρ n C L w' (.cells cs 0)):tO ρ n C L w' (.cells cs fz):=
 let⟨c,e,fr,h1,h2,h3,h4,h5⟩:=h
 ⟨c,e,fr,h1,h2,h3,h4,λi _ hi=>h5 i (Zi8 _) hi⟩
theorem akX(hW:cq ρ C st w)(del:Option Pos)(fz:Nat){gL new rest:List Value}{ol nl:List AV}{e:TypeId}{n m es bC:Nat}(h1:aL ρ st.next.toNat C ol gL)(h2:aL ρ st.next.toNat C nl new)
  (NP:ol.length=n*es) (hln:nl.length=m*es) (hr:rest.length=(bC - (n+m))*es) (hc:n+m<=bC) {w2:World} (kW:w2=w.drew.alloc (.cells (gL++new++rest).toArray e)):
  ∃ρ':Pos->Loc,(∀b:Pos,b.toNat<st.next.toNat->ρ' b=ρ b)/\cq ρ' C (st.bh del none (some (.cells (ol++nl) fz))) w2/\qi ρ st w ρ' (st.bh del none (some (.cells (ol++nl) fz))) w2/\
   aD ρ' (st.bh del none (some (.cells (ol++nl) fz))).next.toNat C (.slice st.next 0 (n+m) none es) (.slice (some ⟨w.heap.size,0,none⟩) (n+m) bC):=by
 subst kW;have hl1:gL.length=n*es:=by rw[<-h1.1,NP]
 have rI:new.length=m*es:=by rw[<-h2.1,hln]
 have gU:(gL++new++rest).length=bC*es:=by simp only[Ze6,hl1,rI,hr];rw[<-Zj3, <-Zj3];congr 1;omega
 obtain ⟨ρ',bF,ji,jk,hE⟩:=Qd (w':=w.drew.alloc (.cells (gL++new++rest).toArray e)) (o:= .cells (gL++new++rest).toArray e) (x0:= .cells (ol++nl) fz) (base:=0) (size:=(gL++new++rest).toArray.size) hW del rfl rfl rfl rfl (λρ' n' bF hn=>
  apb   fz <| Cw (e:=e) (fr:=(0,0)) (by show(w.heap.push _)[w.heap.size]? =_;simp) (by simp[NP,hln,hl1,rI])
   (by
        have:(gL++new++rest).toArray.toList.take (ol++nl).length=gL++new:=by
         rw[Zq7 (by simp[NP,hln,hl1,rI])]
        rw[this];exact(h1.append h2).mono bF hn) (λi _=>by simp))
 refine⟨ρ',bF,jk,hE,NO (by simp[St.bh,Pos.aC]) ji hc (λc hc=>by cases hc) (by simp only[Zn3,gU];exact Za3 _)⟩
theorem afs(z:Array Value)(m:Nat):(Builtin.zeroCells z m).toList.length=m*z.size:=by simp[Builtin.zeroCells]
theorem apc{m:Nat}(h:Nat.beq m 0=false):m≠0:=Ze8 h
theorem akY (hT:di P tt){t t2 e:Nat}{ts:Array TypeId}{ti t2i te:TI}{z:List AV}(gI:tt.get (key t)=some ti)(ht2:tt.get (key t2)=some t2i)(hk:ti.k= .slice e)(uk:∀k,t2i.k≠ .int k)
   (oK:tt.get (key e)=some te) (hz:te.zero=some z) (h0:ts[0]? =some t) (h1:ts[1]? =some t2) (ty:TypeId) {s u:AV} {xs xu:Value} {res:eI} (hW:cq ρ C st w)
   (hs:aD ρ st.next.toNat C s xs) (hu:aD ρ st.next.toNat C u xu) (hr:lK (λb=>st.heap.get b) st.next te.size te.bytes [s,u]=some res):
   GN P ρ C st w (((Builtin.append_ ts ty #[xs,xu]).run P w).andThen λv w=> .ok (.value v) w) res:=by
 simp only[lK]at hr;split at hr<;>first|(cases hr;done)|skip
 rename_i n m hn hm;split at hr<;>first|(cases hr;done)|skip
 rename_i b1 b2;have b1:=Zb2 b1;have b2:=Zb2 b2;have hlen:=agI (P:=P) (w:=w) hu hm;obtain⟨i0,sV,vz,_,NN⟩:=(hT.at oK).info;obtain⟨zv0,hzv0,_,hzl,_⟩:=NN z hz;have hzr:=λw=>FW hT oK hz (ρ:=ρ) (n:=st.next.toNat) (C:=C) w
 have hsl:∃base bC,xs= .slice base n bC/\n<=bC:=by
   unfold eJ at hn;split at hn<;>first|(cases hn;done)|skip
   . cases hn;exact⟨none,0,hs.jx,Za3 _⟩
   . cases hn;obtain⟨a,c,he,hle,_⟩:=hs.gM;exact⟨_,c,he,hle⟩
   . cases hn;obtain⟨a,c,_,he,hle,_⟩:=hs.yK;exact⟨_,c,he,hle⟩
   . rename_i s';exfalso;cases hbm:Nat.beq m 0<;>simp[hbm]at hr
 obtain⟨base,bC,rF,hle⟩:=hsl;have dR:=akW hT gI ht2 hk uk oK h0 h1 ty base n bC m xu w hlen b1 b2;rw[rF,dR];have hg:∀c,n+m<=grownCap w (n+m) c e:=λc=>by unfold grownCap Question.cut;exact Nat.le_add_right _ _
 have agJ:∀(del:Option Pos)(fz:Nat)(ol nl:List AV),¬(n+m<=bC)->dy te.size n (λb=>st.heap.get b) s=some ol->dy te.size m (λb=>st.heap.get b) u=some nl->ol.length=n*te.size->nl.length=m*te.size->
     GN P ρ C st w ((if n+m<=bC then((Builtin.firstCells te.size m xu).run P w).andThen λnew w=>((match base with|some a=>storeCells (a.add (n*te.size)) new.toList|none=>pure ()).run P w).andThen λ_ w=> .ok (.slice base (n+m) bC) w
     else((Builtin.firstCells te.size n (.slice base n bC)).run P w.drew).andThen λgL w1=>((Builtin.firstCells te.size m xu).run P w1).andThen λnew w2=>((zeroValue e).run P w2).andThen λz w3=>
        .ok (.slice (some ⟨w3.heap.size,0,none⟩) (n+m) (grownCap w (n+m) bC e)) (w3.alloc (.cells (gL++new++Builtin.zeroCells z.cells (grownCap w (n+m) bC e - (n+m))) e))).andThen λv w=> .ok (.value v) w)
        (.bh (.slice st.next 0 (n+m) none te.size) del none (some (.cells (ol++nl) fz))):=by
   intro del fz ol nl hc ho sW NP hln;obtain⟨gL,e1,e2,_⟩:=vS (P:=P) hW hs hn (Za3 _) ho w.drew rfl;obtain⟨new,e3,e4,_⟩:=vS (P:=P) hW hu hm (Za3 _) sW w.drew rfl;obtain⟨zv,Ug,_,Fi⟩:=hzr w.drew;rw[rF]at e1;have af7:(Builtin.zeroCells zv.cells (grownCap w (n+m) bC e - (n+m))).toList.length=(grownCap w (n+m) bC e - (n+m))*te.size:=(by rw[afs];congr 1;have:=Fi.1;simp at this;omega);obtain⟨ρ',bF,jk,hE,hv⟩:=akX hW del fz e2 e4 NP hln af7 (hg bC) (e:=e) rfl;refine⟨_,_,_,ρ',?_,Yields.value _,bF,jk,hv,hE⟩;rw[Za7 hc];simp only[e1,e3,Ug,Result.andThen_ok,World.size_drew];congr 2;simp
 have hlu:∀nl,dy te.size m (λb=>st.heap.get b) u=some nl->m≠0->nl.length=m*te.size:=by
   intro nl sW hm0;obtain⟨_,_,_,h⟩:=vS (P:=P) hW hu hm (Za3 _) sW w rfl;rcases h with rfl|h
   . simp[eJ]at hm;omega
   . exact h
 have hls:∀ol,dy te.size n (λb=>st.heap.get b) s=some ol->ol.length=n*te.size:=by
   intro ol Hi;obtain⟨ys,_,Ac,h⟩:=vS (P:=P) hW hs hn (Za3 _) Hi w rfl;rcases h with rfl|h
   . simp[eJ]at hn;subst hn;simp[dy]at Hi;subst Hi;simp
   . exact h
 have hzero:m=0->aD ρ st.next.toNat C s xs->GN P ρ C st w ((if n+m<=bC then((Builtin.firstCells te.size m xu).run P w).andThen λnew w=>((match base with|some a=>storeCells (a.add (n*te.size)) new.toList|none=>pure ()).run P w).andThen λ_ w=> .ok (.slice base (n+m) bC) w
     else((Builtin.firstCells te.size n (.slice base n bC)).run P w.drew).andThen λgL w1=>((Builtin.firstCells te.size m xu).run P w1).andThen λnew w2=>((zeroValue e).run P w2).andThen λz w3=>
        .ok (.slice (some ⟨w3.heap.size,0,none⟩) (n+m) (grownCap w (n+m) bC e)) (w3.alloc (.cells (gL++new++Builtin.zeroCells z.cells (grownCap w (n+m) bC e - (n+m))) e))).andThen λv w=> .ok (.value v) w) (.val s):=by
   rintro rfl hsx;have hf:(Builtin.firstCells te.size 0 xu).run P w= .ok #[] w:=by
     unfold eJ at hm;split at hm<;>first|(cases hm;done)|skip
     .  rw[hu.jx];simp[Builtin.firstCells]
     .  obtain⟨_,_,he,_⟩:=hu.gM;rw[he];simp[Builtin.firstCells,loadCells,loadCellsFrom]
     .  obtain⟨_,_,_,he,_⟩:=hu.yK;rw[he];simp[Builtin.firstCells,loadCells,loadCellsFrom]
     .  obtain⟨bs,rfl,_⟩:=hu.fu;simp only[Builtin.firstCells,Sem.run_pure];congr 1;apply Zl9;simp
   rw[rF]at hsx;refine .pure (x:= .slice base n bC) ?_ hsx;rw[Zb3 (by omega),hf];cases base<;>simp[storeCells]
 split at hr<;>first|(cases hr;done)|skip
 . rename_i Di;simp only[H5]at hr;subst hr;exact hzero (Za6 Di) hs
 . rename_i Di;simp only[H5]at hr;subst hr;exact hzero (Za6 Di) hs
 . rename_i Di;simp only[H5]at hr;subst hr;exact hzero (Za6 Di) hs
 ·
   rename_i Di;have Di:=apc Di;(split at hr<;>first|(cases hr;done)|skip);rename_i new sW;simp only[H5]at hr;subst hr;have he:=hs.jx;rw[he]at rF;simp only[Value.slice.injEq]at rF;obtain⟨rfl,rfl,rfl⟩:=rF;have:=agJ none 0 [] new (by omega) rfl sW (by simp) (hlu new sW Di);simpa using this
 ·
   rename_i b off n' c es' Di;have Di:=apc Di;simp only[eJ,H5]at hn;subst hn;obtain⟨aa,cc,he,hlec,hcc,ha⟩:=hs.gM;rw[he]at rF;simp only[Value.slice.injEq]at rF;obtain⟨rfl,_,rfl⟩:=rF;have:=hcc c rfl;subst this;split at hr
   . rename_i Ag;have Ag:=Zb2 Ag;(split at hr<;>first|(cases hr;done)|skip);rename_i cs fz new hb sW;(split at hr<;>first|(cases hr;done)|skip);rename_i c1 c2 c3;have c1:=Zb2 c1;simp only[Zb6]at c2;have c2a:=Zb2 c2.1;have c2b:=Za6 c2.2;subst c2b;simp only[H5]at hr;subst hr;obtain⟨aV,rfl,hbound⟩:=ha (by omega);obtain⟨ys,e1,e2,_⟩:=vS (P:=P) hW hu hm (Za3 _) sW w rfl;have RZ:=hlu new sW Di;obtain⟨w2,e3,jk,hE⟩:=RY (P:=P) hW hb (by rw[RZ];rw[Zj3]at c1;omega) c2a c3 e2;refine⟨_,.slice (some ⟨(ρ b).aN,(ρ b).base+off,none⟩) (n'+m) c,w2,ρ,?_,Yields.value _,λ_ _=>rfl,jk,?_,hE⟩
     .  rw[Zb3 Ag,e1];simp only[Result.andThen_ok,uF];rw[Zj9,e3];rfl
     .  exact .slice _ _ _ _ _ _ _ Ag (λc hc=>by cases hc;rfl) (λ_=>⟨aV,rfl,hbound⟩) (λh=>by cases h)
   . rename_i Ag;have Ag:¬(n'+m<=c):=λh=>by rw[Nat.ble_eq_true_of_le h]at Ag;cases Ag
     (split at hr<;>first|(cases hr;done)|skip);rename_i gL new Hi sW;simp only[H5]at hr;subst hr;exact agJ none 0 gL new Ag Hi sW (hls gL Hi) (hlu new sW Di)
 ·
   rename_i b off n' es' Di;have Di:=apc Di;simp only[eJ,H5]at hn;subst hn;(split at hr<;>first|(cases hr;done)|skip);rename_i cs fz gL new hb Hi sW;(split at hr<;>first|(cases hr;done)|skip);rename_i c2 c3;simp only[Zb6]at c2;have c2a:=Zb2 c2.1;have c2b:=Za6 c2.2;subst c2b;simp only[H5]at hr;subst hr;by_cases Ag:n'+m<=bC
   ·
     obtain ⟨aa,cc,he,hlec,hcc,ha⟩:=hs.gM;rw[he]at rF;simp only[Value.slice.injEq]at rF;obtain⟨rfl,_,rfl⟩:=rF;obtain⟨aV,rfl,hbound⟩:=ha (by omega);obtain⟨ys,e1,e2,_⟩:=vS (P:=P) hW hu hm (Za3 _) sW w rfl;have RZ:=hlu new sW Di;have art:=hls gL Hi;obtain⟨Af,Hg,c,ce,fr,g1,g2,g3,g4,g5⟩:=hW.live b _ hb;have hmul:(n'+m)*te.size<=cc*te.size:=Zg8 _ Ag;have hmul2:(n'+m)*te.size=n'*te.size+m*te.size:=Zj3 _ _ _;have hyl:ys.length=m*te.size:=(by rw[<-e2.1,RZ]);have hold:aL ρ st.next.toNat C gL ((c.toList.drop ((ρ b).base+off)).take (n'*te.size)):=by
        simp only[dy]at Hi;split at Hi
        . rename_i hz0;have hz0:=Za6 hz0;simp only[H5]at Hi;subst Hi;rw[hz0];simpa using(aL.nil:aL ρ st.next.toNat C [] [])
        . rw[hb]at Hi;simp only at Hi;obtain⟨ho1,Wj⟩:=abN Hi;have h:=(g4.drop off).take (n'*te.size);rw[<-ho1]at h;have:List.take (n'*te.size) (List.drop off (List.take cs.length (List.drop (ρ b).base c.toList)))=(c.toList.drop ((ρ b).base+off)).take (n'*te.size):=by
            rw[Zn2,List.take_take,Zl1,Zk8 (by omega)]
          rw[this]at h;exact h
     obtain⟨w2,s1,s2,s3,s4,s5,s6,s7⟩:=xJ (P:=P) (ρ b).aN ce fr ys 0 ((ρ b).base+off+n'*te.size) c w g1 (by omega) (RX c3 e2) (λk hk uj=>by
        have:=g5 (k - (ρ b).base) (by omega) (by omega)
        rwa [show(ρ b).base+(k - (ρ b).base)=k from by omega]at this)
     simp only[Zg0]at s1 s2
     let ρ':Pos->Loc:=λq=>if q=st.next then⟨(ρ b).aN,(ρ b).base+off,(ρ b).size⟩else ρ q
     have bF:∀q:Pos,q.toNat<st.next.toNat->ρ' q=ρ q:=λq hq=>Za7 (λe=>by rw[e]at hq;omega)
     have ji:ρ' st.next=⟨(ρ b).aN,(ρ b).base+off,(ρ b).size⟩:=Zb3 rfl;have hcl:c.toList.length=c.size:=(by simp);have hWn:cq ρ' C (st.bh (some b) none (some (.cells (gL++new) (fz - off)))) w2:=by
        refine hW.akK (b0:=st.next) (x0:= .cells (gL++new) (fz - off)) (by rw[Pos.aC];omega) (by rw[Pos.aC];omega) (by rw[T.gH]) ?_ bF ?_ ?_ (by rw[ji,s3];exact Hg) (by omega) (λk hk uj=>s4 k (by rw[ji]at uj;exact uj))
        . intro q x hq hx;rw[T.bX _ (λe=>hq e.symm)]at hx;obtain⟨h1,h2⟩:=RW (some b) _ hx;refine⟨h1,?_⟩;rw[ji];exact λe=>h2 b rfl (hW.inj _ _ _ _ h1 hb e)
        . rw[ji];refine⟨_,ce,fr,s2,by simp[aU];omega,by simp[aU,art,RZ];omega,?_,λi sV hi=> ?_⟩
          . (simp only;rw[ZV _ _ _ _ (by omega)];have htk:(aU (c.toList.drop ((ρ b).base+off)) (n'*te.size) ys).take (gL++new).length=(c.toList.drop ((ρ b).base+off)).take (n'*te.size)++ys:=by unfold aU;rw[<-Zf2,Zq7];simp[art,RZ,hyl];omega);rw[htk];exact(hold.append e2).mono bF (by rw[Pos.aC];omega)
          . have hi':(ρ b).base+off+i<c.size:=(by simp only[Zn3]at hi;have:(aU c.toList ((ρ b).base+off+n'*te.size) ys).length=c.size:=(by simp[aU];omega);omega);have:=g5 (off+i) (by omega) (by omega);simp only
            rwa [<-Zj9]at this
        . intro ad v hv;rw[ji];exact λe=>(hW.eD ad v hv).2 b _ hb e.symm
     refine⟨_,(.slice (some ⟨(ρ b).aN,(ρ b).base+off,none⟩) (n'+m) cc),w2,ρ',?_,Yields.value _,bF,hWn,?_,⟨s5,s6,s7,by omega,λk _ hk=>s4 k (λe=>hk b _ hb e.symm),λq x hx=> ?_⟩⟩;rotate_left;rotate_left
     .  left;by_cases hq:q=st.next
        . exact⟨b,_,hb,by rw[hq,ji]⟩
        . simp only[St.bh,ON]at hx;rw[T.bX _ (λe=>hq e.symm)]at hx;obtain⟨h1,_⟩:=RW (some b) _ hx;exact⟨q,x,h1,by rw[bF q (hW.live q x h1).1]⟩
     .  rw[Zb3 Ag,e1];simp only[Result.andThen_ok,uF];rw[s1];rfl
     .  refine .slice _ _ _ _ _ _ _ Ag (λc hc=>by cases hc) (λ_=>⟨by simp[St.bh,Pos.aC],by rw[ji];rfl,?_⟩) (λ_=>by simp[St.bh,Pos.aC]);rw[ji];simp only;omega
   . exact agJ (some b) _ gL new Ag Hi sW (hls gL Hi) (hlu new sW Di)
end
section
variable{P : Program}{tt : TT}{ρ : Pos -> Loc}{C : Cells}{st : St}{w w' : World}
theorem abU{n:Nat}{xs:Array Value}{u v:AV}(h:aL ρ n C [u,v] xs.toList):∃x y,xs= #[x,y]/\aD ρ n C u x/\aD ρ n C v y:=by
 obtain⟨x,l,h1,h2,h3⟩:=h.cons_inv;obtain⟨y,l',h4,h5,h6⟩:=h3.cons_inv;have:=h6.qx;subst this;exact⟨x,y,by apply Zl9;rw[h1,h4],h2,h5⟩
theorem amT{n:Nat}{xs:Array Value}{u:AV}(h:aL ρ n C [u] xs.toList):∃x,xs= #[x]/\aD ρ n C u x:=by
 obtain⟨x,l,h1,h2,h3⟩:=h.cons_inv;have:=h3.qx;subst this;exact⟨x,by apply Zl9;rw[h1],h2⟩
theorem akZ{ts:Array TypeId}{t:TypeId}{l:List TypeId}(h:ts.toList=t::l):ts[0]? =some t:=by rw[<-Zj7,h];rfl
theorem arr1{ts:Array TypeId}{t t2:TypeId}{l:List TypeId}(h:ts.toList=t::t2::l):ts[1]? =some t2:=by rw[<-Zj7,h];rfl
theorem apd(hT:di P tt){t e:Nat}{ts:Array TypeId}{ti te:TI}(gI:tt.get (key t)=some ti)(hk:ti.k= .slice e)
   (oK:tt.get (key e)=some te) (h0:ts[0]? =some t) (ty:TypeId) {d u:AV} {xd xu:Value} {res:eI} (hW:cq ρ C st w)
   (hd:aD ρ st.next.toNat C d xd) (hu:aD ρ st.next.toNat C u xu) (hr:oX (λb=>st.heap.get b) st.next te.size [d,u]=some res):
   GN P ρ C st w (((Builtin.copy_ ts ty #[xd,xu]).run P w).andThen λv w=> .ok (.value v) w) res:=by
 obtain⟨dd,hdd,dM⟩:=(hT.at gI).und;rw[hk]at dM;rw[tP dM]at hdd;obtain⟨i0,sV,vz,_⟩:=(hT.at oK).info;simp only[oX]at hr;split at hr<;>first|(cases hr;done)|skip
 rename_i n m hn hm;have hlen:=agI (P:=P) (w:=w) hu hm;have hsl:(∃s,d= .str s)\/∃base bC,xd= .slice base n bC/\n<=bC:=by
   unfold eJ at hn;split at hn<;>first|(cases hn;done)|skip
   . cases hn;exact .inr ⟨none,0,hd.jx,Za3 _⟩
   . cases hn;obtain⟨a,c,he,hle,_⟩:=hd.gM;exact .inr ⟨_,c,he,hle⟩
   . cases hn;obtain⟨a,c,_,he,hle,_⟩:=hd.yK;exact .inr ⟨_,c,he,hle⟩
   . exact .inl ⟨_,rfl⟩
 have atF:m=0\/n=0->(Builtin.firstCells te.size 0 xu).run P w= .ok #[] w:=by
   intro _;unfold eJ at hm;split at hm<;>first|(cases hm;done)|skip
   . rw[hu.jx];simp[Builtin.firstCells]
   . obtain⟨_,_,he,_⟩:=hu.gM;rw[he];simp[Builtin.firstCells,loadCells,loadCellsFrom]
   . obtain⟨_,_,_,he,_⟩:=hu.yK;rw[he];simp[Builtin.firstCells,loadCells,loadCellsFrom]
   . obtain⟨bs,rfl,_⟩:=hu.fu;simp only[Builtin.firstCells,Sem.run_pure];congr 1;apply Zl9;simp
 have vw:∀base bC,xd= .slice base n bC->(Builtin.copy_ ts ty #[xd,xu]).run P w=((Builtin.firstCells te.size (Nat.min m n) xu).run P w).andThen λcells w=>((match base with|some a=>storeCells a cells.toList|none=>pure ()).run P w).andThen λ_ w=> .ok (goInt (Nat.min m n)) w:=by
   intro base bC he;unfold Builtin.copy_;simp only[h0,he,List.getElem?_toArray,Za4,Zb8,Sem.run_bind,bt hdd,Result.andThen_ok,mF sV,vz,hlen];cases base<;>simp only[Sem.run_bind,Sem.run_pure,Result.andThen_ok]
 split at hr
 . rename_i yN;have yN:=Za6 yN;(split at hr<;>first|(cases hr;done)|skip);rename_i hns;simp only[H5]at hr;subst hr;rcases hsl with⟨s,rfl⟩|⟨base,bC,he,hle⟩
   . exact absurd rfl (hns s)
   . have hk0':Nat.min m n=0:=yN;refine .pure (x:=goInt 0) ?_ (.int _ _);rw[vw base bC he,hk0',atF (by have:min m n=0:=yN;omega)];cases base<;>simp[storeCells]
 . rename_i yN;have yN:=Ze8 yN;(split at hr<;>first|(cases hr;done)|skip);rename_i b off n' cap es';(split at hr<;>first|(cases hr;done)|skip);rename_i cs fz new hb sW;(split at hr<;>first|(cases hr;done)|skip);rename_i c1 c2 c3;have c1:=Zb2 c1;have c2:=Zb2 c2;simp only[H5]at hr;subst hr;simp only[eJ,H5]at hn;subst hn;obtain⟨aa,bC,he,hle,_,ha⟩:=hd.gM;have ak0:min m n'<=m/\min m n'<=n':=⟨Nat.min_le_left _ _,Nat.min_le_right _ _⟩
   obtain⟨aV,rfl,_⟩:=ha (by omega);obtain⟨ys,e1,e2,e3⟩:=vS (P:=P) hW hu hm ak0.1 sW w rfl;have RZ:new.length=min m n'*te.size:=by
     rcases e3 with rfl|e3
     . simp[eJ]at hm;omega
     . exact e3
   obtain⟨w2,f1,jk,hE⟩:=RY (P:=P) hW hb (by rw[RZ];exact c1) c2 c3 e2;refine⟨_,goInt ((min m n':Nat):Int),w2,ρ,?_,Yields.value _,λ_ _=>rfl,jk,.int _ _,hE⟩;rw[vw _ _ he];have hmm:Nat.min m n'=min m n':=rfl;rw[hmm,e1];simp only[Result.andThen_ok];rw[f1];rfl
theorem arY(hT:di P tt){t:Nat}{ts:Array TypeId}{ti:TI}(gI:tt.get (key t)=some ti){k:LK}(hk:(k= .s/\ti.k= .string)\/(k= .l/\∃e,ti.k= .slice e)\/(k= .m/\∃a b,ti.k= .map a b))
   (h0:ts[0]? =some t) (ty:TypeId) {u:AV} {xu:Value} {res:eI} (hW:cq ρ C st w)
   (hu:aD ρ st.next.toNat C u xu) (hr:PO (λb=>st.heap.get b) st.next k [u]=some res):
   GN P ρ C st w (((Builtin.len_ ts ty #[xu]).run P w).andThen λv w=> .ok (.value v) w) res:=by
 obtain⟨d,hd,dM⟩:=(hT.at gI).und;have vw:∀x,xu=x->(Builtin.len_ ts ty #[xu]).run P w=(Builtin.len_ ts ty #[x]).run P w:=λx e=>by rw[e]
 simp only[PO]at hr;rcases hk with⟨rfl,hk⟩|⟨rfl,e,hk⟩|⟨rfl,a,b,hk⟩<;>rw[hk]at dM
 . rw[vu dM]at hd;(cases u<;>simp only[reduceCtorEq]at hr<;>first|(cases hr;done)|skip);simp only[H5]at hr;subst hr;obtain⟨bs,rfl,hs⟩:=hu.fu;exact .pure (x:=goInt bs.size) (by unfold Builtin.len_;simp[h0,bt hd]) (by rw[LB hs];exact .int _ _)
 . rw[tP dM]at hd;cases u<;>simp only[reduceCtorEq]at hr<;>first|(cases hr;done)|skip
   . simp only[H5]at hr;subst hr;rw[hu.jx];exact .pure (x:=goInt 0) (by unfold Builtin.len_;simp[h0,bt hd]) (.int _ _)
   . simp only[H5]at hr;subst hr;obtain⟨aa,c,he,_⟩:=hu.gM;rw[he];exact .pure (by unfold Builtin.len_;simp[h0,bt hd];rfl) (.int _ _)
   . simp only[H5]at hr;subst hr;obtain⟨aa,c,_,he,_⟩:=hu.yK;rw[he];exact .pure (by unfold Builtin.len_;simp[h0,bt hd];rfl) (.int _ _)
 . rw[VX dM]at hd;cases u<;>simp only[reduceCtorEq]at hr<;>first|(cases hr;done)|skip
   . simp only[H5]at hr;subst hr;rw[hu.FU];exact .pure (x:=goInt 0) (by unfold Builtin.len_;simp[h0,bt hd]) (.int _ _)
   . (split at hr<;>first|(cases hr;done)|skip);rename_i es c hb;simp only[H5]at hr;subst hr;obtain⟨_,he⟩:=hu.Cv;obtain⟨_,_,es',dY,hlen,_⟩:=hW.live _ _ hb;rw[he];exact .pure (x:=goInt es'.size) (by unfold Builtin.len_;simp[h0,bt hd,run_getObj_map dY]) (by rw[<-hlen];exact .int _ _)
theorem adt(z:Array Value)(m:Nat):(Builtin.zeroCells z m).toList=bU z.toList m:=by
 unfold Builtin.zeroCells;by_cases h:0<z.size
 . exact agG z m h
 . have h0:z.size=0:=(by omega);have:z= #[]:=Zo0 h0;subst this;have h1:bU ([]:List Value) m=[]:=Zc5 (by rw[lO];simp);simp[h1]
theorem amU(hT:di P tt){t e:Nat}{ts:Array TypeId}{ti te:TI}{z:List AV}(gI:tt.get (key t)=some ti)(hk:ti.k= .slice e)
   (oK:tt.get (key e)=some te) (hz:te.zero=some z) (h0:ts[0]? =some t) (ty:TypeId) {u:AV} {xu:Value} {res:eI} (hW:cq ρ C st w)
   (hu:aD ρ st.next.toNat C u xu) (hr:sP (λb=>st.heap.get b) st.next te.size z [u]=some res):
   GN P ρ C st w (((Builtin.clear_ ts ty #[xu]).run P w).andThen λv w=> .ok (.value v) w) res:=by
 obtain⟨dd,hdd,dM⟩:=(hT.at gI).und;rw[hk]at dM;rw[tP dM]at hdd;obtain⟨i0,sV,vz,_,NN⟩:=(hT.at oK).info;obtain⟨zv0,_,_,hzl,_⟩:=NN z hz;obtain⟨zv,Ug,_,Fi⟩:=FW hT oK hz (ρ:=ρ) (n:=st.next.toNat) (C:=C) w;simp only[sP]at hr;split at hr<;>first|(cases hr;done)|skip
 . simp only[H5]at hr;subst hr;rw[hu.jx];exact .pure (x:=undef) (by unfold Builtin.clear_;simp[h0,bt hdd];rfl) aD.FX
 . rename_i b off n cap es';obtain⟨aa,bC,he,hle,_,ha⟩:=hu.gM;rw[he];split at hr
   . rename_i Qg;have:=Za6 Qg;subst this;simp only[H5]at hr;subst hr;exact .pure (x:=undef) (by unfold Builtin.clear_;simp[h0,bt hdd];rfl) aD.FX
   . rename_i Qg;have Qg:=Ze8 Qg;(split at hr<;>first|(cases hr;done)|skip);rename_i cs fz hb;(split at hr<;>first|(cases hr;done)|skip);rename_i c1 c2 c3;have c1:=Zb2 c1;have c2:=Zb2 c2;simp only[H5]at hr;subst hr;obtain⟨_,rfl,_⟩:=ha (by omega);obtain⟨w2,f1,jk,hE⟩:=RY (P:=P) hW hb (vs:=bU z n) (ys:=bU zv.cells.toList n) (by rw[lO,hzl];exact c1) c2 c3 (OO Fi n);refine⟨_,undef,w2,ρ,?_,Yields.value _,λ_ _=>rfl,jk,aD.FX,hE⟩;unfold Builtin.clear_;cases n with
     |zero=>exact absurd rfl Qg
     |succ n=>simp[h0,bt hdd,Ug,adt,f1,undef]
theorem Qh(c:Call)(f:Operand)(hc:c.callee= .value f)(a:Act)(o:Oper)(ho:o.op= .call c){g:FuncId}{x y:Array Value}(he:a.eval f= .func (.func g) x y):
  (execOp a.eval o).run P w=(callFunc g (x++c.args.map a.eval++y)).run P w:=by
 simp[execOp,ho,resolve,hc,he,Deferred.ofValue,invoke]
theorem ape (hT:di P tt) (c:Call):fy P tt (.call c):=by
 intro ρ C st w k xs cls fr a o vs res ho hc hW hF hx hr;simp only[ku]at hc;split at hc<;>first|(cases hc;done)|skip
 rename_i l hl;split at hc<;>first|(cases hc;done)|skip
 ·
  rename_i g agK;cases hc;have hv:=iR hl hF hx;simp only[aF.run,aaK,H5]at hr;subst hr;refine⟨c.args.toList.map a.eval,?_,hv⟩;rw[Qh c _ agK a o ho (g:=g) (x:= #[]) (y:= #[]) rfl];congr 2;apply Zl9;simp
 ·
  rename_i f hnf agK;split at hc<;>first|(cases hc;done)|skip
  rename_i ao hao;cases hc;unfold fU at hx;split at hx<;>first|(cases hx;done)|skip
  rename_i fv hfv;split at hx<;>first|(cases hx;done)|skip
  rename_i vs' apf;simp only[H5]at hx;subst hx;have h1:=B4 hao hF hfv;have h2:=iR hl hF apf;simp only[aF.run,aaL]at hr;split at hr<;>first|(cases hr;done)|skip
  rename_i g first captured
  simp only[H5]at hr;subst hr;obtain⟨x,y,he,hx,hy⟩:=h1.RH;refine⟨x.toList++(c.args.toList.map a.eval++y.toList),?_,hx.append (h2.append hy)⟩;rw[Qh c f agK a o ho he];congr 2;apply Zl9;simp
 ·
  rename_i b agK;have hex:∀(s:Sem Value),(∀consts,builtin b c.argTypes o.type consts (c.args.map a.eval)=(do pure (.value (<-s))))->(execOp a.eval o).run P w=(s.run P w).andThen λv w=> .ok (.value v) w:=by intro s hs;simp only[execOp,ho,resolve,agK,pure_bind,invoke];rw[hs];simp
  split at hc<;>first|(cases hc;done)|skip
  ·
   (split at hc<;>first|(cases hc;done)|skip);rename_i t _ _ um;(split at hc<;>first|(cases hc;done)|skip);rename_i ti gI;have hv:=iR hl hF (vs:=vs) (by
        split at hc<;>first|(cases hc;done)|skip
        all_goals cases hc;exact hx)
   rw[oM] at hv;rw[hex (Builtin.len_ c.argTypes o.type (c.args.map a.eval)) (λ_=>rfl)];have hu:∃u,vs=[u]      :=by
        have h1:=hv.1;have h2:(c.args.toList).length=1:=by
         have: ∀{xs:List   Operand}{os:List ij},mE xs=some os->xs.length=os.length:=by
            intro xs;induction xs with
            |nil=>intro os h;simp[mE]at h;subst h;rfl
            |cons x xs ih=>intro os h;unfold mE at h;split at h<;>first|(cases h;done)|skip
                           rename_i e1 e2;simp only[H5]at h;subst h;simp[ih e2]
         rw[this hl];rfl
        match vs,h1 with
        |[u],_=>exact⟨u,rfl⟩
        |[],h1=>simp at h1 h2;omega
        |_::_::_,h1=>simp at h1 h2;omega
   obtain⟨u,rfl⟩:=hu;obtain⟨x,rF,hux⟩:=amT hv;rw[rF];split at hc<;>first|(cases hc;done)|skip
   all_goals
        rename_i hk;cases hc;simp only[aF.run]at hr;refine arY hT gI ?_ (akZ um) o.type hW hux hr
   .    exact .inl ⟨rfl,hk⟩
   .    exact .inr (.inl ⟨rfl,_,hk⟩)
   .    exact .inr (.inr ⟨rfl,_,_,hk⟩)
  ·
   (split at hc<;>first|(cases hc;done)|skip);rename_i t t2 _ um;(split at hc<;>first|(cases hc;done)|skip);rename_i ti t2i gI ht2;(split at hc<;>first|(cases hc;done)|skip);rename_i e hk uk _;(split at hc<;>first|(cases hc;done)|skip);rename_i te oK;(split at hc<;>first|(cases hc;done)|skip);rename_i z hz;cases hc;have hv:=iR hl hF hx;rw[oM]at hv;rw[hex (Builtin.append_ c.argTypes o.type (c.args.map a.eval)) (λ_=>rfl)];simp only[aF.run]at hr;have hu:∃s u,vs=[s,u]:=by
        unfold lK at hr;(split at hr<;>first|(cases hr;done)|skip);exact⟨_,_,rfl⟩
   obtain⟨s,u,rfl⟩:=hu;obtain⟨x,y,rF,h1,h2⟩:=abU hv;rw[rF];exact akY hT gI ht2 hk (λk hk=>uk k hk) oK hz (akZ um) (arr1 um) o.type hW h1 h2 hr
  ·
   (split at hc<;>first|(cases hc;done)|skip);rename_i t _ um;(split at hc<;>first|(cases hc;done)|skip);rename_i ti gI;(split at hc<;>first|(cases hc;done)|skip);rename_i e hk;(split at hc<;>first|(cases hc;done)|skip);rename_i te oK;cases hc;have hv:=iR hl hF hx;rw[oM]at hv;rw[hex (Builtin.copy_ c.argTypes o.type (c.args.map a.eval)) (λ_=>rfl)];simp only[aF.run]at hr;have hu:∃s u,vs=[s,u]:=by
        unfold oX at hr;(split at hr<;>first|(cases hr;done)|skip);exact⟨_,_,rfl⟩
   obtain⟨s,u,rfl⟩:=hu;obtain⟨x,y,rF,h1,h2⟩:=abU hv;rw[rF];exact apd hT gI hk oK (akZ um) o.type hW h1 h2 hr
  ·
   (split at hc<;>first|(cases hc;done)|skip);cases hc;have hv:=iR hl hF hx;rw[oM]at hv;rw[hex (Builtin.min_ c.argTypes o.type (c.args.map a.eval)) (λ_=>rfl)];simp only[aF.run]at hr;have hu:∃s u r,vs=[s,u]/\res= .val r:=by
        unfold La at hr;(split at hr<;>first|(cases hr;done)|skip);split at hr<;>first|(cases hr;done)|skip
        all_goals cases hr;exact⟨_,_,_,rfl,rfl⟩
   obtain⟨s,u,r,rfl,rfl⟩:=hu;obtain⟨x,y,rF,h1,h2⟩:=abU hv;obtain⟨z,hz,hvz⟩:=ao8 (P:=P) (w:=w) h1 h2 hr;rw[rF];refine .pure (x:=z) ?_ hvz;simp[Builtin.min_,hz]
  ·
   (split at hc<;>first|(cases hc;done)|skip);cases hc;have hv:=iR hl hF hx;rw[oM]at hv;rw[hex (Builtin.max_ c.argTypes o.type (c.args.map a.eval)) (λ_=>rfl)];simp only[aF.run]at hr;have hu:∃s u r,vs=[s,u]/\res= .val r:=by
        unfold Lb at hr;(split at hr<;>first|(cases hr;done)|skip);split at hr<;>first|(cases hr;done)|skip
        all_goals cases hr;exact⟨_,_,_,rfl,rfl⟩
   obtain⟨s,u,r,rfl,rfl⟩:=hu;obtain⟨x,y,rF,h1,h2⟩:=abU hv;obtain⟨z,hz,hvz⟩:=ao9 (P:=P) (w:=w) h1 h2 hr;rw[rF];refine .pure (x:=z) ?_ hvz;simp[Builtin.max_,hz]
  ·
   (split at hc<;>first|(cases hc;done)|skip);rename_i t _ um;(split at hc<;>first|(cases hc;done)|skip);rename_i ti gI;(split at hc<;>first|(cases hc;done)|skip);rename_i e hk;(split at hc<;>first|(cases hc;done)|skip);rename_i te oK;(split at hc<;>first|(cases hc;done)|skip);rename_i z hz;cases hc;have hv:=iR hl hF hx;rw[oM]at hv;rw[hex (Builtin.clear_ c.argTypes o.type (c.args.map a.eval)) (λ_=>rfl)];simp only[aF.run]at hr;have hu:∃u,vs=[u]:=by
        unfold sP at hr;(split at hr<;>first|(cases hr;done)|skip);exact⟨_,rfl⟩
   obtain⟨u,rfl⟩:=hu;obtain⟨x,rF,hux⟩:=amT hv;rw[rF];exact amU hT gI hk oK hz (akZ um) o.type hW hux hr
theorem YO(hT:di P tt)(op:Op):fy P tt op:=by
 cases op with
 |move x=>exact ao4 x
 |assign x=>exact akO x
 |pick c x y=>exact ao5 c x y
 |alloc t=>exact amQ hT t
 |box t x=>exact arW t x
 |build t ps=>exact amO hT t ps
 |buildSlice t n ps=>exact ads hT t n ps
 |insert t m k v=>exact abT hT _ t m k v (.inr rfl)
 |load t x=>exact ao7 hT t x
 |store t x y=>exact amS hT t x y
 |nilCheck x=>exact agD x
 |binOp op t x y yt=>exact amK hT op t x y yt
 |unOp op t x=>exact ao6 op t x
 |convert s d x=>exact ai9 hT s d x
 |makeInterface t x=>exact ai8 hT t x
 |makeFunc f x y=>exact akP f x y
 |makeMap t r=>exact amR t r hT
 |makeSlice t l c=>exact aja hT t l c
 |slice t x l h m=>exact amN hT t x l h m
 |fieldAddr t x f=>exact afq hT t x f
 |field t x f=>exact amL hT t x f
 |indexAddr t x i=>exact afr hT t x i
 |index t x i=>exact amM hT t x i
 |lookup t x i ok=>exact akS hT t x i ok
 |mapUpdate t m k v=>exact abT hT _ t m k v (.inl rfl)
 |extract x i=>exact ai7 x i
 |call c=>exact ape hT c
 |_=>intro ρ C st w k xs cls fr a o vs res ho hc;simp[ku]at hc
end
def Reaches(P:Program)(R:Value->World->Prop):Result Next->Prop
 | .ok (.value x) w'=>R x w'
 | .ok .skip w'=>R undef w'
 | .ok (.enter f args) w'=>Calls P f args w' λ| .returned v,w''=>R v w''|_,_=>False
 | .ok (.row row args) w'=>Rows P row args w' R
 |_=>False
theorem Reaches.mono{P:Program}{R R':Value->World->Prop}(h:∀x w,R x w->R' x w):∀{r:Result Next},Reaches P R r->Reaches P R' r
 | .ok (.value _) _,hr=>h _ _ hr
 | .ok .skip _,hr=>h _ _ hr
 | .ok (.enter _ _) _,hr=>Calls.mono hr λe w he=>by cases e<;>first|exact h _ _ he|exact he
 | .ok (.row _ _) _,hr=>Rows.mono hr h
theorem Reaches.upon{P:Program}{R:Value->World->Prop}{o:Oper}{a:Act}{K:Act->World->Prop}{Q:Exit->Act->World->Prop}{r:Result Next}
  (hr:Reaches P R r) (h:∀x w,R x w->K (a.put o.dst x) w):o.upon P a K Q r:=by
 cases r with
 |ok n w=>
  cases n<;>simp only[Reaches]at hr
  . exact h _ _ hr
  . exact h _ _ hr
  . exact Calls.mono hr λe w he=>by
        cases e with
        |returned v=>exact h _ _ he
        |panicked c=>exact he.elim
        |outgrown=>exact he.elim
  . exact Rows.mono hr λv w he=>h _ _ he
 |halt x w=>simp only[Reaches]at hr
def nS(ρ:Pos->Loc)(C:Cells)(st:St)(w:World)(v:AV)(st':St)(x:Value)(w':World):Prop:=
 ∃ρ',aD ρ' st'.next.toNat C v x/\(∀b:Pos,b.toNat<st.next.toNat->ρ' b=ρ b)/\st.next.toNat<=st'.next.toNat/\cq ρ' C st' w'/\qi ρ st w ρ' st' w'
def jd(P:Program)(C:Cells)(call:au):Prop:=
 ∀  (ρ:Pos->Loc)(st:St)(w:World)(f:FuncId)(args:List AV)(v:AV)(st':St)(cL:List Value),call f args st=some (v,st')->
    cq ρ C st w->aL ρ st.next.toNat C args cL->Reaches P (nS ρ C st w v st') ((callFunc f cL.toArray).run P w)
section
variable{P : Program}{tt : TT}{C : Cells}{call : au}
theorem St.R4(st:St)(del:Option Pos)(set:Option (Pos×AB))(new:Option AB):st.next.toNat<=(st.bh del set new).next.toNat:=by
 cases new with
 |none=>exact Za3 _
 |some x=>simp only[St.bh,Pos.aC];omega
theorem ZZ(hT:di P tt)(dG:jd P C call){ρ:Pos->Loc}{st st':St}{w:World}{k:aF}{xs:List ij}{cls:Cls}{fr:Fr}{a:Act}{o:Oper}{vs:List AV}{v:AV}
   (hc:ku tt o.op=some (k,xs,cls)) (hW:cq ρ C st w) (hF:kY ρ st.next.toNat C fr a.tmps) (hx:fU fr xs=some vs)
   (hs:cG call k vs st=some (v,st')):Reaches P (nS ρ C st w v st') ((execOp a.eval o).run P w):=by
 have H:=YO hT o.op ρ C st w k xs cls fr a o vs;unfold cG at hs;split at hs
 . rename_i u hr;simp only[H5,Zd1]at hs;obtain⟨rfl,rfl⟩:=hs;obtain⟨N,x,he,hy,hv⟩:=H _ rfl hc hW hF hx hr;have hp:nS ρ C st w u st x w:=⟨ρ,hv,λ_ _=>rfl,Za3 _,hW,qi.refl _ _ _⟩
   rw[he];rcases hy with rfl|⟨rfl,rfl⟩<;>exact hp
 . rename_i u del set new hr;simp only[H5,Zd1]at hs;obtain⟨rfl,rfl⟩:=hs;obtain⟨N,x,w',ρ',he,hy,bF,jk,hv,hE⟩:=H _ rfl hc hW hF hx hr;have hp:nS ρ C st w u (st.bh del set new) x w':=⟨ρ',hv,bF,St.R4 _ _ _ _,jk,hE⟩
   rw[he];rcases hy with rfl|⟨rfl,rfl⟩<;>exact hp
 . rename_i f args hr;obtain⟨cL,he,hv⟩:=H _ rfl hc hW hF hx hr;rw[he];exact dG ρ st w f args v st' cL hs hW hv
 . cases hs
structure zU(tt:TT)(nt:Nat)(ops:Array Oper)(o:Oper)(ao:bS):Prop where
 dst:ao.dst=o.dst.map key
 lt:∀d,o.dst=some d->d<nt
 guard:abK ops o.guard=some ao.guard
 op:(ku tt o.op=some (ao.k,ao.xs,ao.cls))\/(ao.k= .bad/\ao.cls= .bh)
theorem xD{nt:Nat}{ops:Array Oper}:∀{os:List Oper}{bs:List Nat}{l:List bS},uE tt nt ops os bs=some l->
  l.length=os.length/\∀(i:Nat)(o:Oper),os[i]? =some o->∃ao,l[i]? =some ao/\zU tt nt ops o ao/\ao.bZ=bs.getD i 0
 |[],bs,l,h=>by simp[uE]at h;subst h;exact⟨rfl,λi o ho=>by simp at ho⟩
 |o ::os,bs,l,h=>by
  unfold uE at h;split at h<;>first|(cases h;done)|skip
  rename_i g l' hg hl hd;obtain⟨h1,h2⟩:=xD hl;have aV:∀d,o.dst=some d->d<nt:=λd hdd=>by rw[hdd]at hd;simpa [uE.arn]using hd
  have hb:∀i,bs.tail.getD i 0=bs.getD (i+1) 0:=λi=>by cases bs<;>simp
  have yJ:bs.headD 0=bs.getD 0 0:=by cases bs<;>simp
  split at h
  . rename_i k xs cls hc;simp only[H5]at h;subst h;refine⟨by simp[h1],λi o' ho=> ?_⟩;cases i with
    |   zero=>
        simp at ho;subst ho;exact⟨_,rfl,⟨rfl,aV,hg,.inl hc⟩,yJ⟩
    |   succ i=>
        simp at ho;obtain⟨ao,h3,h4,h5⟩:=h2 i o' ho;exact⟨ao,by simpa using h3,h4,by rw[h5,hb]⟩
  . simp only[H5]at h;subst h;refine⟨by simp[h1],λi o' ho=> ?_⟩;cases i with
    |   zero=>
        simp at ho;subst ho;exact⟨_,rfl,⟨rfl,aV,hg,.inr ⟨rfl,rfl⟩⟩,yJ⟩
    |   succ i=>
        simp at ho;obtain⟨ao,h3,h4,h5⟩:=h2 i o' ho;exact⟨ao,by simpa using h3,h4,by rw[h5,hb]⟩
theorem LF{ops:Array Oper}{ρ:Pos->Loc}{n:Nat}{fr:Fr}{a:Act}{o:Oper}{g:Option (Pos×Bool)}{b:Bool}(hg:abK ops o.guard=some g)
   (hF:∀p v,fr.get p=some v->(∃q,g=some (p,q))->∃x,a.tmps[p.toNat - 1]? =some x/\aD ρ n C v x)
   (hw:cH fr g=some b):Region.wanted o (yielded ops a.tmps)=b:=by
 unfold Region.wanted;unfold abK at hg;split at hg
 . rename_i hn;simp only[H5]at hg;subst hg;simp only[cH,H5]at hw;subst hw;rw[hn]
 . rename_i j want hn;rw[hn];(split at hg<;>first|(cases hg;done)|skip);rename_i oj hj;(split at hg<;>first|(cases hg;done)|skip);rename_i d hd;simp only[H5]at hg;subst hg;simp only[cH]at hw;split at hw
   . rename_i u hu;simp only[H5]at hw;subst hw;obtain⟨x,hx,hv⟩:=hF _ _ hu ⟨_,rfl⟩;rw[iQ,Zh3]at hx;have:=hv.kZ;subst this;simp[yielded,hj,hd,hx]
   . rename_i l hu;simp only[H5]at hw;subst hw;obtain⟨x,hx,hv⟩:=hF _ _ hu ⟨_,rfl⟩;rw[iQ,Zh3]at hx;obtain⟨cs,rfl,_⟩:=hv.VV;simp[yielded,hj,hd,hx]
   . cases hw
theorem aD.aex{ρ:Pos->Loc}{n:Nat}:aD ρ n C AV.undef undef:= .tuple [] #[] rfl λ_ _ _ h=>by simp at h
theorem Act.ke(a:Act)(d:Option Tmp)(v:Value):(a.put d v).tmps.size=a.tmps.size:=by cases d<;>simp[Act.put]
theorem Act.mB(a:Act)(d:Option Tmp)(v:Value):(a.put d v).defers=a.defers:=by cases d<;>rfl
theorem kY.put{ρ:Pos->Loc}{n nt:Nat}{fr:Fr}{a:Act}{d:Option Tmp}{v:AV}{x:Value}(hF:kY ρ n C fr a.tmps)(hs:a.tmps.size=nt)
  (hd:∀e,d=some e->e<nt) (hv:aD ρ n C v x):kY ρ n C (eE fr (d.map key) v) (a.put d x).tmps:=by
 cases d with
 |none=>exact hF
 |some e=>
  have he:=hd e rfl;intro p u hp;simp only[Ze2,eE]at hp;simp only[Act.put];by_cases hpe:key e=p
  . subst hpe;rw[T.gH]at hp;simp only[H5]at hp;subst hp;refine⟨x,?_,hv⟩;rw[iQ,Zh3,Zp0];simp[hs,he]
  . rw[T.bX _ hpe]at hp;obtain⟨y,hy,hr⟩:=hF p u hp;refine⟨y,?_,hr⟩;rw[Zj6,hy];intro h;apply hpe;apply Pos.toNat_inj;rw[iQ];have:=p.toNat_pos;omega
theorem kY.mono{ρ ρ':Pos->Loc}{n n':Nat}{fr:Fr}{tmps:Array Value}(hF:kY ρ n C fr tmps)(bF:∀b:Pos,b.toNat<n->ρ' b=ρ b)(hn:n<=n'):kY ρ' n' C fr tmps:=
 λp v hp=>let⟨x,hx,hv⟩:=hF p v hp;⟨x,hx,hv.mono bF hn⟩
structure yO(nt:Nat)(ρ:Pos->Loc)(C:Cells)(fr:Fr)(st:St)(a:Act)(w:World):Prop where
 W:cq ρ C st w
 F:kY ρ st.next.toNat C fr a.tmps
 size:a.tmps.size=nt
 defers:a.defers=[]
def kP(nt:Nat)(ρ:Pos->Loc)(C:Cells)(st:St)(w:World)(bG:Fr)(st':St)(a':Act)(w':World):Prop:=
 ∃ρ',yO nt ρ' C bG st' a' w'/\(∀b:Pos,b.toNat<st.next.toNat->ρ' b=ρ b)/\st.next.toNat<=st'.next.toNat/\qi ρ st w ρ' st' w'
theorem kP.refl{nt:Nat}{ρ:Pos->Loc}{fr:Fr}{st:St}{a:Act}{w:World}(h:yO nt ρ C fr st a w):kP nt ρ C st w fr st a w:=
 ⟨ρ,h,λ_ _=>rfl,Za3 _,qi.refl _ _ _⟩
theorem kP.trans{nt:Nat}{ρ jY:Pos->Loc}{Ui:Fr}{st bw w7:St}{a2:Act}{w w1 w2:World}
  (h1:∀b:Pos,b.toNat<st.next.toNat->jY b=ρ b) (h2:st.next.toNat<=bw.next.toNat) (h3:qi ρ st w jY bw w1)
  (h:kP nt jY C bw w1 Ui w7 a2 w2):kP nt ρ C st w Ui w7 a2 w2:=by
 obtain⟨vq,k1,k2,k3,k4⟩:=h;exact⟨vq,k1,λb hb=>(k2 b (Zd0 hb h2)).trans (h1 b hb),Zb0 h2 k3,h3.trans k4⟩
theorem Reaches.bad{k:aF}{vs:List AV}{st:St}{r:AV×St}(hk:k= .bad)(h:cG call k vs st=some r):False:=by subst hk;simp[cG,aF.run]at h
theorem Dj(hT:di P tt)(dG:jd P C call){nt:Nat}{ops:Array Oper}{Q:Exit->Act->World->Prop}:∀(aos:List bS)(k:Nat)(fr bG:Fr)(st st':St)(ρ:Pos->Loc)(a:Act)(w:World),
  (∀(i:Nat)(ao:bS),aos[i]? =some ao->∃o,ops[k+i]? =some o/\zU tt nt ops o ao)->
  mD call aos fr st=some (bG,st')->yO nt ρ C fr st a w->(∀a' w',kP nt ρ C st w bG st' a' w'->Q .normal a' w')->wpOps P ops Q (List.range' k aos.length) a w
 |[],k,fr,bG,st,st',ρ,a,w,_,h,hS,hQ=>by
  simp only[mD,H5,Zd1]at h;obtain⟨rfl,rfl⟩:=h;exact hQ a w (kP.refl hS)
 |ao::aos,k,fr,bG,st,st',ρ,a,w,ho,h,hS,hQ=>by
  obtain⟨o,cF,hR⟩:=ho 0 ao rfl;rw[Zg0]at cF;have NQ:∀(i:Nat)(ao':bS),aos[i]? =some ao'->∃o,ops[k+1+i]? =some o/\zU tt nt ops o ao':=λi ao' hi=>by
    obtain⟨o',h1,h2⟩:=ho (i+1) ao' (by simpa using hi);exact⟨o',by rw[<-h1];congr 1;omega,h2⟩
  simp only[Zc9,Zp9,wpOps,cF];unfold mD at h;split at h
  . rename_i hw;rw[Zb3 (LF hR.guard (λp v hp _=>hS.F p v hp) hw)];(split at h<;>first|(cases h;done)|skip);rename_i vs Dg;(split at h<;>first|(cases h;done)|skip);rename_i v bw gJ;rcases hR.op with hc|⟨hk,_⟩
    .   have hr:=ZZ hT dG hc hS.W hS.F Dg gJ;refine .inl (hr.upon λx w1 hp=> ?_);obtain⟨jY,hv,h1,h2,hW1,hE⟩:=hp;rw[hR.dst]at h;refine Dj hT dG aos (k+1) _ bG bw st' jY _ w1 NQ h ⟨hW1,kY.put (hS.F.mono h1 h2) hS.size hR.lt hv,by rw[Act.ke];exact hS.size,by rw[Act.mB];exact hS.defers⟩ λa' w' hp=>hQ a' w' (kP.trans h1 h2 hE hp)
    .   exact(Reaches.bad hk gJ).elim
  . rename_i hw;rw[Za7 (by rw[LF hR.guard (λp v hp _=>hS.F p v hp) hw];simp)];rw[hR.dst]at h;exact Dj hT dG aos (k+1) _ bG st st' ρ _ w NQ h ⟨hS.W,kY.put hS.F hS.size hR.lt .aex,by rw[Act.ke];exact hS.size,by rw[Act.mB];exact hS.defers⟩ hQ
  . cases h
theorem R5{nt:Nat}{ops:Array Oper}{l:List bS}{bs:List Nat}(h:uE tt nt ops ops.toList bs=some l)(i:Nat)(ao:bS)(hi:l[i]? =some ao):
  ∃o,ops[i]? =some o/\zU tt nt ops o ao/\ao.bZ=bs.getD i 0:=by
 obtain⟨h1,h2⟩:=xD h;have aV:i<ops.toList.length:=by rw[<-h1];exact(Za1.1 hi).1
 obtain⟨ao',h3,h4,h5⟩:=h2 i _ (H0 aV);rw[hi]at h3;simp only[H5]at h3;subst h3;exact⟨_,by rw[<-Zj7];exact H0 aV,h4,h5⟩
theorem agL(hT:di P tt)(dG:jd P C call){nt id:Nat}{ops:Array Oper}{bs:List Nat}{l:List bS}{Q:Exit->Act->World->Prop}{fr bG:Fr}{st st':St}{ρ:Pos->Loc}{a:Act}{w:World}
  (hl:uE tt nt ops ops.toList bs=some l) (h:mD call l fr st=some (bG,st')) (hS:yO nt ρ C fr st a w)
  (hQ:∀a' w',kP nt ρ C st w bG st' a' w'->Q .normal a' w'):(Code.region id ops false).wp P Q a w:=by
 apply wp_region;have hlen:l.length=ops.size:=by rw[(xD hl).1,Zi6]
 rw[Zm0, <-hlen];exact Dj hT dG l 0 fr bG st st' ρ a w (λi ao hi=>by
  obtain⟨o,h1,h2,_⟩:=R5 hl i ao hi;exact⟨o,by rw[Zc3];exact h1,h2⟩) h hS hQ
end
section
variable{P : Program}{tt : TT}{C : Cells}{call : au}
def yP(P:Program)(tt:TT)(C:Cells)(call:au):Prop:=
 ∀  (nt id:Nat)(ops:Array Oper)(l:List bS)(Q:Exit->Act->World->Prop)(fr bG:Fr)(st st':St)(ρ:Pos->Loc)(a:Act)(w:World),
    uE tt nt ops ops.toList (agu ops.toList [])=some l->PW l.length 0 (BL (Ly 0 l) [])=true->ep call (BL (Ly 0 l) []) [] st.heap fr st=some (bG,st')->yO nt ρ C fr st a w->
    (∀a' w',kP nt ρ C st w bG st' a' w'->Q .normal a' w')->(Code.region id ops true).wp P Q a w
def Qi:oe->Exit
 | .normal=> .normal
 | .exit id=> .exit id
 | .ret=> .ret
def abV(P:Program)(tt:TT)(C:Cells)(call:au)(nt m:Nat):Prop:=
 ∀  (c:Code)(ac:AC)(fr bG:Fr)(st st':St)(ex:oe)(ρ:Pos->Loc)(a:Act)(w:World)(Q:Exit->Act->World->Prop),
    vQ tt nt c=some ac->exec call m ac fr st=some (ex,bG,st')->yO nt ρ C fr st a w->
    (∀a' w',kP nt ρ C st w bG st' a' w'->Q (Qi ex) a' w')->c.wp P Q a w
def abW(P:Program)(tt:TT)(C:Cells)(call:au)(nt m:Nat):Prop:=
 ∀  (c:Code)(ac:AC)(fr bG:Fr)(st st':St)(ex:oe)(ρ:Pos->Loc)(a:Act)(w:World)(Q:Exit->Act->World->Prop),
    vQ tt nt c=some ac->exec call m (.loop ac) fr st=some (ex,bG,st')->yO nt ρ C fr st a w->
    (∀a' w',kP nt ρ C st w bG st' a' w'->Q (Qi ex) a' w')->Code.rounds P c Q m a w
theorem aey{nt m:Nat}(LG:abV P tt C call nt m)(ihL:abW P tt C call nt m):abW P tt C call nt (m+1):=by
 intro c ac fr bG st st' ex ρ a w Q hc h hS hQ;simp only[exec,bE]at h;rw[rounds_succ];split at h
 . rename_i ff bw h1;(refine LG c ac fr ff st bw .normal ρ a w _ hc h1 hS λa1 w1 hp=> ?_);obtain⟨jY,Ah,k1,k2,k3⟩:=hp;exact ihL c ac ff bG bw st' ex jY a1 w1 Q hc h Ah λa2 w2 hp=>hQ a2 w2 (kP.trans k1 k2 k3 hp)
 . rename_i cZ;cases ex with
   |normal=>exact(cZ _ _ h).elim
   |exit id=>exact LG c ac fr bG st st' (.exit id) ρ a w _ hc h hS λa1 w1 hp=>hQ a1 w1 hp
   |ret=>exact LG c ac fr bG st st' .ret ρ a w _ hc h hS λa1 w1 hp=>hQ a1 w1 hp
theorem amV(hT:di P tt)(dG:jd P C call)(mh:yP P tt C call){nt m:Nat}(LG:abV P tt C call nt m)(ihL:abW P tt C call nt m):abV P tt C call nt (m+1):=by
 intro c ac fr bG st st' ex ρ a w Q hc h hS hQ;have auG:=aey LG ihL;unfold vQ at hc;split at hc<;>first|(cases hc;done)|skip
 . simp only[H5]at hc;subst hc;simp only[exec,bE,H5,Zd1]at h;obtain⟨rfl,rfl,rfl⟩:=h;exact wp_skip (hQ _ _ (kP.refl hS))
 . rename_i ix ops draw;(split at hc<;>first|(cases hc;done)|skip);rename_i l hl;split at hc
   . simp only[H5]at hc;subst hc;simp only[exec,bE]at h;(split at h<;>first|(cases h;done)|skip);rename_i ff bw h1;simp only[H5,Zd1]at h;obtain⟨rfl,rfl,rfl⟩:=h;exact agL hT dG hl h1 hS hQ
   . (split at hc<;>first|(cases hc;done)|skip);rename_i ht;simp only[H5]at hc;subst hc;simp only[exec,bE]at h;(split at h<;>first|(cases h;done)|skip);rename_i ff bw h1;simp only[H5,Zd1]at h;obtain⟨rfl,rfl,rfl⟩:=h;exact mh nt _ ops l Q fr ff st bw ρ a w hl ht h1 hS hQ
 . (split at hc<;>first|(cases hc;done)|skip);rename_i x y h1 h2;simp only[H5]at hc;subst hc;simp only[exec,bE]at h;apply wp_seq;split at h
   . rename_i ff bw h3;(refine LG _ _ fr ff st bw .normal ρ a w _ h1 h3 hS λa1 w1 hp=> ?_);obtain⟨jY,Ah,k1,k2,k3⟩:=hp;exact LG _ _ ff bG bw st' ex jY a1 w1 Q h2 h Ah λa2 w2 hp=>hQ a2 w2 (kP.trans k1 k2 k3 hp)
   . rename_i cZ;cases ex with
     |normal=>exact(cZ _ _ h).elim
     |exit id=>exact LG _ _ fr bG st st' (.exit id) ρ a w _ h1 h hS λa1 w1 hp=>hQ a1 w1 hp
     |ret=>exact LG _ _ fr bG st st' .ret ρ a w _ h1 h hS λa1 w1 hp=>hQ a1 w1 hp
 . (split at hc<;>first|(cases hc;done)|skip);rename_i x y z h1 h2 h3;simp only[H5]at hc;subst hc;simp only[exec,bE]at h;split at h
   . rename_i hx;exact wp_cond_true ((B4 h1 hS.F hx).kZ) (LG _ _ fr bG st st' ex ρ a w Q h2 h hS hQ)
   . rename_i hx;exact wp_cond_false ((B4 h1 hS.F hx).kZ) (LG _ _ fr bG st st' ex ρ a w Q h3 h hS hQ)
   . cases h
 . (split at hc<;>first|(cases hc;done)|skip);rename_i x h1;simp only[H5]at hc;subst hc;simp only[exec,bE]at h;apply wp_block;split at h
   . rename_i yd ff bw h2;split at h
     .  rename_i he;simp only[H5,Zd1]at h;obtain⟨rfl,rfl,rfl⟩:=h;have:=Za6 he;subst this;exact LG _ _ fr ff st bw (.exit yd) ρ a w _ h1 h2 hS λa1 w1 hp=>by simp only[Qi,Exit.inBlock,Zh7];exact hQ a1 w1 hp
     .  rename_i he;simp only[H5,Zd1]at h;obtain⟨rfl,rfl,rfl⟩:=h;have:=Ze8 he;exact LG _ _ fr ff st bw (.exit yd) ρ a w _ h1 h2 hS λa1 w1 hp=>by simp only[Qi,Exit.inBlock,Za7 this];exact hQ a1 w1 hp
   . rename_i cZ;cases ex with
     |normal=>exact LG _ _ fr bG st st' .normal ρ a w _ h1 h hS λa1 w1 hp=>hQ a1 w1 hp
     |exit id=>exact(cZ _ _ _ h).elim
     |ret=>exact LG _ _ fr bG st st' .ret ρ a w _ h1 h hS λa1 w1 hp=>hQ a1 w1 hp
 . (split at hc<;>first|(cases hc;done)|skip);rename_i x h1;simp only[H5]at hc;subst hc;exact wp_loop_rounds (m+1) (auG _ _ fr bG st st' ex ρ a w Q h1 h hS hQ)
 . simp only[H5]at hc;subst hc;simp only[exec,bE,H5,Zd1]at h;obtain⟨rfl,rfl,rfl⟩:=h;exact wp_exit (hQ _ _ (kP.refl hS))
 . simp only[H5]at hc;subst hc;simp only[exec,bE,H5,Zd1]at h;obtain⟨rfl,rfl,rfl⟩:=h;exact wp_ret (hQ _ _ (kP.refl hS))
 . simp only[H5]at hc;subst hc;simp[exec,bE,mD,cH,fU,cG,aF.run]at h
theorem Dk(hT:di P tt)(dG:jd P C call)(mh:yP P tt C call){nt:Nat}:∀m,abV P tt C call nt m/\abW P tt C call nt m
 |0=>⟨λc ac fr bG st st' ex ρ a w Q hc h=>by simp[exec]at h,λc ac fr bG st st' ex ρ a w Q hc h=>by simp[exec]at h⟩
 |m+1=>let⟨h1,h2⟩:=Dk hT dG mh m;⟨amV hT dG mh h1 h2,aey h1 h2⟩
def YP(tmps:Array Value):ResultVar->Sem Value
 | .tmp t=>pure (tmps.getD t undef)
 | .cell a t=>do loadVar t (<-asAddr (tmps.getD a undef))
theorem ak1(hT:di P tt){ρ:Pos->Loc}{st:St}{w:World}{fr:Fr}{a:Act}{x:Tmp}{t:TypeId}{ti:TI}{q v:AV}(gI:tt.get (key t)=some ti)
  (hW:cq ρ C st w) (hF:kY ρ st.next.toNat C fr a.tmps) (hq:fr.get (key x)=some q) (hr:(aF.load (De ti)).run (λb=>st.heap.get b) .h [q]=some (.val v)):
  ∃y,(YP a.tmps (.cell x t)).run P w= .ok y w/\aD ρ st.next.toNat C v y:=by
 have hc:ku tt (.load t (.tmp x))=some (.load (De ti),[.t (key x)],.read):=by simp[ku,gI,uD]
 have hx:fU fr [.t (key x)]=some [q]:=by simp[fU,He,hq]
 have oC:(aF.load (De ti)).run (λb=>st.heap.get b) st.next [q]=some (.val v):=hr;obtain⟨N,y,he,hy,hv⟩:=YO hT (.load t (.tmp x)) ρ C st w _ _ _ fr a { dst:=none,op:= .load t (.tmp x),type:=t,pos:=default,after:= #[],guard:=none } _ _ rfl hc hW hF hx oC;refine⟨y,?_,hv⟩;simp only[execOp,Instr.loadAt,Act.eval]at he;simp only[YP];obtain⟨z,hz,hzq⟩:=hF _ _ hq;rw[iQ,Zh3]at hz;have hzd:a.tmps.getD x undef=z:=by simp[Zl7,hz]
 rw[hzd]at he ⊢;have hp:∃ad,z= .pointer (some ad):=by
  simp only[aF.run,zP]at hr;split at hr<;>first|(cases hr;done)|skip
  . obtain⟨_,h⟩:=hzq.qy;exact⟨_,h⟩
  . obtain⟨_,_,_,_,h,_⟩:=hzq.P6;exact⟨_,h⟩
 obtain⟨ad,rfl⟩:=hp;simp only[Instr.sureAddr,asAddr,Sem.run_bind,Sem.run_pure,Result.andThen]at he ⊢;cases hl:(loadVar t ad).run P w with
 |ok u w1=>
  rw[hl]at he;simp at he;obtain⟨h1,h2⟩:=he;subst h2;rcases hy with hy|⟨hy,_⟩
  . rw[hy]at h1;simp at h1;rw[h1]
  . rw[hy]at h1;simp at h1
 |halt u w1=>rw[hl]at he;simp at he
theorem LJ(hT:di P tt){ρ:Pos->Loc}{st:St}{w:World}{fr:Fr}{a:Act}(hW:cq ρ C st w)(hF:kY ρ st.next.toNat C fr a.tmps):
   ∀(rs:List ResultVar)(ars:List PT)(vs:List AV),qG tt rs=some ars->gR (λb=>st.heap.get b) fr ars=some vs->
    ∃ys,(rs.mapM (YP a.tmps)).run P w= .ok ys w/\aL ρ st.next.toNat C vs ys
 | [],ars,vs,hc,hr=>by
   simp only[qG,H5]at hc;subst hc;simp only[gR,H5]at hr;subst hr;exact⟨[],by simp,aL.nil⟩
 | .tmp t::rs,ars,vs,hc,hr=>by
   simp only[qG]at hc;(split at hc<;>first|(cases hc;done)|skip);rename_i l hl;simp only[H5]at hc;subst hc;simp only[gR]at hr;(split at hr<;>first|(cases hr;done)|skip);rename_i v hv;(split at hr<;>first|(cases hr;done)|skip);rename_i us hus;simp only[H5]at hr;subst hr;obtain⟨ys,h1,h2⟩:=LJ hT hW hF rs l us hl hus;obtain⟨z,hz,hzq⟩:=hF _ _ hv;rw[iQ,Zh3]at hz;refine⟨z::ys,?_,aL.cons hzq h2⟩;simp[List.mapM_cons,YP,h1,Zl7,hz]
 | .cell x t::rs,ars,vs,hc,hr=>by
   simp only[qG]at hc;(split at hc<;>first|(cases hc;done)|skip);rename_i ti l hti hl;simp only[H5]at hc;subst hc;simp only[gR]at hr;(split at hr<;>first|(cases hr;done)|skip);rename_i q hq;(split at hr<;>first|(cases hr;done)|skip);rename_i v hv;(split at hr<;>first|(cases hr;done)|skip);rename_i us hus;simp only[H5]at hr;subst hr;obtain⟨ys,h1,h2⟩:=LJ hT hW hF rs l us hl hus;obtain⟨y,h3,h4⟩:=ak1 hT hti hW hF hq hv;refine⟨y::ys,?_,aL.cons h4 h2⟩;simp[List.mapM_cons,h1,h3]
theorem IE(hT:di P tt){ρ:Pos->Loc}{st:St}{w:World}{fr:Fr}{a:Act}{fn:Func}{ars:List PT}{vs:List AV}(hW:cq ρ C st w)(hF:kY ρ st.next.toNat C fr a.tmps)
  (hc:qG tt fn.results.toList=some ars) (hr:gR (λb=>st.heap.get b) fr ars=some vs):
  ∃y,(results fn a.tmps).run P w= .ok y w/\aD ρ st.next.toNat C (zQ vs) y:=by
 obtain⟨ys,h1,h2⟩:=LJ hT hW hF _ ars vs hc hr;have h3:(fn.results.mapM (YP a.tmps)).run P w= .ok ys.toArray w:=by
  rw[Array.mapM_eq_mapM_toList];simp[h1]
 have h4:(results fn a.tmps).run P w= .ok (if h:ys.toArray.size=1 then ys.toArray[0]else .tuple ys.toArray) w:=by
  have hfun:results fn a.tmps=(fn.results.mapM (YP a.tmps) >>= λvs=>pure (if h:vs.size=1 then vs[0]else .tuple vs)):=by unfold results;congr 2
  rw[hfun,Sem.run_bind,h3];simp
 refine⟨_,h4,?_⟩;cases vs with
 |nil=>have:=h2.qx;subst this;simp[zQ];exact .yH (by simpa using aL.nil)
 |cons v vs=>
  obtain⟨y,ys',rfl,hv,Dg⟩:=h2.cons_inv;cases vs with
  |nil=>have:=Dg.qx;subst this;simpa [zQ]using hv
  |cons v' vs'=>
   obtain⟨y',ys'',rfl,P9,apf⟩:=Dg.cons_inv;simp[zQ];exact .yH (by simpa using aL.cons hv (aL.cons P9 apf))
def GOk(P:Program)(tt:TT)(G:T dO):Prop:=
 ∀p F,G.get p=some F->∃fn,P.funcs[p.toNat - 1]? =some fn/\(fn.name== "runtime.NumGoroutine")=false/\akI tt fn=some F
def vU(P:Program)(C:Cells)(O:eV):Prop:=
 ∀  (f:FuncId)(s:List AV->St->Option (AV×St)),O f=some s->
    ∀(ρ:Pos->Loc)(st:St)(w:World)(args:List AV)(v:AV)(st':St)(cL:List Value),s args st=some (v,st')->
     cq ρ C st w->aL ρ st.next.toNat C args cL->Reaches P (nS ρ C st w v st') ((callFunc f cL.toArray).run P w)
theorem R6{ρ:Pos->Loc}{n:Nat}{tmps:Array Value}:∀(vs:List AV)(xs:List Value)(i:Nat)(fr:Fr),aL ρ n C vs xs->
  (∀(j:Nat)(x:Value),xs[j]? =some x->tmps[i+j]? =some x)->kY ρ n C fr tmps->kY ρ n C (params i vs fr) tmps
 |[],_,_,_,_,_,hF=>hF
 |v ::vs,xs,i,fr,h,hx,hF=>by
  obtain⟨x,Ct,rfl,hv,Dg⟩:=h.cons_inv;unfold params;refine R6 vs Ct (i+1) _ Dg (λj y hy=>by rw[<-hx (j+1) y (by simpa using hy)];congr 1;omega) λp u hp=> ?_
  by_cases hpe:key i=p
  . subst hpe;rw[T.gH]at hp;simp only[H5]at hp;subst hp;exact⟨x,by rw[iQ,Zh3];exact hx 0 x rfl,hv⟩
  . rw[T.bX _ hpe]at hp;exact hF p u hp
def yf(call:au)(m:Nat)(F:dO)(args:List AV)(st:St):Option (AV×St):=
 match Nat.beq args.length F.nparams with
 |  true=>match exec call m F.code (params 0 args .e) st with
    |some (.normal,fr,st')=>match gR (λb=>st'.heap.get b) fr F.results with
     |some vs=>some (zQ vs,st')
     |none=>none
    |some (.ret,fr,st')=>match gR (λb=>st'.heap.get b) fr F.results with
     |some vs=>some (zQ vs,st')
     |none=>none
    |_=>none
 |false=>none
theorem abX(hT:di P tt){G:T dO}(hG:GOk P tt G){call:au}(dG:jd P C call)(mh:yP P tt C call)(m:Nat){f:FuncId}{F:dO}(hF:G.get (key f)=some F)
   {ρ:Pos->Loc} {st:St} {w:World} {args:List AV} {v:AV} {st':St} {cL:List Value} (h:yf call m F args st=some (v,st')) (hW:cq ρ C st w) (yg:aL ρ st.next.toNat C args cL):
   Reaches P (nS ρ C st w v st') ((callFunc f cL.toArray).run P w):=by
 unfold yf at h;split at h<;>first|(cases h;done)|skip
 rename_i hlen;have hlen:=Za6 hlen;obtain⟨fn,Hj,pX,hcf⟩:=hG _ _ hF;rw[iQ,Zh3]at Hj;unfold akI at hcf;split at hcf<;>first|(cases hcf;done)|skip
 rename_i c hb;split at hcf<;>first|(cases hcf;done)|skip
 rename_i ac rs hac hrs hle;simp only[H5]at hcf;subst hcf;simp only at h hlen;have hle:=Zb2 hle;have dR:(callFunc f cL.toArray).run P w= .ok (.enter f cL.toArray) w:=by
   have agM:¬fn.name= "runtime.NumGoroutine" :=(by simpa using pX);simp[callFunc,Hj,agM,hb]
 rw[dR];simp only[Reaches];refine calls_of_wp Hj hb ?_;have gU:cL.length<=fn.ntmps:=by rw[<-yg.1,hlen];exact hle
 have hS:yO fn.ntmps ρ C (params 0 args .e) st { tmps:=cL.toArray++Array.replicate (fn.ntmps - cL.toArray.size) undef,defers:=[] } w:=by
   refine⟨hW,?_,?_,rfl⟩
   . refine R6 args cL 0 .e yg (λj x hx=> ?_) (λp v hp=>by rw[T.dP]at hp;cases hp);have hj:j<cL.length:=(Za1.1 hx).1;rw[Zc3,Zp5 (by simpa using hj)];simpa using hx
   . simp;omega
 split at h<;>first|(cases h;done)|skip
 . rename_i ff bw h1;(split at h<;>first|(cases h;done)|skip);rename_i vs Dg;simp only[H5,Zd1]at h;obtain⟨rfl,rfl⟩:=h;(refine(Dk hT dG mh m).1 c ac _ ff st bw .normal ρ _ w _ hac h1 hS λa' w' hp=> ?_);obtain⟨jY,Ah,k1,k2,k3⟩:=hp;obtain⟨y,V9,hy2⟩:=IE hT Ah.W Ah.F hrs Dg;exact⟨Ah.defers,y,V9,jY,hy2,k1,k2,Ah.W,k3⟩
 . rename_i ff bw h1;(split at h<;>first|(cases h;done)|skip);rename_i vs Dg;simp only[H5,Zd1]at h;obtain⟨rfl,rfl⟩:=h;(refine(Dk hT dG mh m).1 c ac _ ff st bw .ret ρ _ w _ hac h1 hS λa' w' hp=> ?_);obtain⟨jY,Ah,k1,k2,k3⟩:=hp;obtain⟨y,V9,hy2⟩:=IE hT Ah.W Ah.F hrs Dg;exact⟨Ah.defers,y,V9,jY,hy2,k1,k2,Ah.W,k3⟩
theorem Z0(hT:di P tt){O:eV}{G:T dO}(hO:vU P C O)(hG:GOk P tt G)(m:Nat)(mh:∀d,jd P C (uz O G m d)->yP P tt C (uz O G m d)):∀d,jd P C (uz O G m d)
 |0=>λρ st w f args v st' cL h=>by simp[uz]at h
 |d +1=>by
  intro ρ st w f args v st' cL h hW yg;have ih:=Z0 hT hO hG m mh d;unfold uz at h;split at h
  . rename_i s hs;exact hO f s hs ρ st w args v st' cL h hW yg
  . (split at h<;>first|(cases h;done)|skip);rename_i F hF;exact abX hT hG ih (mh _ ih) m hF h hW yg
end
end
end Go.Ai
