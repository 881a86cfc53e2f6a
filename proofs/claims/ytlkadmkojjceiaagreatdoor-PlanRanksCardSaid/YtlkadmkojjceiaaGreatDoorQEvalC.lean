/- Its operations, second part; regions. -/
import Derived.Test.YtlkadmkojjceiaaGreatDoorQEvalB
import Derived.Laws.IdiomStrings
import Derived.Laws.RangeString
import Derived.Lib.UnsafeStr
import Derived.LoopN
import Derived.LoopNIn
import Derived.OrdersIn
set_option linter.all false
namespace Go.Ai
section
open Go Go.RowKit
section
variable{P:Program}{tt:TT}{ρ:Pos->Loc}{C:Cells}{st:St}{w w':World}
theorem uq(del:Option Pos)(h:T AB){b:Pos}{x:AB}(hb:(Dk del h).get b=some x):h.get b=some x/\∀c,del=some c->b≠c:=by
 cases del with
 |none=>exact⟨hb,λ_ h=>by cases h⟩
 |some c=>
  by_cases he:c=b
  .subst he;simp only[Dk]at hb;rw[T.eH]at hb;cases hb
  .simp only[Dk]at hb;rw[T.bw _ he]at hb;exact⟨hb,λd hd=>by cases hd;exact λe=>he e.symm⟩
theorem tC(hW:aV ρ C st w){o:Obj}{x0:AB}{base size:Nat}(del:Option Pos)(hh:w'.heap=w.heap.push o)(h1:w'.os=w.os)(h2:w'.tape=w.tape)(h3:w'.output=w.output)
   (hB:∀ρ' n',(∀b:Pos,b.toNat<st.next.toNat->ρ' b=ρ b)->st.next.toNat<=n'->lH ρ' n' C ⟨w.heap.size,base,size⟩ w' x0):
   ∃ρ':Pos->Loc,(∀b:Pos,b.toNat<st.next.toNat->ρ' b=ρ b)/\ρ' st.next=⟨w.heap.size,base,size⟩/\aV ρ' C (st.aH del none (some x0)) w'/\jJ ρ st w ρ' (st.aH del none (some x0)) w':=by
 let ρ':Pos->Loc:=λb=>if b=st.next then⟨w.heap.size,base,size⟩else ρ b
 have aS:∀b:Pos,b.toNat<st.next.toNat->ρ' b=ρ b:=λb hb=>Za5 (λe=>by rw[e]at hb;omega)
 have ee:ρ' st.next=⟨w.heap.size,base,size⟩:=Za7 rfl;have fc:w'.heap.size=w.heap.size+1:=by rw[hh];simp
 have hold:∀k,k<w.heap.size->w'.heap[k]? =w.heap[k]? :=λk hk=>by rw[hh,Array.getElem?_push,Za5 (by omega)]
 refine⟨ρ',aS,ee,?_,⟨h1,h2,h3,by omega,λk hk _=>hold k hk,λb x hb=> ?_⟩⟩;rotate_left
 . by_cases he:b=st.next
   .right;rw[he,ee];exact Za6 _
   .left;simp only[St.aH,Fw]at hb;rw[T.bw _ (λe=>he e.symm)]at hb;have jK:=(uq del _ hb).1;exact⟨b,x,jK,by rw[aS b (hW.live b x jK).1]⟩
 refine hW.Xq (b0:=st.next) (x0:=x0) (by rw[Pos.az];omega) (by rw[Pos.az];omega) (by rw[T.eH]) ?_ aS (by rw[ee];exact hB _ _ aS (by rw[Pos.az];omega)) ?_ (by rw[ee,fc];simp) (by omega) (λk hk _=>hold k hk)
 .intro b x hb hx;rw[T.bw _ (λe=>hb e.symm)]at hx;have hx:=(uq del _ hx).1;refine⟨hx,?_⟩;rw[ee];have:=(hW.live b x hx).2.1;simp only;omega
 .intro a v ha;have:=World.block_lt_of_cell? _ _ (hW.dB a v ha).1;rw[ee];simp only;omega
theorem Nj(hW:aV ρ C st w){b:Pos}{x x0:AB}(hb:st.heap.get b=some x)(h1:w'.os=w.os)(h2:w'.tape=w.tape)(h3:w'.output=w.output)(fc:w'.heap.size=w.heap.size)
   (sN:∀k,k≠(ρ b).ax->w'.heap[k]? =w.heap[k]?) (hB:lH ρ st.next.toNat C (ρ b) w' x0):
   aV ρ C (st.aH none (some (b,x0)) none) w'/\jJ ρ st w ρ (st.aH none (some (b,x0)) none) w':=by
 obtain⟨aT,Nk,_⟩:=hW.live b x hb;refine⟨?_,⟨h1,h2,h3,by omega,λk _ hk=>sN k (λe=>hk b x hb e.symm),λc y hc=> ?_⟩⟩;rotate_left
 . left;by_cases he:c=b
   .exact⟨b,x,hb,by rw[he]⟩
   .simp only[St.aH,Fw,Dk]at hc;rw[T.bw _ (λe=>he e.symm)]at hc;exact⟨c,y,hc,rfl⟩
 refine hW.Xq (b0:=b) (x0:=x0) (Za6 _) aT (by simp only[Fw,Dk];rw[T.eH]) ?_ (λ_ _=>rfl) hB ?_ (by omega) (by omega) (λk _ hk=>sN k hk)
 .intro c y hc hy;simp only[Fw,Dk]at hy;rw[T.bw _ (λe=>hc e.symm)]at hy;exact⟨hy,λe=>hc (hW.inj _ _ _ _ hy hb e)⟩
 .exact λa v ha e=>(hW.dB a v ha).2 b x hb e.symm
theorem uL{cs:List AV}{c:Array Value}{e:TypeId}{fr:Nat×Nat}{g:Nat}{n:Nat}(hg:w'.heap[g]? =some (.cells c e fr))(hle:cs.length<=c.size)(hv:au ρ n C cs (c.toList.take cs.length))
  (hf:∀i,i<c.size->¬(fr.1<=i/\i<fr.2)):lH ρ n C ⟨g,0,c.size⟩ w' (.cells cs 0):=
 ⟨c,e,fr,hg,rfl,by simpa using hle,by simpa using hv,λi _ hi=>by simpa using hf i (by simpa using hi)⟩
theorem Zn(hT:bL P tt)(t:TypeId):cL P tt (.alloc t):=by
 intro ρ C st w k xs cls fr a o vs res ho hc hW hF hx hr;simp only[fL]at hc;split at hc<;>first|(cases hc;done)|skip
 rename_i ti cJ;split at hc<;>first|(cases hc;done)|skip
 rename_i z hz;split at hc
 . cases hc;simp only[dV,H4]at hx;subst hx;simp only[av.run,Cp,H4]at hr;subst hr;obtain⟨zv,xw,_,qI⟩:=qH hT cJ hz (ρ:=ρ) (n:=st.next.toNat) (C:=C) w;have hl:z.length=zv.cells.size:=(by simpa using qI.1);obtain⟨ρ',aS,ee,ey,hE⟩:=tC (w':=w.alloc (.cells zv.cells t)) (o:= .cells zv.cells t) (x0:= .typed t z) (base:=0) (size:=zv.cells.size) hW none rfl rfl rfl rfl (λρ' n' aS hn=>
     ⟨zv.cells,(0,0),by show(w.heap.push _)[w.heap.size]? =_;simp,rfl,by simp only[Zd9];omega,by rw[hl,Ze3,Zf3 (by simp)];exact qI.mono aS hn,λi _=>by simp,rfl⟩)
   refine⟨_,.pointer (some ⟨w.heap.size,0,none⟩),_,ρ',?_,Yields.value _,aS,ey,?_,hE⟩
   .simp[execOp,ho,Instr.alloc,xw,newVar,newRow]
   .have:=aj.ptr (ρ:=ρ') (n:=(st.aH none none (some (.typed t z))).next.toNat) (C:=C) st.next 0 (by simp[St.aH,Pos.az]);rw[ee]at this;simpa using this
 cases hc;simp only[dV,H4]at hx;subst hx;simp only[av.run,Fp,H4]at hr;subst hr;obtain⟨zv,xw,_,qI⟩:=qH hT cJ hz (ρ:=ρ) (n:=st.next.toNat) (C:=C) w;have hl:z.length=zv.cells.size:=by simpa using qI.1
 obtain⟨ρ',aS,ee,ey,hE⟩:=tC (w':=w.alloc (.cells zv.cells t)) (o:= .cells zv.cells t) (x0:= .cells z 0) (base:=0) (size:=zv.cells.size) hW none rfl rfl rfl rfl (λρ' n' aS hn=>
   uL (w':=w.alloc (.cells zv.cells t)) (e:=t) (fr:=(0,0)) (by show(w.heap.push _)[w.heap.size]? =_;simp) (by omega) (by rw[hl,Zf3 (by simp)];exact qI.mono aS hn) (λi _=>by simp))
 refine⟨_,.pointer (some ⟨w.heap.size,0,none⟩),_,ρ',?_,Yields.value _,aS,ey,?_,hE⟩
 .simp[execOp,ho,Instr.alloc,xw,newVar,newRow]
 .have:=aj.ptr (ρ:=ρ') (n:=(st.aH none none (some (.cells z 0))).next.toNat) (C:=C) st.next 0 (by simp[St.aH,Pos.az]);rw[ee]at this;simpa using this
theorem ada(t:TypeId)(x:Operand):cL P tt (.box t x):=by
 intro ρ C st w k xs cls fr a o vs res ho hc hW hF hx hr;simp only[fL]at hc;split at hc<;>first|(cases hc;done)|skip
 rename_i b hb;cases hc;obtain⟨v,rfl,hv⟩:=eX hb hF hx;simp only[av.run,MZ,H4]at hr;subst hr;have qI:=hv.cells;have hl:v.cells.length=(a.eval x).cells.size:=by simpa using qI.1
 obtain⟨ρ',aS,ee,ey,hE⟩:=tC (w':=w.alloc (.cells (a.eval x).cells t)) (o:= .cells (a.eval x).cells t) (x0:= .cells v.cells 0) (base:=0) (size:=(a.eval x).cells.size) hW none rfl rfl rfl rfl (λρ' n' aS hn=>
   uL (w':=w.alloc (.cells (a.eval x).cells t)) (e:=t) (fr:=(0,0)) (by show(w.heap.push _)[w.heap.size]? =_;simp) (by omega) (by rw[hl,Zf3 (by simp)];exact qI.mono aS hn) (λi _=>by simp))
 refine⟨_,.pointer (some ⟨w.heap.size,0,none⟩),_,ρ',?_,Yields.value _,aS,ey,?_,hE⟩
 .simp[execOp,ho,Instr.box,newVar,newRow]
 .have:=aj.ptr (ρ:=ρ') (n:=(st.aH none none (some (.cells v.cells 0))).next.toNat) (C:=C) st.next 0 (by simp[St.aH,Pos.az]);rw[ee]at this;simpa using this
theorem Dn{n:Nat}{z:List AV}{zs:List Value}(h:au ρ n C z zs):∀m,au ρ n C (bM z m) (bM zs m)
 |0=>au.nil
 |m+1=>h.append (Dn h m)
theorem iL{α:Type}(z:List α):∀m,(bM z m).length=m*z.length
 |0=>by simp[bM]
 |m+1=>by simp[bM,iL z m,Zi9,Nat.add_comm]
theorem KP{α:Type}(z:List α):∀(m i:Nat),i<m*z.length->(bM z m)[i]? =z[i % z.length]?
 |0,i,h=>by simp at h
 |m +1,i,h=>by
  simp only[bM];by_cases hi:i<z.length
  .rw[Zb7 hi,Zk2 hi]
  .have hi:z.length<=i:=(by omega);rw[Zc2 hi,KP z m _ (by rw[Zi9]at h;omega)];congr 1;rw[<-Zp0 hi]
theorem Sz(z:Array Value)(m:Nat)(hz:0<z.size):((Array.range (m*z.size)).map (z[· % z.size]!)).toList=bM z.toList m:=by
 apply Zi3;intro i;by_cases hi:i<m*z.size
 .rw[KP _ _ _ (by simpa using hi)];have aT:i % z.size<z.size:=Zi4 _ hz;simp[hi,aT]
 .rw[Zc0 (by simp;omega),Zc0 (by rw[iL];simp;omega)]
theorem yI{ρ':Pos->Loc}{b:Pos}{n g len es aJ size:Nat}{cap:Option Nat}(hb:b.toNat<n)(aS:ρ' b=⟨g,0,size⟩)(hl:len<=aJ)(hc:∀c,cap=some c->c=aJ)(hs:aJ*es<=size):
  aj ρ' n C (.slice b 0 len cap es) (.slice (some ⟨g,0,none⟩) len aJ):=
 .slice _ _ _ _ _ _ _ hl hc (λ_=>⟨hb,by rw[aS],by rw[aS];simpa using hs⟩) (λ_=>hb)
theorem Nl{z:List AV}{zv:Value}{n m size:Nat}(qI:au ρ n C z zv.cells.toList)(hl:z.length=size):
   au ρ n C (bM z m) ((Array.range (m*size)).map ((if m*size=0 then(#[]:Array Value)else zv.cells)[· % (if m*size=0 then(#[]:Array Value)else zv.cells).size]!)).toList/\
   ((Array.range (m*size)).map ((if m*size=0 then(#[]:Array Value)else zv.cells)[· % (if m*size=0 then(#[]:Array Value)else zv.cells).size]!)).size=m*size:=by
 refine⟨?_,by simp⟩;by_cases h0:m*size=0
 .have:bM z m=[]:=(by apply Zb2;rw[iL,hl];exact h0);rw[this];have:(Array.range (m*size))= #[]:=(by rw[h0];rfl);rw[this];simpa using(au.nil:au ρ n C [] [])
 . rw[Za5 h0];have VP:zv.cells.size=size:=(by have:=qI.1;simp at this;omega);have SA:0<zv.cells.size:=by
    rw[VP];rcases Zp1 size with h|h
    .rw[h]at h0;simp at h0
    .exact h
   have:=Sz zv.cells m SA;rw[VP]at this ⊢;rw[this];exact Dn qI m
theorem adb{k:IntKind}{i:Int}(h1:Qc k<=i)(h2:i<=Qd k):k.wrap i=i:=by
 rw[<-qG];unfold aq;split
 . split
   .rfl
   .exact absurd h2 (by assumption)
 .exact absurd h1 (by assumption)
theorem SB{j:Nat}(h:j<=9223372036854775807):IntKind.i64.wrap (j:Int)=(j:Int):=adb (by simp only[Qc];omega) (by simp only[Qd];omega)
theorem Vd(hT:bL P tt)(t:TypeId)(l c:Operand):cL P tt (.makeSlice t l c):=by
 intro ρ C st w k xs cls fr a o vs res ho hc hW hF hx hr;simp only[fL]at hc;split at hc<;>first|(cases hc;done)|skip
 rename_i ti l0 cJ hl;split at hc<;>first|(cases hc;done)|skip
 rename_i e hk;split at hc<;>first|(cases hc;done)|skip
 rename_i te fk;split at hc<;>first|(cases hc;done)|skip
 rename_i z hz;cases hc;obtain⟨d,hd,bY⟩:=(hT.at cJ).und;rw[hk]at bY;rw[lM bY]at hd;obtain⟨i0,k9,ke,hib,xq⟩:=(hT.at fk).info;obtain⟨u,v,rfl,h1,h2⟩:=OW hl hF hx;simp only[av.run,vt]at hr;split at hr<;>first|(cases hr;done)|skip
 rename_i jl jc hjl hjc;split at hr<;>first|(cases hr;done)|skip
 rename_i e1 e2 e3;have e1:=Za4 e1;have e2:=Za4 e2;have e3:=Za4 e3;simp only[H4]at hr;subst hr;obtain⟨kl,iY⟩:=jt h1 hjl;obtain⟨kc,VQ⟩:=jt h2 hjc;obtain⟨zv0,hzv0,_,Nm,_⟩:=xq z hz;obtain⟨zv,xw,_,qI⟩:=qH hT fk hz (ρ:=ρ) (n:=st.next.toNat) (C:=C) w;obtain⟨Ip,OY⟩:=Nl (m:=jc) qI Nm;generalize Dp:(Array.range (jc*te.size)).map ((if jc*te.size=0 then(#[]:Array Value)else zv.cells)[· % (if jc*te.size=0 then(#[]:Array Value)else zv.cells).size]!)=row at Ip OY;obtain⟨ρ',aS,ee,ey,hE⟩:=tC (w':=w.alloc (.cells row e)) (o:= .cells row e) (x0:= .cells (bM z jc) 0) (base:=0) (size:=row.size) hW none rfl rfl rfl rfl (λρ' n' aS hn=>
   uL (w':=w.alloc (.cells row e)) (e:=e) (fr:=(0,0)) (by show(w.heap.push _)[w.heap.size]? =_;simp) (by rw[iL,OY,Nm];exact Za6 _)
    (by rw[iL,Nm, <-OY, <-Zf6,Zi7];exact Ip.mono aS hn) (λi _=>by simp))
 refine⟨_,.slice (some ⟨w.heap.size,0,none⟩) jl jc,_,ρ',?_,Yields.value _,aS,ey,?_,hE⟩
 . have dc:=SB (Zc8 e1 e3);have nI:=SB e3;have hb:¬((te.bytes:Int)*(jc:Int)>2 ^ 48):=(by have h:=Int.ofNat_le.2 e2;rw[Zq3]at h;exact Int.not_lt.2 h);have b6:(Instr.makeSlice t (.int kl jl) (.int kc jc)).run P w= .ok (.slice (some ⟨w.heap.size,0,none⟩) jl jc) (w.alloc (.cells row e)):=by
    unfold Instr.makeSlice;simp only[Sem.run_bind,aO hd,Result.andThen_ok,asInt,asIntOf,Sem.run_pure,Sq k9,dc,nI,hib];have ae2:¬((decide ((jc:Int)<0)||decide ((te.bytes:Int)*(jc:Int)>2 ^ 48)||decide ((jl:Int)<0)||decide ((jl:Int)>(jc:Int)))=true):=by
        simp only[Zh3,Zd1];rintro(((h|h)|h)|h)
        .omega
        .exact hb h
        .omega
        .omega
    rw[Za5 ae2];simp only[Sem.run_bind,run_askRoom,Result.andThen_ok,ic k9,ke,Zm9];rw[<-Dp];by_cases h0:jc*te.size=0
    .   simp only[h0,Zg5,Sem.run_bind,Sem.run_pure,Result.andThen_ok,newRow,run_newObj,World.alloc_eq]
    .   simp only[h0,Zf9,Sem.run_bind,Sem.run_pure,Result.andThen_ok,xw,newRow,run_newObj,World.alloc_eq]
   simp[execOp,ho,iY,VQ,b6]
 .exact yI (by simp[St.aH,Pos.az]) ee e1 (λc hc=>by cases hc;rfl) (by rw[OY];exact Za6 _)
theorem OZ(hT:bL P tt)(t:TypeId)(len:Nat)(ps:Array (Nat×Operand)):cL P tt (.buildSlice t len ps):=by
 intro ρ C st w k xs cls fr a o vs res ho hc hW hF hx hr;simp only[fL]at hc;split at hc<;>first|(cases hc;done)|skip
 rename_i ti l0 cJ hl;split at hc<;>first|(cases hc;done)|skip
 rename_i e hk;split at hc<;>first|(cases hc;done)|skip
 rename_i te fk;split at hc<;>first|(cases hc;done)|skip
 rename_i z hz hlim;have hlim:=Za4 hlim;cases hc;obtain⟨d,hd,bY⟩:=(hT.at cJ).und;rw[hk]at bY;rw[lM bY]at hd;obtain⟨i0,k9,ke,hib,xq⟩:=(hT.at fk).info;have hv:=dQ hl hF hx;simp only[av.run,o9]at hr;split at hr<;>first|(cases hr;done)|skip
 rename_i cs Aj;simp only[H4]at hr;subst hr;obtain⟨zv0,hzv0,_,Nm,_⟩:=xq z hz;obtain⟨zv,xw,_,qI⟩:=qH hT fk hz (ρ:=ρ) (n:=st.next.toNat) (C:=C) w;obtain⟨Ip,OY⟩:=Nl (m:=len) qI Nm;generalize Dp:(Array.range (len*te.size)).map ((if len*te.size=0 then(#[]:Array Value)else zv.cells)[· % (if len*te.size=0 then(#[]:Array Value)else zv.cells).size]!)=row at Ip OY;have VO:(ps.map λ(i,x)=>(i,a.eval x)).toList=ps.toList.map λx=>(x.1,a.eval x.2):=by simp
 obtain⟨lf,e1,e2⟩:=L6 (λi=>some (i*te.size,te.size)) Aj Ip (ps:=ps.toList.map λx=>(x.1,a.eval x.2)) (by simpa [Zg4,Zj9]using hv) (by simp[Zg4,Zj9]);have hlen:cs.length=lf.size:=by simpa using e2.1
 have ae3:∀{pp:List (Nat×Nat)}{vs cells r:List AV},cj cells pp vs=some r->r.length=cells.length:=by
   intro pp;induction pp with
   |nil=>intro vs cells r h;unfold cj at h;split at h<;>first|(cases h;done)|(simp only[H4]at h;subst h;rfl)|(rename_i hh;cases hh)
   |cons p pp ih=>
    intro vs cells r h;unfold cj at h;(split at h<;>first|(cases h;done)|(rename_i hh;cases hh;done)|skip);rename_i hh;simp only[Zh2]at hh;obtain⟨rfl,rfl⟩:=hh;(split at h<;>first|(cases h;done)|skip);rename_i g1 g2;have g1:=Za1 g1;have g2:=Za4 g2;rw[ih h];simp[aF];omega
 have hcsl:=ae3 Aj;rw[iL,Nm]at hcsl;obtain⟨ρ',aS,ee,ey,hE⟩:=tC (w':=w.alloc (.cells lf e)) (o:= .cells lf e) (x0:= .cells cs 0) (base:=0) (size:=lf.size) hW none rfl rfl rfl rfl (λρ' n' aS hn=>
   uL (w':=w.alloc (.cells lf e)) (e:=e) (fr:=(0,0)) (by show(w.heap.push _)[w.heap.size]? =_;simp) (by omega)
    (by rw[hlen, <-Zf6,Zi7];exact e2.mono aS hn) (λi _=>by simp))
 refine⟨_,.slice (some ⟨w.heap.size,0,none⟩) len len,_,ρ',?_,Yields.value _,aS,ey,?_,hE⟩
 . have b6:(Instr.buildSlice t len (ps.map λ(i,x)=>(i,a.eval x))).run P w= .ok (.slice (some ⟨w.heap.size,0,none⟩) len len) (w.alloc (.cells lf e)):=by
    unfold Instr.buildSlice;simp only[Sem.run_bind,aO hd,Result.andThen_ok,ic k9,ke];rw[Za5 (by omega)];by_cases h0:len*te.size=0
    .   simp only[h0,Zg5,Sem.run_bind,Sem.run_pure,Result.andThen_ok];simp only[h0,Zg5]at Dp;rw[Dp,VO,e1];simp only[newRow,Sem.run_bind,run_newObj,World.alloc_eq,Result.andThen_ok,Sem.run_pure]
    .   simp only[h0,Zf9,Sem.run_bind,Sem.run_pure,Result.andThen_ok,xw];simp only[h0,Zf9]at Dp;rw[Dp,VO,e1];simp only[newRow,Sem.run_bind,run_newObj,World.alloc_eq,Result.andThen_ok,Sem.run_pure]
   simp only[execOp,ho,Sem.run_bind];rw[b6];rfl
 .exact yI (by simp[St.aH,Pos.az]) ee (Za6 _) (λc hc=>by cases hc;rfl) (by omega)
theorem Zo(t:TypeId)(r:Option Operand)(hT:bL P tt):cL P tt (.makeMap t r):=by
 intro ρ C st w k xs cls fr a o vs res ho hc hW hF hx hr;have key:k= .mkMap/\(execOp a.eval o).run P w= .ok (.value (.map (some w.heap.size))) (w.alloc (.map #[] 0)):=by
  simp only[fL]at hc;split at hc<;>first|(cases hc;done)|skip
  rename_i ti cJ;obtain⟨d,hd,bY⟩:=(hT.at cJ).und;split at hc<;>first|(cases hc;done)|skip
  .cases hc;exact⟨rfl,by simp[execOp,ho,Instr.makeMap]⟩
  .rename_i hk;rw[hk]at bY;rw[Ik bY]at hd;cases hc;exact⟨rfl,by simp[execOp,ho,Instr.makeMap,aO hd,Act.eval,asInt,asIntOf]⟩
 obtain⟨rfl,b6⟩:=key;simp only[av.run,Ft,H4]at hr;subst hr;obtain⟨ρ',aS,ee,ey,hE⟩:=tC (w':=w.alloc (.map #[] 0)) (o:= .map #[] 0) (x0:= .map [] 0) (base:=0) (size:=0) hW none rfl rfl rfl rfl (λρ' n' aS hn=>
  ⟨#[],by show(w.heap.push _)[w.heap.size]? =_;simp,rfl,λi e e' h=>by simp at h⟩)
 refine⟨_,_,_,ρ',b6,Yields.value _,aS,ey,?_,hE⟩;have:=aj.map (ρ:=ρ') (n:=(st.aH none none (some (.map [] 0))).next.toNat) (C:=C) st.next (by simp[St.aH,Pos.az]);rw[ee]at this;exact this
theorem Xy(hT:bL P tt)(t:TypeId)(x:Operand):cL P tt (.range t x):=by
 intro ρ C st w k xs cls fr a o vs res ho hc hW hF hx hr;simp only[fL]at hc;split at hc<;>first|(cases hc;done)|skip
 rename_i ti b cJ hb;split at hc<;>first|(cases hc;done)|skip
 rename_i hk;cases hc;obtain⟨d,hd,bY⟩:=(hT.at cJ).und;rw[hk]at bY;rw[kY bY]at hd;obtain⟨v,rfl,hv⟩:=eX hb hF hx;simp only[av.run,Co]at hr;split at hr<;>first|(cases hr;done)|skip
 rename_i s;simp only[H4]at hr;subst hr;obtain⟨bs,he,hs⟩:=hv.dX;obtain⟨ρ',aS,ee,ey,hE⟩:=tC (w':=w.alloc (.stringIter bs 0)) (o:= .stringIter bs 0) (x0:= .jq s 0) (base:=0) (size:=0) hW none rfl rfl rfl rfl (λρ' n' aS hn=>
   ⟨bs,by show(w.heap.push _)[w.heap.size]? =_;simp,hs,rfl⟩)
 refine⟨_,.pointer (some ⟨w.heap.size,0,none⟩),_,ρ',?_,Yields.value _,aS,ey,?_,hE⟩
 .simp[execOp,ho,he,Instr.range,aO hd]
 .have:=aj.ptr (ρ:=ρ') (n:=(st.aH none none (some (.jq s 0))).next.toNat) (C:=C) st.next 0 (by simp[St.aH,Pos.az]);rw[ee]at this;simpa using this
theorem Rx(hT:bL P tt)(src dst:TypeId)(x:Operand)(hb:∃xs cls,fL tt (.convert src dst x)=some (.conv .bytes,xs,cls)):cL P tt (.convert src dst x):=by
 intro ρ C st w k xs cls fr a o vs res ho hc hW hF hx hr;obtain⟨_,_,jK⟩:=hb;rw[hc]at jK;simp only[H4,Zb6]at jK;obtain⟨rfl,_⟩:=jK;simp only[fL]at hc;split at hc<;>first|(cases hc;done)|skip
 rename_i s d b hs hd hb;obtain⟨ds,sg,zI⟩:=(hT.at hs).und;obtain⟨dd,hdd,bY⟩:=(hT.at hd).und;split at hc<;>first|(cases hc;done)|skip
 . rename_i e h1 h2;(split at hc<;>first|(cases hc;done)|skip);rename_i te fk;(split at hc<;>first|(cases hc;done)|skip);rename_i Zi;cases hc;rw[h1]at zI;rw[h2]at bY;rw[kY zI]at sg;rw[lM bY]at hdd;obtain⟨de,Zj,Zk⟩:=(hT.at fk).und;rw[Zi]at Zk;rw[D4 Zk]at Zj;obtain⟨v,rfl,hv⟩:=eX hb hF hx;simp only[av.run,uF]at hr;split at hr<;>first|(cases hr;done)|(rename_i heq;cases heq;done)|(rename_i heq;cases heq)
   (rename_i u;simp only[H4]at hr;subst hr;obtain⟨bs,he,hs⟩:=hv.dX;have b6:=run_bytes_of_string (P:=P) w src dst e bs sg hdd Zj;have OX:bs.size<=grownCap w bs.size 0 e:=(by unfold grownCap Question.cut;exact Zn8 _ _);generalize grownCap w bs.size 0 e=cap at b6 OX;have fc:(bytesRow bs cap).size=cap:=by have:bs.data.size=bs.size:=rfl;simp[bytesRow,this];omega);have hul:u.length=bs.size:=(uo hs).symm;have hrel:∀ρ' n',au ρ' n' C (u.map λc=>AV.int .u8 (.ofNat c)) ((bytesRow bs cap).toList.take (u.map λc=>AV.int .u8 (.ofNat c)).length):=by
     (intro ρ' n';have h1:(bytesRow bs cap).toList.take (u.map λc=>AV.int .u8 (.ofNat c)).length=u.map λc=>Value.int .u8 (.ofNat c):=by have hdl:bs.data.toList.length=bs.size:=(by simp);rw[Za9,hul];simp only[bytesRow,Array.toList_append,Zp7];rw[Zk6 (by simp), <-hs,Zg4];rfl);rw[h1];refine⟨by simp,λi v x hv hx=> ?_⟩;simp only[Zc1,Ze1]at hv hx;obtain⟨c,hc,rfl⟩:=hv;obtain⟨c',tD,rfl⟩:=hx;rw[hc]at tD;cases tD;exact .int _ _
   obtain⟨ρ',aS,ee,ey,hE⟩:=tC (w':=w.drew.alloc (.cells (bytesRow bs cap) e ((bytesRow bs cap).size,(bytesRow bs cap).size+1))) (o:= .cells (bytesRow bs cap) e ((bytesRow bs cap).size,(bytesRow bs cap).size+1))
     (x0:= .cells (u.map λc=>AV.int .u8 (.ofNat c)) 0) (base:=0) (size:=(bytesRow bs cap).size) hW none rfl rfl rfl rfl (λρ' n' aS hn=>
     uL (e:=e) (fr:=((bytesRow bs cap).size,(bytesRow bs cap).size+1)) (by show(w.heap.push _)[w.heap.size]? =_;simp) (by rw[Za9,hul,fc];exact OX) (hrel _ _) (λi hi=>by simp;omega))
   refine⟨_,.slice (some ⟨w.heap.size,0,none⟩) u.length cap,_,ρ',?_,Yields.value _,aS,ey,?_,hE⟩
   .simp only[execOp,ho,he,Sem.run_bind];rw[b6,hul];rfl
   .exact yI (by simp[St.aH,Pos.az]) ee (by omega) (λc hc=>by cases hc) (by omega)
 all_goals
   repeat' split at hc
   all_goals (cases hc;done)
end
section
variable{P:Program}{tt:TT}{ρ:Pos->Loc}{C:Cells}{st:St}{w w':World}
theorem vF{n:Nat}:∀{l:List AV}{ys:List Value},aL l=true->au ρ n C l ys->∀y∈ys,y.oneCell'=true
 |[],ys,_,h=>by have:=h.mB;subst this;simp
 |v::l,ys,h1,h=>by
  unfold aL at h1;split at h1<;>first|(cases h1;done)|skip
  rename_i ho;obtain⟨y,ys',rfl,hv,hs⟩:=h.cons_inv;intro z hz;simp at hz;rcases hz with rfl|hz
  .cases hv<;>first|rfl|(simp[AV.one]at ho;done)
  .exact vF h1 hs z hz
theorem Ak{α:Type}(l:List α){i:Nat}(vs:List α)(hi:i<=l.length)(k:Nat):(aF l i vs)[k]? =if k<i then l[k]? else if k<i+vs.length then vs[k - i]? else l[k]? :=by
 unfold aF;have hl:(l.take i).length=i:=by simp;omega
 split
 .rename_i h;rw[Zb7 (by omega),Zb8,Za7 h]
 . rename_i h;rw[Zc2 (by omega),hl];split
   .rename_i h';rw[Zb7 (by omega)]
   .rename_i h';rw[Zc2 (by omega),Zc5];congr 1;omega
theorem Dq{α:Type}(l:List α)(b off:Nat)(vs:List α)(h:b+off<=l.length):(aF l (b+off) vs).drop b=aF (l.drop b) off vs:=by
 apply Zi3;intro k;rw[Zc5,Ak l vs h,Ak (l.drop b) vs (by simp;omega),Zc5];by_cases h1:k<off
 .rw[Za7 (by omega),Za7 h1]
 . rw[Za5 (by omega),Za5 h1];by_cases h2:k<off+vs.length
   .rw[Za7 (by omega),Za7 h2];congr 1;omega
   .rw[Za5 (by omega),Za5 h2]
theorem KQ{α:Type}(l:List α)(off m:Nat)(vs:List α)(h:off+vs.length<=m)(h':m<=l.length):(aF l off vs).take m=aF (l.take m) off vs:=by
 apply Zi3;intro k;rw[Zb8,Ak l vs (by omega),Ak (l.take m) vs (by simp;omega),Zb8];by_cases h1:k<off
 .rw[Za7 (by omega),Za7 h1,Za7 h1,Za7 (by omega)]
 . by_cases h2:k<off+vs.length
   .rw[Za7 (by omega),Za5 h1,Za7 h2,Za5 h1,Za7 h2]
   .rw[Za5 h1,Za5 h2,Za5 h1,Za5 h2]
theorem FE(hW:aV ρ C st w){b:Pos}{cs vs:List AV}{fz off:Nat}{ys:List Value}(hb:st.heap.get b=some (.cells cs fz))(hle:off+vs.length<=cs.length)(Zb:fz<=off)
   (h1:aL vs=true) (hv:au ρ st.next.toNat C vs ys):
   ∃w',(storeCells ⟨(ρ b).ax,(ρ b).base+off,none⟩ ys).run P w= .ok () w'/\aV ρ C (st.aH none (some (b,.cells (aF cs off vs) fz)) none) w'/\jJ ρ st w ρ (st.aH none (some (b,.cells (aF cs off vs) fz)) none) w':=by
 obtain⟨_,_,c,e,fr,g1,g2,g3,g4,g5⟩:=hW.live b _ hb;have hl:vs.length=ys.length:=hv.1;obtain⟨w',e1,e2,e3,e4,e5,e6,e7⟩:=jU (P:=P) (ρ b).ax e fr ys 0 ((ρ b).base+off) c w g1 (by omega) (vF h1 hv) (λk hk kA=>by
   have:=g5 (k - (ρ b).base) (by omega) (by omega)
   rwa [show(ρ b).base+(k - (ρ b).base)=k from by omega]at this)
 simp only[Zh5]at e1 e2;refine⟨w',e1,?_⟩;have hlen:(aF cs off vs).length=cs.length:=by simp[aF];omega
 refine Nj hW hb e5 e6 e7 e3 e4 ⟨_,e,fr,e2,?_,?_,?_,λi hi KR=>g5 i hi ?_⟩
 .simp[aF];omega
 .rw[hlen];simp[aF];omega
 .rw[hlen];rw[Dq _ _ _ _ (by simp;omega),KQ _ _ _ _ (by omega) (by simp;omega)];exact g4.aF hv off
 .simp[aF]at KR;omega
theorem Zp(hW:aV ρ C st w){b:Pos}{cs vs:List AV}{t:TypeId}{off:Nat}{ys:List Value}(hb:st.heap.get b=some (.typed t cs))(hle:off+vs.length<=cs.length)
   (h1:aL vs=true) (hv:au ρ st.next.toNat C vs ys):
   ∃w',(storeCells ⟨(ρ b).ax,(ρ b).base+off,none⟩ ys).run P w= .ok () w'/\aV ρ C (st.aH none (some (b,.typed t (aF cs off vs))) none) w'/\jJ ρ st w ρ (st.aH none (some (b,.typed t (aF cs off vs))) none) w':=by
 obtain⟨_,_,c,fr,g1,g2,g3,g4,g5,g6⟩:=hW.live b _ hb;have hl:vs.length=ys.length:=hv.1;obtain⟨w',e1,e2,e3,e4,e5,e6,e7⟩:=jU (P:=P) (ρ b).ax t fr ys 0 ((ρ b).base+off) c w g1 (by omega) (vF h1 hv) (λk hk kA=>by
   have:=g5 (k - (ρ b).base) (by omega) (by omega)
   rwa [show(ρ b).base+(k - (ρ b).base)=k from by omega]at this)
 simp only[Zh5]at e1 e2;refine⟨w',e1,?_⟩;have hlen:(aF cs off vs).length=cs.length:=by simp[aF];omega
 refine Nj hW hb e5 e6 e7 e3 e4 ⟨_,fr,e2,?_,?_,?_,λi hi KR=>g5 i hi ?_,g6⟩
 .simp[aF];omega
 .rw[hlen];simp[aF];omega
 .rw[hlen];rw[Dq _ _ _ _ (by simp;omega),KQ _ _ _ _ (by omega) (by simp;omega)];exact g4.aF hv off
 .simp[aF]at KR;omega
theorem aj.ur{n:Nat}:aj ρ n C .undef undef:= .tuple [] #[] rfl (λ_ _ _ h=>by simp at h)
theorem Zq(hT:bL P tt)(t:TypeId)(x y:Operand):cL P tt (.store t x y):=by
 intro ρ C st w k xs cls fr a o vs res ho hc hW hF hx hr;simp only[fL]at hc;split at hc<;>first|(cases hc;done)|skip
 rename_i ti l cJ hl;cases hc;obtain⟨p,v,rfl,h1,h2⟩:=OW hl hF hx;obtain⟨i0,k9,ke,_⟩:=(hT.at cJ).info;simp only[av.run,AZ]at hr;split at hr<;>first|(cases hr;done)|skip
 rename_i b off;split at hr<;>first|(cases hr;done)|skip
 rotate_left
 .rename_i t0 cs hb;(split at hr<;>first|(cases hr;done)|skip);rename_i e1 e2 e4;have e1:=Za1 e1;have e2:=Za4 e2;simp only[H4]at hr;subst hr;obtain⟨_,he⟩:=h1.e9;have hc:=h2.cells;obtain⟨w',b6,ey,hE⟩:=Zp (P:=P) (vs:=v.cells) (off:=off) hW hb (by omega) e4 hc;refine⟨.skip,undef,w',ρ,?_,.inr ⟨rfl,rfl⟩,λ_ _=>rfl,ey,aj.ur,hE⟩;have fc:(a.eval y).cells.size=ti.size:=(by have:=hc.1;simp at this;omega);simp[execOp,ho,he,Instr.storeAt,Instr.sureAddr,storeVar,ic k9,ke,fc,b6]
 rename_i cs fz hb;split at hr<;>first|(cases hr;done)|skip
 rename_i e1 e2 e3 e4;have e1:=Za1 e1;have e2:=Za4 e2;have e3:=Za4 e3;simp only[H4]at hr;subst hr;obtain⟨_,he⟩:=h1.e9;have hc:=h2.cells;obtain⟨w',b6,ey,hE⟩:=FE (P:=P) hW hb (by omega) e3 e4 hc;refine⟨.skip,undef,w',ρ,?_,.inr ⟨rfl,rfl⟩,λ_ _=>rfl,ey,aj.ur,hE⟩;have fc:(a.eval y).cells.size=ti.size:=by have:=hc.1;simp at this;omega
 simp[execOp,ho,he,Instr.storeAt,Instr.sureAddr,storeVar,ic k9,ke,fc,b6]
theorem run_setObj_map{r:Nat}{es:Array MapEntry}{c:Nat}{o:Obj}{w:World}(h:w.heap[r]? =some (.map es c)):(setObj r o).run P w= .ok () { w with heap:=w.heap.setIfInBounds r o }:=by
 simp[setObj,Sem.run,h]
theorem Nn(hW:aV ρ C st w){b:Pos}{es:List (AV×AV×Nat)}{clock:Nat}(hb:st.heap.get b=some (.map es clock)){Hp:List (AV×AV×Nat)}{Xz:Array MapEntry}{Ee:Nat}
  (hE:Cz ρ st.next.toNat C Hp Xz.toList):
  aV ρ C (st.aH none (some (b,.map Hp Ee)) none) { w with heap:=w.heap.setIfInBounds (ρ b).ax (.map Xz Ee) }/\jJ ρ st w ρ (st.aH none (some (b,.map Hp Ee)) none) { w with heap:=w.heap.setIfInBounds (ρ b).ax (.map Xz Ee) }:=by
 have aT:=(hW.live b _ hb).2.1;refine Nj hW hb rfl rfl rfl (by simp) (λk hk=>by simp[Ze4 (Ne.symm hk)]) ⟨Xz,by simp[aT],by simpa using hE.1,λi e e' h1 h2=>hE.2 i e e' h1 (by simpa using h2)⟩
theorem L7{n:Nat}{pk:PK}{u v:AV}{x y:Value}(h1:aj ρ n C u x)(h2:aj ρ n C v y)(h:xL pk u v=some true)(m:Nat):Instr.sameBits m y x=true:=by
 unfold xL at h;split at h<;>first|(cases h;done)|skip
 .simp only[H4]at h;rw[h1.gJ,h2.gJ];rename_i p q;have:p=q:=(by simpa using h);subst this;cases m<;>simp[Instr.sameBits]
 . (split at h<;>first|(cases h;done)|skip);rename_i xj;have:=uJ xj;subst this;simp only[H4,j7]at h;rw[h1.iy,h2.iy];rename_i p q _;have:p=q:=(by simpa using h);subst this;cases m<;>simp[Instr.sameBits]
 .simp only[H4]at h;obtain⟨bx,rfl,e1⟩:=h1.dX;obtain⟨bz,rfl,e2⟩:=h2.dX;have:bz==bx:=(by rw[beq_toListBytes,D7 e2 e1,kj];exact(kj.1 h).symm);cases m<;>simpa [Instr.sameBits]using this
theorem Qm{pk:PK}{u:AV}:∀{es:List (AV×AV×Nat)}{i j:Nat}{v:AV},jr pk u es i=some (some (j,v))->∃e,i<=j/\es[j - i]? =some e/\xL pk u e.1=some true
 |[],i,j,v,h=>by simp[jr]at h
 |(k',v',born)::es,i,j,v,h=>by
  unfold jr at h;split at h<;>first|(cases h;done)|skip
  .rename_i hq;simp only[H4,Zb6]at h;obtain⟨rfl,_⟩:=h;exact⟨(k',v',born),Za6 _,by simp,hq⟩
  .obtain⟨e,h1,h2,h3⟩:=Qm h;refine⟨e,by omega,?_,h3⟩;rw[show j - i=(j - (i+1))+1 from by omega];simpa using h2
theorem Iq(k v:AV):∀(es:List (AV×AV×Nat))(i j:Nat),(mV k v es i)[j]? =if j=i then(es[i]?).map (λe=>(k,v,e.2.2))else es[j]?
 |[],i,j=>by cases i<;>cases j<;>simp[mV]
 |(a,b,born)::es,0,j=>by cases j<;>simp[mV]
 |e::es,i+1,j=>by
  cases j with
  |zero=>simp[mV]
  |succ j=>simp[mV,Iq k v es i j]
theorem Np (hT:bL P tt)(op:Op)(t:TypeId)(m k0 v0:Operand)(hop:op= .mapUpdate t m k0 v0\/op= .insert t m k0 v0):cL P tt op:=by
 intro ρ C st w k xs cls fr a o vs res ho hc hW hF hx hr;have hc:fL.Xo tt t m k0 v0=some (k,xs,cls):=by rcases hop with rfl|rfl<;>simpa only[fL]using hc
 have hex:(execOp a.eval o).run P w=((Instr.mapUpdate t (a.eval m) (a.eval k0) (a.eval v0)).run P w).andThen λ_ w=>.ok .skip w:=by
   rcases hop with rfl|rfl<;>simp[execOp,ho]
 unfold fL.Xo at hc;split at hc<;>first|(cases hc;done)|skip
 rename_i ti l cJ hl;split at hc<;>first|(cases hc;done)|skip
 rename_i kt et hk;split at hc<;>first|(cases hc;done)|skip
 rename_i tk Ec;obtain⟨d,hd,bY⟩:=(hT.at cJ).und;rw[hk]at bY;rw[Ik bY]at hd;obtain⟨dk,Qk,xj⟩:=(hT.at Ec).und;have key:∃pk,k= .mapSet pk/\xs=l/\pk.fits dk=true:=by
   split at hc<;>first|(cases hc;done)|skip
   all_goals
     rename_i h1;cases hc;refine⟨_,rfl,rfl,acO tk.k xj ?_⟩
   .exact .inr (.inl ⟨⟨_,h1⟩,rfl⟩)
   .exact .inr (.inr ⟨h1,rfl⟩)
   .exact .inl ⟨h1,rfl⟩
 obtain⟨pk,rfl,rfl,Dl⟩:=key;obtain⟨mm,kk,vv,rfl,h1,h2,h3⟩:=evs3 hl hF hx;have Hl:∀e w,(Instr.checkKey e 10000 kt (a.eval k0)).run P w= .ok () w:=λe w=>D9 Qk Dl e 9999 _ w
 simp only[av.run,uH]at hr;split at hr<;>first|(cases hr;done)|skip
 rename_i b;split at hr<;>first|(cases hr;done)|skip
 rename_i es clock hb;obtain⟨_,he⟩:=h1.uK;obtain⟨_,_,es',dF,hlen,gL⟩:=hW.live _ _ hb;have hE:Cz ρ st.next.toNat C es es'.toList:=⟨by simpa using hlen,λi e e' h1 h2=>gL i e e' h1 (by simpa using h2)⟩
 split at hr<;>first|(cases hr;done)|skip
 . rename_i i v hpk hf;simp only[H4]at hr;subst hr;obtain⟨r',hf',pz⟩:=yH Dl h2 hE hf;rcases pz with⟨e1,_⟩|⟨j',v',y,e1,e2,e3,_,e5⟩
   .cases e1
   . cases  e1;subst e2;obtain⟨e,_,hei,hek⟩:=Qm hf;rw[Zo7]at hei;have hi:i<es'.size:=(by omega);have XA:es'[i]? =some es'[i]:=Zf2 hi;have hkey:=(gL i e es'[i] hei XA).1;have hsb:=L7 h2 hkey hek 10000;have Zr  :Cz ρ st.next.toNat C (mV kk vv es i) (es'.modify i λe=>{ e with key:=a.eval k0,val:=a.eval v0 }).toList:=by
        refine⟨?_,λj e e' g1 g2=> ?_⟩
        . have KS:∀(es:List (AV×AV×Nat))(i:Nat),(mV kk vv es i).length=es.length:=by
            intro es;induction es with
            |nil=>intro i;cases i<;>rfl
            | cons e es ih=>intro i;cases i with
              |zero=>obtain⟨a,b,c⟩:=e;rfl
              |succ i=>simp[mV,ih i]
          rw[KS];simpa using hlen
        . rw[Iq]at g1;simp only[Zg7,Zn6]at g2;by_cases hji:j=i
          .subst hji;rw[Za7 rfl,hei]at g1;simp[XA]at g1 g2;subst g1;subst g2;exact⟨h2,h3,(gL j e es'[j] hei XA).2.2⟩
          .rw[Za5 hji]at g1;rw[Za5 (λe=>hji e.symm)]at g2;exact gL j e e' g1 g2
     obtain⟨ey,Zs⟩:=Nn hW hb (Ee:=clock) Zr;refine⟨.skip,undef,_,ρ,?_,.inr ⟨rfl,rfl⟩,λ_ _=>rfl,ey,aj.ur,Zs⟩;rw[hex];simp only[Instr.mapUpdate,Sem.run_bind,aO hd,Result.andThen_ok,he,run_getObj_map dF,Hl,run_findKey Qk hf',XA,Ze8,Zg1,Instr.keyThatStays,hsb,Zg5,Sem.run_pure,run_setObj_map dF]
 . rename_i hpk hf;simp only[H4]at hr;subst hr;obtain⟨r',hf',pz⟩:=yH Dl h2 hE hf;rcases pz with⟨_,e2⟩|⟨j',v',y,e1,_⟩
   . subst  e2;have Zr:Cz ρ st.next.toNat C (es++[(kk,vv,clock)]) (es'.push { key:=a.eval k0,val:=a.eval v0,born:=clock }).toList:=by
        refine⟨by simp[hlen],λj e e' g1 g2=> ?_⟩;simp only[Array.toList_push]at g2;rcases Zi0 j es.length with hj|hj
        .rw[Zb7 hj]at g1;rw[Zb7 (by simp;omega)]at g2;exact gL j e e' g1 (by simpa using g2)
        .rw[Zc2 hj]at g1;rw[Zc2 (by simp;omega)]at g2;have:j - es.length=0:=(by have:=(Za3.1 g1).1;simp at this;omega);rw[this]at g1;have:j - es'.toList.length=0:=(by simp;omega);rw[this]at g2;simp at g1 g2;subst g1;subst g2;exact⟨h2,h3,rfl⟩
     obtain⟨ey,Zs⟩:=Nn hW hb (Ee:=clock+1) Zr;refine⟨.skip,undef,_,ρ,?_,.inr ⟨rfl,rfl⟩,λ_ _=>rfl,ey,aj.ur,Zs⟩;rw[hex];simp only[Instr.mapUpdate,Sem.run_bind,aO hd,Result.andThen_ok,he,run_getObj_map dF,Hl,run_findKey Qk hf',run_setObj_map dF]
   .cases e1
theorem Zt(it:Operand)(isS:Bool):cL P tt (.next it isS):=by
 intro ρ C st w k xs cls fr a o vs res ho hc hW hF hx hr;simp only[fL]at hc;split at hc<;>first|(cases hc;done)|skip
 rename_i b hb;cases hc;obtain⟨v,rfl,hv⟩:=eX hb hF hx;simp only[av.run,Fu]at hr;split at hr<;>first|(cases hr;done)|skip
 rename_i bb;split at hr<;>first|(cases hr;done)|skip
 rename_i s pos jV;obtain⟨_,he⟩:=hv.e9;obtain⟨_,_,bs,Hj,hs,RZ⟩:=hW.live _ _ jV;have fc:=uo hs;have pU:(getObj (ρ bb).ax).run P w= .ok (.stringIter bs pos) w:=by simp[getObj,Sem.run,Hj]
 rw[RZ]at he;split at hr
 . (rename_i aT;have aT:pos<s.length:=(by simpa using aT);(split at hr<;>first|(cases hr;done)|skip);rename_i c wd L8;simp only[H4]at hr;subst hr;have A6:pos<bs.size:=(by omega);unfold VI at L8;(split at L8<;>first|(cases L8;done)|skip);rename_i c' tD;(split at L8<;>first|(cases L8;done)|skip);rename_i aa7;simp only[H4,Zb6]at L8;obtain⟨rfl,rfl⟩:=L8;have aa7:c'<128:=(by simpa using aa7);have hcb:(bs[pos]'A6).toNat=c':=by rw[kN, <-hs,Zc1]at tD;obtain⟨b',yJ,Nq⟩:=Ze1.1 tD;obtain⟨hl,hbb'⟩:=Za3.1 yJ;rw[<-Nq, <-hbb'];rfl);have VR:=decode_ascii bs pos A6 (by rw[hcb];exact aa7);rw[hcb]at VR;have FF:(setObj (ρ bb).ax (.stringIter bs (pos+1))).run P w= .ok () { w with heap:=w.heap.setIfInBounds (ρ bb).ax (.stringIter bs (pos+1)) }:=(by simp[setObj,Sem.run,Hj]);have hltb:=(hW.live _ _ jV).2.1
   obtain⟨ey,Zs⟩:=Nj (w':={ w with heap:=w.heap.setIfInBounds (ρ bb).ax (.stringIter bs (pos+1)) }) (x0:= .jq s (pos+1)) hW jV rfl rfl rfl (by simp)
     (λk hk=>by simp[Ze4 (Ne.symm hk)]) ⟨bs,by simp[hltb],hs,RZ⟩
   refine⟨.value (.tuple #[.bool true,goInt pos,.int .i32 (c':Int)]),_,_,ρ,?_,Yields.value _,λ_ _=>rfl,ey,?_,Zs⟩
   .simp only[execOp,ho,he,Instr.next,Sem.run_bind,pU,Result.andThen_ok,A6,Zg5,VR,FF,Sem.run_pure]
   .exact .qE (au.cons (.bool true) (au.cons (.int _ _) (au.cons (.int _ _) au.nil)))
 . (rename_i aT;have aT:¬pos<s.length:=λh=>by have:Nat.blt pos s.length=true:=(by simpa using h);rw[this]at aT;cases aT);simp only[H4]at hr;subst hr;have A6:¬pos<bs.size:=(by omega);refine .pure (x:= .tuple #[.bool false]) ?_ (.qE (au.cons (.bool false) au.nil));simp only[execOp,ho,he,Instr.next,Sem.run_bind,pU,Result.andThen_ok,A6,Zf9,Sem.run_pure]
end
section
variable{P:Program}{tt:TT}{ρ:Pos->Loc}{C:Cells}{st:St}{w w':World}
theorem aV.of_heap(hW:aV ρ C st w)(h:w'.heap=w.heap):aV ρ C st w' where
 live b x hb:=let⟨h1,h2,h3⟩:=hW.live b x hb;⟨h1,by rw[h];exact h2,h3.of_heap (by rw[h])⟩
 inj:=hW.inj
 dB a v ha:=let⟨h1,h2⟩:=hW.dB a v ha;⟨by unfold World.cell? at h1 ⊢; rw[h];exact h1,h2⟩
 whole a v ha o ho:=by have:=hW.whole a v ha o ho;unfold World.cell? at this ⊢; rw[h];exact this
theorem KT{es:Nat}:∀{xs:List (List AV)}(_h:∀(i:Nat)(cs:List AV),xs[i]? =some cs->cs.length=es)(q:Nat)(v:AV),
  xs.flatten[q]? =some v->∃cs,xs[q / es]? =some cs/\cs[q % es]? =some v
 |[],_,q,v,hv=>by simp at hv
 |c ::xs,h,q,v,hv=>by
  have hc:c.length=es:=h 0 c rfl;have gR:∀(i:Nat)(cs:List AV),xs[i]? =some cs->cs.length=es:=λi cs hi=>h (i+1) cs (by simpa using hi)
  rw[Zf8]at hv;rcases Zi0 q c.length with hq|hq
  . rw[Zb7 hq]at hv;refine⟨c,?_,?_⟩
    .   rw[Nat.div_eq_of_lt (by omega)];rfl
    .   rw[Zk2 (by omega)];exact hv
  . rw[   Zc2 hq]at hv;obtain⟨cs,h1,h2⟩:=KT gR (q - c.length) v hv;rw[hc]at hq h1 h2;have SA:0<es:=by
        rcases Zp1 es with h0|h0
        .subst h0;have hl:=gR _ _ h1;have:=(Za3.1 h2).1;omega
        .exact h0
    refine⟨cs,?_,?_⟩
    .   rw[Nat.div_eq_sub_div SA hq];simpa using h1
    .   rw[Zp0 hq];exact h2
theorem KU{es:Nat}:∀{xs:List (List AV)}(_h:∀(i:Nat)(cs:List AV),xs[i]? =some cs->cs.length=es),xs.flatten.length=xs.length*es
 |[],_=>by simp
 |c::xs,h=>by have hc:c.length=es:=h 0 c rfl;rw[Zf8,Zd7,KU (λi cs hi=>h (i+1) cs (by simpa using hi)),hc,Zd4,Zi9];omega
theorem kq(hW:aV ρ C st w){es m:Nat}{u:AV}{x:Value}{new:List AV}{k:Nat}(hu:aj ρ st.next.toNat C u x)(hk:cS u=some k)(hmk:m<=k)(h:cg es m (λb=>st.heap.get b) u=some new)(w2:World)(nI:w2.heap=w.heap):
   ∃ys:List Value,(Builtin.firstCells es m x).run P w2= .ok ys.toArray w2/\au ρ st.next.toNat C new ys/\(u= .af\/new.length=m*es):=by
 have Ef:=hW.of_heap (w':=w2) nI;unfold cg at h;split at h
 .simp only[H4]at h;subst h;rw[hu.fA];exact⟨[],by simp[Builtin.firstCells],au.nil,.inl rfl⟩
 . rename_i b off len cap es';simp only[cS,H4]at hk;subst hk;obtain⟨aa,aJ,he,hle,_,ha⟩:=hu.cK;rw[he];split at h
   .rename_i h0;have h0:=Za1 h0;simp only[H4]at h;subst h;exact⟨[],by simp[Builtin.firstCells,h0,loadCells,loadCellsFrom],au.nil,.inr (by simp[h0])⟩
   .rename_i h0;have h0:=Zb9 h0;(split at h<;>first|(cases h;done)|skip);rename_i cs fz hb;have hm:m≠0:=(by intro e;subst e;simp at h0);obtain⟨_,rfl,_⟩:=ha (by omega);obtain⟨ys,h1,h2⟩:=Ef.loadCells (P:=P) hb h;exact⟨ys,by simp only[Builtin.firstCells];exact h1,h2,.inr (rL h)⟩
 . rename_i xs es';simp only[cS,H4]at hk;subst hk;(split at h<;>first|(cases h;done)|skip);rename_i SC Qn;have SC:=Za1 SC;have Qn:=Za4 Qn;subst SC;simp only[H4]at h;subst h;obtain⟨aa,aJ,cell,he,hle,vE,g1,g2,g3⟩:=hu.qF;rw[he];have dF:∀(i:Nat)(cs:List AV),(xs.take m)[i]? =some cs->cs.length=es:=λi cs hi=>by
     rw[Zb8]at hi;split at hi
     .exact g1 i cs hi
     .cases hi
   have Bd:=KU dF;rw[Zd5,Zj1 Qn]at Bd;have acP:∀q v,(xs.take m).flatten[q]? =some v->∃cs,xs[q / es]? =some cs/\cs[q % es]? =some v:=λq v hv=>by
     obtain⟨cs,h1,h2⟩:=KT dF q v hv;rw[Zb8]at h1;split at h1
     .exact⟨cs,h1,h2⟩
     .cases h1
   refine⟨(List.range (m*es)).map λq=>cell (q / es) (q % es),?_,⟨by simp[Bd],λq v y hv hy=> ?_⟩,.inr Bd⟩
   .simp only[Builtin.firstCells];(refine run_loadCells w2 _ _ _ λq hq=> ?_);have aT:q<(xs.take m).flatten.length:=(by rw[Bd];exact hq);obtain⟨cs,h1,h2⟩:=acP q _ (H5 aT);have vE:=vE (by intro e;rw[e]at h1;simp at h1);obtain⟨ab,ao,asp⟩:=aa;simp only at vE;subst vE;have:=(Ef.dB _ _ (g2 _ _ _ _ h1 h2)).1;rw[kO];simp only at this;rw[show ao+q=ao+q / es*es+q % es from by rw[Zh9,Nat.mul_comm,Nat.div_add_mod]];exact this
   .obtain⟨cs,h1,h2⟩:=acP q v hv;have hq:q<m*es:=(by rw[<-Bd];exact(Za3.1 hv).1);simp[hq]at hy;subst hy;exact g3 _ _ _ _ h1 h2
 . rename_i s;simp only[cS,H4]at hk;subst hk;(split at h<;>first|(cases h;done)|skip);rename_i SC Qn;have SC:=Za1 SC;have Qn:=Za4 Qn;subst SC;simp only[H4]at h;subst h;obtain⟨bs,rfl,hs⟩:=hu.dX;refine⟨(s.take m).map λ(c:Nat)=>Value.int .u8 (.ofNat c),?_,⟨by simp,λq v y hv hy=> ?_⟩,.inr (by simp;omega)⟩
   .simp only[Builtin.firstCells,Sem.run_pure];congr 1;apply Zm5;simp only[Zp7,ByteArray.data_extract,Zo3,List.extract,Ze3,Zo7];rw[<-hs, <-Zm1,Zg4];rfl
   .simp only[Zc1,Ze1]at hv hy;obtain⟨c,hc,rfl⟩:=hv;obtain⟨c',tD,rfl⟩:=hy;rw[hc]at tD;cases tD;exact .int _ _
 .cases h
theorem L9{n:Nat}{u:AV}{x:Value}{k:Nat}(hu:aj ρ n C u x)(hk:cS u=some k):(Builtin.lenOf x).run P w= .ok k w:=by
 unfold cS at hk;split at hk<;>first|(cases hk;done)|skip
 all_goals simp only[H4]at hk;subst hk
 .rw[hu.fA];rfl
 .obtain⟨_,_,he,_⟩:=hu.cK;rw[he];rfl
 .obtain⟨_,_,_,he,_⟩:=hu.qF;rw[he];rfl
 .obtain⟨bs,rfl,hs⟩:=hu.dX;rw[<-uo hs];rfl
theorem Qo(nl:Nat):∀(r c:Nat),c<=nl+(nl+768) / 4->Builtin.growBy nl r c<=nl+(nl+768) / 4
 |0,c,h=>h
 |r+1,c,h=>by
  unfold Builtin.growBy;split
  .exact h
  .exact Qo nl r _ (by omega)
theorem nextslicecap_le{XB dL:Nat}(h:dL<XB):Builtin.nextslicecap XB dL<=2*XB+768:=by
 unfold Builtin.nextslicecap;split
 .omega
 . split
   .omega
   .have:=Qo XB 4 dL (by omega);omega
theorem FG(hT:bL P tt){t t2 e:Nat}{ts:Array TypeId}{ti Hi te:TI}(cJ:tt.get (key t)=some ti)(Ir:tt.get (key t2)=some Hi)(hk:ti.k= .slice e)(iu:∀k,Hi.k≠ .int k)
  (fk:tt.get (key e)=some te) (h0:ts[0]? =some t) (h1:ts[1]? =some t2) (ty:TypeId) (base:Option Addr) (n cap m:Nat) (x:Value) (w:World)
  (hx:(Builtin.lenOf x).run P w= .ok m w) (hb:(2*(n+m)+768)*te.bytes<=281474976710656) (hi:n+m<=9223372036854775807):
  (Builtin.append_ ts ty #[.slice base n cap,x]).run P w=
    if n+m<=cap then((Builtin.firstCells te.size m x).run P w).andThen λnew w=>((match base with|some a=>storeCells (a.add (n*te.size)) new.toList|none=>pure ()).run P w).andThen λ_ w=>.ok (.slice base (n+m) cap) w
    else((Builtin.firstCells te.size n (.slice base n cap)).run P w.drew).andThen λdL w1=>((Builtin.firstCells te.size m x).run P w1).andThen λnew w2=>((zeroValue e).run P w2).andThen λz w3=>
        .ok (.slice (some ⟨w3.heap.size,0,none⟩) (n+m) (grownCap w (n+m) cap e)) (w3.alloc (.cells (dL++new++Builtin.zeroCells z.cells (grownCap w (n+m) cap e - (n+m))) e)):=by
 obtain⟨d,hd,bY⟩:=(hT.at cJ).und;rw[hk]at bY;rw[lM bY]at hd;obtain⟨d2,Nr,aa8⟩:=(hT.at Ir).und;obtain⟨i0,k9,ke,hib,_⟩:=(hT.at fk).info;have ae4:∀k,d2≠ .int k:=by
  rintro k rfl;cases xj:Hi.k<;>rw[xj]at aa8<;>first|(simp[bE]at aa8;done)|exact absurd xj (iu _)
 have XC:¬(((n+m:Nat):Int)>IntKind.i64.max):=by
  have:IntKind.i64.max=9223372036854775807:=by decide
  rw[this];omega
 have ae5:¬(n+m<=cap)->¬(Builtin.nextslicecap (n+m) cap*te.bytes>2 ^ 48):=λhc=>by
  have h1:=nextslicecap_le (Nat.lt_of_not_le hc);have h2:=Zg9 te.bytes h1;have:(2:Nat) ^ 48=281474976710656:=by decide
  omega
 have OX:∀q,(Question.appendCap (n+m) cap e).forced=q->q=false:=by rintro q rfl;rfl
 clear aa8;cases d2<;>first|(exact absurd rfl (ae4 _))|skip
 all_goals
  unfold Builtin.append_;simp only[h0,h1,List.getElem?_toArray,Zb3,Ze5,Sem.run_bind,aO hd,Result.andThen_ok,ic k9,ke,aO Nr,Sem.run_pure,hx,Zf1,Zf9,Zn0,Zg5,Sem.run_ite];by_cases hc:n+m<=cap
  .rw[Za7 hc,Za7 hc];cases base<;>simp only[Sem.run_bind,Sem.run_pure,Result.andThen_ok]
  .rw[Za5 hc,Za5 hc];simp only[Sem.run_bind,Sq k9,hib,Result.andThen_ok,XC,false_and,Zf9,ae5 hc,run_choose,Question.forced,Zf1,World.drew_eq,run_askRoom,Sem.run_pure,newRow,run_newObj,World.alloc_eq];rfl
end
section
variable{P:Program}{tt:TT}{ρ:Pos->Loc}{C:Cells}{st:St}{w w':World}
theorem aa9{L:Loc}{cs:List AV}{n:Nat}(fz:Nat)(h:lH ρ n C L w' (.cells cs 0)):lH ρ n C L w' (.cells cs fz):=
 let⟨c,e,fr,h1,h2,h3,h4,h5⟩:=h
 ⟨c,e,fr,h1,h2,h3,h4,λi _ hi=>h5 i (Zj0 _) hi⟩
theorem XD(hW:aV ρ C st w)(del:Option Pos)(fz:Nat){dL new rest:List Value}{ol nl:List AV}{e:TypeId}{n m es aJ:Nat}(h1:au ρ st.next.toNat C ol dL)(h2:au ρ st.next.toNat C nl new)
  (xz:ol.length=n*es) (CA:nl.length=m*es) (hr:rest.length=(aJ - (n+m))*es) (hc:n+m<=aJ) {w2:World} (nI:w2=w.drew.alloc (.cells (dL++new++rest).toArray e)):
  ∃ρ':Pos->Loc,(∀b:Pos,b.toNat<st.next.toNat->ρ' b=ρ b)/\aV ρ' C (st.aH del none (some (.cells (ol++nl) fz))) w2/\jJ ρ st w ρ' (st.aH del none (some (.cells (ol++nl) fz))) w2/\
   aj ρ' (st.aH del none (some (.cells (ol++nl) fz))).next.toNat C (.slice st.next 0 (n+m) none es) (.slice (some ⟨w.heap.size,0,none⟩) (n+m) aJ):=by
 subst nI;have uM:dL.length=n*es:=by rw[<-h1.1,xz]
 have kZ:new.length=m*es:=by rw[<-h2.1,CA]
 have fc:(dL++new++rest).length=aJ*es:=by simp only[Zd7,uM,kZ,hr];rw[<-Zi9, <-Zi9];congr 1;omega
 obtain ⟨ρ',aS,ee,ey,hE⟩:=tC (w':=w.drew.alloc (.cells (dL++new++rest).toArray e)) (o:= .cells (dL++new++rest).toArray e) (x0:= .cells (ol++nl) fz) (base:=0) (size:=(dL++new++rest).toArray.size) hW del rfl rfl rfl rfl (λρ' n' aS hn=>
  aa9   fz <| uL (e:=e) (fr:=(0,0)) (by show(w.heap.push _)[w.heap.size]? =_;simp) (by simp[xz,CA,uM,kZ])
   (by
        have:(dL++new++rest).toArray.toList.take (ol++nl).length=dL++new:=by
         rw[Zk6 (by simp[xz,CA,uM,kZ])]
        rw[this];exact(h1.append h2).mono aS hn) (λi _=>by simp))
 refine⟨ρ',aS,ey,hE,yI (by simp[St.aH,Pos.az]) ee hc (λc hc=>by cases hc) (by simp only[Zn1,fc];exact Za6 _)⟩
theorem zj(z:Array Value)(m:Nat):(Builtin.zeroCells z m).toList.length=m*z.size:=by simp[Builtin.zeroCells]
theorem aba{m:Nat}(h:Nat.beq m 0=false):m≠0:=Zb9 h
theorem FH (hT:bL P tt){t t2 e:Nat}{ts:Array TypeId}{ti Hi te:TI}{z:List AV}(cJ:tt.get (key t)=some ti)(Ir:tt.get (key t2)=some Hi)(hk:ti.k= .slice e)(iu:∀k,Hi.k≠ .int k)
   (fk:tt.get (key e)=some te) (hz:te.zero=some z) (h0:ts[0]? =some t) (h1:ts[1]? =some t2) (ty:TypeId) {s u:AV} {xs xu:Value} {res:cq} (hW:aV ρ C st w)
   (hs:aj ρ st.next.toNat C s xs) (hu:aj ρ st.next.toNat C u xu) (hr:eV (λb=>st.heap.get b) st.next te.size te.bytes [s,u]=some res):
   rK P ρ C st w (((Builtin.append_ ts ty #[xs,xu]).run P w).andThen λv w=>.ok (.value v) w) res:=by
 simp only[eV]at hr;split at hr<;>first|(cases hr;done)|skip
 rename_i n m hn hm;split at hr<;>first|(cases hr;done)|skip
 rename_i b1 b2;have b1:=Za4 b1;have b2:=Za4 b2;have hlen:=L9 (P:=P) (w:=w) hu hm;obtain⟨i0,k9,ke,_,xq⟩:=(hT.at fk).info;obtain⟨zv0,hzv0,_,Nm,_⟩:=xq z hz;have Nh:=λw=>qH hT fk hz (ρ:=ρ) (n:=st.next.toNat) (C:=C) w
 have KS:∃base aJ,xs= .slice base n aJ/\n<=aJ:=by
   unfold cS at hn;split at hn<;>first|(cases hn;done)|skip
   .cases hn;exact⟨none,0,hs.fA,Za6 _⟩
   .cases hn;obtain⟨a,c,he,hle,_⟩:=hs.cK;exact⟨_,c,he,hle⟩
   .cases hn;obtain⟨a,c,_,he,hle,_⟩:=hs.qF;exact⟨_,c,he,hle⟩
   .rename_i s';exfalso;cases hbm:Nat.beq m 0<;>simp[hbm]at hr
 obtain⟨base,aJ,gR,hle⟩:=KS;have b6:=FG hT cJ Ir hk iu fk h0 h1 ty base n aJ m xu w hlen b1 b2;rw[gR,b6];have hg:∀c,n+m<=grownCap w (n+m) c e:=λc=>by unfold grownCap Question.cut;exact Zn8 _ _
 have SD:∀(del:Option Pos)(fz:Nat)(ol nl:List AV),¬(n+m<=aJ)->cg te.size n (λb=>st.heap.get b) s=some ol->cg te.size m (λb=>st.heap.get b) u=some nl->ol.length=n*te.size->nl.length=m*te.size->
     rK P ρ C st w ((if n+m<=aJ then((Builtin.firstCells te.size m xu).run P w).andThen λnew w=>((match base with|some a=>storeCells (a.add (n*te.size)) new.toList|none=>pure ()).run P w).andThen λ_ w=>.ok (.slice base (n+m) aJ) w
     else((Builtin.firstCells te.size n (.slice base n aJ)).run P w.drew).andThen λdL w1=>((Builtin.firstCells te.size m xu).run P w1).andThen λnew w2=>((zeroValue e).run P w2).andThen λz w3=>
        .ok (.slice (some ⟨w3.heap.size,0,none⟩) (n+m) (grownCap w (n+m) aJ e)) (w3.alloc (.cells (dL++new++Builtin.zeroCells z.cells (grownCap w (n+m) aJ e - (n+m))) e))).andThen λv w=>.ok (.value v) w)
        (.aH (.slice st.next 0 (n+m) none te.size) del none (some (.cells (ol++nl) fz))):=by
   intro del fz ol nl hc ho kQ xz CA;obtain⟨dL,e1,e2,_⟩:=kq (P:=P) hW hs hn (Za6 _) ho w.drew rfl;obtain⟨new,e3,e4,_⟩:=kq (P:=P) hW hu hm (Za6 _) kQ w.drew rfl;obtain⟨zv,xw,_,qI⟩:=Nh w.drew;rw[gR]at e1;have Cu:(Builtin.zeroCells zv.cells (grownCap w (n+m) aJ e - (n+m))).toList.length=(grownCap w (n+m) aJ e - (n+m))*te.size:=(by rw[zj];congr 1;have:=qI.1;simp at this;omega);obtain⟨ρ',aS,ey,hE,hv⟩:=XD hW del fz e2 e4 xz CA Cu (hg aJ) (e:=e) rfl;refine⟨_,_,_,ρ',?_,Yields.value _,aS,ey,hv,hE⟩;rw[Za5 hc];simp only[e1,e3,xw,Result.andThen_ok,World.size_drew];congr 2;simp
 have Zu:∀nl,cg te.size m (λb=>st.heap.get b) u=some nl->m≠0->nl.length=m*te.size:=by
   intro nl kQ hm0;obtain⟨_,_,_,h⟩:=kq (P:=P) hW hu hm (Za6 _) kQ w rfl;rcases h with rfl|h
   .simp[cS]at hm;omega
   .exact h
 have hls:∀ol,cg te.size n (λb=>st.heap.get b) s=some ol->ol.length=n*te.size:=by
   intro ol tE;obtain⟨ys,_,yF,h⟩:=kq (P:=P) hW hs hn (Za6 _) tE w rfl;rcases h with rfl|h
   .simp[cS]at hn;subst hn;simp[cg]at tE;subst tE;simp
   .exact h
 have hzero:m=0->aj ρ st.next.toNat C s xs->rK P ρ C st w ((if n+m<=aJ then((Builtin.firstCells te.size m xu).run P w).andThen λnew w=>((match base with|some a=>storeCells (a.add (n*te.size)) new.toList|none=>pure ()).run P w).andThen λ_ w=>.ok (.slice base (n+m) aJ) w
     else((Builtin.firstCells te.size n (.slice base n aJ)).run P w.drew).andThen λdL w1=>((Builtin.firstCells te.size m xu).run P w1).andThen λnew w2=>((zeroValue e).run P w2).andThen λz w3=>
        .ok (.slice (some ⟨w3.heap.size,0,none⟩) (n+m) (grownCap w (n+m) aJ e)) (w3.alloc (.cells (dL++new++Builtin.zeroCells z.cells (grownCap w (n+m) aJ e - (n+m))) e))).andThen λv w=>.ok (.value v) w) (.val s):=by
   rintro rfl hsx;have hf:(Builtin.firstCells te.size 0 xu).run P w= .ok #[] w:=by
     unfold cS at hm;split at hm<;>first|(cases hm;done)|skip
     .  rw[hu.fA];simp[Builtin.firstCells]
     .  obtain⟨_,_,he,_⟩:=hu.cK;rw[he];simp[Builtin.firstCells,loadCells,loadCellsFrom]
     .  obtain⟨_,_,_,he,_⟩:=hu.qF;rw[he];simp[Builtin.firstCells,loadCells,loadCellsFrom]
     .  obtain⟨bs,rfl,_⟩:=hu.dX;simp only[Builtin.firstCells,Sem.run_pure];congr 1;apply Zm5;simp
   rw[gR]at hsx;refine .pure (x:= .slice base n aJ) ?_ hsx;rw[Za7 (by omega),hf];cases base<;>simp[storeCells]
 split at hr<;>first|(cases hr;done)|skip
 .rename_i vG;simp only[H4]at hr;subst hr;exact hzero (Za1 vG) hs
 .rename_i vG;simp only[H4]at hr;subst hr;exact hzero (Za1 vG) hs
 .rename_i vG;simp only[H4]at hr;subst hr;exact hzero (Za1 vG) hs
 ·
   rename_i vG;have vG:=aba vG;(split at hr<;>first|(cases hr;done)|skip);rename_i new kQ;simp only[H4]at hr;subst hr;have he:=hs.fA;rw[he]at gR;simp only[Value.slice.injEq]at gR;obtain⟨rfl,rfl,rfl⟩:=gR;have:=SD none 0 [] new (by omega) rfl kQ (by simp) (Zu new kQ vG);simpa using this
 ·
   rename_i b off n' c es' vG;have vG:=aba vG;simp only[cS,H4]at hn;subst hn;obtain⟨aa,cc,he,hlec,Zv,ha⟩:=hs.cK;rw[he]at gR;simp only[Value.slice.injEq]at gR;obtain⟨rfl,_,rfl⟩:=gR;have:=Zv c rfl;subst this;split at hr
   . rename_i qf;have qf:=Za4 qf;(split at hr<;>first|(cases hr;done)|skip);rename_i cs fz new hb kQ;(split at hr<;>first|(cases hr;done)|skip);rename_i c1 c2 c3;have c1:=Za4 c1;simp only[Za8]at c2;have c2a:=Za4 c2.1;have c2b:=Za1 c2.2;subst c2b;simp only[H4]at hr;subst hr;obtain⟨aT,rfl,hbound⟩:=ha (by omega);obtain⟨ys,e1,e2,_⟩:=kq (P:=P) hW hu hm (Za6 _) kQ w rfl;have FI:=Zu new kQ vG;obtain⟨w2,e3,ey,hE⟩:=FE (P:=P) hW hb (by rw[FI];rw[Zi9]at c1;omega) c2a c3 e2;refine⟨_,.slice (some ⟨(ρ b).ax,(ρ b).base+off,none⟩) (n'+m) c,w2,ρ,?_,Yields.value _,λ_ _=>rfl,ey,?_,hE⟩
     .  rw[Za7 qf,e1];simp only[Result.andThen_ok,kO];rw[Zh9,e3];rfl
     .  exact .slice _ _ _ _ _ _ _ qf (λc hc=>by cases hc;rfl) (λ_=>⟨aT,rfl,hbound⟩) (λh=>by cases h)
   . rename_i qf;have qf:¬(n'+m<=c):=λh=>by rw[Nat.ble_eq_true_of_le h]at qf;cases qf
     (split at hr<;>first|(cases hr;done)|skip);rename_i dL new tE kQ;simp only[H4]at hr;subst hr;exact SD none 0 dL new qf tE kQ (hls dL tE) (Zu new kQ vG)
 ·
   rename_i b off n' es' vG;have vG:=aba vG;simp only[cS,H4]at hn;subst hn;(split at hr<;>first|(cases hr;done)|skip);rename_i cs fz dL new hb tE kQ;(split at hr<;>first|(cases hr;done)|skip);rename_i c2 c3;simp only[Za8]at c2;have c2a:=Za4 c2.1;have c2b:=Za1 c2.2;subst c2b;simp only[H4]at hr;subst hr;by_cases qf:n'+m<=aJ
   ·
     obtain ⟨aa,cc,he,hlec,Zv,ha⟩:=hs.cK;rw[he]at gR;simp only[Value.slice.injEq]at gR;obtain⟨rfl,_,rfl⟩:=gR;obtain⟨aT,rfl,hbound⟩:=ha (by omega);obtain⟨ys,e1,e2,_⟩:=kq (P:=P) hW hu hm (Za6 _) kQ w rfl;have FI:=Zu new kQ vG;have acQ:=hls dL tE;obtain⟨Nk,Hj,c,ce,fr,g1,g2,g3,g4,g5⟩:=hW.live b _ hb;have hmul:(n'+m)*te.size<=cc*te.size:=Zg9 _ qf;have hmul2:(n'+m)*te.size=n'*te.size+m*te.size:=Zi9 _ _ _;have hyl:ys.length=m*te.size:=(by rw[<-e2.1,FI]);have hold:au ρ st.next.toNat C dL ((c.toList.drop ((ρ b).base+off)).take (n'*te.size)):=by
        simp only[cg]at tE;split at tE
        .rename_i hz0;have hz0:=Za1 hz0;simp only[H4]at tE;subst tE;rw[hz0];simpa using(au.nil:au ρ st.next.toNat C [] [])
        . rw[hb]at tE;simp only at tE;obtain⟨ho1,Be⟩:=A7 tE;have h:=(g4.drop off).take (n'*te.size);rw[<-ho1]at h;have:List.take (n'*te.size) (List.drop off (List.take cs.length (List.drop (ρ b).base c.toList)))=(c.toList.drop ((ρ b).base+off)).take (n'*te.size):=by
            rw[Zo9,Zn2,Zp2,Zj1 (by omega)]
          rw[this]at h;exact h
     obtain⟨w2,s1,s2,s3,s4,s5,s6,s7⟩:=jU (P:=P) (ρ b).ax ce fr ys 0 ((ρ b).base+off+n'*te.size) c w g1 (by omega) (vF c3 e2) (λk hk kA=>by
        have:=g5 (k - (ρ b).base) (by omega) (by omega)
        rwa [show(ρ b).base+(k - (ρ b).base)=k from by omega]at this)
     simp only[Zh5]at s1 s2
     let ρ':Pos->Loc:=λq=>if q=st.next then⟨(ρ b).ax,(ρ b).base+off,(ρ b).size⟩else ρ q
     have aS:∀q:Pos,q.toNat<st.next.toNat->ρ' q=ρ q:=λq hq=>Za5 (λe=>by rw[e]at hq;omega)
     have ee:ρ' st.next=⟨(ρ b).ax,(ρ b).base+off,(ρ b).size⟩:=Za7 rfl;have hcl:c.toList.length=c.size:=(by simp);have hWn:aV ρ' C (st.aH (some b) none (some (.cells (dL++new) (fz - off)))) w2:=by
        refine hW.Xq (b0:=st.next) (x0:= .cells (dL++new) (fz - off)) (by rw[Pos.az];omega) (by rw[Pos.az];omega) (by rw[T.eH]) ?_ aS ?_ ?_ (by rw[ee,s3];exact Hj) (by omega) (λk hk kA=>s4 k (by rw[ee]at kA;exact kA))
        .intro q x hq hx;rw[T.bw _ (λe=>hq e.symm)]at hx;obtain⟨h1,h2⟩:=uq (some b) _ hx;refine⟨h1,?_⟩;rw[ee];exact λe=>h2 b rfl (hW.inj _ _ _ _ h1 hb e)
        . rw[ee];refine⟨_,ce,fr,s2,by simp[aF];omega,by simp[aF,acQ,FI];omega,?_,λi k9 hi=> ?_⟩
          . (simp only;rw[Dq _ _ _ _ (by omega)];have Ec:(aF (c.toList.drop ((ρ b).base+off)) (n'*te.size) ys).take (dL++new).length=(c.toList.drop ((ρ b).base+off)).take (n'*te.size)++ys:=by unfold aF;rw[<-Zi2,Zk6];simp[acQ,FI,hyl];omega);rw[Ec];exact(hold.append e2).mono aS (by rw[Pos.az];omega)
          . have KR:(ρ b).base+off+i<c.size:=(by simp only[Zn1]at hi;have:(aF c.toList ((ρ b).base+off+n'*te.size) ys).length=c.size:=(by simp[aF];omega);omega);have:=g5 (off+i) (by omega) (by omega);simp only
            rwa [<-Zh9]at this
        .intro ad v hv;rw[ee];exact λe=>(hW.dB ad v hv).2 b _ hb e.symm
     refine⟨_,(.slice (some ⟨(ρ b).ax,(ρ b).base+off,none⟩) (n'+m) cc),w2,ρ',?_,Yields.value _,aS,hWn,?_,⟨s5,s6,s7,by omega,λk _ hk=>s4 k (λe=>hk b _ hb e.symm),λq x hx=> ?_⟩⟩;rotate_left;rotate_left
     .  left;by_cases hq:q=st.next
        .exact⟨b,_,hb,by rw[hq,ee]⟩
        .simp only[St.aH,Fw]at hx;rw[T.bw _ (λe=>hq e.symm)]at hx;obtain⟨h1,_⟩:=uq (some b) _ hx;exact⟨q,x,h1,by rw[aS q (hW.live q x h1).1]⟩
     .  rw[Za7 qf,e1];simp only[Result.andThen_ok,kO];rw[s1];rfl
     .  refine .slice _ _ _ _ _ _ _ qf (λc hc=>by cases hc) (λ_=>⟨by simp[St.aH,Pos.az],by rw[ee];rfl,?_⟩) (λ_=>by simp[St.aH,Pos.az]);rw[ee];simp only;omega
   .exact SD (some b) _ dL new qf tE kQ (hls dL tE) (Zu new kQ vG)
end
section
variable{P:Program}{tt:TT}{ρ:Pos->Loc}{C:Cells}{st:St}{w w':World}
theorem Qp:∀l:List Nat,aL (l.map λc=>AV.int .u8 (.ofNat c))=true
 |[]=>rfl
 |a::l=>by simpa [aL,AV.one]using Qp l
theorem KV(hW:aV ρ C st w)(del:Option Pos){dL new rest:List Value}{ol nl:List AV}{e:TypeId}{n m aJ:Nat}(h1:au ρ st.next.toNat C ol dL)(h2:au ρ st.next.toNat C nl new)
  (xz:ol.length=n) (CA:nl.length=m) (hr:rest.length=aJ - (n+m)) (hc:n+m<=aJ) {w2:World} (nI:w2=w.drew.alloc (.cells (dL++new++rest).toArray e)):
  ∃ρ':Pos->Loc,(∀b:Pos,b.toNat<st.next.toNat->ρ' b=ρ b)/\aV ρ' C (st.aH del none (some (.typed e (ol++nl)))) w2/\jJ ρ st w ρ' (st.aH del none (some (.typed e (ol++nl)))) w2/\
   aj ρ' (st.aH del none (some (.typed e (ol++nl)))).next.toNat C (.slice st.next 0 (n+m) none 1) (.slice (some ⟨w.heap.size,0,none⟩) (n+m) aJ):=by
 subst nI;have uM:dL.length=n:=by rw[<-h1.1,xz]
 have kZ:new.length=m:=by rw[<-h2.1,CA]
 have fc:(dL++new++rest).length=aJ:=by simp only[Zd7,uM,kZ,hr];omega
 obtain ⟨ ρ',aS,ee,ey,hE⟩:=tC (w':=w.drew.alloc (.cells (dL++new++rest).toArray e)) (o:= .cells (dL++new++rest).toArray e) (x0:= .typed e (ol++nl)) (base:=0) (size:=(dL++new++rest).toArray.size) hW del rfl rfl rfl rfl (λρ' n' aS hn=>
  ⟨_,   (0,0),by show(w.heap.push _)[w.heap.size]? =_;simp,rfl,by simp[xz,CA,uM,kZ],by
        have:(dL++new++rest).toArray.toList.take (ol++nl).length=dL++new:=by
          rw[Zk6 (by simp[xz,CA,uM,kZ])]
        rw[Ze3,this];exact(h1.append h2).mono aS hn,λi _=>by simp,rfl⟩)
 refine⟨ρ',aS,ey,hE,yI (by simp[St.aH,Pos.az]) ee hc (λc hc=>by cases hc) (by simp only[Zn1,fc,Zl1];exact Za6 _)⟩
theorem Ve (hT:bL P tt){t t2 e:Nat}{ts:Array TypeId}{ti Hi te:TI}{z:List AV}(cJ:tt.get (key t)=some ti)(Ir:tt.get (key t2)=some Hi)(hk:ti.k= .slice e)(iu:∀k,Hi.k≠ .int k)
  (fk:tt.get (key e)=some te) (hz:te.zero=some z) (h8:te.size=1) (h0:ts[0]? =some t) (h1:ts[1]? =some t2) (ty:TypeId) {s u:AV} {xs xu:Value} {res:cq} (hW:aV ρ C st w)
  (hs:aj ρ st.next.toNat C s xs) (hu:aj ρ st.next.toNat C u xu) (hr:rJ (λb=>st.heap.get b) st.next e te.bytes [s,u]=some res):
  rK P ρ C st w (((Builtin.append_ ts ty #[xs,xu]).run P w).andThen λv w=>.ok (.value v) w) res:=by
 have Nh:=λw=>qH hT fk hz (ρ:=ρ) (n:=st.next.toNat) (C:=C) w
 simp only[rJ]at hr;split at hr<;>first|(cases hr;done)|skip
 rename_i us;obtain⟨bs,rfl,Hj⟩:=hu.dX;have hm:cS (AV.str us)=some us.length:=rfl;have hlen:=L9 (P:=P) (w:=w) hu hm
 have Zw:∀{n:Nat}{s:AV},cS s=some n->Nat.ble ((2*(n+us.length)+768)*te.bytes) 281474976710656=true->Nat.ble (n+us.length) 9223372036854775807=true->us.length=0->(s= .af\/∃b,s= .slice b 0 n none 1)->
    eV (λb=>st.heap.get b) st.next te.size te.bytes [s,.str us]=some (.val s):=by
  intro n s h1 h2 h3 h4 h5;rw[h4]at h2 h3;rcases h5 with rfl|⟨b,rfl⟩
  .simp only[eV,h1,hm,h2,h3,h4];try rfl
  .simp only[eV,h1,hm,h2,h3,h4];try rfl
 have kQ:cg te.size us.length (λb=>st.heap.get b) (.str us)=some (us.map λc=>AV.int .u8 (.ofNat c)):=by
  have e1:Nat.beq te.size 1=true:=by rw[h8];rfl
  have e2:Nat.ble us.length us.length=true:=Nat.ble_self_eq_true _;simp only[cg,e1,e2,Zi7]
 split at hr<;>first|(cases hr;done)|skip
 ·
  split at hr<;>first|(cases hr;done)|skip
  rename_i b1 b2;split at hr
  .rename_i hb;simp only[H4]at hr;subst hr;exact FH hT cJ Ir hk iu fk hz h0 h1 ty hW hs hu (Zw rfl b1 b2 (Za1 hb) (.inl rfl))
  . rename_i hb;have hb:=Zb9 hb;simp only[H4]at hr;subst hr;have gR:=hs.fA;subst gR;have b6:=FG hT cJ Ir hk iu fk h0 h1 ty none 0 0 us.length (.string bs) w hlen (Za4 b1) (Za4 b2);rw[b6,Za5 (by omega)];have hg:0+us.length<=grownCap w (0+us.length) 0 e:=(by unfold grownCap Question.cut;exact Zn8 _ _);obtain⟨new,e3,e4,_⟩:=kq (P:=P) hW hu hm (Za6 _) kQ w.drew rfl;obtain⟨zv,xw,_,qI⟩:=Nh w.drew;have VP:zv.cells.size=1:=(by have:=qI.1;have h2:=(hT.at fk).info;obtain⟨i0,k9,ke,_,xq⟩:=h2;obtain⟨v0,Ed,_,Zx,_⟩:=xq z hz;simp at this;omega);have Cu:(Builtin.zeroCells zv.cells (grownCap w (0+us.length) 0 e - (0+us.length))).toList.length=grownCap w (0+us.length) 0 e - (0+us.length):=by
        rw[zj,VP,Zl1]
    obtain⟨ρ',aS,ey,hE,hv⟩:=KV hW none (au.nil (ρ:=ρ)) e4 (by simp) (by simp) Cu hg (e:=e) rfl;refine⟨_,_,_,ρ',?_,Yields.value _,aS,ey,hv,hE⟩;have e0:(Builtin.firstCells te.size 0 (.slice none 0 0)).run P w.drew= .ok #[] w.drew:=(by simp[Builtin.firstCells]);simp only[e0,e3,xw,Result.andThen_ok,World.size_drew];congr 2;simp
 ·
  rename_i b n;split at hr<;>first|(cases hr;done)|skip
  rename_i b1 b2;split at hr
  .rename_i hb;simp only[H4]at hr;subst hr;exact FH hT cJ Ir hk iu fk hz h0 h1 ty hW hs hu (Zw rfl b1 b2 (Za1 hb) (.inr ⟨_,rfl⟩))
  . rename_i hbm;have hbm:=Zb9 hbm;(split at hr<;>first|(cases hr;done)|skip);rename_i e' cs hb;(split at hr<;>first|(cases hr;done)|skip);rename_i dL j9 tE;have j9:=Za1 j9;subst j9;simp only[H4]at hr;subst hr;obtain⟨aa,aJ,gR,hle,Zv,ha⟩:=hs.cK;subst gR;have b6:=FG hT cJ Ir hk iu fk h0 h1 ty (some aa) n aJ us.length (.string bs) w hlen (Za4 b1) (Za4 b2);rw[b6];obtain⟨ho1,Be⟩:=A7 tE;have XE:=rL tE;obtain⟨Nk,hbs2,c,fr,g1,g2,g3,g4,g5,g6⟩:=hW.live b _ hb;by_cases qf:n+us.length<=aJ
    ·
        obtain⟨aT,rfl,hbound⟩:=ha (by omega);rw[Zl1,g6,Zh5,Zd9]at hbound;rw[g6]at g3 g4 g5;simp only[Zd9,Ze3]at g3 g4 g5;obtain⟨ys,e1,e2,_⟩:=kq (P:=P) hW hu hm (Za6 _) kQ w rfl;have hyl:ys.length=us.length:=(by rw[<-e2.1];simp);have hold:au ρ st.next.toNat C dL (c.toList.take n):=(by have h:=(g4.drop 0).take n;rw[<-ho1,Ze3,Zn2,Zj1 (by omega)]at h;exact h);obtain⟨w2,s1,s2,s3,s4,s5,s6,s7⟩:=jU (P:=P) (ρ b).ax e fr ys 0 n c w g1 (by omega) (vF (Qp us) e2) (λk hk kA=>g5 k (Zj0 _) kA);simp only[Zh5]at s1 s2
        let ρ':Pos->Loc:=λq=>if q=st.next then⟨(ρ b).ax,0,(ρ b).size⟩else ρ q
        have aS:∀q:Pos,q.toNat<st.next.toNat->ρ' q=ρ q:=λq hq=>Za5 (λe=>by rw[e]at hq;omega)
        have ee:ρ' st.next=⟨(ρ b).ax,0,(ρ b).size⟩:=Za7 rfl;have hcl:c.toList.length=c.size:=(by simp);have hWn:aV ρ' C (st.aH (some b) none (some (.typed e (dL++us.map λc=>AV.int .u8 (.ofNat c))))) w2:=by
          refine hW.Xq (b0:=st.next) (x0:= .typed e (dL++us.map λc=>AV.int .u8 (.ofNat c))) (by rw[Pos.az];omega) (by rw[Pos.az];omega) (by rw[T.eH]) ?_ aS ?_ ?_ (by rw[ee,s3];exact hbs2) (by omega) (λk hk kA=>s4 k (by rw[ee]at kA;exact kA))
          .intro q x hq hx;rw[T.bw _ (λe=>hq e.symm)]at hx;obtain⟨h1,h2⟩:=uq (some b) _ hx;refine⟨h1,?_⟩;rw[ee];exact λe=>h2 b rfl (hW.inj _ _ _ _ h1 hb e)
          . rw[ee];refine⟨_,fr,s2,by simp[aF];omega,by simp[aF,XE];omega,?_,λi k9 hi=> ?_,rfl⟩
            . (simp only[Ze3];have Ec:(aF c.toList n ys).take (dL++us.map λc=>AV.int .u8 (.ofNat c)).length=c.toList.take n++ys:=by unfold aF;rw[<-Zi2,Zk6];simp[XE,hyl];omega);rw[Ec];exact(hold.append e2).mono aS (by rw[Pos.az];omega)
            .have KR:i<c.size:=(by simp only[Zn1,Zd9]at hi;have:(aF c.toList n ys).length=c.size:=(by simp[aF];omega);omega);simpa using g5 i (Zj0 _) KR
          .intro ad v hv;rw[ee];exact λe=>(hW.dB ad v hv).2 b _ hb e.symm
        refine⟨_,(.slice (some ⟨(ρ b).ax,(ρ b).base+0,none⟩) (n+us.length) aJ),w2,ρ',?_,Yields.value _,aS,hWn,?_,⟨s5,s6,s7,by omega,λk _ hk=>s4 k (λe=>hk b _ hb e.symm),λq x hx=> ?_⟩⟩;rotate_left;rotate_left
        . left;by_cases hq:q=st.next
          .exact⟨b,_,hb,by rw[hq,ee]⟩
          .simp only[St.aH,Fw]at hx;rw[T.bw _ (λe=>hq e.symm)]at hx;obtain⟨h1,_⟩:=uq (some b) _ hx;exact⟨q,x,h1,by rw[aS q (hW.live q x h1).1]⟩
        .rw[Za7 qf,e1];simp only[Result.andThen_ok,kO,h8,Zl1,g6,Zd9];rw[s1];rfl
        .refine .slice _ _ _ _ _ _ _ qf (λc hc=>by cases hc) (λ_=>⟨by simp[St.aH,Pos.az],by rw[ee,g6],?_⟩) (λ_=>by simp[St.aH,Pos.az]);rw[ee];simp only;omega
    .   rw[ Za5 qf];have hg:n+us.length<=grownCap w (n+us.length) aJ e:=(by unfold grownCap Question.cut;exact Zn8 _ _);obtain⟨new,e3,e4,_⟩:=kq (P:=P) hW hu hm (Za6 _) kQ w.drew rfl;obtain⟨zv,xw,_,qI⟩:=Nh w.drew;have VP:zv.cells.size=1:=(by have:=qI.1;have h2:=(hT.at fk).info;obtain⟨i0,k9,ke,_,xq⟩:=h2;obtain⟨v0,Ed,_,Zx,_⟩:=xq z hz;simp at this;omega);have Cu:(Builtin.zeroCells zv.cells (grownCap w (n+us.length) aJ e - (n+us.length))).toList.length=grownCap w (n+us.length) aJ e - (n+us.length):=by
          rw[zj,VP,Zl1]
        have hold:∃os:List Value,(Builtin.firstCells te.size n (.slice (some aa) n aJ)).run P w.drew= .ok os.toArray w.drew/\au ρ st.next.toNat C dL os:=by
          by_cases Is:n=0
          .subst Is;have:dL=[]:=Zb2 XE;subst this;exact⟨[],by simp[Builtin.firstCells,loadCells,loadCellsFrom],au.nil⟩
          .obtain⟨aT,rfl,hbound⟩:=ha (by omega);obtain⟨ys,yF,iD⟩:=(show aV ρ C st w.drew from⟨λb x hb=>hW.live b x hb,hW.inj,hW.dB,hW.whole⟩).Nb (P:=P) hb tE;exact⟨ys,by simpa [Builtin.firstCells,h8]using yF,iD⟩
        obtain⟨os,e5,e6⟩:=hold;obtain⟨ρ',aS,ey,hE,hv⟩:=KV hW (some b) e6 e4 XE (by simp) Cu hg (e:=e) rfl;refine⟨_,_,_,ρ',?_,Yields.value _,aS,ey,hv,hE⟩;simp only[e5,e3,xw,Result.andThen_ok,World.size_drew];congr 2;simp
theorem Ry{ts:Array TypeId}(ty:TypeId){s:AV}{xs:Value}{res:cq}(hs:aj ρ st.next.toNat C s xs)(hW:aV ρ C st w)(hr:qC (λb=>st.heap.get b) st.next [s]=some res):
   rK P ρ C st w (((Builtin.unsafeSliceData_ ts ty #[xs]).run P w).andThen λv w=>.ok (.value v) w) res:=by
 simp only[qC]at hr;split at hr<;>first|(cases hr;done)|skip
 .simp only[H4]at hr;subst hr;have:=hs.fA;subst this;exact .pure (x:= .pointer none) rfl .iC
 .rename_i b off n cap es;(split at hr<;>first|(cases hr;done)|skip);rename_i h0;have h0:=Zb9 h0;simp only[H4]at hr;subst hr;obtain⟨aa,aJ,gR,hle,_,ha⟩:=hs.cK;subst gR;have hc:aJ≠0:=(by omega);obtain⟨h1,h2,_⟩:=ha hc;refine .pure (x:= .pointer (some aa)) (by rw[Lib.run_unsafeSliceData_row w ts ty aa n aJ hc];rfl) ?_;rw[h2];exact .ptr b off h1
theorem aei(hW:aV ρ C st w){b:Pos}{x:AB}(hb:st.heap.get b=some x)(h1:w'.os=w.os)(h2:w'.tape=w.tape)(h3:w'.output=w.output)(fc:w'.heap.size=w.heap.size)
   (sN:∀k,k≠(ρ b).ax->w'.heap[k]? =w.heap[k]?):
   aV ρ C (st.aH (some b) none none) w'/\jJ ρ st w ρ (st.aH (some b) none none) w':=by
 have pU:∀c y,(st.aH (some b) none none).heap.get c=some y->st.heap.get c=some y/\c≠b:=λc y hc=>by
   obtain⟨g1,g2⟩:=uq (some b) _ (show(Dk (some b) st.heap).get c=some y from hc);exact⟨g1,λe=>g2 b rfl e⟩
 refine⟨⟨λc y hc=> ?_,λc c' y y' hc tD e=>hW.inj c c' y y' (pU c y hc).1 (pU c' y' tD).1 e,λa v ha=> ?_,λa v ha o ho=> ?_⟩,⟨h1,h2,h3,by omega,λk _ hk=>sN k (λe=>hk b x hb e.symm),λc y hc=>.inl ⟨c,y,(pU c y hc).1,rfl⟩⟩⟩
 .obtain⟨g1,g2⟩:=pU c y hc;obtain⟨k1,k2,k3⟩:=hW.live c y g1;exact⟨k1,by omega,k3.of_heap (sN _ λe=>g2 (hW.inj _ _ _ _ g1 hb e))⟩
 .obtain⟨g1,g2⟩:=hW.dB a v ha;refine⟨?_,λc y hc=>g2 c y (pU c y hc).1⟩;have:=sN a.block (λe=>g2 b x hb e.symm);rw[<-g1];simp only[World.cell?,this]
 .have:=sN a.block (λe=>(hW.dB a v ha).2 b x hb e.symm);rw[<-hW.whole a v ha o ho];simp only[World.cell?,this]
theorem Rz(hT:bL P tt){t t2 e:Nat}{ts:Array TypeId}{ti te:TI}(cJ:tt.get (key t)=some ti)(hk:ti.k= .ptr e)(fk:tt.get (key e)=some te)(h8:te.size=1)(cV:ts.toList=[t,t2])
   (ty:TypeId) {s u:AV} {xs xu:Value} {res:cq} (hW:aV ρ C st w)
   (hs:aj ρ st.next.toNat C s xs) (hu:aj ρ st.next.toNat C u xu) (hr:nH (λb=>st.heap.get b) st.next e [s,u]=some res):
   rK P ρ C st w (((Builtin.unsafeString_ ts ty #[xs,xu]).run P w).andThen λv w=>.ok (.value v) w) res:=by
 obtain rfl:ts= #[t,t2]:=by apply Zm5;rw[cV]
 simp only[nH]at hr;split at hr<;>first|(cases hr;done)|skip
 rename_i n;have:=hu.iy;subst this;split at hr
 . rename_i h0;have:=Za1 h0;subst this;split at hr<;>first|(cases hr;done)|skip
   .simp only[H4]at hr;subst hr;have:=hs.ow;subst this;exact .pure (x:= .string .empty) (by rw[show(Int.ofNat 0)=(0:Int)from rfl,Lib.run_unsafeString_none];rfl) (.str _ _ rfl)
   .simp only[H4]at hr;subst hr;obtain⟨_,he⟩:=hs.e9;subst he;exact .pure (x:= .string .empty) (by rw[show(Int.ofNat 0)=(0:Int)from rfl,Lib.run_unsafeString_none];rfl) (.str _ _ rfl)
 . (rename_i h0;have h0:=Zb9 h0;(split at hr<;>first|(cases hr;done)|skip);rename_i b;(split at hr<;>first|(cases hr;done)|skip);rename_i e' cs hb;(split at hr<;>first|(cases hr;done)|skip);rename_i l he hcut XC;have he:=Za1 he;have XC:=Za4 XC;subst he;(split at hr<;>first|(cases hr;done)|skip);rename_i s' Sx;simp only[H4]at hr;subst hr;obtain⟨_,gR⟩:=hs.e9;subst gR;obtain⟨d,hd,bY⟩:=(hT.at cJ).und;rw[hk]at bY;rw[Na bY]at hd;obtain⟨i0,k9,ke,_⟩:=(hT.at fk).info;have Ct:P.cellsOf e=1:=(by simp[Program.cellsOf,k9,ke,h8]);obtain⟨Nk,hbs2,c,fr,g1,g2,g3,g4,g5,g6⟩:=hW.live b _ hb;rw[g6]at g3 g4 ⊢;simp only[Zd9,Ze3]at g3 g4;have Ng:w.shape? (ρ b).ax=some (e,c.size):=(by simp[World.shape?,g1]);obtain⟨uM,kZ⟩:=A7 hcut;have CA:=rL hcut;have iD:au ρ st.next.toNat C l (c.toList.take n):=by have h:=(g4.drop 0).take n;rw[<-uM,Ze3,Zn2,Zj1 (by omega)]at h;exact h);obtain⟨e1,e2⟩:=Dm Sx iD;have KS:s'.length=n:=(by have:=congrArg List.length e1;simp at this;omega);have b6:=Lib.run_unsafeString_row (P:=P) w t t2 ty e hd Ct (ρ b).ax c.size Ng (s'.map UInt8.ofNat) (by intro h;simp at h;rw[h]at KS;simp at KS;omega) (by simp;omega) (by simp;omega) (λj x hj=>by simp only[Zc1,Ze1]at hj;obtain⟨k,hk,rfl⟩:=hj;have hjn:j<n:=(by rw[<-KS];exact(Za3.1 hk).1);have h2:(c.toList.take n)[j]? =some (.int .u8 (k:Int)):=(by rw[e1];simp[hk]);rw[Zb8,Za7 hjn]at h2;have hk256:=e2 k (Zb5 hk);rw[kO];simp only[World.cell?,g1,Zd9];rw[<-Zg7,h2];congr 2;simp;omega);have hlen:(s'.map UInt8.ofNat).length=n:=(by simp[KS]);rw[hlen]at b6;obtain⟨q1,q2⟩:=aei (w':=w.freeze ⟨(ρ b).ax,0,none⟩ n) hW hb (by unfold World.freeze;split<;>rfl) (by unfold World.freeze;split<;>rfl) (by unfold World.freeze;split<;>rfl) (by unfold World.freeze;split<;>simp) (λk hk=>by
     unfold World.freeze;split
     .  rfl
     .  simp only[Zn6];rw[Za5 (λe=>hk e.symm)])
   refine⟨_,.string ⟨(s'.map UInt8.ofNat).toArray⟩,_,ρ,?_,Yields.value _,λ_ _=>rfl,q1,.str _ _ ?_,q2⟩
   .show((Builtin.unsafeString_ #[t,t2] ty #[.pointer (some ⟨(ρ b).ax,0,none⟩),.int .i64 (n:Int)]).run P w).andThen _=_;rw[b6];rfl
   . (simp only[Zg4];have e3:s'.map (UInt8.toNat∘UInt8.ofNat)=s'.map id:=Zj3 λc hc=>by have:=e2 c hc;simp only[Function.comp,id,UInt8.toNat_ofNat'];omega);rw[e3,List.map_id]
end
section
variable{P:Program}{tt:TT}{ρ:Pos->Loc}{C:Cells}{st:St}{w w':World}
theorem Eg{n:Nat}{xs:Array Value}{u v:AV}(h:au ρ n C [u,v] xs.toList):∃x y,xs= #[x,y]/\aj ρ n C u x/\aj ρ n C v y:=by
 obtain⟨x,l,h1,h2,h3⟩:=h.cons_inv;obtain⟨y,l',h4,h5,h6⟩:=h3.cons_inv;have:=h6.mB;subst this;exact⟨x,y,by apply Zm5;rw[h1,h4],h2,h5⟩
theorem SE{n:Nat}{xs:Array Value}{u:AV}(h:au ρ n C [u] xs.toList):∃x,xs= #[x]/\aj ρ n C u x:=by
 obtain⟨x,l,h1,h2,h3⟩:=h.cons_inv;have:=h3.mB;subst this;exact⟨x,by apply Zm5;rw[h1],h2⟩
theorem SG{ts:Array TypeId}{t:TypeId}{l:List TypeId}(h:ts.toList=t::l):ts[0]? =some t:=by rw[<-Zg7,h];rfl
theorem arr1{ts:Array TypeId}{t t2:TypeId}{l:List TypeId}(h:ts.toList=t::t2::l):ts[1]? =some t2:=by rw[<-Zg7,h];rfl
theorem abb(hT:bL P tt){t e:Nat}{ts:Array TypeId}{ti te:TI}(cJ:tt.get (key t)=some ti)(hk:ti.k= .slice e)
   (fk:tt.get (key e)=some te) (h0:ts[0]? =some t) (ty:TypeId) {d u:AV} {xd xu:Value} {res:cq} (hW:aV ρ C st w)
   (hd:aj ρ st.next.toNat C d xd) (hu:aj ρ st.next.toNat C u xu) (hr:xN (λb=>st.heap.get b) st.next te.size [d,u]=some res):
   rK P ρ C st w (((Builtin.copy_ ts ty #[xd,xu]).run P w).andThen λv w=>.ok (.value v) w) res:=by
 obtain⟨dd,hdd,bY⟩:=(hT.at cJ).und;rw[hk]at bY;rw[lM bY]at hdd;obtain⟨i0,k9,ke,_⟩:=(hT.at fk).info;simp only[xN]at hr;split at hr<;>first|(cases hr;done)|skip
 rename_i n m hn hm;have hlen:=L9 (P:=P) (w:=w) hu hm;have KS:(∃s,d= .str s)\/∃base aJ,xd= .slice base n aJ/\n<=aJ:=by
   unfold cS at hn;split at hn<;>first|(cases hn;done)|skip
   .cases hn;exact .inr ⟨none,0,hd.fA,Za6 _⟩
   .cases hn;obtain⟨a,c,he,hle,_⟩:=hd.cK;exact .inr ⟨_,c,he,hle⟩
   .cases hn;obtain⟨a,c,_,he,hle,_⟩:=hd.qF;exact .inr ⟨_,c,he,hle⟩
   .exact .inl ⟨_,rfl⟩
 have aej:m=0\/n=0->(Builtin.firstCells te.size 0 xu).run P w= .ok #[] w:=by
   intro _;unfold cS at hm;split at hm<;>first|(cases hm;done)|skip
   .rw[hu.fA];simp[Builtin.firstCells]
   .obtain⟨_,_,he,_⟩:=hu.cK;rw[he];simp[Builtin.firstCells,loadCells,loadCellsFrom]
   .obtain⟨_,_,_,he,_⟩:=hu.qF;rw[he];simp[Builtin.firstCells,loadCells,loadCellsFrom]
   .obtain⟨bs,rfl,_⟩:=hu.dX;simp only[Builtin.firstCells,Sem.run_pure];congr 1;apply Zm5;simp
 have mI:∀base aJ,xd= .slice base n aJ->(Builtin.copy_ ts ty #[xd,xu]).run P w=((Builtin.firstCells te.size (Nat.min m n) xu).run P w).andThen λcells w=>((match base with|some a=>storeCells a cells.toList|none=>pure ()).run P w).andThen λ_ w=>.ok (goInt (Nat.min m n)) w:=by
   intro base aJ he;unfold Builtin.copy_;simp only[h0,he,List.getElem?_toArray,Zb3,Ze5,Sem.run_bind,aO hdd,Result.andThen_ok,ic k9,ke,hlen];cases base<;>simp only[Sem.run_bind,Sem.run_pure,Result.andThen_ok]
 split at hr
 . rename_i uN;have uN:=Za1 uN;(split at hr<;>first|(cases hr;done)|skip);rename_i hns;simp only[H4]at hr;subst hr;rcases KS with⟨s,rfl⟩|⟨base,aJ,he,hle⟩
   .exact absurd rfl (hns s)
   .have hk0':Nat.min m n=0:=uN;refine .pure (x:=goInt 0) ?_ (.int _ _);rw[mI base aJ he,hk0',aej (by have:min m n=0:=uN;omega)];cases base<;>simp[storeCells]
 . rename_i uN;have uN:=Zb9 uN;(split at hr<;>first|(cases hr;done)|skip);rename_i b off n' cap es';(split at hr<;>first|(cases hr;done)|skip);rename_i cs fz new hb kQ;(split at hr<;>first|(cases hr;done)|skip);rename_i c1 c2 c3;have c1:=Za4 c1;have c2:=Za4 c2;simp only[H4]at hr;subst hr;simp only[cS,H4]at hn;subst hn;obtain⟨aa,aJ,he,hle,_,ha⟩:=hd.cK;have abc:min m n'<=m/\min m n'<=n':=⟨Nat.min_le_left _ _,Nat.min_le_right _ _⟩
   obtain⟨aT,rfl,_⟩:=ha (by omega);obtain⟨ys,e1,e2,e3⟩:=kq (P:=P) hW hu hm abc.1 kQ w rfl;have FI:new.length=min m n'*te.size:=by
     rcases e3 with rfl|e3
     .simp[cS]at hm;omega
     .exact e3
   obtain⟨w2,f1,ey,hE⟩:=FE (P:=P) hW hb (by rw[FI];exact c1) c2 c3 e2;refine⟨_,goInt ((min m n':Nat):Int),w2,ρ,?_,Yields.value _,λ_ _=>rfl,ey,.int _ _,hE⟩;rw[mI _ _ he];have hmm:Nat.min m n'=min m n':=rfl;rw[hmm,e1];simp only[Result.andThen_ok];rw[f1];rfl
theorem ade(hT:bL P tt){t:Nat}{ts:Array TypeId}{ti:TI}(cJ:tt.get (key t)=some ti){k:LK}(hk:(k= .s/\ti.k= .string)\/(k= .l/\∃e,ti.k= .slice e)\/(k= .m/\∃a b,ti.k= .map a b))
   (h0:ts[0]? =some t) (ty:TypeId) {u:AV} {xu:Value} {res:cq} (hW:aV ρ C st w)
   (hu:aj ρ st.next.toNat C u xu) (hr:DX (λb=>st.heap.get b) st.next k [u]=some res):
   rK P ρ C st w (((Builtin.len_ ts ty #[xu]).run P w).andThen λv w=>.ok (.value v) w) res:=by
 obtain⟨d,hd,bY⟩:=(hT.at cJ).und;have mI:∀x,xu=x->(Builtin.len_ ts ty #[xu]).run P w=(Builtin.len_ ts ty #[x]).run P w:=λx e=>by rw[e]
 simp only[DX]at hr;rcases hk with⟨rfl,hk⟩|⟨rfl,e,hk⟩|⟨rfl,a,b,hk⟩<;>rw[hk]at bY
 .rw[kY bY]at hd;(cases u<;>simp only[reduceCtorEq]at hr<;>first|(cases hr;done)|skip);simp only[H4]at hr;subst hr;obtain⟨bs,rfl,hs⟩:=hu.dX;exact .pure (x:=goInt bs.size) (by unfold Builtin.len_;simp[h0,aO hd]) (by rw[uo hs];exact .int _ _)
 . rw[lM bY]at hd;cases u<;>simp only[reduceCtorEq]at hr<;>first|(cases hr;done)|skip
   .simp only[H4]at hr;subst hr;rw[hu.fA];exact .pure (x:=goInt 0) (by unfold Builtin.len_;simp[h0,aO hd]) (.int _ _)
   .simp only[H4]at hr;subst hr;obtain⟨aa,c,he,_⟩:=hu.cK;rw[he];exact .pure (by unfold Builtin.len_;simp[h0,aO hd];rfl) (.int _ _)
   .simp only[H4]at hr;subst hr;obtain⟨aa,c,_,he,_⟩:=hu.qF;rw[he];exact .pure (by unfold Builtin.len_;simp[h0,aO hd];rfl) (.int _ _)
 . rw[Ik bY]at hd;cases u<;>simp only[reduceCtorEq]at hr<;>first|(cases hr;done)|skip
   .simp only[H4]at hr;subst hr;rw[hu.xQ];exact .pure (x:=goInt 0) (by unfold Builtin.len_;simp[h0,aO hd]) (.int _ _)
   . (split at hr<;>first|(cases hr;done)|skip);rename_i es c hb;simp only[H4]at hr;subst hr;obtain⟨_,he⟩:=hu.uK;obtain⟨_,_,es',dF,hlen,_⟩:=hW.live _ _ hb;rw[he];exact .pure (x:=goInt es'.size) (by unfold Builtin.len_;simp[h0,aO hd,run_getObj_map dF]) (by rw[<-hlen];exact .int _ _)
theorem O0(z:Array Value)(m:Nat):(Builtin.zeroCells z m).toList=bM z.toList m:=by
 unfold Builtin.zeroCells;by_cases h:0<z.size
 .exact Sz z m h
 .have h0:z.size=0:=(by omega);have:z= #[]:=Zn9 h0;subst this;have h1:bM ([]:List Value) m=[]:=Zb2 (by rw[iL];simp);simp[h1]
theorem Zy(hT:bL P tt){t e:Nat}{ts:Array TypeId}{ti te:TI}{z:List AV}(cJ:tt.get (key t)=some ti)(hk:ti.k= .slice e)
   (fk:tt.get (key e)=some te) (hz:te.zero=some z) (h0:ts[0]? =some t) (ty:TypeId) {u:AV} {xu:Value} {res:cq} (hW:aV ρ C st w)
   (hu:aj ρ st.next.toNat C u xu) (hr:qz (λb=>st.heap.get b) st.next te.size z [u]=some res):
   rK P ρ C st w (((Builtin.clear_ ts ty #[xu]).run P w).andThen λv w=>.ok (.value v) w) res:=by
 obtain⟨dd,hdd,bY⟩:=(hT.at cJ).und;rw[hk]at bY;rw[lM bY]at hdd;obtain⟨i0,k9,ke,_,xq⟩:=(hT.at fk).info;obtain⟨zv0,_,_,Nm,_⟩:=xq z hz;obtain⟨zv,xw,_,qI⟩:=qH hT fk hz (ρ:=ρ) (n:=st.next.toNat) (C:=C) w;simp only[qz]at hr;split at hr<;>first|(cases hr;done)|skip
 .simp only[H4]at hr;subst hr;rw[hu.fA];exact .pure (x:=undef) (by unfold Builtin.clear_;simp[h0,aO hdd];rfl) aj.ur
 . rename_i b off n cap es';obtain⟨aa,aJ,he,hle,_,ha⟩:=hu.cK;rw[he];split at hr
   .rename_i Is;have:=Za1 Is;subst this;simp only[H4]at hr;subst hr;exact .pure (x:=undef) (by unfold Builtin.clear_;simp[h0,aO hdd];rfl) aj.ur
   . rename_i Is;have Is:=Zb9 Is;(split at hr<;>first|(cases hr;done)|skip);rename_i cs fz hb;(split at hr<;>first|(cases hr;done)|skip);rename_i c1 c2 c3;have c1:=Za4 c1;have c2:=Za4 c2;simp only[H4]at hr;subst hr;obtain⟨_,rfl,_⟩:=ha (by omega);obtain⟨w2,f1,ey,hE⟩:=FE (P:=P) hW hb (vs:=bM z n) (ys:=bM zv.cells.toList n) (by rw[iL,Nm];exact c1) c2 c3 (Dn qI n);refine⟨_,undef,w2,ρ,?_,Yields.value _,λ_ _=>rfl,ey,aj.ur,hE⟩;unfold Builtin.clear_;cases n with
     |zero=>exact absurd rfl Is
     |succ n=>simp[h0,aO hdd,xw,O0,f1,undef]
theorem Eh(c:Call)(f:Operand)(hc:c.callee= .value f)(a:Act)(o:Oper)(ho:o.op= .call c){g:FuncId}{x y:Array Value}(he:a.eval f= .func (.func g) x y):
  (execOp a.eval o).run P w=(callFunc g (x++c.args.map a.eval++y)).run P w:=by
 simp[execOp,ho,resolve,hc,he,Deferred.ofValue,invoke]
theorem abd (hT:bL P tt) (c:Call):cL P tt (.call c):=by
 intro ρ C st w k xs cls fr a o vs res ho hc hW hF hx hr;simp only[fL]at hc;split at hc<;>first|(cases hc;done)|skip
 rename_i l hl;split at hc<;>first|(cases hc;done)|skip
 ·
  rename_i g Ma;cases hc;have hv:=dQ hl hF hx;simp only[av.run,LV,H4]at hr;subst hr;refine⟨c.args.toList.map a.eval,?_,hv⟩;rw[Eh c _ Ma a o ho (g:=g) (x:= #[]) (y:= #[]) rfl];congr 2;apply Zm5;simp
 ·
  rename_i f hnf Ma;split at hc<;>first|(cases hc;done)|skip
  rename_i ao hao;cases hc;unfold dV at hx;split at hx<;>first|(cases hx;done)|skip
  rename_i fv hfv;split at hx<;>first|(cases hx;done)|skip
  rename_i vs' abe;simp only[H4]at hx;subst hx;have h1:=ov hao hF hfv;have h2:=dQ hl hF abe;simp only[av.run,LW]at hr;split at hr<;>first|(cases hr;done)|skip
  rename_i g first captured
  simp only[H4]at hr;subst hr;obtain⟨x,y,he,hx,hy⟩:=h1.A4;refine⟨x.toList++(c.args.toList.map a.eval++y.toList),?_,hx.append (h2.append hy)⟩;rw[Eh c f Ma a o ho he];congr 2;apply Zm5;simp
 ·
  rename_i b Ma;have hex:∀(s:Sem Value),(∀consts,builtin b c.argTypes o.type consts (c.args.map a.eval)=(do pure (.value (<-s))))->(execOp a.eval o).run P w=(s.run P w).andThen λv w=>.ok (.value v) w:=by intro s hs;simp only[execOp,ho,resolve,Ma,pure_bind,invoke];rw[hs];simp
  split at hc<;>first|(cases hc;done)|skip
  ·
   (split at hc<;>first|(cases hc;done)|skip);rename_i t _ _ cV;(split at hc<;>first|(cases hc;done)|skip);rename_i ti cJ;have hv:=dQ hl hF (vs:=vs) (by
        split at hc<;>first|(cases hc;done)|skip
        all_goals cases hc;exact hx)
   rw[fW] at hv;rw[hex (Builtin.len_ c.argTypes o.type (c.args.map a.eval)) (λ_=>rfl)];have hu:∃u,vs=[u]      :=by
        have h1:=hv.1;have h2:(c.args.toList).length=1:=by
         have: ∀{xs:List   Operand}{os:List dU},iV xs=some os->xs.length=os.length:=by
            intro xs;induction xs with
            |nil=>intro os h;simp[iV]at h;subst h;rfl
            |cons x xs ih=>intro os h;unfold iV at h;split at h<;>first|(cases h;done)|skip
                           rename_i e1 e2;simp only[H4]at h;subst h;simp[ih e2]
         rw[this hl];rfl
        match vs,h1 with
        |[u],_=>exact⟨u,rfl⟩
        |[],h1=>simp at h1 h2;omega
        |_::_::_,h1=>simp at h1 h2;omega
   obtain⟨u,rfl⟩:=hu;obtain⟨x,gR,hux⟩:=SE hv;rw[gR];split at hc<;>first|(cases hc;done)|skip
   all_goals
        rename_i hk;cases hc;simp only[av.run]at hr;refine ade hT cJ ?_ (SG cV) o.type hW hux hr
   .    exact .inl ⟨rfl,hk⟩
   .    exact .inr (.inl ⟨rfl,_,hk⟩)
   .    exact .inr (.inr ⟨rfl,_,_,hk⟩)
  ·
   (split at hc<;>first|(cases hc;done)|skip);rename_i t t2 _ cV;(split at hc<;>first|(cases hc;done)|skip);rename_i ti Hi cJ Ir;split at hc<;>first|(cases hc;done)|skip
   .    rename_i e hk iu;(split at hc<;>first|(cases hc;done)|skip);rename_i te fk;(split at hc<;>first|(cases hc;done)|skip);rename_i z hz Zi h8;have h8:=Za1 h8;cases hc;have hv:=dQ hl hF hx;rw[fW]at hv;rw[hex (Builtin.append_ c.argTypes o.type (c.args.map a.eval)) (λ_=>rfl)];simp only[av.run]at hr;have hu:∃s u,vs=[s,u]:=by
         unfold rJ at hr;(split at hr<;>first|(cases hr;done)|skip);exact⟨_,_,rfl⟩
        obtain⟨s,u,rfl⟩:=hu;obtain⟨x,y,gR,h1,h2⟩:=Eg hv;rw[gR];exact Ve hT cJ Ir hk (λk hk=>by rw[iu]at hk;cases hk) fk hz h8 (SG cV) (arr1 cV) o.type hW h1 h2 hr
   rename_i e hk iu _;(split at hc<;>first|(cases hc;done)|skip);rename_i te fk;(split at hc<;>first|(cases hc;done)|skip);rename_i z hz;cases hc;have hv:=dQ hl hF hx;rw[fW]at hv;rw[hex (Builtin.append_ c.argTypes o.type (c.args.map a.eval)) (λ_=>rfl)];simp only[av.run]at hr;have hu:∃s u,vs=[s,u]:=by
        unfold eV at hr;(split at hr<;>first|(cases hr;done)|skip);exact⟨_,_,rfl⟩
   obtain⟨s,u,rfl⟩:=hu;obtain⟨x,y,gR,h1,h2⟩:=Eg hv;rw[gR];exact FH hT cJ Ir hk (λk hk=>iu k hk) fk hz (SG cV) (arr1 cV) o.type hW h1 h2 hr
  ·
   (split at hc<;>first|(cases hc;done)|skip);rename_i t _ cV;(split at hc<;>first|(cases hc;done)|skip);rename_i ti cJ;(split at hc<;>first|(cases hc;done)|skip);rename_i e hk;(split at hc<;>first|(cases hc;done)|skip);rename_i te fk;cases hc;have hv:=dQ hl hF hx;rw[fW]at hv;rw[hex (Builtin.copy_ c.argTypes o.type (c.args.map a.eval)) (λ_=>rfl)];simp only[av.run]at hr;have hu:∃s u,vs=[s,u]:=by
        unfold xN at hr;(split at hr<;>first|(cases hr;done)|skip);exact⟨_,_,rfl⟩
   obtain⟨s,u,rfl⟩:=hu;obtain⟨x,y,gR,h1,h2⟩:=Eg hv;rw[gR];exact abb hT cJ hk fk (SG cV) o.type hW h1 h2 hr
  ·
   (split at hc<;>first|(cases hc;done)|skip);cases hc;have hv:=dQ hl hF hx;rw[fW]at hv;rw[hex (Builtin.unsafeSliceData_ c.argTypes o.type (c.args.map a.eval)) (λ_=>rfl)];simp only[av.run]at hr;have hu:∃s,vs=[s]:=by
        unfold qC at hr;(split at hr<;>first|(cases hr;done)|skip);exact⟨_,rfl⟩
   obtain⟨s,rfl⟩:=hu;obtain⟨x,gR,h1⟩:=SE hv;rw[gR];exact Ry o.type h1 hW hr
  ·
   (split at hc<;>first|(cases hc;done)|skip);rename_i t t2 cV;(split at hc<;>first|(cases hc;done)|skip);rename_i ti cJ;(split at hc<;>first|(cases hc;done)|skip);rename_i e hk;(split at hc<;>first|(cases hc;done)|skip);rename_i te fk;(split at hc<;>first|(cases hc;done)|skip);rename_i Zi h8;have h8:=Za1 h8;cases hc;have hv:=dQ hl hF hx;rw[fW]at hv;rw[hex (Builtin.unsafeString_ c.argTypes o.type (c.args.map a.eval)) (λ_=>rfl)];simp only[av.run]at hr;have hu:∃s u,vs=[s,u]:=by
        unfold nH at hr;(split at hr<;>first|(cases hr;done)|skip);exact⟨_,_,rfl⟩
   obtain⟨s,u,rfl⟩:=hu;obtain⟨x,y,gR,h1,h2⟩:=Eg hv;rw[gR];exact Rz hT cJ hk fk h8 cV o.type hW h1 h2 hr
  ·
   (split at hc<;>first|(cases hc;done)|skip);cases hc;have hv:=dQ hl hF hx;rw[fW]at hv;rw[hex (Builtin.min_ c.argTypes o.type (c.args.map a.eval)) (λ_=>rfl)];simp only[av.run]at hr;have hu:∃s u r,vs=[s,u]/\res= .val r:=by
        unfold Ay at hr;(split at hr<;>first|(cases hr;done)|skip);split at hr<;>first|(cases hr;done)|skip
        all_goals cases hr;exact⟨_,_,_,rfl,rfl⟩
   obtain⟨s,u,r,rfl,rfl⟩:=hu;obtain⟨x,y,gR,h1,h2⟩:=Eg hv;obtain⟨z,hz,hvz⟩:=aa5 (P:=P) (w:=w) h1 h2 hr;rw[gR];refine .pure (x:=z) ?_ hvz;simp[Builtin.min_,hz]
  ·
   (split at hc<;>first|(cases hc;done)|skip);cases hc;have hv:=dQ hl hF hx;rw[fW]at hv;rw[hex (Builtin.max_ c.argTypes o.type (c.args.map a.eval)) (λ_=>rfl)];simp only[av.run]at hr;have hu:∃s u r,vs=[s,u]/\res= .val r:=by
        unfold Az at hr;(split at hr<;>first|(cases hr;done)|skip);split at hr<;>first|(cases hr;done)|skip
        all_goals cases hr;exact⟨_,_,_,rfl,rfl⟩
   obtain⟨s,u,r,rfl,rfl⟩:=hu;obtain⟨x,y,gR,h1,h2⟩:=Eg hv;obtain⟨z,hz,hvz⟩:=aa6 (P:=P) (w:=w) h1 h2 hr;rw[gR];refine .pure (x:=z) ?_ hvz;simp[Builtin.max_,hz]
  ·
   (split at hc<;>first|(cases hc;done)|skip);rename_i t _ cV;(split at hc<;>first|(cases hc;done)|skip);rename_i ti cJ;(split at hc<;>first|(cases hc;done)|skip);rename_i e hk;(split at hc<;>first|(cases hc;done)|skip);rename_i te fk;(split at hc<;>first|(cases hc;done)|skip);rename_i z hz;cases hc;have hv:=dQ hl hF hx;rw[fW]at hv;rw[hex (Builtin.clear_ c.argTypes o.type (c.args.map a.eval)) (λ_=>rfl)];simp only[av.run]at hr;have hu:∃u,vs=[u]:=by
        unfold qz at hr;(split at hr<;>first|(cases hr;done)|skip);exact⟨_,rfl⟩
   obtain⟨u,rfl⟩:=hu;obtain⟨x,gR,hux⟩:=SE hv;rw[gR];exact Zy hT cJ hk fk hz (SG cV) o.type hW hux hr
theorem J6(hT:bL P tt)(op:Op):cL P tt op:=by
 cases op with
 |move x=>exact aa1 x
 |assign x=>exact Xt x
 |pick c x y=>exact aa2 c x y
 |alloc t=>exact Zn hT t
 |box t x=>exact ada t x
 |build t ps=>exact Zm hT t ps
 |buildSlice t n ps=>exact OZ hT t n ps
 |insert t m k v=>exact Np hT _ t m k v (.inr rfl)
 |load t x=>exact aa4 hT t x
 |store t x y=>exact Zq hT t x y
 |nilCheck x=>exact Sw x
 |binOp op t x y yt=>exact Zd hT op t x y yt
 |unOp op t x=>exact aa3 op t x
 |convert s d x=>
  by_cases h:∃xs cls,fL tt (.convert s d x)=some (.conv .bytes,xs,cls)
  .exact Rx hT s d x h
  .exact Vc hT s d x λk xs cls hc e=>h ⟨xs,cls,by rw[hc,e]⟩
 |makeInterface t x=>exact Va hT t x
 |makeFunc f x y=>exact Xu f x y
 |makeMap t r=>exact Zo t r hT
 |makeSlice t l c=>exact Vd hT t l c
 |slice t x l h m=>exact Zh hT t x l h m
 |fieldAddr t x f=>exact Rv hT t x f
 |field t x f=>exact Ze hT t x f
 |indexAddr t x i=>exact Rw hT t x i
 |index t x i=>exact Zf hT t x i
 |lookup t x i ok=>exact Xx hT t x i ok
 |mapUpdate t m k v=>exact Np hT _ t m k v (.inl rfl)
 |range t x=>exact Xy hT t x
 |next it s=>exact Zt it s
 |extract x i=>exact U9 x i
 |call c=>exact abd hT c
 |_=>intro ρ C st w k xs cls fr a o vs res ho hc;simp[fL]at hc
end
end
section
open Go
def Reaches(P:Program)(R:Value->World->Prop):Result Next->Prop
 |.ok (.value x) w'=>R x w'
 |.ok .skip w'=>R undef w'
 |.ok (.enter f args) w'=>Calls P f args w' λ|.returned v,w''=>R v w''|_,_=>False
 |.ok (.row row args) w'=>Rows P row args w' R
 |_=>False
theorem Reaches.mono{P:Program}{R R':Value->World->Prop}(h:∀x w,R x w->R' x w):∀{r:Result Next},Reaches P R r->Reaches P R' r
 |.ok (.value _) _,hr=>h _ _ hr
 |.ok .skip _,hr=>h _ _ hr
 |.ok (.enter _ _) _,hr=>Calls.mono hr λe w he=>by cases e<;>first|exact h _ _ he|exact he
 |.ok (.row _ _) _,hr=>Rows.mono hr h
section
variable(P:Program)(ops:Array Oper)
def O3(o:Oper)(K:Act->World->Prop)(a:Act)(w:World):Prop:=Reaches P (λx w'=>K (a.put o.dst x) w') ((execOp a.eval o).run P w)
def Bf(i:Nat)(K:Act->World->Prop)(a:Act)(w:World):Prop:=
 match ops[i]? with
 |none=>K a w
 |some o=>if Region.wanted o (yielded ops a.tmps)then O3 P o K a w else K (a.put o.dst undef) w
def oC(K:Act->World->Prop):List Nat->Act->World->Prop
 |[],a,w=>K a w
 |i::l,a,w=>Bf P ops i (oC K l) a w
def R1(K:Act->World->Prop):Nat->Array Bool->Act->World->Prop
 |0,listed,a,w=>Region.ready .any ops listed=[]/\K a w
 |fuel+1,listed,a,w=>(Region.ready .any ops listed=[]->K a w)/\∀i∈Region.ready .any ops listed,Bf P ops i (R1 K fuel (listed.setIfInBounds i true)) a w
end
section
variable{P:Program}{ops:Array Oper}
theorem Qq{i:Nat}{K K':Act->World->Prop}{a:Act}{w:World}(h:∀a w,K a w->K' a w)(hh:Bf P ops i K a w):Bf P ops i K' a w:=by
 unfold Bf at*
 split
 .rename_i ho;rw[ho]at hh;exact h _ _ hh
 . rename_i o ho;rw[ho]at hh;dsimp only at hh;split
   .rename_i hw;rw[Za7 hw]at hh;exact Reaches.mono (λx w' hk=>h _ _ hk) hh
   .rename_i hw;rw[Za5 hw]at hh;exact h _ _ hh
theorem Qr{K:Act->World->Prop}{l2:List Nat}:∀(l1:List Nat)(a:Act)(w:World),oC P ops (oC P ops K l2) l1 a w->oC P ops K (l1++l2) a w
 |[],_,_,h=>h
 |_::l1,_,_,h=>Qq (λa w=>Qr l1 a w) h
end
section
variable(P:Program)
def It(R:(Exit->Act->World->Prop)->Act->World->Prop)(Q:Exit->Act->World->Prop):Nat->Act->World->Prop
 |0,_,_=>False
 |n+1,a,w=>R (Exit.then (It R Q n) Q) a w
def eE:Code->(Exit->Act->World->Prop)->Act->World->Prop
 |.skip,Q,a,w=>Q .normal a w
 |  .region _ ops draw,Q,a,w=>match draw with
    |false=>oC P ops (Q .normal) (List.range ops.size) a w
    |true=>P.follows .mixedOrders=true/\R1 P ops (Q .normal) ops.size (Array.replicate ops.size false) a { w with drawn:=w.drawn+1 }
 |.seq x y,Q,a,w=>eE x (Exit.then (eE y Q) Q) a w
 |  .cond c x y,Q,a,w=>∃t,a.eval c= .bool t/\match t with
    |true=>eE x Q a w
    |false=>eE y Q a w
 |.block id x,Q,a,w=>eE x (Exit.inBlock id Q) a w
 |.loop x,Q,a,w=>∃n,It (eE x) Q n a w
 |.exit id,Q,a,w=>Q (.exit id) a w
 |.ret,Q,a,w=>Q .ret a w
 |_,_,_,_=>False
end
section
variable{P:Program}{Q:Exit->Act->World->Prop}{a:Act}{w:World}
theorem Zz(h:Q .normal a w):eE P .skip Q a w:=h
theorem ZA{id:Nat}(h:Q (.exit id) a w):eE P (.exit id) Q a w:=h
theorem Bg{x y:Code}(h:eE P x (Exit.then (eE P y Q) Q) a w):eE P (.seq x y) Q a w:=h
theorem Ns{id:Nat}{x:Code}(h:eE P x (Exit.inBlock id Q) a w):eE P (.block id x) Q a w:=h
theorem Dr{id:Nat}{ops:Array Oper}(h:oC P ops (Q .normal) (List.range ops.size) a w):eE P (.region id ops false) Q a w:=h
theorem O4{c:Operand}{x y:Code}(hc:a.eval c= .bool true)(h:eE P x Q a w):eE P (.cond c x y) Q a w:=⟨true,hc,h⟩
theorem Nt{c:Operand}{x y:Code}(hc:a.eval c= .bool false)(h:eE P y Q a w):eE P (.cond c x y) Q a w:=⟨false,hc,h⟩
theorem ZB{x:Code}(n:Nat)(h:It (eE P x) Q n a w):eE P (.loop x) Q a w:=⟨n,h⟩
theorem Qt{R:(Exit->Act->World->Prop)->Act->World->Prop}{n:Nat}:It R Q (n+1) a w=R (Exit.then (It R Q n) Q) a w:=rfl
end
def oD:Code->List Nat
 |.region _ ops _=>ops.toList.filterMap (·.dst)
 |.seq a b=>oD a++oD b
 |.cond _ a b=>oD a++oD b
 |.block _ a=>oD a
 |.loop a=>oD a
 |_=>[]
abbrev Fc(r:Option Nat):Fence:={ Fence.wide with round:=r }
section
variable{P:Program}{r:Option Nat}{n:Nat}{ts:Nat->Prop}{x:Array Value}{ds D:List Deferred}
def InF(D ds:List Deferred)(ts:Nat->Prop)(x:Array Value)(Q:Exit->Act->World->Prop):Exit->Act->World->Prop:=
 λe a w=>a.defers=D/\(∀t,ts t->a.tmps[t]? =x[t]?)/\Q e ⟨a.tmps,ds⟩ w
theorem adf{row:String}{args:Array Value}{w:World}{R:Value->World->Prop}(h:Rows P row args w R):RowsIn (Fc r) n P row args w R:=
 λc cs _=>let⟨v,w',hr,hs⟩:=h c cs;⟨v,w',hr,stepsIn_wide.2 hs⟩
theorem abf{f:FuncId}{args:Array Value}{w:World}{R:Ending->World->Prop}(h:Calls P f args w R):CallsIn (Fc r) n P f args w R:=callsIn_wide.2 h
theorem Ei{T:Array Value}{o:Operand}:(⟨T,ds⟩:Act).eval o=(⟨T,D⟩:Act).eval o:=by cases o<;>rfl
theorem aek{T:Array Value}{d:Option Tmp}{v:Value}:(⟨T,ds⟩:Act).put d v=⟨((⟨T,D⟩:Act).put d v).tmps,ds⟩:=by cases d<;>rfl
theorem adg{T:Array Value}{d:Option Tmp}{v:Value}:(⟨T,ds⟩:Act).put d v=⟨((⟨T,ds⟩:Act).put d v).tmps,ds⟩:=by cases d<;>rfl
theorem abg{T:Array Value}{d:Option Tmp}{v:Value}{t:Nat}(h:d≠some t):((⟨T,ds⟩:Act).put d v).tmps[t]? =T[t]? :=by
 cases d with
 |none=>rfl
 |some e=>
  show(T.setIfInBounds e v)[t]? =T[t]?;exact Ze4 λh'=>h (by rw[h'])
theorem adh{o:Oper}{K:Act->World->Prop}{K':Act->World->Prop}{Q:Exit->Act->World->Prop}{T:Array Value}{w:World}(h:O3 P o K ⟨T,ds⟩ w)
  (hK:∀v w',K ((⟨T,ds⟩:Act).put o.dst v) w'->K' ((⟨T,D⟩:Act).put o.dst v) w'):o.wpIn (Fc r) n P ⟨T,D⟩ w K' Q:=by
 refine⟨λ_ _=>trivial,?_⟩;have he:(⟨T,D⟩:Act).eval=(⟨T,ds⟩:Act).eval:=funext λ_=>Ei
 rw[he];unfold O3 at h;have hs:o.semAt r (⟨T,ds⟩:Act).eval=execOp (⟨T,ds⟩:Act).eval o:=by
  cases r with
  |none=>rfl
  | some l=>
    unfold Oper.semAt;(cases ho:o.op<;>first|rfl|skip);exfalso;unfold execOp at h;rw[ho]at h;simp only[Sem.run_bind,Sem.run_pure]at h;cases hr:(resolve (⟨T,ds⟩:Act).eval _ o.type).run P w<;>rw[hr]at h<;>simp[Result.andThen,Reaches]at h
 show o.uponIn (Fc r) n P _ _ _ ((o.semAt r (⟨T,ds⟩:Act).eval).run P w);rw[hs];generalize (execOp (⟨T,ds⟩:Act).eval o).run P w=z at h;cases z with
 |ok m w'=>
  cases m<;>simp only[Reaches]at h
  .exact hK _ _ h
  .exact hK _ _ h
  .exact⟨λhd=>by simp[Fence.wide]at hd,(abf h).mono λe w he=>by cases e<;>first|exact hK _ _ he|exact he.elim⟩
  .exact⟨λhd=>by simp[Fence.wide]at hd,(adf h).mono λv w he=>hK _ _ he⟩
 |halt v w'=>simp only[Reaches]at h
theorem VS{ops:Array Oper}{i:Nat}{K K':Act->World->Prop}{Q:Exit->Act->World->Prop}{T:Array Value}{w:World}(h:Bf P ops i K ⟨T,ds⟩ w)(cV:∀o,ops[i]? =some o->∀t,o.dst=some t->¬ts t)
   (hx:∀t,ts t->T[t]? =x[t]?) (hK:∀T' w',(∀t,ts t->T'[t]? =x[t]?)->K ⟨T',ds⟩ w'->K' ⟨T',D⟩ w'):wpOpIn (Fc r) n P ops Q i K' ⟨T,D⟩ w:=by
 unfold Bf at h;unfold wpOpIn;split at h
 .rename_i ho;rw[ho];exact hK _ _ hx h
 . (rename_i o ho;rw[ho];have XF:∀v t,ts t->((⟨T,D⟩:Act).put o.dst v).tmps[t]? =x[t]? :=λv t ht=>by rw[abg (λhd=>cV o ho t hd ht)];exact hx t ht);have mI:∀v w',K ((⟨T,ds⟩:Act).put o.dst v) w'->K' ((⟨T,D⟩:Act).put o.dst v) w':=λv w' hk=>by rw[aek (D:=D)]at hk;rw[adg];exact hK _ _ (XF v) hk
   show if Region.wanted o (yielded ops T)=true then _ else _
   dsimp only at h;split at h
   .rename_i hw;rw[Za7 hw];exact adh h mI
   .rename_i hw;rw[Za5 hw];exact⟨λ_ _=>trivial,mI _ _ h⟩
theorem ZC{ops:Array Oper}(cV:∀t∈ops.toList.filterMap (·.dst),¬ts t){i:Nat}:∀o,ops[i]? =some o->∀t,o.dst=some t->¬ts t:=λo ho t ht=>cV t (by
 rw[Zm6];exact⟨o,by rw[Zl2];exact Zk9 ho,ht⟩)
theorem FJ{ops:Array Oper}{K:Act->World->Prop}{Q:Exit->Act->World->Prop}{l2:List Nat}(hK:∀T' w',(∀t,ts t->T'[t]? =x[t]?)->K ⟨T',ds⟩ w'->wpOpsIn (Fc r) n P ops Q l2 ⟨T',D⟩ w'):
  ∀(l:List Nat)(T:Array Value)(w:World),(∀i∈l,∀o,ops[i]? =some o->∀t,o.dst=some t->¬ts t)->(∀t,ts t->T[t]? =x[t]?)->oC P ops K l ⟨T,ds⟩ w->wpOpsIn (Fc r) n P ops Q (l++l2) ⟨T,D⟩ w
 |[],T,w,_,hx,h=>hK T w hx h
 |i::l,T,w,cV,hx,h=>by rw[Zf7,wpOpsIn_cons];exact VS h (cV i (Zd8 ..)) hx λT' w' kG hk=>FJ hK l T' w' (λj hj=>cV j (Zb0 _ hj)) kG hk
theorem SH{ops:Array Oper}{K K':Act->World->Prop}{Q:Exit->Act->World->Prop}(hQ:Q .normal=K')(cV:∀t∈ops.toList.filterMap (·.dst),¬ts t)(hK:∀T' w',(∀t,ts t->T'[t]? =x[t]?)->K ⟨T',ds⟩ w'->K' ⟨T',D⟩ w'):
  ∀(fuel:Nat)(listed:Array Bool)(T:Array Value)(w:World),(∀t,ts t->T[t]? =x[t]?)->R1 P ops K fuel listed ⟨T,ds⟩ w->wpAnyIn (Fc r) n P .any ops Q fuel listed ⟨T,D⟩ w
 |0,listed,T,w,hx,h=>⟨h.1,by rw[hQ];exact hK T w hx h.2⟩
 |fuel+1,listed,T,w,hx,h=>⟨λhr=>by rw[hQ];exact hK T w hx (h.1 hr),λi hi=>VS (h.2 i hi) (ZC cV) hx λT' w' kG hk=>SH hQ cV hK fuel _ T' w' kG hk⟩
theorem eE.VT:∀(c:Code)(Q:Exit->Act->World->Prop)(T:Array Value)(w:World),(∀t∈oD c,¬ts t)->(∀t,ts t->T[t]? =x[t]?)->eE P c Q ⟨T,ds⟩ w->
  c.wpIn (Fc r) n P (InF D ds ts x Q) ⟨T,D⟩ w:=by
 intro c;induction c with
 |skip=>exact λQ T w _ hx h=>wpIn_skip ⟨rfl,hx,h⟩
 |region i ops d=>
  intro Q T w cV hx h;cases d
  .refine wpIn_region ?_;rw[<-Zf0 (List.range ops.size)];exact FJ (λT' w' kG hk=>by show InF D ds ts x Q .normal _ _;exact⟨rfl,kG,hk⟩) _ T w (λ_ _=>ZC cV) hx h
  .exact wpIn_region_any h.1 (SH rfl cV (λT' w' kG hk=>⟨rfl,kG,hk⟩) _ _ T _ hx h.2)
 |seq a b SI SJ=>
  intro Q T w cV hx h;refine wpIn_seq (wpIn_mono (SI _ T w (λt ht=>cV t (Zh0 _ ht)) hx h) ?_);rintro e ⟨T',D'⟩ w' ⟨h1,h2,h3⟩;dsimp only at h1;subst h1;cases e with
  |normal=>exact SJ Q T' w' (λt ht=>cV t (Zi6 _ ht)) h2 h3
  |_=>exact⟨rfl,h2,h3⟩
 |cond c a b SI SJ=>
  intro Q T w cV hx h;obtain⟨t,ht,h⟩:=h;refine wpIn_cond (t:=t) (by rw[<-ht];exact Ei) ?_;cases t
  .exact SJ Q T w (λt ht=>cV t (Zi6 _ ht)) hx h
  .exact SI Q T w (λt ht=>cV t (Zh0 _ ht)) hx h
 |block id a ih=>
  intro Q T w cV hx h;refine wpIn_block (wpIn_mono (ih _ T w cV hx h) ?_);rintro e a' w' ⟨h1,h2,h3⟩;cases e with
  | exit i=>
    simp only[Exit.inBlock]at h3 ⊢;split<;>(rename_i hi;first|rw[Za7 hi]at h3|rw[Za5 hi]at h3)<;>exact⟨h1,h2,h3⟩
  |_=>exact⟨h1,h2,h3⟩
 |loop a ih=>
  intro Q T w cV hx h;obtain⟨m,h⟩:=h;refine wpIn_loop_rounds m ?_;induction m generalizing T w with
  |zero=>exact h.elim
  | succ m ihm=>
    rw[roundsIn_succ];refine wpIn_mono (ih _ T w cV hx h) ?_;rintro e ⟨T',D'⟩ w' ⟨h1,h2,h3⟩;dsimp only at h1;subst h1;cases e with
    |normal=>exact ihm T' w' h2 h3
    |_=>exact⟨rfl,h2,h3⟩
 |exit id=>exact λQ T w _ hx h=>wpIn_exit ⟨rfl,hx,h⟩
 |ret=>exact λQ T w _ hx h=>wpIn_ret ⟨rfl,hx,h⟩
 |_=>exact λQ T w _ _ h=>h.elim
theorem eE.wp{c:Code}{Q:Exit->Act->World->Prop}{a:Act}{w:World}(h:eE P c Q a w):c.wp P Q a w:=by refine wpIn_wide (n:=0) |>.1 (wpIn_mono (eE.VT (r:=none) (D:=a.defers) (ds:=a.defers) (ts:=λ_=>False) (x:= #[]) c Q a.tmps w (λ_ _ h=>h) (λ_ h=>h.elim) h) ?_);rintro e ⟨T,D⟩ w' ⟨h1,_,h3⟩;dsimp only at h1;subst h1;exact h3
end
end
section
open Go Go.RowKit
def lO(ρ:Pos->Loc)(C:Cells)(st:St)(w:World)(v:AV)(st':St)(x:Value)(w':World):Prop:=
 ∃ρ',aj ρ' st'.next.toNat C v x/\(∀b:Pos,b.toNat<st.next.toNat->ρ' b=ρ b)/\st.next.toNat<=st'.next.toNat/\aV ρ' C st' w'/\jJ ρ st w ρ' st' w'
def eO(P:Program)(C:Cells)(call:ai):Prop:=
 ∀  (ρ:Pos->Loc)(st:St)(w:World)(f:FuncId)(args:List AV)(v:AV)(st':St)(bC:List Value),call f args st=some (v,st')->
    aV ρ C st w->au ρ st.next.toNat C args bC->Reaches P (lO ρ C st w v st') ((callFunc f bC.toArray).run P w)
section
variable{P:Program}{tt:TT}{C:Cells}{call:ai}
theorem St.SK(st:St)(del:Option Pos)(set:Option (Pos×AB))(new:Option AB):st.next.toNat<=(st.aH del set new).next.toNat:=by
 cases new with
 |none=>exact Za6 _
 |some x=>simp only[St.aH,Pos.az];omega
theorem KW(hT:bL P tt)(bI:eO P C call){ρ:Pos->Loc}{st st':St}{w:World}{k:av}{xs:List dU}{cls:VJ}{fr:Fr}{a:Act}{o:Oper}{vs:List AV}{v:AV}
   (hc:fL tt o.op=some (k,xs,cls)) (hW:aV ρ C st w) (hF:fo ρ st.next.toNat C fr a.tmps) (hx:dV fr xs=some vs)
   (hs:bS call k vs st=some (v,st')):Reaches P (lO ρ C st w v st') ((execOp a.eval o).run P w):=by
 have H:=J6 hT o.op ρ C st w k xs cls fr a o vs;unfold bS at hs;split at hs
 . rename_i u hr;simp only[H4,Zb6]at hs;obtain⟨rfl,rfl⟩:=hs;obtain⟨N,x,he,hy,hv⟩:=H _ rfl hc hW hF hx hr;have hp:lO ρ C st w u st x w:=⟨ρ,hv,λ_ _=>rfl,Za6 _,hW,jJ.refl _ _ _⟩
   rw[he];rcases hy with rfl|⟨rfl,rfl⟩<;>exact hp
 . rename_i u del set new hr;simp only[H4,Zb6]at hs;obtain⟨rfl,rfl⟩:=hs;obtain⟨N,x,w',ρ',he,hy,aS,ey,hv,hE⟩:=H _ rfl hc hW hF hx hr;have hp:lO ρ C st w u (st.aH del set new) x w':=⟨ρ',hv,aS,St.SK _ _ _ _,ey,hE⟩
   rw[he];rcases hy with rfl|⟨rfl,rfl⟩<;>exact hp
 .rename_i f args hr;obtain⟨bC,he,hv⟩:=H _ rfl hc hW hF hx hr;rw[he];exact bI ρ st w f args v st' bC hs hW hv
 .cases hs
structure rM(tt:TT)(nt:Nat)(ops:Array Oper)(o:Oper)(ao:bh):Prop where
 dst:ao.dst=o.dst.map key
 lt:∀d,o.dst=some d->d<nt
 guard:M7 ops o.guard=some ao.guard
 op:(fL tt o.op=some (ao.k,ao.xs,ao.cls))\/(ao.k= .bad/\ao.cls= .aH)
theorem mZ{nt:Nat}{ops:Array Oper}:∀{os:List Oper}{bs:List Nat}{l:List bh},mH tt nt ops os bs=some l->
  l.length=os.length/\∀(i:Nat)(o:Oper),os[i]? =some o->∃ao,l[i]? =some ao/\rM tt nt ops o ao/\ao.bD=bs.getD i 0
 |[],bs,l,h=>by simp[mH]at h;subst h;exact⟨rfl,λi o ho=>by simp at ho⟩
 |o ::os,bs,l,h=>by
  unfold mH at h;split at h<;>first|(cases h;done)|skip
  rename_i g l' hg hl hd;obtain⟨h1,h2⟩:=mZ hl;have aT:∀d,o.dst=some d->d<nt:=λd hdd=>by rw[hdd]at hd;simpa [mH.acM]using hd
  have hb:∀i,bs.tail.getD i 0=bs.getD (i+1) 0:=λi=>by cases bs<;>simp
  have KN:bs.headD 0=bs.getD 0 0:=by cases bs<;>simp
  split at h
  . rename_i k xs cls hc;simp only[H4]at h;subst h;refine⟨by simp[h1],λi o' ho=> ?_⟩;cases i with
    |   zero=>
        simp at ho;subst ho;exact⟨_,rfl,⟨rfl,aT,hg,.inl hc⟩,KN⟩
    |   succ i=>
        simp at ho;obtain⟨ao,h3,h4,h5⟩:=h2 i o' ho;exact⟨ao,by simpa using h3,h4,by rw[h5,hb]⟩
  . simp only[H4]at h;subst h;refine⟨by simp[h1],λi o' ho=> ?_⟩;cases i with
    |   zero=>
        simp at ho;subst ho;exact⟨_,rfl,⟨rfl,aT,hg,.inr ⟨rfl,rfl⟩⟩,KN⟩
    |   succ i=>
        simp at ho;obtain⟨ao,h3,h4,h5⟩:=h2 i o' ho;exact⟨ao,by simpa using h3,h4,by rw[h5,hb]⟩
theorem Bh{ops:Array Oper}{ρ:Pos->Loc}{n:Nat}{fr:Fr}{a:Act}{o:Oper}{g:Option (Pos×Bool)}{b:Bool}(hg:M7 ops o.guard=some g)
   (hF:∀p v,fr.get p=some v->(∃q,g=some (p,q))->∃x,a.tmps[p.toNat - 1]? =some x/\aj ρ n C v x)
   (hw:bJ fr g=some b):Region.wanted o (yielded ops a.tmps)=b:=by
 unfold Region.wanted;unfold M7 at hg;split at hg
 .rename_i hn;simp only[H4]at hg;subst hg;simp only[bJ,H4]at hw;subst hw;rw[hn]
 . rename_i j want hn;rw[hn];(split at hg<;>first|(cases hg;done)|skip);rename_i oj hj;(split at hg<;>first|(cases hg;done)|skip);rename_i d hd;simp only[H4]at hg;subst hg;simp only[bJ]at hw;split at hw
   .rename_i u hu;simp only[H4]at hw;subst hw;obtain⟨x,hx,hv⟩:=hF _ _ hu ⟨_,rfl⟩;rw[eW,Ze9]at hx;have:=hv.gJ;subst this;simp[yielded,hj,hd,hx]
   .rename_i l hu;simp only[H4]at hw;subst hw;obtain⟨x,hx,hv⟩:=hF _ _ hu ⟨_,rfl⟩;rw[eW,Ze9]at hx;obtain⟨cs,rfl,_⟩:=hv.Qe;simp[yielded,hj,hd,hx]
   .cases hw
theorem aj.Qu{ρ:Pos->Loc}{n:Nat}:aj ρ n C AV.undef undef:= .tuple [] #[] rfl λ_ _ _ h=>by simp at h
theorem Act.ij(a:Act)(d:Option Tmp)(v:Value):(a.put d v).tmps.size=a.tmps.size:=by cases d<;>simp[Act.put]
theorem Act.jf(a:Act)(d:Option Tmp)(v:Value):(a.put d v).defers=a.defers:=by cases d<;>rfl
theorem fo.put{ρ:Pos->Loc}{n nt:Nat}{fr:Fr}{a:Act}{d:Option Tmp}{v:AV}{x:Value}(hF:fo ρ n C fr a.tmps)(hs:a.tmps.size=nt)
  (hd:∀e,d=some e->e<nt) (hv:aj ρ n C v x):fo ρ n C (cU fr (d.map key) v) (a.put d x).tmps:=by
 cases d with
 |none=>exact hF
 |some e=>
  have he:=hd e rfl;intro p u hp;simp only[Ze8,cU]at hp;simp only[Act.put];by_cases Nu:key e=p
  .subst Nu;rw[T.eH]at hp;simp only[H4]at hp;subst hp;refine⟨x,?_,hv⟩;rw[eW,Ze9,Zk7];simp[hs,he]
  .rw[T.bw _ Nu]at hp;obtain⟨y,hy,hr⟩:=hF p u hp;refine⟨y,?_,hr⟩;rw[Ze4,hy];intro h;apply Nu;apply Pos.toNat_inj;rw[eW];have:=p.toNat_pos;omega
theorem fo.mono{ρ ρ':Pos->Loc}{n n':Nat}{fr:Fr}{tmps:Array Value}(hF:fo ρ n C fr tmps)(aS:∀b:Pos,b.toNat<n->ρ' b=ρ b)(hn:n<=n'):fo ρ' n' C fr tmps:=
 λp v hp=>let⟨x,hx,hv⟩:=hF p v hp;⟨x,hx,hv.mono aS hn⟩
structure mj(nt:Nat)(ρ:Pos->Loc)(C:Cells)(fr:Fr)(st:St)(a:Act)(w:World):Prop where
 W:aV ρ C st w
 F:fo ρ st.next.toNat C fr a.tmps
 size:a.tmps.size=nt
 defers:a.defers=[]
def fB(nt:Nat)(ρ:Pos->Loc)(C:Cells)(st:St)(w:World)(aW:Fr)(st':St)(a':Act)(w':World):Prop:=
 ∃ρ',mj nt ρ' C aW st' a' w'/\(∀b:Pos,b.toNat<st.next.toNat->ρ' b=ρ b)/\st.next.toNat<=st'.next.toNat/\jJ ρ st w ρ' st' w'
theorem fB.refl{nt:Nat}{ρ:Pos->Loc}{fr:Fr}{st:St}{a:Act}{w:World}(h:mj nt ρ C fr st a w):fB nt ρ C st w fr st a w:=
 ⟨ρ,h,λ_ _=>rfl,Za6 _,jJ.refl _ _ _⟩
theorem fB.trans{nt:Nat}{ρ dM:Pos->Loc}{sk:Fr}{st aN jT:St}{a2:Act}{w w1 w2:World}
  (h1:∀b:Pos,b.toNat<st.next.toNat->dM b=ρ b) (h2:st.next.toNat<=aN.next.toNat) (h3:jJ ρ st w dM aN w1)
  (h:fB nt dM C aN w1 sk jT a2 w2):fB nt ρ C st w sk jT a2 w2:=by
 obtain⟨lJ,k1,k2,k3,k4⟩:=h;exact⟨lJ,k1,λb hb=>(k2 b (Zd0 hb h2)).trans (h1 b hb),Zc8 h2 k3,h3.trans k4⟩
theorem Reaches.bad{k:av}{vs:List AV}{st:St}{r:AV×St}(hk:k= .bad)(h:bS call k vs st=some r):False:=by subst hk;simp[bS,av.run]at h
theorem oE(hT:bL P tt)(bI:eO P C call){nt:Nat}{ops:Array Oper}{K:Act->World->Prop}:∀(SL:List bh)(k:Nat)(fr aW:Fr)(st st':St)(ρ:Pos->Loc)(a:Act)(w:World),
  (∀(i:Nat)(ao:bh),SL[i]? =some ao->∃o,ops[k+i]? =some o/\rM tt nt ops o ao)->
  iX call SL fr st=some (aW,st')->mj nt ρ C fr st a w->(∀a' w',fB nt ρ C st w aW st' a' w'->K a' w')->oC P ops K (List.range' k SL.length) a w
 |[],k,fr,aW,st,st',ρ,a,w,_,h,hS,hQ=>by
  simp only[iX,H4,Zb6]at h;obtain⟨rfl,rfl⟩:=h;exact hQ a w (fB.refl hS)
 |ao::SL,k,fr,aW,st,st',ρ,a,w,ho,h,hS,hQ=>by
  obtain⟨o,dw,hR⟩:=ho 0 ao rfl;rw[Zh5]at dw;have CB:∀(i:Nat)(ZD:bh),SL[i]? =some ZD->∃o,ops[k+1+i]? =some o/\rM tt nt ops o ZD:=λi ZD hi=>by
    obtain⟨o',h1,h2⟩:=ho (i+1) ZD (by simpa using hi);exact⟨o',by rw[<-h1];congr 1;omega,h2⟩
  simp only[Zd4,Zl8,oC,Bf,dw];unfold iX at h;split at h
  . rename_i hw;rw[Za7 (Bh hR.guard (λp v hp _=>hS.F p v hp) hw)];(split at h<;>first|(cases h;done)|skip);rename_i vs iD;(split at h<;>first|(cases h;done)|skip);rename_i v aN kf;rcases hR.op with hc|⟨hk,_⟩
    .   have hr:=KW hT bI hc hS.W hS.F iD kf;(refine hr.mono λx w1 hp=> ?_);obtain⟨dM,hv,h1,h2,SM,hE⟩:=hp;rw[hR.dst]at h;refine oE hT bI SL (k+1) _ aW aN st' dM _ w1 CB h ⟨SM,fo.put (hS.F.mono h1 h2) hS.size hR.lt hv,by rw[Act.ij];exact hS.size,by rw[Act.jf];exact hS.defers⟩ λa' w' hp=>hQ a' w' (fB.trans h1 h2 hE hp)
    .   exact(Reaches.bad hk kf).elim
  .rename_i hw;rw[Za5 (by rw[Bh hR.guard (λp v hp _=>hS.F p v hp) hw];simp)];rw[hR.dst]at h;exact oE hT bI SL (k+1) _ aW st st' ρ _ w CB h ⟨hS.W,fo.put hS.F hS.size hR.lt .Qu,by rw[Act.ij];exact hS.size,by rw[Act.jf];exact hS.defers⟩ hQ
  .cases h
theorem xR{nt:Nat}{ops:Array Oper}{l:List bh}{bs:List Nat}(h:mH tt nt ops ops.toList bs=some l)(i:Nat)(ao:bh)(hi:l[i]? =some ao):
  ∃o,ops[i]? =some o/\rM tt nt ops o ao/\ao.bD=bs.getD i 0:=by
 obtain⟨h1,h2⟩:=mZ h;have aT:i<ops.toList.length:=by rw[<-h1];exact(Za3.1 hi).1
 obtain⟨ZD,h3,h4,h5⟩:=h2 i _ (H5 aT);rw[hi]at h3;simp only[H4]at h3;subst h3;exact⟨_,by rw[<-Zg7];exact H5 aT,h4,h5⟩
theorem SN(hT:bL P tt)(bI:eO P C call){nt id:Nat}{ops:Array Oper}{bs:List Nat}{l:List bh}{Q:Exit->Act->World->Prop}{fr aW:Fr}{st st':St}{ρ:Pos->Loc}{a:Act}{w:World}
  (hl:mH tt nt ops ops.toList bs=some l) (h:iX call l fr st=some (aW,st')) (hS:mj nt ρ C fr st a w)
  (hQ:∀a' w',fB nt ρ C st w aW st' a' w'->Q .normal a' w'):eE P (Code.region id ops false) Q a w:=by
 show oC P ops (Q .normal) (List.range ops.size) a w;have hlen:l.length=ops.size:=by rw[(mZ hl).1,Zf6]
 rw[Zl3, <-hlen];exact oE hT bI l 0 fr aW st st' ρ a w (λi ao hi=>by
  obtain⟨o,h1,h2,_⟩:=xR hl i ao hi;exact⟨o,by rw[Zd9];exact h1,h2⟩) h hS hQ
end
section
variable{P:Program}{tt:TT}{C:Cells}{call:ai}
def pF(P:Program)(tt:TT)(C:Cells)(call:ai):Prop:=
 ∀  (nt id:Nat)(ops:Array Oper)(l:List bh)(Q:Exit->Act->World->Prop)(fr aW:Fr)(st st':St)(ρ:Pos->Loc)(a:Act)(w:World),
    mH tt nt ops ops.toList (Sm ops.toList [])=some l->D3 l.length 0 (ua (A0 0 l) [])=true->cO call (ua (A0 0 l) []) [] st.heap fr st=some (aW,st')->mj nt ρ C fr st a w->
    (∀a' w',fB nt ρ C st w aW st' a' w'->Q .normal a' w')->eE P (Code.region id ops true) Q a w
def mC:js->Exit
 |.normal=>.normal
 |.exit id=>.exit id
 |.ret=>.ret
def Nv(P:Program)(tt:TT)(C:Cells)(call:ai)(nt m:Nat):Prop:=
 ∀  (c:Code)(ac:AC)(fr aW:Fr)(st st':St)(ex:js)(ρ:Pos->Loc)(a:Act)(w:World)(Q:Exit->Act->World->Prop),
    qe tt nt c=some ac->exec call m ac fr st=some (ex,aW,st')->mj nt ρ C fr st a w->
    (∀a' w',fB nt ρ C st w aW st' a' w'->Q (mC ex) a' w')->eE P c Q a w
def Nw(P:Program)(tt:TT)(C:Cells)(call:ai)(nt m:Nat):Prop:=
 ∀  (c:Code)(ac:AC)(fr aW:Fr)(st st':St)(ex:js)(ρ:Pos->Loc)(a:Act)(w:World)(Q:Exit->Act->World->Prop),
    qe tt nt c=some ac->exec call m (.loop ac) fr st=some (ex,aW,st')->mj nt ρ C fr st a w->
    (∀a' w',fB nt ρ C st w aW st' a' w'->Q (mC ex) a' w')->It (eE P c) Q m a w
theorem Qv{nt m:Nat}(Bi:Nv P tt C call nt m)(ihL:Nw P tt C call nt m):Nw P tt C call nt (m+1):=by
 intro c ac fr aW st st' ex ρ a w Q hc h hS hQ;simp only[exec,aX]at h;show eE P c (Exit.then (It (eE P c) Q m) Q) a w;split at h
 .rename_i bO aN h1;(refine Bi c ac fr bO st aN .normal ρ a w _ hc h1 hS λa1 w1 hp=> ?_);obtain⟨dM,qJ,k1,k2,k3⟩:=hp;exact ihL c ac bO aW aN st' ex dM a1 w1 Q hc h qJ λa2 w2 hp=>hQ a2 w2 (fB.trans k1 k2 k3 hp)
 . rename_i cF;cases ex with
   |normal=>exact(cF _ _ h).elim
   |exit id=>exact Bi c ac fr aW st st' (.exit id) ρ a w _ hc h hS λa1 w1 hp=>hQ a1 w1 hp
   |ret=>exact Bi c ac fr aW st st' .ret ρ a w _ hc h hS λa1 w1 hp=>hQ a1 w1 hp
theorem ZE(hT:bL P tt)(bI:eO P C call)(fJ:pF P tt C call){nt m:Nat}(Bi:Nv P tt C call nt m)(ihL:Nw P tt C call nt m):Nv P tt C call nt (m+1):=by
 intro c ac fr aW st st' ex ρ a w Q hc h hS hQ;have ae6:=Qv Bi ihL;unfold qe at hc;split at hc<;>first|(cases hc;done)|skip
 .simp only[H4]at hc;subst hc;simp only[exec,aX,H4,Zb6]at h;obtain⟨rfl,rfl,rfl⟩:=h;exact hQ _ _ (fB.refl hS)
 . rename_i ix ops draw;(split at hc<;>first|(cases hc;done)|skip);rename_i l hl;split at hc
   .simp only[H4]at hc;subst hc;simp only[exec,aX]at h;(split at h<;>first|(cases h;done)|skip);rename_i bO aN h1;simp only[H4,Zb6]at h;obtain⟨rfl,rfl,rfl⟩:=h;exact SN hT bI hl h1 hS hQ
   . (split at hc<;>first|(cases hc;done)|skip);rename_i ht;simp only[H4]at hc;subst hc;simp only[exec,aX]at h;(split at h<;>first|(cases h;done)|skip);rename_i bO aN h1;simp only[H4,Zb6]at h;obtain⟨rfl,rfl,rfl⟩:=h;exact fJ nt _ ops l Q fr bO st aN ρ a w hl ht h1 hS hQ
 . (split at hc<;>first|(cases hc;done)|skip);rename_i x y h1 h2;simp only[H4]at hc;subst hc;simp only[exec,aX]at h;show eE P _ (Exit.then (eE P _ Q) Q) a w;split at h
   .rename_i bO aN h3;(refine Bi _ _ fr bO st aN .normal ρ a w _ h1 h3 hS λa1 w1 hp=> ?_);obtain⟨dM,qJ,k1,k2,k3⟩:=hp;exact Bi _ _ bO aW aN st' ex dM a1 w1 Q h2 h qJ λa2 w2 hp=>hQ a2 w2 (fB.trans k1 k2 k3 hp)
   . rename_i cF;cases ex with
     |normal=>exact(cF _ _ h).elim
     |exit id=>exact Bi _ _ fr aW st st' (.exit id) ρ a w _ h1 h hS λa1 w1 hp=>hQ a1 w1 hp
     |ret=>exact Bi _ _ fr aW st st' .ret ρ a w _ h1 h hS λa1 w1 hp=>hQ a1 w1 hp
 . (split at hc<;>first|(cases hc;done)|skip);rename_i x y z h1 h2 h3;simp only[H4]at hc;subst hc;simp only[exec,aX]at h;split at h
   .rename_i hx;exact⟨true,(ov h1 hS.F hx).gJ,(Bi _ _ fr aW st st' ex ρ a w Q h2 h hS hQ)⟩
   .rename_i hx;exact⟨false,(ov h1 hS.F hx).gJ,(Bi _ _ fr aW st st' ex ρ a w Q h3 h hS hQ)⟩
   .cases h
 . (split at hc<;>first|(cases hc;done)|skip);rename_i x h1;simp only[H4]at hc;subst hc;simp only[exec,aX]at h;show eE P _ (Exit.inBlock _ Q) a w;split at h
   . rename_i qd bO aN h2;split at h
     .  rename_i he;simp only[H4,Zb6]at h;obtain⟨rfl,rfl,rfl⟩:=h;have:=Za1 he;subst this;exact Bi _ _ fr bO st aN (.exit qd) ρ a w _ h1 h2 hS λa1 w1 hp=>by simp only[mC,Exit.inBlock,Zg5];exact hQ a1 w1 hp
     .  rename_i he;simp only[H4,Zb6]at h;obtain⟨rfl,rfl,rfl⟩:=h;have:=Zb9 he;exact Bi _ _ fr bO st aN (.exit qd) ρ a w _ h1 h2 hS λa1 w1 hp=>by simp only[mC,Exit.inBlock,Za5 this];exact hQ a1 w1 hp
   . rename_i cF;cases ex with
     |normal=>exact Bi _ _ fr aW st st' .normal ρ a w _ h1 h hS λa1 w1 hp=>hQ a1 w1 hp
     |exit id=>exact(cF _ _ _ h).elim
     |ret=>exact Bi _ _ fr aW st st' .ret ρ a w _ h1 h hS λa1 w1 hp=>hQ a1 w1 hp
 . (split at hc<;>first|(cases hc;done)|skip);rename_i x h1;simp only[H4]at hc;subst hc;exact⟨m+1,ae6 _ _ fr aW st st' ex ρ a w Q h1 h hS hQ⟩
 .simp only[H4]at hc;subst hc;simp only[exec,aX,H4,Zb6]at h;obtain⟨rfl,rfl,rfl⟩:=h;exact hQ _ _ (fB.refl hS)
 .simp only[H4]at hc;subst hc;simp only[exec,aX,H4,Zb6]at h;obtain⟨rfl,rfl,rfl⟩:=h;exact hQ _ _ (fB.refl hS)
 .simp only[H4]at hc;subst hc;simp[exec,aX,iX,bJ,dV,bS,av.run]at h
theorem oF(hT:bL P tt)(bI:eO P C call)(fJ:pF P tt C call){nt:Nat}:∀m,Nv P tt C call nt m/\Nw P tt C call nt m
 |0=>⟨λc ac fr aW st st' ex ρ a w Q hc h=>by simp[exec]at h,λc ac fr aW st st' ex ρ a w Q hc h=>by simp[exec]at h⟩
 |m+1=>let⟨h1,h2⟩:=oF hT bI fJ m;⟨ZE hT bI fJ h1 h2,Qv h1 h2⟩
def J7(tmps:Array Value):ResultVar->Sem Value
 |.tmp t=>pure (tmps.getD t undef)
 |.cell a t=>do loadVar t (<-asAddr (tmps.getD a undef))
theorem XG(hT:bL P tt){ρ:Pos->Loc}{st:St}{w:World}{fr:Fr}{a:Act}{x:Tmp}{t:TypeId}{ti:TI}{q v:AV}(cJ:tt.get (key t)=some ti)
  (hW:aV ρ C st w) (hF:fo ρ st.next.toNat C fr a.tmps) (hq:fr.get (key x)=some q) (hr:(av.load (vz ti)).run (λb=>st.heap.get b) .h [q]=some (.val v)):
  ∃y,(J7 a.tmps (.cell x t)).run P w= .ok y w/\aj ρ st.next.toNat C v y:=by
 have hc:fL tt (.load t (.tmp x))=some (.load (vz ti),[.t (key x)],.read):=by simp[fL,cJ,kz]
 have hx:dV fr [.t (key x)]=some [q]:=by simp[dV,yE,hq]
 have pz:(av.load (vz ti)).run (λb=>st.heap.get b) st.next [q]=some (.val v):=hr;obtain⟨N,y,he,hy,hv⟩:=J6 hT (.load t (.tmp x)) ρ C st w _ _ _ fr a { dst:=none,op:= .load t (.tmp x),type:=t,pos:=default,after:= #[],guard:=none } _ _ rfl hc hW hF hx pz;refine⟨y,?_,hv⟩;simp only[execOp,Instr.loadAt,Act.eval]at he;simp only[J7];obtain⟨z,hz,hzq⟩:=hF _ _ hq;rw[eW,Ze9]at hz;have hzd:a.tmps.getD x undef=z:=by simp[Zh8,hz]
 rw[hzd]at he ⊢;have hp:∃ad,z= .pointer (some ad):=by
  simp only[av.run,rI]at hr;split at hr<;>first|(cases hr;done)|skip
  .obtain⟨_,h⟩:=hzq.e9;exact⟨_,h⟩
  .obtain⟨_,_,_,_,h,_⟩:=hzq.D5;exact⟨_,h⟩
 obtain⟨ad,rfl⟩:=hp;simp only[Instr.sureAddr,asAddr,Sem.run_bind,Sem.run_pure,Result.andThen]at he ⊢;cases hl:(loadVar t ad).run P w with
 |ok u w1=>
  rw[hl]at he;simp at he;obtain⟨h1,h2⟩:=he;subst h2;rcases hy with hy|⟨hy,_⟩
  .rw[hy]at h1;simp at h1;rw[h1]
  .rw[hy]at h1;simp at h1
 |halt u w1=>rw[hl]at he;simp at he
theorem Bj(hT:bL P tt){ρ:Pos->Loc}{st:St}{w:World}{fr:Fr}{a:Act}(hW:aV ρ C st w)(hF:fo ρ st.next.toNat C fr a.tmps):
   ∀(rs:List ResultVar)(Nx:List yD)(vs:List AV),lF tt rs=some Nx->cG (λb=>st.heap.get b) fr Nx=some vs->
    ∃ys,(rs.mapM (J7 a.tmps)).run P w= .ok ys w/\au ρ st.next.toNat C vs ys
 | [],Nx,vs,hc,hr=>by
   simp only[lF,H4]at hc;subst hc;simp only[cG,H4]at hr;subst hr;exact⟨[],by simp,au.nil⟩
 | .tmp t::rs,Nx,vs,hc,hr=>by
   simp only[lF]at hc;(split at hc<;>first|(cases hc;done)|skip);rename_i l hl;simp only[H4]at hc;subst hc;simp only[cG]at hr;(split at hr<;>first|(cases hr;done)|skip);rename_i v hv;(split at hr<;>first|(cases hr;done)|skip);rename_i us Zg;simp only[H4]at hr;subst hr;obtain⟨ys,h1,h2⟩:=Bj hT hW hF rs l us hl Zg;obtain⟨z,hz,hzq⟩:=hF _ _ hv;rw[eW,Ze9]at hz;refine⟨z::ys,?_,au.cons hzq h2⟩;simp[List.mapM_cons,J7,h1,Zh8,hz]
 | .cell x t::rs,Nx,vs,hc,hr=>by
   simp only[lF]at hc;(split at hc<;>first|(cases hc;done)|skip);rename_i ti l Zl hl;simp only[H4]at hc;subst hc;simp only[cG]at hr;(split at hr<;>first|(cases hr;done)|skip);rename_i q hq;(split at hr<;>first|(cases hr;done)|skip);rename_i v hv;(split at hr<;>first|(cases hr;done)|skip);rename_i us Zg;simp only[H4]at hr;subst hr;obtain⟨ys,h1,h2⟩:=Bj hT hW hF rs l us hl Zg;obtain⟨y,h3,h4⟩:=XG hT Zl hW hF hq hv;refine⟨y::ys,?_,au.cons h4 h2⟩;simp[List.mapM_cons,h1,h3]
theorem pG(hT:bL P tt){ρ:Pos->Loc}{st:St}{w:World}{fr:Fr}{a:Act}{fn:Func}{Nx:List yD}{vs:List AV}(hW:aV ρ C st w)(hF:fo ρ st.next.toNat C fr a.tmps)
  (hc:lF tt fn.results.toList=some Nx) (hr:cG (λb=>st.heap.get b) fr Nx=some vs):
  ∃y,(results fn a.tmps).run P w= .ok y w/\aj ρ st.next.toNat C (gH vs) y:=by
 obtain⟨ys,h1,h2⟩:=Bj hT hW hF _ Nx vs hc hr;have h3:(fn.results.mapM (J7 a.tmps)).run P w= .ok ys.toArray w:=by
  rw[Array.mapM_eq_mapM_toList];simp[h1]
 have h4:(results fn a.tmps).run P w= .ok (if h:ys.toArray.size=1 then ys.toArray[0]else .tuple ys.toArray) w:=by
  have hfun:results fn a.tmps=(fn.results.mapM (J7 a.tmps) >>= λvs=>pure (if h:vs.size=1 then vs[0]else .tuple vs)):=by unfold results;congr 2
  rw[hfun,Sem.run_bind,h3];simp
 refine⟨_,h4,?_⟩;cases vs with
 |nil=>have:=h2.mB;subst this;simp[gH];exact .qE (by simpa using au.nil)
 |cons v vs=>
  obtain⟨y,ys',rfl,hv,iD⟩:=h2.cons_inv;cases vs with
  |nil=>have:=iD.mB;subst this;simpa [gH]using hv
  |cons v' vs'=>
   obtain⟨y',ys'',rfl,Ba,abe⟩:=iD.cons_inv;simp[gH];exact .qE (by simpa using au.cons hv (au.cons Ba abe))
def MV(P:Program)(tt:TT)(G:T cI):Prop:=
 ∀p F,G.get p=some F->∃fn,P.funcs[p.toNat - 1]? =some fn/\(fn.name== "runtime.NumGoroutine")=false/\RX tt fn=some F
def oG(P:Program)(C:Cells)(O:dZ):Prop:=
 ∀  (f:FuncId)(s:List AV->St->Option (AV×St)),O f=some s->
    ∀(ρ:Pos->Loc)(st:St)(w:World)(args:List AV)(v:AV)(st':St)(bC:List Value),s args st=some (v,st')->
     aV ρ C st w->au ρ st.next.toNat C args bC->Reaches P (lO ρ C st w v st') ((callFunc f bC.toArray).run P w)
theorem vH{ρ:Pos->Loc}{n:Nat}{tmps:Array Value}:∀(vs:List AV)(xs:List Value)(i:Nat)(fr:Fr),au ρ n C vs xs->
  (∀(j:Nat)(x:Value),xs[j]? =some x->tmps[i+j]? =some x)->fo ρ n C fr tmps->fo ρ n C (params i vs fr) tmps
 |[],_,_,_,_,_,hF=>hF
 |v ::vs,xs,i,fr,h,hx,hF=>by
  obtain⟨x,tu,rfl,hv,iD⟩:=h.cons_inv;unfold params;refine vH vs tu (i+1) _ iD (λj y hy=>by rw[<-hx (j+1) y (by simpa using hy)];congr 1;omega) λp u hp=> ?_
  by_cases Nu:key i=p
  .subst Nu;rw[T.eH]at hp;simp only[H4]at hp;subst hp;exact⟨x,by rw[eW,Ze9];exact hx 0 x rfl,hv⟩
  .rw[T.bw _ Nu]at hp;exact hF p u hp
theorem KY(hT:bL P tt){O:dZ}{G:T cI}(hO:oG P C O)(hG:MV P tt G)(m:Nat)(fJ:∀d,eO P C (ou O G m d)->pF P tt C (ou O G m d)):∀d,eO P C (ou O G m d)
 |0=>λρ st w f args v st' bC h=>by simp[ou]at h
 |d +   1 =>by
  intro ρ st w f args v st' bC h hW oH;have ih:=KY hT hO hG m fJ d;unfold ou at h;split at h
  .rename_i s hs;exact hO f s hs ρ st w args v st' bC h hW oH
  . (split at h<;>first|(cases h;done)|skip);rename_i F hF;(split at h<;>first|(cases h;done)|skip);rename_i hlen;have hlen:=Za1 hlen;obtain⟨fn,zJ,ji,Bk⟩:=hG _ _ hF;rw[eW,Ze9]at zJ;unfold RX at Bk;(split at Bk<;>first|(cases Bk;done)|skip);rename_i c hb;(split at Bk<;>first|(cases Bk;done)|skip);rename_i ac rs SP ZF hle;simp only[H4]at Bk;subst Bk;simp only at h hlen;have hle:=Za4 hle;have b6:(callFunc f bC.toArray).run P w= .ok (.enter f bC.toArray) w:=by
        have Bl:¬fn.name= "runtime.NumGoroutine" :=(by simpa using ji);simp[callFunc,zJ,Bl,hb]
    rw[b6];simp only[Reaches];refine calls_of_wp zJ hb (eE.wp ?_);have fc:bC.length<=fn.ntmps:=(by rw[<-oH.1,hlen];exact hle);have hS:mj fn.ntmps ρ C (params 0 args .e) st { tmps:=bC.toArray++Array.replicate (fn.ntmps - bC.toArray.size) undef,defers:=[] } w:=by
        refine⟨hW,?_,?_,rfl⟩
        .refine vH args bC 0 .e oH (λj x hx=> ?_) (λp v hp=>by rw[T.dD]at hp;cases hp);have hj:j<bC.length:=(Za3.1 hx).1;rw[Zd9,Zh1 (by simpa using hj)];simpa using hx
        .simp;omega
    split at h<;>first|(cases h;done)|skip
    .   rename_i bO aN h1;(split at h<;>first|(cases h;done)|skip);rename_i vs iD;simp only[H4,Zb6]at h;obtain⟨rfl,rfl⟩:=h;(refine(oF hT ih (fJ _ ih) m).1 c ac _ bO st aN .normal ρ _ w _ SP h1 hS λa' w' hp=> ?_);obtain⟨dM,qJ,k1,k2,k3⟩:=hp;obtain⟨y,zH,A8⟩:=pG hT qJ.W qJ.F ZF iD;exact⟨qJ.defers,y,zH,dM,A8,k1,k2,qJ.W,k3⟩
    .   rename_i bO aN h1;(split at h<;>first|(cases h;done)|skip);rename_i vs iD;simp only[H4,Zb6]at h;obtain⟨rfl,rfl⟩:=h;(refine(oF hT ih (fJ _ ih) m).1 c ac _ bO st aN .ret ρ _ w _ SP h1 hS λa' w' hp=> ?_);obtain⟨dM,qJ,k1,k2,k3⟩:=hp;obtain⟨y,zH,A8⟩:=pG hT qJ.W qJ.F ZF iD;exact⟨qJ.defers,y,zH,dM,A8,k1,k2,qJ.W,k3⟩
end
end
end Go.Ai
