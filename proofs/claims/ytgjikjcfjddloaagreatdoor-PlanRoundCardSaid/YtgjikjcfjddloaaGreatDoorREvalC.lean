/- Its operations, second part; regions. -/
import Derived.Test.YtgjikjcfjddloaaGreatDoorREvalB
import Derived.Laws.IdiomStrings
import Derived.Laws.RangeString
import Derived.Lib.UnsafeStr
import Derived.LoopN
import Derived.LoopNIn
import Derived.OrdersIn
set_option linter.all false
namespace Go.Ai
section
open Go Go.RowKit
section
variable{P:Program}{tt:TT}{ρ:Pos->Loc}{C:Cells}{st:St}{w w':World}
theorem wX(del:Option Pos)(h:T AB){b:Pos}{x:AB}(hb:(Gi del h).get b=some x):h.get b=some x/\∀c,del=some c->b≠c:=by
 cases del with
 |none=>exact⟨hb,λ_ h=>by cases h⟩
 |some c=>
  by_cases he:c=b
  .subst he;simp only[Gi]at hb;rw[T.eO]at hb;cases hb
  .simp only[Gi]at hb;rw[T.bG _ he]at hb;exact⟨hb,λd hd=>by cases hd;exact λe=>he e.symm⟩
theorem vS(hW:aZ ρ C st w){o:Obj}{x0:AB}{base size:Nat}(del:Option Pos)(hh:w'.heap=w.heap.push o)(h1:w'.os=w.os)(h2:w'.tape=w.tape)(h3:w'.output=w.output)
   (hB:∀ρ' n',(∀b:Pos,b.toNat<st.next.toNat->ρ' b=ρ b)->st.next.toNat<=n'->m5 ρ' n' C ⟨w.heap.size,base,size⟩ w' x0):
   ∃ρ':Pos->Loc,(∀b:Pos,b.toNat<st.next.toNat->ρ' b=ρ b)/\ρ' st.next=⟨w.heap.size,base,size⟩/\aZ ρ' C (st.aG del none (some x0)) w'/\j0 ρ st w ρ' (st.aG del none (some x0)) w':=by
 let ρ':Pos->Loc:=λb=>if b=st.next then⟨w.heap.size,base,size⟩else ρ b
 have aU:∀b:Pos,b.toNat<st.next.toNat->ρ' b=ρ b:=λb hb=>Za3 (λe=>by rw[e]at hb;omega)
 have fj:ρ' st.next=⟨w.heap.size,base,size⟩:=Za9 rfl;have e9:w'.heap.size=w.heap.size+1:=by rw[hh];simp
 have hold:∀k,k<w.heap.size->w'.heap[k]? =w.heap[k]? :=λk hk=>by rw[hh,Array.getElem?_push,Za3 (by omega)]
 refine⟨ρ',aU,fj,?_,⟨h1,h2,h3,by omega,λk hk _=>hold k hk,λb x hb=> ?_⟩⟩;rotate_left
 . by_cases he:b=st.next
   .right;rw[he,fj];exact Za5 _
   .left;simp only[St.aG,IB]at hb;rw[T.bG _ (λe=>he e.symm)]at hb;have jO:=(wX del _ hb).1;exact⟨b,x,jO,by rw[aU b (hW.live b x jO).1]⟩
 refine hW.aaU (b0:=st.next) (x0:=x0) (by rw[Pos.aB];omega) (by rw[Pos.aB];omega) (by rw[T.eO]) ?_ aU (by rw[fj];exact hB _ _ aU (by rw[Pos.aB];omega)) ?_ (by rw[fj,e9];simp) (by omega) (λk hk _=>hold k hk)
 .intro b x hb hx;rw[T.bG _ (λe=>hb e.symm)]at hx;have hx:=(wX del _ hx).1;refine⟨hx,?_⟩;rw[fj];have:=(hW.live b x hx).2.1;simp only;omega
 .intro a v ha;have:=World.block_lt_of_cell? _ _ (hW.ej a v ha).1;rw[fj];simp only;omega
theorem QE(hW:aZ ρ C st w){b:Pos}{x x0:AB}(hb:st.heap.get b=some x)(h1:w'.os=w.os)(h2:w'.tape=w.tape)(h3:w'.output=w.output)(e9:w'.heap.size=w.heap.size)
   (vD:∀k,k≠(ρ b).az->w'.heap[k]? =w.heap[k]?) (hB:m5 ρ st.next.toNat C (ρ b) w' x0):
   aZ ρ C (st.aG none (some (b,x0)) none) w'/\j0 ρ st w ρ (st.aG none (some (b,x0)) none) w':=by
 obtain⟨aO,J8,_⟩:=hW.live b x hb;refine⟨?_,⟨h1,h2,h3,by omega,λk _ hk=>vD k (λe=>hk b x hb e.symm),λc y hc=> ?_⟩⟩;rotate_left
 . left;by_cases he:c=b
   .exact⟨b,x,hb,by rw[he]⟩
   .simp only[St.aG,IB,Gi]at hc;rw[T.bG _ (λe=>he e.symm)]at hc;exact⟨c,y,hc,rfl⟩
 refine hW.aaU (b0:=b) (x0:=x0) (Za5 _) aO (by simp only[IB,Gi];rw[T.eO]) ?_ (λ_ _=>rfl) hB ?_ (by omega) (by omega) (λk _ hk=>vD k hk)
 .intro c y hc hy;simp only[IB,Gi]at hy;rw[T.bG _ (λe=>hc e.symm)]at hy;exact⟨hy,λe=>hc (hW.inj _ _ _ _ hy hb e)⟩
 .exact λa v ha e=>(hW.ej a v ha).2 b x hb e.symm
theorem xH{cs:List AV}{c:Array Value}{e:TypeId}{fr:Nat×Nat}{g:Nat}{n:Nat}(hg:w'.heap[g]? =some (.cells c e fr))(hle:cs.length<=c.size)(hv:ay ρ n C cs (c.toList.take cs.length))
  (hf:∀i,i<c.size->¬(fr.1<=i/\i<fr.2)):m5 ρ n C ⟨g,0,c.size⟩ w' (.cells cs 0):=
 ⟨c,e,fr,hg,rfl,by simpa using hle,by simpa using hv,λi _ hi=>by simpa using hf i (by simpa using hi)⟩
theorem acL(hT:bZ P tt)(t:TypeId):dI P tt (.alloc t):=by
 intro ρ C st w k xs cls fr a o vs res ho hc hW hF hx hr;simp only[gP]at hc;split at hc<;>first|(cases hc;done)|skip
 rename_i ti cV;split at hc<;>first|(cases hc;done)|skip
 rename_i z hz;split at hc
 . cases hc;simp only[e8,H0]at hx;subst hx;simp only[av.run,Fe,H0]at hr;subst hr;obtain⟨zv,Ae,_,ua⟩:=tZ hT cV hz (ρ:=ρ) (n:=st.next.toNat) (C:=C) w;have hl:z.length=zv.cells.size:=(by simpa using ua.1);obtain⟨ρ',aU,fj,fB,hE⟩:=vS (w':=w.alloc (.cells zv.cells t)) (o:= .cells zv.cells t) (x0:= .typed t z) (base:=0) (size:=zv.cells.size) hW none rfl rfl rfl rfl (λρ' n' aU hn=>
     ⟨zv.cells,(0,0),by show(w.heap.push _)[w.heap.size]? =_;simp,rfl,by simp only[Zd1];omega,by rw[hl,Zc9,Zg8 (by simp)];exact ua.mono aU hn,λi _=>by simp,rfl⟩)
   refine⟨_,.pointer (some ⟨w.heap.size,0,none⟩),_,ρ',?_,Yields.value _,aU,fB,?_,hE⟩
   .simp[execOp,ho,Instr.alloc,Ae,newVar,newRow]
   .have:=aq.ptr (ρ:=ρ') (n:=(st.aG none none (some (.typed t z))).next.toNat) (C:=C) st.next 0 (by simp[St.aG,Pos.aB]);rw[fj]at this;simpa using this
 cases hc;simp only[e8,H0]at hx;subst hx;simp only[av.run,Iw,H0]at hr;subst hr;obtain⟨zv,Ae,_,ua⟩:=tZ hT cV hz (ρ:=ρ) (n:=st.next.toNat) (C:=C) w;have hl:z.length=zv.cells.size:=by simpa using ua.1
 obtain⟨ρ',aU,fj,fB,hE⟩:=vS (w':=w.alloc (.cells zv.cells t)) (o:= .cells zv.cells t) (x0:= .cells z 0) (base:=0) (size:=zv.cells.size) hW none rfl rfl rfl rfl (λρ' n' aU hn=>
   xH (w':=w.alloc (.cells zv.cells t)) (e:=t) (fr:=(0,0)) (by show(w.heap.push _)[w.heap.size]? =_;simp) (by omega) (by rw[hl,Zg8 (by simp)];exact ua.mono aU hn) (λi _=>by simp))
 refine⟨_,.pointer (some ⟨w.heap.size,0,none⟩),_,ρ',?_,Yields.value _,aU,fB,?_,hE⟩
 .simp[execOp,ho,Instr.alloc,Ae,newVar,newRow]
 .have:=aq.ptr (ρ:=ρ') (n:=(st.aG none none (some (.cells z 0))).next.toNat) (C:=C) st.next 0 (by simp[St.aG,Pos.aB]);rw[fj]at this;simpa using this
theorem ag2(t:TypeId)(x:Operand):dI P tt (.box t x):=by
 intro ρ C st w k xs cls fr a o vs res ho hc hW hF hx hr;simp only[gP]at hc;split at hc<;>first|(cases hc;done)|skip
 rename_i b hb;cases hc;obtain⟨v,rfl,hv⟩:=fM hb hF hx;simp only[av.run,Qr,H0]at hr;subst hr;have ua:=hv.cells;have hl:v.cells.length=(a.eval x).cells.size:=by simpa using ua.1
 obtain⟨ρ',aU,fj,fB,hE⟩:=vS (w':=w.alloc (.cells (a.eval x).cells t)) (o:= .cells (a.eval x).cells t) (x0:= .cells v.cells 0) (base:=0) (size:=(a.eval x).cells.size) hW none rfl rfl rfl rfl (λρ' n' aU hn=>
   xH (w':=w.alloc (.cells (a.eval x).cells t)) (e:=t) (fr:=(0,0)) (by show(w.heap.push _)[w.heap.size]? =_;simp) (by omega) (by rw[hl,Zg8 (by simp)];exact ua.mono aU hn) (λi _=>by simp))
 refine⟨_,.pointer (some ⟨w.heap.size,0,none⟩),_,ρ',?_,Yields.value _,aU,fB,?_,hE⟩
 .simp[execOp,ho,Instr.box,newVar,newRow]
 .have:=aq.ptr (ρ:=ρ') (n:=(st.aG none none (some (.cells v.cells 0))).next.toNat) (C:=C) st.next 0 (by simp[St.aG,Pos.aB]);rw[fj]at this;simpa using this
theorem Gl{n:Nat}{z:List AV}{zs:List Value}(h:ay ρ n C z zs):∀m,ay ρ n C (cC z m) (cC zs m)
 |0=>ay.nil
 |m+1=>h.append (Gl h m)
theorem jx{α:Type}(z:List α):∀m,(cC z m).length=m*z.length
 |0=>by simp[cC]
 |m+1=>by simp[cC,jx z m,Zj9,Nat.add_comm]
theorem Od{α:Type}(z:List α):∀(m i:Nat),i<m*z.length->(cC z m)[i]? =z[i % z.length]?
 |0,i,h=>by simp at h
 |m +1,i,h=>by
  simp only[cC];by_cases hi:i<z.length
  .rw[Zc6 hi,Zf6 hi]
  .have hi:z.length<=i:=(by omega);rw[Zc8 hi,Od z m _ (by rw[Zj9]at h;omega)];congr 1;rw[<-Zn3 hi]
theorem Wt(z:Array Value)(m:Nat)(hz:0<z.size):((Array.range (m*z.size)).map (z[· % z.size]!)).toList=cC z.toList m:=by
 apply Zf3;intro i;by_cases hi:i<m*z.size
 .rw[Od _ _ _ (by simpa using hi)];have aO:i % z.size<z.size:=Zi7 _ hz;simp[hi,aO]
 .rw[Zb5 (by simp;omega),Zb5 (by rw[jx];simp;omega)]
theorem Bq{ρ':Pos->Loc}{b:Pos}{n g len es aM size:Nat}{cap:Option Nat}(hb:b.toNat<n)(aU:ρ' b=⟨g,0,size⟩)(hl:len<=aM)(hc:∀c,cap=some c->c=aM)(hs:aM*es<=size):
  aq ρ' n C (.slice b 0 len cap es) (.slice (some ⟨g,0,none⟩) len aM):=
 .slice _ _ _ _ _ _ _ hl hc (λ_=>⟨hb,by rw[aU],by rw[aU];simpa using hs⟩) (λ_=>hb)
theorem QF{z:List AV}{zv:Value}{n m size:Nat}(ua:ay ρ n C z zv.cells.toList)(hl:z.length=size):
   ay ρ n C (cC z m) ((Array.range (m*size)).map ((if m*size=0 then(#[]:Array Value)else zv.cells)[· % (if m*size=0 then(#[]:Array Value)else zv.cells).size]!)).toList/\
   ((Array.range (m*size)).map ((if m*size=0 then(#[]:Array Value)else zv.cells)[· % (if m*size=0 then(#[]:Array Value)else zv.cells).size]!)).size=m*size:=by
 refine⟨?_,by simp⟩;by_cases h0:m*size=0
 .have:cC z m=[]:=(by apply Zb1;rw[jx,hl];exact h0);rw[this];have:(Array.range (m*size))= #[]:=(by rw[h0];rfl);rw[this];simpa using(ay.nil:ay ρ n C [] [])
 . rw[Za3 h0];have ZU:zv.cells.size=size:=(by have:=ua.1;simp at this;omega);have aa2:0<zv.cells.size:=by
    rw[ZU];rcases Zp7 size with h|h
    .rw[h]at h0;simp at h0
    .exact h
   have:=Wt zv.cells m aa2;rw[ZU]at this ⊢;rw[this];exact Gl ua m
theorem ag3{k:IntKind}{i:Int}(h1:TN k<=i)(h2:i<=TO k):k.wrap i=i:=by
 rw[<-qJ];unfold au;split
 . split
   .rfl
   .exact absurd h2 (by assumption)
 .exact absurd h1 (by assumption)
theorem Wu{j:Nat}(h:j<=9223372036854775807):IntKind.i64.wrap (j:Int)=(j:Int):=ag3 (by simp only[TN];omega) (by simp only[TO];omega)
theorem Zn(hT:bZ P tt)(t:TypeId)(l c:Operand):dI P tt (.makeSlice t l c):=by
 intro ρ C st w k xs cls fr a o vs res ho hc hW hF hx hr;simp only[gP]at hc;split at hc<;>first|(cases hc;done)|skip
 rename_i ti l0 cV hl;split at hc<;>first|(cases hc;done)|skip
 rename_i e hk;split at hc<;>first|(cases hc;done)|skip
 rename_i te fU;split at hc<;>first|(cases hc;done)|skip
 rename_i z hz;cases hc;obtain⟨d,hd,cF⟩:=(hT.at cV).und;rw[hk]at cF;rw[m9 cF]at hd;obtain⟨i0,mO,lM,hib,Ad⟩:=(hT.at fU).info;obtain⟨u,v,rfl,h1,h2⟩:=Sp hl hF hx;simp only[av.run,yp]at hr;split at hr<;>first|(cases hr;done)|skip
 rename_i jl jc Oe hjc;split at hr<;>first|(cases hr;done)|skip
 rename_i e1 e2 e3;have e1:=Za6 e1;have e2:=Za6 e2;have e3:=Za6 e3;simp only[H0]at hr;subst hr;obtain⟨kl,gQ⟩:=j4 h1 Oe;obtain⟨kc,ZV⟩:=j4 h2 hjc;obtain⟨zv0,hzv0,_,QG,_⟩:=Ad z hz;obtain⟨zv,Ae,_,ua⟩:=tZ hT fU hz (ρ:=ρ) (n:=st.next.toNat) (C:=C) w;obtain⟨Lf,Sr⟩:=QF (m:=jc) ua QG;generalize BV:(Array.range (jc*te.size)).map ((if jc*te.size=0 then(#[]:Array Value)else zv.cells)[· % (if jc*te.size=0 then(#[]:Array Value)else zv.cells).size]!)=row at Lf Sr;obtain⟨ρ',aU,fj,fB,hE⟩:=vS (w':=w.alloc (.cells row e)) (o:= .cells row e) (x0:= .cells (cC z jc) 0) (base:=0) (size:=row.size) hW none rfl rfl rfl rfl (λρ' n' aU hn=>
   xH (w':=w.alloc (.cells row e)) (e:=e) (fr:=(0,0)) (by show(w.heap.push _)[w.heap.size]? =_;simp) (by rw[jx,Sr,QG];exact Za5 _)
    (by rw[jx,QG, <-Sr, <-Zg3,Zi9];exact Lf.mono aU hn) (λi _=>by simp))
 refine⟨_,.slice (some ⟨w.heap.size,0,none⟩) jl jc,_,ρ',?_,Yields.value _,aU,fB,?_,hE⟩
 . have dm:=Wu (Zd4 e1 e3);have jy:=Wu e3;have hb:¬((te.bytes:Int)*(jc:Int)>2 ^ 48):=(by have h:=Int.ofNat_le.2 e2;rw[Int.natCast_mul]at h;exact Int.not_lt.2 h);have cq:(Instr.makeSlice t (.int kl jl) (.int kc jc)).run P w= .ok (.slice (some ⟨w.heap.size,0,none⟩) jl jc) (w.alloc (.cells row e)):=by
    unfold Instr.makeSlice;simp only[Sem.run_bind,aN hd,Result.andThen_ok,asInt,asIntOf,Sem.run_pure,Wl mO,dm,jy,hib];have aiQ:¬((decide ((jc:Int)<0)||decide ((te.bytes:Int)*(jc:Int)>2 ^ 48)||decide ((jl:Int)<0)||decide ((jl:Int)>(jc:Int)))=true):=by
        simp only[Zi2,Ze2];rintro(((h|h)|h)|h)
        .omega
        .exact hb h
        .omega
        .omega
    rw[Za3 aiQ];simp only[Sem.run_bind,run_askRoom,Result.andThen_ok,iY mO,lM,Zi0];rw[<-BV];by_cases h0:jc*te.size=0
    .   simp only[h0,Zh0,Sem.run_bind,Sem.run_pure,Result.andThen_ok,newRow,run_newObj,World.alloc_eq]
    .   simp only[h0,Zf9,Sem.run_bind,Sem.run_pure,Result.andThen_ok,Ae,newRow,run_newObj,World.alloc_eq]
   simp[execOp,ho,gQ,ZV,cq]
 .exact Bq (by simp[St.aG,Pos.aB]) fj e1 (λc hc=>by cases hc;rfl) (by rw[Sr];exact Za5 _)
theorem Ss(hT:bZ P tt)(t:TypeId)(len:Nat)(ps:Array (Nat×Operand)):dI P tt (.buildSlice t len ps):=by
 intro ρ C st w k xs cls fr a o vs res ho hc hW hF hx hr;simp only[gP]at hc;split at hc<;>first|(cases hc;done)|skip
 rename_i ti l0 cV hl;split at hc<;>first|(cases hc;done)|skip
 rename_i e hk;split at hc<;>first|(cases hc;done)|skip
 rename_i te fU;split at hc<;>first|(cases hc;done)|skip
 rename_i z hz hlim;have hlim:=Za6 hlim;cases hc;obtain⟨d,hd,cF⟩:=(hT.at cV).und;rw[hk]at cF;rw[m9 cF]at hd;obtain⟨i0,mO,lM,hib,Ad⟩:=(hT.at fU).info;have hv:=eP hl hF hx;simp only[av.run,rL]at hr;split at hr<;>first|(cases hr;done)|skip
 rename_i cs C9;simp only[H0]at hr;subst hr;obtain⟨zv0,hzv0,_,QG,_⟩:=Ad z hz;obtain⟨zv,Ae,_,ua⟩:=tZ hT fU hz (ρ:=ρ) (n:=st.next.toNat) (C:=C) w;obtain⟨Lf,Sr⟩:=QF (m:=len) ua QG;generalize BV:(Array.range (len*te.size)).map ((if len*te.size=0 then(#[]:Array Value)else zv.cells)[· % (if len*te.size=0 then(#[]:Array Value)else zv.cells).size]!)=row at Lf Sr;have ZT:(ps.map λ(i,x)=>(i,a.eval x)).toList=ps.toList.map λx=>(x.1,a.eval x.2):=by simp
 obtain⟨mP,e1,e2⟩:=Pc (λi=>some (i*te.size,te.size)) C9 Lf (ps:=ps.toList.map λx=>(x.1,a.eval x.2)) (by simpa [Zh1,Zl0]using hv) (by simp[Zh1,Zl0]);have hlen:cs.length=mP.size:=by simpa using e2.1
 have aiR:∀{pp:List (Nat×Nat)}{vs cells r:List AV},cW cells pp vs=some r->r.length=cells.length:=by
   intro pp;induction pp with
   |nil=>intro vs cells r h;unfold cW at h;split at h<;>first|(cases h;done)|(simp only[H0]at h;subst h;rfl)|(rename_i hh;cases hh)
   |cons p pp ih=>
    intro vs cells r h;unfold cW at h;(split at h<;>first|(cases h;done)|(rename_i hh;cases hh;done)|skip);rename_i hh;simp only[Zh2]at hh;obtain⟨rfl,rfl⟩:=hh;(split at h<;>first|(cases h;done)|skip);rename_i g1 g2;have g1:=Za2 g1;have g2:=Za6 g2;rw[ih h];simp[aJ];omega
 have hcsl:=aiR C9;rw[jx,QG]at hcsl;obtain⟨ρ',aU,fj,fB,hE⟩:=vS (w':=w.alloc (.cells mP e)) (o:= .cells mP e) (x0:= .cells cs 0) (base:=0) (size:=mP.size) hW none rfl rfl rfl rfl (λρ' n' aU hn=>
   xH (w':=w.alloc (.cells mP e)) (e:=e) (fr:=(0,0)) (by show(w.heap.push _)[w.heap.size]? =_;simp) (by omega)
    (by rw[hlen, <-Zg3,Zi9];exact e2.mono aU hn) (λi _=>by simp))
 refine⟨_,.slice (some ⟨w.heap.size,0,none⟩) len len,_,ρ',?_,Yields.value _,aU,fB,?_,hE⟩
 . have cq:(Instr.buildSlice t len (ps.map λ(i,x)=>(i,a.eval x))).run P w= .ok (.slice (some ⟨w.heap.size,0,none⟩) len len) (w.alloc (.cells mP e)):=by
    unfold Instr.buildSlice;simp only[Sem.run_bind,aN hd,Result.andThen_ok,iY mO,lM];rw[Za3 (by omega)];by_cases h0:len*te.size=0
    .   simp only[h0,Zh0,Sem.run_bind,Sem.run_pure,Result.andThen_ok];simp only[h0,Zh0]at BV;rw[BV,ZT,e1];simp only[newRow,Sem.run_bind,run_newObj,World.alloc_eq,Result.andThen_ok,Sem.run_pure]
    .   simp only[h0,Zf9,Sem.run_bind,Sem.run_pure,Result.andThen_ok,Ae];simp only[h0,Zf9]at BV;rw[BV,ZT,e1];simp only[newRow,Sem.run_bind,run_newObj,World.alloc_eq,Result.andThen_ok,Sem.run_pure]
   simp only[execOp,ho,Sem.run_bind];rw[cq];rfl
 .exact Bq (by simp[St.aG,Pos.aB]) fj (Za5 _) (λc hc=>by cases hc;rfl) (by omega)
theorem acM(t:TypeId)(r:Option Operand)(hT:bZ P tt):dI P tt (.makeMap t r):=by
 intro ρ C st w k xs cls fr a o vs res ho hc hW hF hx hr;have key:k= .mkMap/\(execOp a.eval o).run P w= .ok (.value (.map (some w.heap.size))) (w.alloc (.map #[] 0)):=by
  simp only[gP]at hc;split at hc<;>first|(cases hc;done)|skip
  rename_i ti cV;obtain⟨d,hd,cF⟩:=(hT.at cV).und;split at hc<;>first|(cases hc;done)|skip
  .cases hc;exact⟨rfl,by simp[execOp,ho,Instr.makeMap]⟩
  .rename_i hk;rw[hk]at cF;rw[Lc cF]at hd;cases hc;exact⟨rfl,by simp[execOp,ho,Instr.makeMap,aN hd,Act.eval,asInt,asIntOf]⟩
 obtain⟨rfl,cq⟩:=key;simp only[av.run,Iz,H0]at hr;subst hr;obtain⟨ρ',aU,fj,fB,hE⟩:=vS (w':=w.alloc (.map #[] 0)) (o:= .map #[] 0) (x0:= .map [] 0) (base:=0) (size:=0) hW none rfl rfl rfl rfl (λρ' n' aU hn=>
  ⟨#[],by show(w.heap.push _)[w.heap.size]? =_;simp,rfl,λi e e' h=>by simp at h⟩)
 refine⟨_,_,_,ρ',cq,Yields.value _,aU,fB,?_,hE⟩;have:=aq.map (ρ:=ρ') (n:=(st.aG none none (some (.map [] 0))).next.toNat) (C:=C) st.next (by simp[St.aG,Pos.aB]);rw[fj]at this;exact this
theorem aa3(hT:bZ P tt)(t:TypeId)(x:Operand):dI P tt (.range t x):=by
 intro ρ C st w k xs cls fr a o vs res ho hc hW hF hx hr;simp only[gP]at hc;split at hc<;>first|(cases hc;done)|skip
 rename_i ti b cV hb;split at hc<;>first|(cases hc;done)|skip
 rename_i hk;cases hc;obtain⟨d,hd,cF⟩:=(hT.at cV).und;rw[hk]at cF;rw[mN cF]at hd;obtain⟨v,rfl,hv⟩:=fM hb hF hx;simp only[av.run,Fb]at hr;split at hr<;>first|(cases hr;done)|skip
 rename_i s;simp only[H0]at hr;subst hr;obtain⟨bs,he,hs⟩:=hv.eR;obtain⟨ρ',aU,fj,fB,hE⟩:=vS (w':=w.alloc (.stringIter bs 0)) (o:= .stringIter bs 0) (x0:= .jW s 0) (base:=0) (size:=0) hW none rfl rfl rfl rfl (λρ' n' aU hn=>
   ⟨bs,by show(w.heap.push _)[w.heap.size]? =_;simp,hs,rfl⟩)
 refine⟨_,.pointer (some ⟨w.heap.size,0,none⟩),_,ρ',?_,Yields.value _,aU,fB,?_,hE⟩
 .simp[execOp,ho,he,Instr.range,aN hd]
 .have:=aq.ptr (ρ:=ρ') (n:=(st.aG none none (some (.jW s 0))).next.toNat) (C:=C) st.next 0 (by simp[St.aG,Pos.aB]);rw[fj]at this;simpa using this
theorem Vj(hT:bZ P tt)(src dst:TypeId)(x:Operand)(hb:∃xs cls,gP tt (.convert src dst x)=some (.conv .bytes,xs,cls)):dI P tt (.convert src dst x):=by
 intro ρ C st w k xs cls fr a o vs res ho hc hW hF hx hr;obtain⟨_,_,jO⟩:=hb;rw[hc]at jO;simp only[H0,Zb9]at jO;obtain⟨rfl,_⟩:=jO;simp only[gP]at hc;split at hc<;>first|(cases hc;done)|skip
 rename_i s d b hs hd hb;obtain⟨ds,u7,Cz⟩:=(hT.at hs).und;obtain⟨dd,hdd,cF⟩:=(hT.at hd).und;split at hc<;>first|(cases hc;done)|skip
 . rename_i e h1 h2;(split at hc<;>first|(cases hc;done)|skip);rename_i te fU;(split at hc<;>first|(cases hc;done)|skip);rename_i hk8;cases hc;rw[h1]at Cz;rw[h2]at cF;rw[mN Cz]at u7;rw[m9 cF]at hdd;obtain⟨de,hde,hke⟩:=(hT.at fU).und;rw[hk8]at hke;rw[Hh hke]at hde;obtain⟨v,rfl,hv⟩:=fM hb hF hx;simp only[av.run,xA]at hr;split at hr<;>first|(cases hr;done)|(rename_i heq;cases heq;done)|(rename_i heq;cases heq)
   (rename_i u;simp only[H0]at hr;subst hr;obtain⟨bs,he,hs⟩:=hv.eR;have cq:=run_bytes_of_string (P:=P) w src dst e bs u7 hdd hde;have Sq:bs.size<=grownCap w bs.size 0 e:=(by unfold grownCap Question.cut;exact Zo5 _ _);generalize grownCap w bs.size 0 e=cap at cq Sq;have e9:(bytesRow bs cap).size=cap:=by have:bs.data.size=bs.size:=rfl;simp[bytesRow,this];omega);have Wv:u.length=bs.size:=(wW hs).symm;have hrel:∀ρ' n',ay ρ' n' C (u.map λc=>AV.int .u8 (.ofNat c)) ((bytesRow bs cap).toList.take (u.map λc=>AV.int .u8 (.ofNat c)).length):=by
     (intro ρ' n';have h1:(bytesRow bs cap).toList.take (u.map λc=>AV.int .u8 (.ofNat c)).length=u.map λc=>Value.int .u8 (.ofNat c):=by have hdl:bs.data.toList.length=bs.size:=(by simp);rw[Zb3,Wv];simp only[bytesRow,Array.toList_append,Zq6];rw[Zk9 (by simp), <-hs,Zh1];rfl);rw[h1];refine⟨by simp,λi v x hv hx=> ?_⟩;simp only[Zb6,Zd0]at hv hx;obtain⟨c,hc,rfl⟩:=hv;obtain⟨c',vU,rfl⟩:=hx;rw[hc]at vU;cases vU;exact .int _ _
   obtain⟨ρ',aU,fj,fB,hE⟩:=vS (w':=w.drew.alloc (.cells (bytesRow bs cap) e ((bytesRow bs cap).size,(bytesRow bs cap).size+1))) (o:= .cells (bytesRow bs cap) e ((bytesRow bs cap).size,(bytesRow bs cap).size+1))
     (x0:= .cells (u.map λc=>AV.int .u8 (.ofNat c)) 0) (base:=0) (size:=(bytesRow bs cap).size) hW none rfl rfl rfl rfl (λρ' n' aU hn=>
     xH (e:=e) (fr:=((bytesRow bs cap).size,(bytesRow bs cap).size+1)) (by show(w.heap.push _)[w.heap.size]? =_;simp) (by rw[Zb3,Wv,e9];exact Sq) (hrel _ _) (λi hi=>by simp;omega))
   refine⟨_,.slice (some ⟨w.heap.size,0,none⟩) u.length cap,_,ρ',?_,Yields.value _,aU,fB,?_,hE⟩
   .simp only[execOp,ho,he,Sem.run_bind];rw[cq,Wv];rfl
   .exact Bq (by simp[St.aG,Pos.aB]) fj (by omega) (λc hc=>by cases hc) (by omega)
 all_goals
   repeat' split at hc
   all_goals (cases hc;done)
end
section
variable{P:Program}{tt:TT}{ρ:Pos->Loc}{C:Cells}{st:St}{w w':World}
theorem yB{n:Nat}:∀{l:List AV}{ys:List Value},aR l=true->ay ρ n C l ys->∀y∈ys,y.oneCell'=true
 |[],ys,_,h=>by have:=h.mU;subst this;simp
 |v::l,ys,h1,h=>by
  unfold aR at h1;split at h1<;>first|(cases h1;done)|skip
  rename_i ho;obtain⟨y,ys',rfl,hv,hs⟩:=h.cons_inv;intro z hz;simp at hz;rcases hz with rfl|hz
  .cases hv<;>first|rfl|(simp[AV.one]at ho;done)
  .exact yB h1 hs z hz
theorem Da{α:Type}(l:List α){i:Nat}(vs:List α)(hi:i<=l.length)(k:Nat):(aJ l i vs)[k]? =if k<i then l[k]? else if k<i+vs.length then vs[k - i]? else l[k]? :=by
 unfold aJ;have hl:(l.take i).length=i:=by simp;omega
 split
 .rename_i h;rw[Zc6 (by omega),Zc4,Za9 h]
 . rename_i h;rw[Zc8 (by omega),hl];split
   .rename_i h';rw[Zc6 (by omega)]
   .rename_i h';rw[Zc8 (by omega),Zd2];congr 1;omega
theorem Gm{α:Type}(l:List α)(b off:Nat)(vs:List α)(h:b+off<=l.length):(aJ l (b+off) vs).drop b=aJ (l.drop b) off vs:=by
 apply Zf3;intro k;rw[Zd2,Da l vs h,Da (l.drop b) vs (by simp;omega),Zd2];by_cases h1:k<off
 .rw[Za9 (by omega),Za9 h1]
 . rw[Za3 (by omega),Za3 h1];by_cases h2:k<off+vs.length
   .rw[Za9 (by omega),Za9 h2];congr 1;omega
   .rw[Za3 (by omega),Za3 h2]
theorem Of{α:Type}(l:List α)(off m:Nat)(vs:List α)(h:off+vs.length<=m)(h':m<=l.length):(aJ l off vs).take m=aJ (l.take m) off vs:=by
 apply Zf3;intro k;rw[Zc4,Da l vs (by omega),Da (l.take m) vs (by simp;omega),Zc4];by_cases h1:k<off
 .rw[Za9 (by omega),Za9 h1,Za9 h1,Za9 (by omega)]
 . by_cases h2:k<off+vs.length
   .rw[Za9 (by omega),Za3 h1,Za9 h2,Za3 h1,Za9 h2]
   .rw[Za3 h1,Za3 h2,Za3 h1,Za3 h2]
theorem IL(hW:aZ ρ C st w){b:Pos}{cs vs:List AV}{fz off:Nat}{ys:List Value}(hb:st.heap.get b=some (.cells cs fz))(hle:off+vs.length<=cs.length)(hfz:fz<=off)
   (h1:aR vs=true) (hv:ay ρ st.next.toNat C vs ys):
   ∃w',(storeCells ⟨(ρ b).az,(ρ b).base+off,none⟩ ys).run P w= .ok () w'/\aZ ρ C (st.aG none (some (b,.cells (aJ cs off vs) fz)) none) w'/\j0 ρ st w ρ (st.aG none (some (b,.cells (aJ cs off vs) fz)) none) w':=by
 obtain⟨_,_,c,e,fr,g1,g2,g3,g4,g5⟩:=hW.live b _ hb;have hl:vs.length=ys.length:=hv.1;obtain⟨w',e1,e2,e3,e4,e5,e6,e7⟩:=kQ (P:=P) (ρ b).az e fr ys 0 ((ρ b).base+off) c w g1 (by omega) (yB h1 hv) (λk hk lW=>by
   have:=g5 (k - (ρ b).base) (by omega) (by omega)
   rwa [show(ρ b).base+(k - (ρ b).base)=k from by omega]at this)
 simp only[Zg7]at e1 e2;refine⟨w',e1,?_⟩;have hlen:(aJ cs off vs).length=cs.length:=by simp[aJ];omega
 refine QE hW hb e5 e6 e7 e3 e4 ⟨_,e,fr,e2,?_,?_,?_,λi hi Og=>g5 i hi ?_⟩
 .simp[aJ];omega
 .rw[hlen];simp[aJ];omega
 .rw[hlen];rw[Gm _ _ _ _ (by simp;omega),Of _ _ _ _ (by omega) (by simp;omega)];exact g4.aJ hv off
 .simp[aJ]at Og;omega
theorem acN(hW:aZ ρ C st w){b:Pos}{cs vs:List AV}{t:TypeId}{off:Nat}{ys:List Value}(hb:st.heap.get b=some (.typed t cs))(hle:off+vs.length<=cs.length)
   (h1:aR vs=true) (hv:ay ρ st.next.toNat C vs ys):
   ∃w',(storeCells ⟨(ρ b).az,(ρ b).base+off,none⟩ ys).run P w= .ok () w'/\aZ ρ C (st.aG none (some (b,.typed t (aJ cs off vs))) none) w'/\j0 ρ st w ρ (st.aG none (some (b,.typed t (aJ cs off vs))) none) w':=by
 obtain⟨_,_,c,fr,g1,g2,g3,g4,g5,g6⟩:=hW.live b _ hb;have hl:vs.length=ys.length:=hv.1;obtain⟨w',e1,e2,e3,e4,e5,e6,e7⟩:=kQ (P:=P) (ρ b).az t fr ys 0 ((ρ b).base+off) c w g1 (by omega) (yB h1 hv) (λk hk lW=>by
   have:=g5 (k - (ρ b).base) (by omega) (by omega)
   rwa [show(ρ b).base+(k - (ρ b).base)=k from by omega]at this)
 simp only[Zg7]at e1 e2;refine⟨w',e1,?_⟩;have hlen:(aJ cs off vs).length=cs.length:=by simp[aJ];omega
 refine QE hW hb e5 e6 e7 e3 e4 ⟨_,fr,e2,?_,?_,?_,λi hi Og=>g5 i hi ?_,g6⟩
 .simp[aJ];omega
 .rw[hlen];simp[aJ];omega
 .rw[hlen];rw[Gm _ _ _ _ (by simp;omega),Of _ _ _ _ (by omega) (by simp;omega)];exact g4.aJ hv off
 .simp[aJ]at Og;omega
theorem aq.wY{n:Nat}:aq ρ n C .undef undef:= .tuple [] #[] rfl (λ_ _ _ h=>by simp at h)
theorem acO(hT:bZ P tt)(t:TypeId)(x y:Operand):dI P tt (.store t x y):=by
 intro ρ C st w k xs cls fr a o vs res ho hc hW hF hx hr;simp only[gP]at hc;split at hc<;>first|(cases hc;done)|skip
 rename_i ti l cV hl;cases hc;obtain⟨p,v,rfl,h1,h2⟩:=Sp hl hF hx;obtain⟨i0,mO,lM,_⟩:=(hT.at cV).info;simp only[av.run,Az]at hr;split at hr<;>first|(cases hr;done)|skip
 rename_i b off;split at hr<;>first|(cases hr;done)|skip
 rotate_left
 .rename_i t0 cs hb;(split at hr<;>first|(cases hr;done)|skip);rename_i e1 e2 e4;have e1:=Za2 e1;have e2:=Za6 e2;simp only[H0]at hr;subst hr;obtain⟨_,he⟩:=h1.fR;have hc:=h2.cells;obtain⟨w',cq,fB,hE⟩:=acN (P:=P) (vs:=v.cells) (off:=off) hW hb (by omega) e4 hc;refine⟨.skip,undef,w',ρ,?_,.inr ⟨rfl,rfl⟩,λ_ _=>rfl,fB,aq.wY,hE⟩;have e9:(a.eval y).cells.size=ti.size:=(by have:=hc.1;simp at this;omega);simp[execOp,ho,he,Instr.storeAt,Instr.sureAddr,storeVar,iY mO,lM,e9,cq]
 rename_i cs fz hb;split at hr<;>first|(cases hr;done)|skip
 rename_i e1 e2 e3 e4;have e1:=Za2 e1;have e2:=Za6 e2;have e3:=Za6 e3;simp only[H0]at hr;subst hr;obtain⟨_,he⟩:=h1.fR;have hc:=h2.cells;obtain⟨w',cq,fB,hE⟩:=IL (P:=P) hW hb (by omega) e3 e4 hc;refine⟨.skip,undef,w',ρ,?_,.inr ⟨rfl,rfl⟩,λ_ _=>rfl,fB,aq.wY,hE⟩;have e9:(a.eval y).cells.size=ti.size:=by have:=hc.1;simp at this;omega
 simp[execOp,ho,he,Instr.storeAt,Instr.sureAddr,storeVar,iY mO,lM,e9,cq]
theorem run_setObj_map{r:Nat}{es:Array MapEntry}{c:Nat}{o:Obj}{w:World}(h:w.heap[r]? =some (.map es c)):(setObj r o).run P w= .ok () { w with heap:=w.heap.setIfInBounds r o }:=by
 simp[setObj,Sem.run,h]
theorem QH(hW:aZ ρ C st w){b:Pos}{es:List (AV×AV×Nat)}{clock:Nat}(hb:st.heap.get b=some (.map es clock)){J9:List (AV×AV×Nat)}{aa4:Array MapEntry}{Hs:Nat}
  (hE:Fo ρ st.next.toNat C J9 aa4.toList):
  aZ ρ C (st.aG none (some (b,.map J9 Hs)) none) { w with heap:=w.heap.setIfInBounds (ρ b).az (.map aa4 Hs) }/\j0 ρ st w ρ (st.aG none (some (b,.map J9 Hs)) none) { w with heap:=w.heap.setIfInBounds (ρ b).az (.map aa4 Hs) }:=by
 have aO:=(hW.live b _ hb).2.1;refine QE hW hb rfl rfl rfl (by simp) (λk hk=>by simp[Ze7 (Ne.symm hk)]) ⟨aa4,by simp[aO],by simpa using hE.1,λi e e' h1 h2=>hE.2 i e e' h1 (by simpa using h2)⟩
theorem Pd{n:Nat}{pk:PK}{u v:AV}{x y:Value}(h1:aq ρ n C u x)(h2:aq ρ n C v y)(h:Ay pk u v=some true)(m:Nat):Instr.sameBits m y x=true:=by
 unfold Ay at h;split at h<;>first|(cases h;done)|skip
 .simp only[H0]at h;rw[h1.iD,h2.iD];rename_i p q;have:p=q:=(by simpa using h);subst this;cases m<;>simp[Instr.sameBits]
 . (split at h<;>first|(cases h;done)|skip);rename_i Cy;have:=xF Cy;subst this;simp only[H0,lC]at h;rw[h1.iI,h2.iI];rename_i p q _;have:p=q:=(by simpa using h);subst this;cases m<;>simp[Instr.sameBits]
 .simp only[H0]at h;obtain⟨bx,rfl,e1⟩:=h1.eR;obtain⟨bz,rfl,e2⟩:=h2.eR;have:bz==bx:=(by rw[beq_toListBytes,Ho e2 e1,j3];exact(j3.1 h).symm);cases m<;>simpa [Instr.sameBits]using this
theorem T3{pk:PK}{u:AV}:∀{es:List (AV×AV×Nat)}{i j:Nat}{v:AV},jY pk u es i=some (some (j,v))->∃e,i<=j/\es[j - i]? =some e/\Ay pk u e.1=some true
 |[],i,j,v,h=>by simp[jY]at h
 |(k',v',born)::es,i,j,v,h=>by
  unfold jY at h;split at h<;>first|(cases h;done)|skip
  .rename_i hq;simp only[H0,Zb9]at h;obtain⟨rfl,_⟩:=h;exact⟨(k',v',born),Za5 _,by simp,hq⟩
  .obtain⟨e,h1,h2,h3⟩:=T3 h;refine⟨e,by omega,?_,h3⟩;rw[show j - i=(j - (i+1))+1 from by omega];simpa using h2
theorem Lg(k v:AV):∀(es:List (AV×AV×Nat))(i j:Nat),(oI k v es i)[j]? =if j=i then(es[i]?).map (λe=>(k,v,e.2.2))else es[j]?
 |[],i,j=>by cases i<;>cases j<;>simp[oI]
 |(a,b,born)::es,0,j=>by cases j<;>simp[oI]
 |e::es,i+1,j=>by
  cases j with
  |zero=>simp[oI]
  |succ j=>simp[oI,Lg k v es i j]
theorem QI (hT:bZ P tt)(op:Op)(t:TypeId)(m k0 v0:Operand)(hop:op= .mapUpdate t m k0 v0\/op= .insert t m k0 v0):dI P tt op:=by
 intro ρ C st w k xs cls fr a o vs res ho hc hW hF hx hr;have hc:gP.aaS tt t m k0 v0=some (k,xs,cls):=by rcases hop with rfl|rfl<;>simpa only[gP]using hc
 have hex:(execOp a.eval o).run P w=((Instr.mapUpdate t (a.eval m) (a.eval k0) (a.eval v0)).run P w).andThen λ_ w=>.ok .skip w:=by
   rcases hop with rfl|rfl<;>simp[execOp,ho]
 unfold gP.aaS at hc;split at hc<;>first|(cases hc;done)|skip
 rename_i ti l cV hl;split at hc<;>first|(cases hc;done)|skip
 rename_i kt et hk;split at hc<;>first|(cases hc;done)|skip
 rename_i tk Bp;obtain⟨d,hd,cF⟩:=(hT.at cV).und;rw[hk]at cF;rw[Lc cF]at hd;obtain⟨dk,TY,Cy⟩:=(hT.at Bp).und;have key:∃pk,k= .mapSet pk/\xs=l/\pk.fits dk=true:=by
   split at hc<;>first|(cases hc;done)|skip
   all_goals
     rename_i h1;cases hc;refine⟨_,rfl,rfl,agH tk.k Cy ?_⟩
   .exact .inr (.inl ⟨⟨_,h1⟩,rfl⟩)
   .exact .inr (.inr ⟨h1,rfl⟩)
   .exact .inl ⟨h1,rfl⟩
 obtain⟨pk,rfl,rfl,Gj⟩:=key;obtain⟨mm,kk,vv,rfl,h1,h2,h3⟩:=evs3 hl hF hx;have yA:∀e w,(Instr.checkKey e 10000 kt (a.eval k0)).run P w= .ok () w:=λe w=>Hq TY Gj e 9999 _ w
 simp only[av.run,xC]at hr;split at hr<;>first|(cases hr;done)|skip
 rename_i b;split at hr<;>first|(cases hr;done)|skip
 rename_i es clock hb;obtain⟨_,he⟩:=h1.xG;obtain⟨_,_,es',ee,hlen,iE⟩:=hW.live _ _ hb;have hE:Fo ρ st.next.toNat C es es'.toList:=⟨by simpa using hlen,λi e e' h1 h2=>iE i e e' h1 (by simpa using h2)⟩
 split at hr<;>first|(cases hr;done)|skip
 . rename_i i v hpk hf;simp only[H0]at hr;subst hr;obtain⟨r',hf',rP⟩:=Bo Gj h2 hE hf;rcases rP with⟨e1,_⟩|⟨j',v',y,e1,e2,e3,_,e5⟩
   .cases e1
   . cases  e1;subst e2;obtain⟨e,_,hei,hek⟩:=T3 hf;rw[Zl6]at hei;have hi:i<es'.size:=(by omega);have aa5:es'[i]? =some es'[i]:=Zg1 hi;have hkey:=(iE i e es'[i] hei aa5).1;have hsb:=Pd h2 hkey hek 10000;have hE2:Fo ρ st.next.toNat C (oI kk vv es i) (es'.modify i λe=>{ e with key:=a.eval k0,val:=a.eval v0 }).toList:=by
        refine⟨?_,λj e e' g1 g2=> ?_⟩
        . have Oh:∀(es:List (AV×AV×Nat))(i:Nat),(oI kk vv es i).length=es.length:=by
            intro es;induction es with
            |nil=>intro i;cases i<;>rfl
            | cons e es ih=>intro i;cases i with
              |zero=>obtain⟨a,b,c⟩:=e;rfl
              |succ i=>simp[oI,ih i]
          rw[Oh];simpa using hlen
        . rw[Lg]at g1;simp only[Zh7,Zo3]at g2;by_cases hji:j=i
          .subst hji;rw[Za9 rfl,hei]at g1;simp[aa5]at g1 g2;subst g1;subst g2;exact⟨h2,h3,(iE j e es'[j] hei aa5).2.2⟩
          .rw[Za3 hji]at g1;rw[Za3 (λe=>hji e.symm)]at g2;exact iE j e e' g1 g2
     obtain⟨fB,hE'⟩:=QH hW hb (Hs:=clock) hE2;refine⟨.skip,undef,_,ρ,?_,.inr ⟨rfl,rfl⟩,λ_ _=>rfl,fB,aq.wY,hE'⟩;rw[hex];simp only[Instr.mapUpdate,Sem.run_bind,aN hd,Result.andThen_ok,he,run_getObj_map ee,yA,run_findKey TY hf',aa5,Zf1,Zf5,Instr.keyThatStays,hsb,Zh0,Sem.run_pure,run_setObj_map ee]
 . rename_i hpk hf;simp only[H0]at hr;subst hr;obtain⟨r',hf',rP⟩:=Bo Gj h2 hE hf;rcases rP with⟨_,e2⟩|⟨j',v',y,e1,_⟩
   . subst  e2;have hE2:Fo ρ st.next.toNat C (es++[(kk,vv,clock)]) (es'.push { key:=a.eval k0,val:=a.eval v0,born:=clock }).toList:=by
        refine⟨by simp[hlen],λj e e' g1 g2=> ?_⟩;simp only[Array.toList_push]at g2;rcases Zj1 j es.length with hj|hj
        .rw[Zc6 hj]at g1;rw[Zc6 (by simp;omega)]at g2;exact iE j e e' g1 (by simpa using g2)
        .rw[Zc8 hj]at g1;rw[Zc8 (by simp;omega)]at g2;have:j - es.length=0:=(by have:=(Za1.1 g1).1;simp at this;omega);rw[this]at g1;have:j - es'.toList.length=0:=(by simp;omega);rw[this]at g2;simp at g1 g2;subst g1;subst g2;exact⟨h2,h3,rfl⟩
     obtain⟨fB,hE'⟩:=QH hW hb (Hs:=clock+1) hE2;refine⟨.skip,undef,_,ρ,?_,.inr ⟨rfl,rfl⟩,λ_ _=>rfl,fB,aq.wY,hE'⟩;rw[hex];simp only[Instr.mapUpdate,Sem.run_bind,aN hd,Result.andThen_ok,he,run_getObj_map ee,yA,run_findKey TY hf',run_setObj_map ee]
   .cases e1
theorem acP(it:Operand)(isS:Bool):dI P tt (.next it isS):=by
 intro ρ C st w k xs cls fr a o vs res ho hc hW hF hx hr;simp only[gP]at hc;split at hc<;>first|(cases hc;done)|skip
 rename_i b hb;cases hc;obtain⟨v,rfl,hv⟩:=fM hb hF hx;simp only[av.run,IA]at hr;split at hr<;>first|(cases hr;done)|skip
 rename_i bb;split at hr<;>first|(cases hr;done)|skip
 rename_i s pos kR;obtain⟨_,he⟩:=hv.fR;obtain⟨_,_,bs,Ac,hs,VM⟩:=hW.live _ _ kR;have e9:=wW hs;have nO:(getObj (ρ bb).az).run P w= .ok (.stringIter bs pos) w:=by simp[getObj,Sem.run,Ac]
 rw[VM]at he;split at hr
 . (rename_i aO;have aO:pos<s.length:=(by simpa using aO);(split at hr<;>first|(cases hr;done)|skip);rename_i c wd Pe;simp only[H0]at hr;subst hr;have IJ:pos<bs.size:=(by omega);unfold ZN at Pe;(split at Pe<;>first|(cases Pe;done)|skip);rename_i c' vU;(split at Pe<;>first|(cases Pe;done)|skip);rename_i aeM;simp only[H0,Zb9]at Pe;obtain⟨rfl,rfl⟩:=Pe;have aeM:c'<128:=(by simpa using aeM);have hcb:(bs[pos]'IJ).toNat=c':=by rw[mC, <-hs,Zb6]at vU;obtain⟨b',Br,CA⟩:=Zd0.1 vU;obtain⟨hl,hbb'⟩:=Za1.1 Br;rw[<-CA, <-hbb'];rfl);have ZW:=decode_ascii bs pos IJ (by rw[hcb];exact aeM);rw[hcb]at ZW;have IM:(setObj (ρ bb).az (.stringIter bs (pos+1))).run P w= .ok () { w with heap:=w.heap.setIfInBounds (ρ bb).az (.stringIter bs (pos+1)) }:=(by simp[setObj,Sem.run,Ac]);have hltb:=(hW.live _ _ kR).2.1
   obtain⟨fB,hE'⟩:=QE (w':={ w with heap:=w.heap.setIfInBounds (ρ bb).az (.stringIter bs (pos+1)) }) (x0:= .jW s (pos+1)) hW kR rfl rfl rfl (by simp)
     (λk hk=>by simp[Ze7 (Ne.symm hk)]) ⟨bs,by simp[hltb],hs,VM⟩
   refine⟨.value (.tuple #[.bool true,goInt pos,.int .i32 (c':Int)]),_,_,ρ,?_,Yields.value _,λ_ _=>rfl,fB,?_,hE'⟩
   .simp only[execOp,ho,he,Instr.next,Sem.run_bind,nO,Result.andThen_ok,IJ,Zh0,ZW,IM,Sem.run_pure]
   .exact .tX (ay.cons (.bool true) (ay.cons (.int _ _) (ay.cons (.int _ _) ay.nil)))
 . (rename_i aO;have aO:¬pos<s.length:=λh=>by have:Nat.blt pos s.length=true:=(by simpa using h);rw[this]at aO;cases aO);simp only[H0]at hr;subst hr;have IJ:¬pos<bs.size:=(by omega);refine .pure (x:= .tuple #[.bool false]) ?_ (.tX (ay.cons (.bool false) ay.nil));simp only[execOp,ho,he,Instr.next,Sem.run_bind,nO,Result.andThen_ok,IJ,Zf9,Sem.run_pure]
end
section
variable{P:Program}{tt:TT}{ρ:Pos->Loc}{C:Cells}{st:St}{w w':World}
theorem aZ.of_heap(hW:aZ ρ C st w)(h:w'.heap=w.heap):aZ ρ C st w' where
 live b x hb:=let⟨h1,h2,h3⟩:=hW.live b x hb;⟨h1,by rw[h];exact h2,h3.of_heap (by rw[h])⟩
 inj:=hW.inj
 ej a v ha:=let⟨h1,h2⟩:=hW.ej a v ha;⟨by unfold World.cell? at h1 ⊢; rw[h];exact h1,h2⟩
 whole a v ha o ho:=by have:=hW.whole a v ha o ho;unfold World.cell? at this ⊢; rw[h];exact this
theorem Oi{es:Nat}:∀{xs:List (List AV)}(_h:∀(i:Nat)(cs:List AV),xs[i]? =some cs->cs.length=es)(q:Nat)(v:AV),
  xs.flatten[q]? =some v->∃cs,xs[q / es]? =some cs/\cs[q % es]? =some v
 |[],_,q,v,hv=>by simp at hv
 |c ::xs,h,q,v,hv=>by
  have hc:c.length=es:=h 0 c rfl;have iw:∀(i:Nat)(cs:List AV),xs[i]? =some cs->cs.length=es:=λi cs hi=>h (i+1) cs (by simpa using hi)
  rw[Ze8]at hv;rcases Zj1 q c.length with hq|hq
  . rw[Zc6 hq]at hv;refine⟨c,?_,?_⟩
    .   rw[Nat.div_eq_of_lt (by omega)];rfl
    .   rw[Zf6 (by omega)];exact hv
  . rw[   Zc8 hq]at hv;obtain⟨cs,h1,h2⟩:=Oi iw (q - c.length) v hv;rw[hc]at hq h1 h2;have aa2:0<es:=by
        rcases Zp7 es with h0|h0
        .subst h0;have hl:=iw _ _ h1;have:=(Za1.1 h2).1;omega
        .exact h0
    refine⟨cs,?_,?_⟩
    .   rw[Nat.div_eq_sub_div aa2 hq];simpa using h1
    .   rw[Zn3 hq];exact h2
theorem Oj{es:Nat}:∀{xs:List (List AV)}(_h:∀(i:Nat)(cs:List AV),xs[i]? =some cs->cs.length=es),xs.flatten.length=xs.length*es
 |[],_=>by simp
 |c::xs,h=>by have hc:c.length=es:=h 0 c rfl;rw[Ze8,Zc1,Oj (λi cs hi=>h (i+1) cs (by simpa using hi)),hc,Zc5,Zj9];omega
theorem lR(hW:aZ ρ C st w){es m:Nat}{u:AV}{x:Value}{new:List AV}{k:Nat}(hu:aq ρ st.next.toNat C u x)(hk:dD u=some k)(hmk:m<=k)(h:cH es m (λb=>st.heap.get b) u=some new)(w2:World)(jy:w2.heap=w.heap):
   ∃ys:List Value,(Builtin.firstCells es m x).run P w2= .ok ys.toArray w2/\ay ρ st.next.toNat C new ys/\(u= .ah\/new.length=m*es):=by
 have Ht:=hW.of_heap (w':=w2) jy;unfold cH at h;split at h
 .simp only[H0]at h;subst h;rw[hu.fZ];exact⟨[],by simp[Builtin.firstCells],ay.nil,.inl rfl⟩
 . rename_i b off len cap es';simp only[dD,H0]at hk;subst hk;obtain⟨aa,aM,he,hle,_,ha⟩:=hu.dX;rw[he];split at h
   .rename_i h0;have h0:=Za2 h0;simp only[H0]at h;subst h;exact⟨[],by simp[Builtin.firstCells,h0,loadCells,loadCellsFrom],ay.nil,.inr (by simp[h0])⟩
   .rename_i h0;have h0:=Zc2 h0;(split at h<;>first|(cases h;done)|skip);rename_i cs fz hb;have hm:m≠0:=(by intro e;subst e;simp at h0);obtain⟨_,rfl,_⟩:=ha (by omega);obtain⟨ys,h1,h2⟩:=Ht.loadCells (P:=P) hb h;exact⟨ys,by simp only[Builtin.firstCells];exact h1,h2,.inr (uR h)⟩
 . rename_i xs es';simp only[dD,H0]at hk;subst hk;(split at h<;>first|(cases h;done)|skip);rename_i Ww T4;have Ww:=Za2 Ww;have T4:=Za6 T4;subst Ww;simp only[H0]at h;subst h;obtain⟨aa,aM,cell,he,hle,yy,g1,g2,g3⟩:=hu.tY;rw[he];have ee:∀(i:Nat)(cs:List AV),(xs.take m)[i]? =some cs->cs.length=es:=λi cs hi=>by
     rw[Zc4]at hi;split at hi
     .exact g1 i cs hi
     .cases hi
   have T6:=Oj ee;rw[Zj7,Zk8 T4]at T6;have agI:∀q v,(xs.take m).flatten[q]? =some v->∃cs,xs[q / es]? =some cs/\cs[q % es]? =some v:=λq v hv=>by
     obtain⟨cs,h1,h2⟩:=Oi ee q v hv;rw[Zc4]at h1;split at h1
     .exact⟨cs,h1,h2⟩
     .cases h1
   refine⟨(List.range (m*es)).map λq=>cell (q / es) (q % es),?_,⟨by simp[T6],λq v y hv hy=> ?_⟩,.inr T6⟩
   .simp only[Builtin.firstCells];(refine run_loadCells w2 _ _ _ λq hq=> ?_);have aO:q<(xs.take m).flatten.length:=(by rw[T6];exact hq);obtain⟨cs,h1,h2⟩:=agI q _ (H4 aO);have yy:=yy (by intro e;rw[e]at h1;simp at h1);obtain⟨ab,ao,asp⟩:=aa;simp only at yy;subst yy;have:=(Ht.ej _ _ (g2 _ _ _ _ h1 h2)).1;rw[mD];simp only at this;rw[show ao+q=ao+q / es*es+q % es from by rw[Zh3,Nat.mul_comm,Nat.div_add_mod]];exact this
   .obtain⟨cs,h1,h2⟩:=agI q v hv;have hq:q<m*es:=(by rw[<-T6];exact(Za1.1 hv).1);simp[hq]at hy;subst hy;exact g3 _ _ _ _ h1 h2
 . rename_i s;simp only[dD,H0]at hk;subst hk;(split at h<;>first|(cases h;done)|skip);rename_i Ww T4;have Ww:=Za2 Ww;have T4:=Za6 T4;subst Ww;simp only[H0]at h;subst h;obtain⟨bs,rfl,hs⟩:=hu.eR;refine⟨(s.take m).map λ(c:Nat)=>Value.int .u8 (.ofNat c),?_,⟨by simp,λq v y hv hy=> ?_⟩,.inr (by simp;omega)⟩
   .simp only[Builtin.firstCells,Sem.run_pure];congr 1;apply Zn4;simp only[Zq6,ByteArray.data_extract,Zp0,List.extract,Zc9,Zl6];rw[<-hs, <-Zk3,Zh1];rfl
   .simp only[Zb6,Zd0]at hv hy;obtain⟨c,hc,rfl⟩:=hv;obtain⟨c',vU,rfl⟩:=hy;rw[hc]at vU;cases vU;exact .int _ _
 .cases h
theorem Pg{n:Nat}{u:AV}{x:Value}{k:Nat}(hu:aq ρ n C u x)(hk:dD u=some k):(Builtin.lenOf x).run P w= .ok k w:=by
 unfold dD at hk;split at hk<;>first|(cases hk;done)|skip
 all_goals simp only[H0]at hk;subst hk
 .rw[hu.fZ];rfl
 .obtain⟨_,_,he,_⟩:=hu.dX;rw[he];rfl
 .obtain⟨_,_,_,he,_⟩:=hu.tY;rw[he];rfl
 .obtain⟨bs,rfl,hs⟩:=hu.eR;rw[<-wW hs];rfl
theorem T7(nl:Nat):∀(r c:Nat),c<=nl+(nl+768) / 4->Builtin.growBy nl r c<=nl+(nl+768) / 4
 |0,c,h=>h
 |r+1,c,h=>by
  unfold Builtin.growBy;split
  .exact h
  .exact T7 nl r _ (by omega)
theorem nextslicecap_le{aa6 cY:Nat}(h:cY<aa6):Builtin.nextslicecap aa6 cY<=2*aa6+768:=by
 unfold Builtin.nextslicecap;split
 .omega
 . split
   .omega
   .have:=T7 aa6 4 cY (by omega);omega
theorem IN(hT:bZ P tt){t t2 e:Nat}{ts:Array TypeId}{ti J6 te:TI}(cV:tt.get (key t)=some ti)(Lh:tt.get (key t2)=some J6)(hk:ti.k= .slice e)(kF:∀k,J6.k≠ .int k)
  (fU:tt.get (key e)=some te) (h0:ts[0]? =some t) (h1:ts[1]? =some t2) (ty:TypeId) (base:Option Addr) (n cap m:Nat) (x:Value) (w:World)
  (hx:(Builtin.lenOf x).run P w= .ok m w) (hb:(2*(n+m)+768)*te.bytes<=281474976710656) (hi:n+m<=9223372036854775807):
  (Builtin.append_ ts ty #[.slice base n cap,x]).run P w=
    if n+m<=cap then((Builtin.firstCells te.size m x).run P w).andThen λnew w=>((match base with|some a=>storeCells (a.add (n*te.size)) new.toList|none=>pure ()).run P w).andThen λ_ w=>.ok (.slice base (n+m) cap) w
    else((Builtin.firstCells te.size n (.slice base n cap)).run P w.drew).andThen λcY w1=>((Builtin.firstCells te.size m x).run P w1).andThen λnew w2=>((zeroValue e).run P w2).andThen λz w3=>
        .ok (.slice (some ⟨w3.heap.size,0,none⟩) (n+m) (grownCap w (n+m) cap e)) (w3.alloc (.cells (cY++new++Builtin.zeroCells z.cells (grownCap w (n+m) cap e - (n+m))) e)):=by
 obtain⟨d,hd,cF⟩:=(hT.at cV).und;rw[hk]at cF;rw[m9 cF]at hd;obtain⟨d2,QJ,aeN⟩:=(hT.at Lh).und;obtain⟨i0,mO,lM,hib,_⟩:=(hT.at fU).info;have aiS:∀k,d2≠ .int k:=by
  rintro k rfl;cases Cy:J6.k<;>rw[Cy]at aeN<;>first|(simp[bL]at aeN;done)|exact absurd Cy (kF _)
 have aa7:¬(((n+m:Nat):Int)>IntKind.i64.max):=by
  have:IntKind.i64.max=9223372036854775807:=by decide
  rw[this];omega
 have aiT:¬(n+m<=cap)->¬(Builtin.nextslicecap (n+m) cap*te.bytes>2 ^ 48):=λhc=>by
  have h1:=nextslicecap_le (Nat.lt_of_not_le hc);have h2:=Zh4 te.bytes h1;have:(2:Nat) ^ 48=281474976710656:=by decide
  omega
 have Sq:∀q,(Question.appendCap (n+m) cap e).forced=q->q=false:=by rintro q rfl;rfl
 clear aeN;cases d2<;>first|(exact absurd rfl (aiS _))|skip
 all_goals
  unfold Builtin.append_;simp only[h0,h1,List.getElem?_toArray,Za8,Zb7,Sem.run_bind,aN hd,Result.andThen_ok,iY mO,lM,aN QJ,Sem.run_pure,hx,Ze5,Zf9,Zh6,Zh0,Sem.run_ite];by_cases hc:n+m<=cap
  .rw[Za9 hc,Za9 hc];cases base<;>simp only[Sem.run_bind,Sem.run_pure,Result.andThen_ok]
  .rw[Za3 hc,Za3 hc];simp only[Sem.run_bind,Wl mO,hib,Result.andThen_ok,aa7,false_and,Zf9,aiT hc,run_choose,Question.forced,Ze5,World.drew_eq,run_askRoom,Sem.run_pure,newRow,run_newObj,World.alloc_eq];rfl
end
section
variable{P:Program}{tt:TT}{ρ:Pos->Loc}{C:Cells}{st:St}{w w':World}
theorem aeO{L:Loc}{cs:List AV}{n:Nat}(fz:Nat)(h:m5 ρ n C L w' (.cells cs 0)):m5 ρ n C L w' (.cells cs fz):=
 let⟨c,e,fr,h1,h2,h3,h4,h5⟩:=h
 ⟨c,e,fr,h1,h2,h3,h4,λi _ hi=>h5 i (Zi5 _) hi⟩
theorem aa8(hW:aZ ρ C st w)(del:Option Pos)(fz:Nat){cY new rest:List Value}{ol nl:List AV}{e:TypeId}{n m es aM:Nat}(h1:ay ρ st.next.toNat C ol cY)(h2:ay ρ st.next.toNat C nl new)
  (Ag:ol.length=n*es) (Ka:nl.length=m*es) (hr:rest.length=(aM - (n+m))*es) (hc:n+m<=aM) {w2:World} (jy:w2=w.drew.alloc (.cells (cY++new++rest).toArray e)):
  ∃ρ':Pos->Loc,(∀b:Pos,b.toNat<st.next.toNat->ρ' b=ρ b)/\aZ ρ' C (st.aG del none (some (.cells (ol++nl) fz))) w2/\j0 ρ st w ρ' (st.aG del none (some (.cells (ol++nl) fz))) w2/\
   aq ρ' (st.aG del none (some (.cells (ol++nl) fz))).next.toNat C (.slice st.next 0 (n+m) none es) (.slice (some ⟨w.heap.size,0,none⟩) (n+m) aM):=by
 subst jy;have Ah:cY.length=n*es:=by rw[<-h1.1,Ag]
 have nK:new.length=m*es:=by rw[<-h2.1,Ka]
 have e9:(cY++new++rest).length=aM*es:=by simp only[Zc1,Ah,nK,hr];rw[<-Zj9, <-Zj9];congr 1;omega
 obtain ⟨ρ',aU,fj,fB,hE⟩:=vS (w':=w.drew.alloc (.cells (cY++new++rest).toArray e)) (o:= .cells (cY++new++rest).toArray e) (x0:= .cells (ol++nl) fz) (base:=0) (size:=(cY++new++rest).toArray.size) hW del rfl rfl rfl rfl (λρ' n' aU hn=>
  aeO   fz <| xH (e:=e) (fr:=(0,0)) (by show(w.heap.push _)[w.heap.size]? =_;simp) (by simp[Ag,Ka,Ah,nK])
   (by
        have:(cY++new++rest).toArray.toList.take (ol++nl).length=cY++new:=by
         rw[Zk9 (by simp[Ag,Ka,Ah,nK])]
        rw[this];exact(h1.append h2).mono aU hn) (λi _=>by simp))
 refine⟨ρ',aU,fB,hE,Bq (by simp[St.aG,Pos.aB]) fj hc (λc hc=>by cases hc) (by simp only[Zn6,e9];exact Za5 _)⟩
theorem BW(z:Array Value)(m:Nat):(Builtin.zeroCells z m).toList.length=m*z.size:=by simp[Builtin.zeroCells]
theorem aeP{m:Nat}(h:Nat.beq m 0=false):m≠0:=Zc2 h
theorem IP (hT:bZ P tt){t t2 e:Nat}{ts:Array TypeId}{ti J6 te:TI}{z:List AV}(cV:tt.get (key t)=some ti)(Lh:tt.get (key t2)=some J6)(hk:ti.k= .slice e)(kF:∀k,J6.k≠ .int k)
   (fU:tt.get (key e)=some te) (hz:te.zero=some z) (h0:ts[0]? =some t) (h1:ts[1]? =some t2) (ty:TypeId) {s u:AV} {xs xu:Value} {res:cO} (hW:aZ ρ C st w)
   (hs:aq ρ st.next.toNat C s xs) (hu:aq ρ st.next.toNat C u xu) (hr:gO (λb=>st.heap.get b) st.next te.size te.bytes [s,u]=some res):
   uQ P ρ C st w (((Builtin.append_ ts ty #[xs,xu]).run P w).andThen λv w=>.ok (.value v) w) res:=by
 simp only[gO]at hr;split at hr<;>first|(cases hr;done)|skip
 rename_i n m hn hm;split at hr<;>first|(cases hr;done)|skip
 rename_i b1 b2;have b1:=Za6 b1;have b2:=Za6 b2;have hlen:=Pg (P:=P) (w:=w) hu hm;obtain⟨i0,mO,lM,_,Ad⟩:=(hT.at fU).info;obtain⟨zv0,hzv0,_,QG,_⟩:=Ad z hz;have QC:=λw=>tZ hT fU hz (ρ:=ρ) (n:=st.next.toNat) (C:=C) w
 have Oh:∃base aM,xs= .slice base n aM/\n<=aM:=by
   unfold dD at hn;split at hn<;>first|(cases hn;done)|skip
   .cases hn;exact⟨none,0,hs.fZ,Za5 _⟩
   .cases hn;obtain⟨a,c,he,hle,_⟩:=hs.dX;exact⟨_,c,he,hle⟩
   .cases hn;obtain⟨a,c,_,he,hle,_⟩:=hs.tY;exact⟨_,c,he,hle⟩
   .rename_i s';exfalso;cases hbm:Nat.beq m 0<;>simp[hbm]at hr
 obtain⟨base,aM,iw,hle⟩:=Oh;have cq:=IN hT cV Lh hk kF fU h0 h1 ty base n aM m xu w hlen b1 b2;rw[iw,cq];have hg:∀c,n+m<=grownCap w (n+m) c e:=λc=>by unfold grownCap Question.cut;exact Zo5 _ _
 have Ph:∀(del:Option Pos)(fz:Nat)(ol nl:List AV),¬(n+m<=aM)->cH te.size n (λb=>st.heap.get b) s=some ol->cH te.size m (λb=>st.heap.get b) u=some nl->ol.length=n*te.size->nl.length=m*te.size->
     uQ P ρ C st w ((if n+m<=aM then((Builtin.firstCells te.size m xu).run P w).andThen λnew w=>((match base with|some a=>storeCells (a.add (n*te.size)) new.toList|none=>pure ()).run P w).andThen λ_ w=>.ok (.slice base (n+m) aM) w
     else((Builtin.firstCells te.size n (.slice base n aM)).run P w.drew).andThen λcY w1=>((Builtin.firstCells te.size m xu).run P w1).andThen λnew w2=>((zeroValue e).run P w2).andThen λz w3=>
        .ok (.slice (some ⟨w3.heap.size,0,none⟩) (n+m) (grownCap w (n+m) aM e)) (w3.alloc (.cells (cY++new++Builtin.zeroCells z.cells (grownCap w (n+m) aM e - (n+m))) e))).andThen λv w=>.ok (.value v) w)
        (.aG (.slice st.next 0 (n+m) none te.size) del none (some (.cells (ol++nl) fz))):=by
   intro del fz ol nl hc ho mF Ag Ka;obtain⟨cY,e1,e2,_⟩:=lR (P:=P) hW hs hn (Za5 _) ho w.drew rfl;obtain⟨new,e3,e4,_⟩:=lR (P:=P) hW hu hm (Za5 _) mF w.drew rfl;obtain⟨zv,Ae,_,ua⟩:=QC w.drew;rw[iw]at e1;have Fj:(Builtin.zeroCells zv.cells (grownCap w (n+m) aM e - (n+m))).toList.length=(grownCap w (n+m) aM e - (n+m))*te.size:=(by rw[BW];congr 1;have:=ua.1;simp at this;omega);obtain⟨ρ',aU,fB,hE,hv⟩:=aa8 hW del fz e2 e4 Ag Ka Fj (hg aM) (e:=e) rfl;refine⟨_,_,_,ρ',?_,Yields.value _,aU,fB,hv,hE⟩;rw[Za3 hc];simp only[e1,e3,Ae,Result.andThen_ok,World.size_drew];congr 2;simp
 have hlu:∀nl,cH te.size m (λb=>st.heap.get b) u=some nl->m≠0->nl.length=m*te.size:=by
   intro nl mF hm0;obtain⟨_,_,_,h⟩:=lR (P:=P) hW hu hm (Za5 _) mF w rfl;rcases h with rfl|h
   .simp[dD]at hm;omega
   .exact h
 have hls:∀ol,cH te.size n (λb=>st.heap.get b) s=some ol->ol.length=n*te.size:=by
   intro ol vW;obtain⟨ys,_,DA,h⟩:=lR (P:=P) hW hs hn (Za5 _) vW w rfl;rcases h with rfl|h
   .simp[dD]at hn;subst hn;simp[cH]at vW;subst vW;simp
   .exact h
 have hzero:m=0->aq ρ st.next.toNat C s xs->uQ P ρ C st w ((if n+m<=aM then((Builtin.firstCells te.size m xu).run P w).andThen λnew w=>((match base with|some a=>storeCells (a.add (n*te.size)) new.toList|none=>pure ()).run P w).andThen λ_ w=>.ok (.slice base (n+m) aM) w
     else((Builtin.firstCells te.size n (.slice base n aM)).run P w.drew).andThen λcY w1=>((Builtin.firstCells te.size m xu).run P w1).andThen λnew w2=>((zeroValue e).run P w2).andThen λz w3=>
        .ok (.slice (some ⟨w3.heap.size,0,none⟩) (n+m) (grownCap w (n+m) aM e)) (w3.alloc (.cells (cY++new++Builtin.zeroCells z.cells (grownCap w (n+m) aM e - (n+m))) e))).andThen λv w=>.ok (.value v) w) (.val s):=by
   rintro rfl hsx;have hf:(Builtin.firstCells te.size 0 xu).run P w= .ok #[] w:=by
     unfold dD at hm;split at hm<;>first|(cases hm;done)|skip
     .  rw[hu.fZ];simp[Builtin.firstCells]
     .  obtain⟨_,_,he,_⟩:=hu.dX;rw[he];simp[Builtin.firstCells,loadCells,loadCellsFrom]
     .  obtain⟨_,_,_,he,_⟩:=hu.tY;rw[he];simp[Builtin.firstCells,loadCells,loadCellsFrom]
     .  obtain⟨bs,rfl,_⟩:=hu.eR;simp only[Builtin.firstCells,Sem.run_pure];congr 1;apply Zn4;simp
   rw[iw]at hsx;refine .pure (x:= .slice base n aM) ?_ hsx;rw[Za9 (by omega),hf];cases base<;>simp[storeCells]
 split at hr<;>first|(cases hr;done)|skip
 .rename_i yC;simp only[H0]at hr;subst hr;exact hzero (Za2 yC) hs
 .rename_i yC;simp only[H0]at hr;subst hr;exact hzero (Za2 yC) hs
 .rename_i yC;simp only[H0]at hr;subst hr;exact hzero (Za2 yC) hs
 ·
   rename_i yC;have yC:=aeP yC;(split at hr<;>first|(cases hr;done)|skip);rename_i new mF;simp only[H0]at hr;subst hr;have he:=hs.fZ;rw[he]at iw;simp only[Value.slice.injEq]at iw;obtain⟨rfl,rfl,rfl⟩:=iw;have:=Ph none 0 [] new (by omega) rfl mF (by simp) (hlu new mF yC);simpa using this
 ·
   rename_i b off n' c es' yC;have yC:=aeP yC;simp only[dD,H0]at hn;subst hn;obtain⟨aa,cc,he,hlec,Wx,ha⟩:=hs.dX;rw[he]at iw;simp only[Value.slice.injEq]at iw;obtain⟨rfl,_,rfl⟩:=iw;have:=Wx c rfl;subst this;split at hr
   . rename_i tr;have tr:=Za6 tr;(split at hr<;>first|(cases hr;done)|skip);rename_i cs fz new hb mF;(split at hr<;>first|(cases hr;done)|skip);rename_i c1 c2 c3;have c1:=Za6 c1;simp only[Zb0]at c2;have c2a:=Za6 c2.1;have c2b:=Za2 c2.2;subst c2b;simp only[H0]at hr;subst hr;obtain⟨aO,rfl,hbound⟩:=ha (by omega);obtain⟨ys,e1,e2,_⟩:=lR (P:=P) hW hu hm (Za5 _) mF w rfl;have IQ:=hlu new mF yC;obtain⟨w2,e3,fB,hE⟩:=IL (P:=P) hW hb (by rw[IQ];rw[Zj9]at c1;omega) c2a c3 e2;refine⟨_,.slice (some ⟨(ρ b).az,(ρ b).base+off,none⟩) (n'+m) c,w2,ρ,?_,Yields.value _,λ_ _=>rfl,fB,?_,hE⟩
     .  rw[Za9 tr,e1];simp only[Result.andThen_ok,mD];rw[Zh3,e3];rfl
     .  exact .slice _ _ _ _ _ _ _ tr (λc hc=>by cases hc;rfl) (λ_=>⟨aO,rfl,hbound⟩) (λh=>by cases h)
   . rename_i tr;have tr:¬(n'+m<=c):=λh=>by rw[Nat.ble_eq_true_of_le h]at tr;cases tr
     (split at hr<;>first|(cases hr;done)|skip);rename_i cY new vW mF;simp only[H0]at hr;subst hr;exact Ph none 0 cY new tr vW mF (hls cY vW) (hlu new mF yC)
 ·
   rename_i b off n' es' yC;have yC:=aeP yC;simp only[dD,H0]at hn;subst hn;(split at hr<;>first|(cases hr;done)|skip);rename_i cs fz cY new hb vW mF;(split at hr<;>first|(cases hr;done)|skip);rename_i c2 c3;simp only[Zb0]at c2;have c2a:=Za6 c2.1;have c2b:=Za2 c2.2;subst c2b;simp only[H0]at hr;subst hr;by_cases tr:n'+m<=aM
   ·
     obtain ⟨aa,cc,he,hlec,Wx,ha⟩:=hs.dX;rw[he]at iw;simp only[Value.slice.injEq]at iw;obtain⟨rfl,_,rfl⟩:=iw;obtain⟨aO,rfl,hbound⟩:=ha (by omega);obtain⟨ys,e1,e2,_⟩:=lR (P:=P) hW hu hm (Za5 _) mF w rfl;have IQ:=hlu new mF yC;have agJ:=hls cY vW;obtain⟨J8,Ac,c,ce,fr,g1,g2,g3,g4,g5⟩:=hW.live b _ hb;have hmul:(n'+m)*te.size<=cc*te.size:=Zh4 _ tr;have hmul2:(n'+m)*te.size=n'*te.size+m*te.size:=Zj9 _ _ _;have hyl:ys.length=m*te.size:=(by rw[<-e2.1,IQ]);have hold:ay ρ st.next.toNat C cY ((c.toList.drop ((ρ b).base+off)).take (n'*te.size)):=by
        simp only[cH]at vW;split at vW
        .rename_i hz0;have hz0:=Za2 hz0;simp only[H0]at vW;subst vW;rw[hz0];simpa using(ay.nil:ay ρ st.next.toNat C [] [])
        . rw[hb]at vW;simp only at vW;obtain⟨ho1,DK⟩:=DE vW;have h:=(g4.drop off).take (n'*te.size);rw[<-ho1]at h;have:List.take (n'*te.size) (List.drop off (List.take cs.length (List.drop (ρ b).base c.toList)))=(c.toList.drop ((ρ b).base+off)).take (n'*te.size):=by
            rw[List.drop_take,Zp8,Zm3,Zk8 (by omega)]
          rw[this]at h;exact h
     obtain⟨w2,s1,s2,s3,s4,s5,s6,s7⟩:=kQ (P:=P) (ρ b).az ce fr ys 0 ((ρ b).base+off+n'*te.size) c w g1 (by omega) (yB c3 e2) (λk hk lW=>by
        have:=g5 (k - (ρ b).base) (by omega) (by omega)
        rwa [show(ρ b).base+(k - (ρ b).base)=k from by omega]at this)
     simp only[Zg7]at s1 s2
     let ρ':Pos->Loc:=λq=>if q=st.next then⟨(ρ b).az,(ρ b).base+off,(ρ b).size⟩else ρ q
     have aU:∀q:Pos,q.toNat<st.next.toNat->ρ' q=ρ q:=λq hq=>Za3 (λe=>by rw[e]at hq;omega)
     have fj:ρ' st.next=⟨(ρ b).az,(ρ b).base+off,(ρ b).size⟩:=Za9 rfl;have TX:c.toList.length=c.size:=(by simp);have hWn:aZ ρ' C (st.aG (some b) none (some (.cells (cY++new) (fz - off)))) w2:=by
        refine hW.aaU (b0:=st.next) (x0:= .cells (cY++new) (fz - off)) (by rw[Pos.aB];omega) (by rw[Pos.aB];omega) (by rw[T.eO]) ?_ aU ?_ ?_ (by rw[fj,s3];exact Ac) (by omega) (λk hk lW=>s4 k (by rw[fj]at lW;exact lW))
        .intro q x hq hx;rw[T.bG _ (λe=>hq e.symm)]at hx;obtain⟨h1,h2⟩:=wX (some b) _ hx;refine⟨h1,?_⟩;rw[fj];exact λe=>h2 b rfl (hW.inj _ _ _ _ h1 hb e)
        . rw[fj];refine⟨_,ce,fr,s2,by simp[aJ];omega,by simp[aJ,agJ,IQ];omega,?_,λi mO hi=> ?_⟩
          . (simp only;rw[Gm _ _ _ _ (by omega)];have Bp:(aJ (c.toList.drop ((ρ b).base+off)) (n'*te.size) ys).take (cY++new).length=(c.toList.drop ((ρ b).base+off)).take (n'*te.size)++ys:=by unfold aJ;rw[<-Zg6,Zk9];simp[agJ,IQ,hyl];omega);rw[Bp];exact(hold.append e2).mono aU (by rw[Pos.aB];omega)
          . have Og:(ρ b).base+off+i<c.size:=(by simp only[Zn6]at hi;have:(aJ c.toList ((ρ b).base+off+n'*te.size) ys).length=c.size:=(by simp[aJ];omega);omega);have:=g5 (off+i) (by omega) (by omega);simp only
            rwa [<-Zh3]at this
        .intro ad v hv;rw[fj];exact λe=>(hW.ej ad v hv).2 b _ hb e.symm
     refine⟨_,(.slice (some ⟨(ρ b).az,(ρ b).base+off,none⟩) (n'+m) cc),w2,ρ',?_,Yields.value _,aU,hWn,?_,⟨s5,s6,s7,by omega,λk _ hk=>s4 k (λe=>hk b _ hb e.symm),λq x hx=> ?_⟩⟩;rotate_left;rotate_left
     .  left;by_cases hq:q=st.next
        .exact⟨b,_,hb,by rw[hq,fj]⟩
        .simp only[St.aG,IB]at hx;rw[T.bG _ (λe=>hq e.symm)]at hx;obtain⟨h1,_⟩:=wX (some b) _ hx;exact⟨q,x,h1,by rw[aU q (hW.live q x h1).1]⟩
     .  rw[Za9 tr,e1];simp only[Result.andThen_ok,mD];rw[s1];rfl
     .  refine .slice _ _ _ _ _ _ _ tr (λc hc=>by cases hc) (λ_=>⟨by simp[St.aG,Pos.aB],by rw[fj];rfl,?_⟩) (λ_=>by simp[St.aG,Pos.aB]);rw[fj];simp only;omega
   .exact Ph (some b) _ cY new tr vW mF (hls cY vW) (hlu new mF yC)
end
section
variable{P:Program}{tt:TT}{ρ:Pos->Loc}{C:Cells}{st:St}{w w':World}
theorem T8:∀l:List Nat,aR (l.map λc=>AV.int .u8 (.ofNat c))=true
 |[]=>rfl
 |a::l=>by simpa [aR,AV.one]using T8 l
theorem Ol(hW:aZ ρ C st w)(del:Option Pos){cY new rest:List Value}{ol nl:List AV}{e:TypeId}{n m aM:Nat}(h1:ay ρ st.next.toNat C ol cY)(h2:ay ρ st.next.toNat C nl new)
  (Ag:ol.length=n) (Ka:nl.length=m) (hr:rest.length=aM - (n+m)) (hc:n+m<=aM) {w2:World} (jy:w2=w.drew.alloc (.cells (cY++new++rest).toArray e)):
  ∃ρ':Pos->Loc,(∀b:Pos,b.toNat<st.next.toNat->ρ' b=ρ b)/\aZ ρ' C (st.aG del none (some (.typed e (ol++nl)))) w2/\j0 ρ st w ρ' (st.aG del none (some (.typed e (ol++nl)))) w2/\
   aq ρ' (st.aG del none (some (.typed e (ol++nl)))).next.toNat C (.slice st.next 0 (n+m) none 1) (.slice (some ⟨w.heap.size,0,none⟩) (n+m) aM):=by
 subst jy;have Ah:cY.length=n:=by rw[<-h1.1,Ag]
 have nK:new.length=m:=by rw[<-h2.1,Ka]
 have e9:(cY++new++rest).length=aM:=by simp only[Zc1,Ah,nK,hr];omega
 obtain ⟨ ρ',aU,fj,fB,hE⟩:=vS (w':=w.drew.alloc (.cells (cY++new++rest).toArray e)) (o:= .cells (cY++new++rest).toArray e) (x0:= .typed e (ol++nl)) (base:=0) (size:=(cY++new++rest).toArray.size) hW del rfl rfl rfl rfl (λρ' n' aU hn=>
  ⟨_,   (0,0),by show(w.heap.push _)[w.heap.size]? =_;simp,rfl,by simp[Ag,Ka,Ah,nK],by
        have:(cY++new++rest).toArray.toList.take (ol++nl).length=cY++new:=by
          rw[Zk9 (by simp[Ag,Ka,Ah,nK])]
        rw[Zc9,this];exact(h1.append h2).mono aU hn,λi _=>by simp,rfl⟩)
 refine⟨ρ',aU,fB,hE,Bq (by simp[St.aG,Pos.aB]) fj hc (λc hc=>by cases hc) (by simp only[Zn6,e9,Zk4];exact Za5 _)⟩
theorem Zo (hT:bZ P tt){t t2 e:Nat}{ts:Array TypeId}{ti J6 te:TI}{z:List AV}(cV:tt.get (key t)=some ti)(Lh:tt.get (key t2)=some J6)(hk:ti.k= .slice e)(kF:∀k,J6.k≠ .int k)
  (fU:tt.get (key e)=some te) (hz:te.zero=some z) (h8:te.size=1) (h0:ts[0]? =some t) (h1:ts[1]? =some t2) (ty:TypeId) {s u:AV} {xs xu:Value} {res:cO} (hW:aZ ρ C st w)
  (hs:aq ρ st.next.toNat C s xs) (hu:aq ρ st.next.toNat C u xu) (hr:oc (λb=>st.heap.get b) st.next e te.bytes [s,u]=some res):
  uQ P ρ C st w (((Builtin.append_ ts ty #[xs,xu]).run P w).andThen λv w=>.ok (.value v) w) res:=by
 have QC:=λw=>tZ hT fU hz (ρ:=ρ) (n:=st.next.toNat) (C:=C) w
 simp only[oc]at hr;split at hr<;>first|(cases hr;done)|skip
 rename_i us;obtain⟨bs,rfl,Ac⟩:=hu.eR;have hm:dD (AV.str us)=some us.length:=rfl;have hlen:=Pg (P:=P) (w:=w) hu hm
 have acQ:∀{n:Nat}{s:AV},dD s=some n->Nat.ble ((2*(n+us.length)+768)*te.bytes) 281474976710656=true->Nat.ble (n+us.length) 9223372036854775807=true->us.length=0->(s= .ah\/∃b,s= .slice b 0 n none 1)->
    gO (λb=>st.heap.get b) st.next te.size te.bytes [s,.str us]=some (.val s):=by
  intro n s h1 h2 h3 h4 h5;rw[h4]at h2 h3;rcases h5 with rfl|⟨b,rfl⟩
  .simp only[gO,h1,hm,h2,h3,h4];try rfl
  .simp only[gO,h1,hm,h2,h3,h4];try rfl
 have mF:cH te.size us.length (λb=>st.heap.get b) (.str us)=some (us.map λc=>AV.int .u8 (.ofNat c)):=by
  have e1:Nat.beq te.size 1=true:=by rw[h8];rfl
  have e2:Nat.ble us.length us.length=true:=Nat.ble_self_eq_true _;simp only[cH,e1,e2,Zi9]
 split at hr<;>first|(cases hr;done)|skip
 ·
  split at hr<;>first|(cases hr;done)|skip
  rename_i b1 b2;split at hr
  .rename_i hb;simp only[H0]at hr;subst hr;exact IP hT cV Lh hk kF fU hz h0 h1 ty hW hs hu (acQ rfl b1 b2 (Za2 hb) (.inl rfl))
  . rename_i hb;have hb:=Zc2 hb;simp only[H0]at hr;subst hr;have iw:=hs.fZ;subst iw;have cq:=IN hT cV Lh hk kF fU h0 h1 ty none 0 0 us.length (.string bs) w hlen (Za6 b1) (Za6 b2);rw[cq,Za3 (by omega)];have hg:0+us.length<=grownCap w (0+us.length) 0 e:=(by unfold grownCap Question.cut;exact Zo5 _ _);obtain⟨new,e3,e4,_⟩:=lR (P:=P) hW hu hm (Za5 _) mF w.drew rfl;obtain⟨zv,Ae,_,ua⟩:=QC w.drew;have ZU:zv.cells.size=1:=(by have:=ua.1;have h2:=(hT.at fU).info;obtain⟨i0,mO,lM,_,Ad⟩:=h2;obtain⟨v0,Hr,_,T9,_⟩:=Ad z hz;simp at this;omega);have Fj:(Builtin.zeroCells zv.cells (grownCap w (0+us.length) 0 e - (0+us.length))).toList.length=grownCap w (0+us.length) 0 e - (0+us.length):=by
        rw[BW,ZU,Zk4]
    obtain⟨ρ',aU,fB,hE,hv⟩:=Ol hW none (ay.nil (ρ:=ρ)) e4 (by simp) (by simp) Fj hg (e:=e) rfl;refine⟨_,_,_,ρ',?_,Yields.value _,aU,fB,hv,hE⟩;have e0:(Builtin.firstCells te.size 0 (.slice none 0 0)).run P w.drew= .ok #[] w.drew:=(by simp[Builtin.firstCells]);simp only[e0,e3,Ae,Result.andThen_ok,World.size_drew];congr 2;simp
 ·
  rename_i b n;split at hr<;>first|(cases hr;done)|skip
  rename_i b1 b2;split at hr
  .rename_i hb;simp only[H0]at hr;subst hr;exact IP hT cV Lh hk kF fU hz h0 h1 ty hW hs hu (acQ rfl b1 b2 (Za2 hb) (.inr ⟨_,rfl⟩))
  . rename_i hbm;have hbm:=Zc2 hbm;(split at hr<;>first|(cases hr;done)|skip);rename_i e' cs hb;(split at hr<;>first|(cases hr;done)|skip);rename_i cY lK vW;have lK:=Za2 lK;subst lK;simp only[H0]at hr;subst hr;obtain⟨aa,aM,iw,hle,Wx,ha⟩:=hs.dX;subst iw;have cq:=IN hT cV Lh hk kF fU h0 h1 ty (some aa) n aM us.length (.string bs) w hlen (Za6 b1) (Za6 b2);rw[cq];obtain⟨ho1,DK⟩:=DE vW;have aa9:=uR vW;obtain⟨J8,hbs2,c,fr,g1,g2,g3,g4,g5,g6⟩:=hW.live b _ hb;by_cases tr:n+us.length<=aM
    ·
        obtain⟨aO,rfl,hbound⟩:=ha (by omega);rw[Zk4,g6,Zg7,Zd1]at hbound;rw[g6]at g3 g4 g5;simp only[Zd1,Zc9]at g3 g4 g5;obtain⟨ys,e1,e2,_⟩:=lR (P:=P) hW hu hm (Za5 _) mF w rfl;have hyl:ys.length=us.length:=(by rw[<-e2.1];simp);have hold:ay ρ st.next.toNat C cY (c.toList.take n):=(by have h:=(g4.drop 0).take n;rw[<-ho1,Zc9,Zp8,Zk8 (by omega)]at h;exact h);obtain⟨w2,s1,s2,s3,s4,s5,s6,s7⟩:=kQ (P:=P) (ρ b).az e fr ys 0 n c w g1 (by omega) (yB (T8 us) e2) (λk hk lW=>g5 k (Zi5 _) lW);simp only[Zg7]at s1 s2
        let ρ':Pos->Loc:=λq=>if q=st.next then⟨(ρ b).az,0,(ρ b).size⟩else ρ q
        have aU:∀q:Pos,q.toNat<st.next.toNat->ρ' q=ρ q:=λq hq=>Za3 (λe=>by rw[e]at hq;omega)
        have fj:ρ' st.next=⟨(ρ b).az,0,(ρ b).size⟩:=Za9 rfl;have TX:c.toList.length=c.size:=(by simp);have hWn:aZ ρ' C (st.aG (some b) none (some (.typed e (cY++us.map λc=>AV.int .u8 (.ofNat c))))) w2:=by
          refine hW.aaU (b0:=st.next) (x0:= .typed e (cY++us.map λc=>AV.int .u8 (.ofNat c))) (by rw[Pos.aB];omega) (by rw[Pos.aB];omega) (by rw[T.eO]) ?_ aU ?_ ?_ (by rw[fj,s3];exact hbs2) (by omega) (λk hk lW=>s4 k (by rw[fj]at lW;exact lW))
          .intro q x hq hx;rw[T.bG _ (λe=>hq e.symm)]at hx;obtain⟨h1,h2⟩:=wX (some b) _ hx;refine⟨h1,?_⟩;rw[fj];exact λe=>h2 b rfl (hW.inj _ _ _ _ h1 hb e)
          . rw[fj];refine⟨_,fr,s2,by simp[aJ];omega,by simp[aJ,aa9];omega,?_,λi mO hi=> ?_,rfl⟩
            . (simp only[Zc9];have Bp:(aJ c.toList n ys).take (cY++us.map λc=>AV.int .u8 (.ofNat c)).length=c.toList.take n++ys:=by unfold aJ;rw[<-Zg6,Zk9];simp[aa9,hyl];omega);rw[Bp];exact(hold.append e2).mono aU (by rw[Pos.aB];omega)
            .have Og:i<c.size:=(by simp only[Zn6,Zd1]at hi;have:(aJ c.toList n ys).length=c.size:=(by simp[aJ];omega);omega);simpa using g5 i (Zi5 _) Og
          .intro ad v hv;rw[fj];exact λe=>(hW.ej ad v hv).2 b _ hb e.symm
        refine⟨_,(.slice (some ⟨(ρ b).az,(ρ b).base+0,none⟩) (n+us.length) aM),w2,ρ',?_,Yields.value _,aU,hWn,?_,⟨s5,s6,s7,by omega,λk _ hk=>s4 k (λe=>hk b _ hb e.symm),λq x hx=> ?_⟩⟩;rotate_left;rotate_left
        . left;by_cases hq:q=st.next
          .exact⟨b,_,hb,by rw[hq,fj]⟩
          .simp only[St.aG,IB]at hx;rw[T.bG _ (λe=>hq e.symm)]at hx;obtain⟨h1,_⟩:=wX (some b) _ hx;exact⟨q,x,h1,by rw[aU q (hW.live q x h1).1]⟩
        .rw[Za9 tr,e1];simp only[Result.andThen_ok,mD,h8,Zk4,g6,Zd1];rw[s1];rfl
        .refine .slice _ _ _ _ _ _ _ tr (λc hc=>by cases hc) (λ_=>⟨by simp[St.aG,Pos.aB],by rw[fj,g6],?_⟩) (λ_=>by simp[St.aG,Pos.aB]);rw[fj];simp only;omega
    .   rw[ Za3 tr];have hg:n+us.length<=grownCap w (n+us.length) aM e:=(by unfold grownCap Question.cut;exact Zo5 _ _);obtain⟨new,e3,e4,_⟩:=lR (P:=P) hW hu hm (Za5 _) mF w.drew rfl;obtain⟨zv,Ae,_,ua⟩:=QC w.drew;have ZU:zv.cells.size=1:=(by have:=ua.1;have h2:=(hT.at fU).info;obtain⟨i0,mO,lM,_,Ad⟩:=h2;obtain⟨v0,Hr,_,T9,_⟩:=Ad z hz;simp at this;omega);have Fj:(Builtin.zeroCells zv.cells (grownCap w (n+us.length) aM e - (n+us.length))).toList.length=grownCap w (n+us.length) aM e - (n+us.length):=by
          rw[BW,ZU,Zk4]
        have hold:∃os:List Value,(Builtin.firstCells te.size n (.slice (some aa) n aM)).run P w.drew= .ok os.toArray w.drew/\ay ρ st.next.toNat C cY os:=by
          by_cases Om:n=0
          .subst Om;have:cY=[]:=Zb1 aa9;subst this;exact⟨[],by simp[Builtin.firstCells,loadCells,loadCellsFrom],ay.nil⟩
          .obtain⟨aO,rfl,hbound⟩:=ha (by omega);obtain⟨ys,DA,jq⟩:=(show aZ ρ C st w.drew from⟨λb x hb=>hW.live b x hb,hW.inj,hW.ej,hW.whole⟩).Qx (P:=P) hb vW;exact⟨ys,by simpa [Builtin.firstCells,h8]using DA,jq⟩
        obtain⟨os,e5,e6⟩:=hold;obtain⟨ρ',aU,fB,hE,hv⟩:=Ol hW (some b) e6 e4 aa9 (by simp) Fj hg (e:=e) rfl;refine⟨_,_,_,ρ',?_,Yields.value _,aU,fB,hv,hE⟩;simp only[e5,e3,Ae,Result.andThen_ok,World.size_drew];congr 2;simp
theorem Vk{ts:Array TypeId}(ty:TypeId){s:AV}{xs:Value}{res:cO}(hs:aq ρ st.next.toNat C s xs)(hW:aZ ρ C st w)(hr:pQ (λb=>st.heap.get b) st.next [s]=some res):
   uQ P ρ C st w (((Builtin.unsafeSliceData_ ts ty #[xs]).run P w).andThen λv w=>.ok (.value v) w) res:=by
 simp only[pQ]at hr;split at hr<;>first|(cases hr;done)|skip
 .simp only[H0]at hr;subst hr;have:=hs.fZ;subst this;exact .pure (x:= .pointer none) rfl .fP
 .rename_i b off n cap es;(split at hr<;>first|(cases hr;done)|skip);rename_i h0;have h0:=Zc2 h0;simp only[H0]at hr;subst hr;obtain⟨aa,aM,iw,hle,_,ha⟩:=hs.dX;subst iw;have hc:aM≠0:=(by omega);obtain⟨h1,h2,_⟩:=ha hc;refine .pure (x:= .pointer (some aa)) (by rw[Lib.run_unsafeSliceData_row w ts ty aa n aM hc];rfl) ?_;rw[h2];exact .ptr b off h1
theorem ah3(hW:aZ ρ C st w){b:Pos}{x:AB}(hb:st.heap.get b=some x)(h1:w'.os=w.os)(h2:w'.tape=w.tape)(h3:w'.output=w.output)(e9:w'.heap.size=w.heap.size)
   (vD:∀k,k≠(ρ b).az->w'.heap[k]? =w.heap[k]?):
   aZ ρ C (st.aG (some b) none none) w'/\j0 ρ st w ρ (st.aG (some b) none none) w':=by
 have nO:∀c y,(st.aG (some b) none none).heap.get c=some y->st.heap.get c=some y/\c≠b:=λc y hc=>by
   obtain⟨g1,g2⟩:=wX (some b) _ (show(Gi (some b) st.heap).get c=some y from hc);exact⟨g1,λe=>g2 b rfl e⟩
 refine⟨⟨λc y hc=> ?_,λc c' y y' hc vU e=>hW.inj c c' y y' (nO c y hc).1 (nO c' y' vU).1 e,λa v ha=> ?_,λa v ha o ho=> ?_⟩,⟨h1,h2,h3,by omega,λk _ hk=>vD k (λe=>hk b x hb e.symm),λc y hc=>.inl ⟨c,y,(nO c y hc).1,rfl⟩⟩⟩
 .obtain⟨g1,g2⟩:=nO c y hc;obtain⟨k1,k2,k3⟩:=hW.live c y g1;exact⟨k1,by omega,k3.of_heap (vD _ λe=>g2 (hW.inj _ _ _ _ g1 hb e))⟩
 .obtain⟨g1,g2⟩:=hW.ej a v ha;refine⟨?_,λc y hc=>g2 c y (nO c y hc).1⟩;have:=vD a.block (λe=>g2 b x hb e.symm);rw[<-g1];simp only[World.cell?,this]
 .have:=vD a.block (λe=>(hW.ej a v ha).2 b x hb e.symm);rw[<-hW.whole a v ha o ho];simp only[World.cell?,this]
theorem Vl(hT:bZ P tt){t t2 e:Nat}{ts:Array TypeId}{ti te:TI}(cV:tt.get (key t)=some ti)(hk:ti.k= .ptr e)(fU:tt.get (key e)=some te)(h8:te.size=1)(dH:ts.toList=[t,t2])
   (ty:TypeId) {s u:AV} {xs xu:Value} {res:cO} (hW:aZ ρ C st w)
   (hs:aq ρ st.next.toNat C s xs) (hu:aq ρ st.next.toNat C u xu) (hr:lU (λb=>st.heap.get b) st.next e [s,u]=some res):
   uQ P ρ C st w (((Builtin.unsafeString_ ts ty #[xs,xu]).run P w).andThen λv w=>.ok (.value v) w) res:=by
 obtain rfl:ts= #[t,t2]:=by apply Zn4;rw[dH]
 simp only[lU]at hr;split at hr<;>first|(cases hr;done)|skip
 rename_i n;have:=hu.iI;subst this;split at hr
 . rename_i h0;have:=Za2 h0;subst this;split at hr<;>first|(cases hr;done)|skip
   .simp only[H0]at hr;subst hr;have:=hs.qI;subst this;exact .pure (x:= .string .empty) (by rw[show(Int.ofNat 0)=(0:Int)from rfl,Lib.run_unsafeString_none];rfl) (.str _ _ rfl)
   .simp only[H0]at hr;subst hr;obtain⟨_,he⟩:=hs.fR;subst he;exact .pure (x:= .string .empty) (by rw[show(Int.ofNat 0)=(0:Int)from rfl,Lib.run_unsafeString_none];rfl) (.str _ _ rfl)
 . (rename_i h0;have h0:=Zc2 h0;(split at hr<;>first|(cases hr;done)|skip);rename_i b;(split at hr<;>first|(cases hr;done)|skip);rename_i e' cs hb;(split at hr<;>first|(cases hr;done)|skip);rename_i l he hcut aa7;have he:=Za2 he;have aa7:=Za6 aa7;subst he;(split at hr<;>first|(cases hr;done)|skip);rename_i s' Wr;simp only[H0]at hr;subst hr;obtain⟨_,iw⟩:=hs.fR;subst iw;obtain⟨d,hd,cF⟩:=(hT.at cV).und;rw[hk]at cF;rw[Qw cF]at hd;obtain⟨i0,mO,lM,_⟩:=(hT.at fU).info;have Fi:P.cellsOf e=1:=(by simp[Program.cellsOf,mO,lM,h8]);obtain⟨J8,hbs2,c,fr,g1,g2,g3,g4,g5,g6⟩:=hW.live b _ hb;rw[g6]at g3 g4 ⊢;simp only[Zd1,Zc9]at g3 g4;have Qn:w.shape? (ρ b).az=some (e,c.size):=(by simp[World.shape?,g1]);obtain⟨Ah,nK⟩:=DE hcut;have Ka:=uR hcut;have jq:ay ρ st.next.toNat C l (c.toList.take n):=by have h:=(g4.drop 0).take n;rw[<-Ah,Zc9,Zp8,Zk8 (by omega)]at h;exact h);obtain⟨e1,e2⟩:=Gk Wr jq;have Oh:s'.length=n:=(by have:=congrArg List.length e1;simp at this;omega);have cq:=Lib.run_unsafeString_row (P:=P) w t t2 ty e hd Fi (ρ b).az c.size Qn (s'.map UInt8.ofNat) (by intro h;simp at h;rw[h]at Oh;simp at Oh;omega) (by simp;omega) (by simp;omega) (λj x hj=>by simp only[Zb6,Zd0]at hj;obtain⟨k,hk,rfl⟩:=hj;have hjn:j<n:=(by rw[<-Oh];exact(Za1.1 hk).1);have h2:(c.toList.take n)[j]? =some (.int .u8 (k:Int)):=(by rw[e1];simp[hk]);rw[Zc4,Za9 hjn]at h2;have hk256:=e2 k (Zb4 hk);rw[mD];simp only[World.cell?,g1,Zd1];rw[<-Zh7,h2];congr 2;simp;omega);have hlen:(s'.map UInt8.ofNat).length=n:=(by simp[Oh]);rw[hlen]at cq;obtain⟨q1,q2⟩:=ah3 (w':=w.freeze ⟨(ρ b).az,0,none⟩ n) hW hb (by unfold World.freeze;split<;>rfl) (by unfold World.freeze;split<;>rfl) (by unfold World.freeze;split<;>rfl) (by unfold World.freeze;split<;>simp) (λk hk=>by
     unfold World.freeze;split
     .  rfl
     .  simp only[Zo3];rw[Za3 (λe=>hk e.symm)])
   refine⟨_,.string ⟨(s'.map UInt8.ofNat).toArray⟩,_,ρ,?_,Yields.value _,λ_ _=>rfl,q1,.str _ _ ?_,q2⟩
   .show((Builtin.unsafeString_ #[t,t2] ty #[.pointer (some ⟨(ρ b).az,0,none⟩),.int .i64 (n:Int)]).run P w).andThen _=_;rw[cq];rfl
   . (simp only[Zh1];have e3:s'.map (UInt8.toNat∘UInt8.ofNat)=s'.map id:=Zk2 λc hc=>by have:=e2 c hc;simp only[Function.comp,id,UInt8.toNat_ofNat'];omega);rw[e3,Zr5]
end
section
variable{P:Program}{tt:TT}{ρ:Pos->Loc}{C:Cells}{st:St}{w w':World}
theorem Hu{n:Nat}{xs:Array Value}{u v:AV}(h:ay ρ n C [u,v] xs.toList):∃x y,xs= #[x,y]/\aq ρ n C u x/\aq ρ n C v y:=by
 obtain⟨x,l,h1,h2,h3⟩:=h.cons_inv;obtain⟨y,l',h4,h5,h6⟩:=h3.cons_inv;have:=h6.mU;subst this;exact⟨x,y,by apply Zn4;rw[h1,h4],h2,h5⟩
theorem Wy{n:Nat}{xs:Array Value}{u:AV}(h:ay ρ n C [u] xs.toList):∃x,xs= #[x]/\aq ρ n C u x:=by
 obtain⟨x,l,h1,h2,h3⟩:=h.cons_inv;have:=h3.mU;subst this;exact⟨x,by apply Zn4;rw[h1],h2⟩
theorem Wz{ts:Array TypeId}{t:TypeId}{l:List TypeId}(h:ts.toList=t::l):ts[0]? =some t:=by rw[<-Zh7,h];rfl
theorem arr1{ts:Array TypeId}{t t2:TypeId}{l:List TypeId}(h:ts.toList=t::t2::l):ts[1]? =some t2:=by rw[<-Zh7,h];rfl
theorem aeQ(hT:bZ P tt){t e:Nat}{ts:Array TypeId}{ti te:TI}(cV:tt.get (key t)=some ti)(hk:ti.k= .slice e)
   (fU:tt.get (key e)=some te) (h0:ts[0]? =some t) (ty:TypeId) {d u:AV} {xd xu:Value} {res:cO} (hW:aZ ρ C st w)
   (hd:aq ρ st.next.toNat C d xd) (hu:aq ρ st.next.toNat C u xu) (hr:mq (λb=>st.heap.get b) st.next te.size [d,u]=some res):
   uQ P ρ C st w (((Builtin.copy_ ts ty #[xd,xu]).run P w).andThen λv w=>.ok (.value v) w) res:=by
 obtain⟨dd,hdd,cF⟩:=(hT.at cV).und;rw[hk]at cF;rw[m9 cF]at hdd;obtain⟨i0,mO,lM,_⟩:=(hT.at fU).info;simp only[mq]at hr;split at hr<;>first|(cases hr;done)|skip
 rename_i n m hn hm;have hlen:=Pg (P:=P) (w:=w) hu hm;have Oh:(∃s,d= .str s)\/∃base aM,xd= .slice base n aM/\n<=aM:=by
   unfold dD at hn;split at hn<;>first|(cases hn;done)|skip
   .cases hn;exact .inr ⟨none,0,hd.fZ,Za5 _⟩
   .cases hn;obtain⟨a,c,he,hle,_⟩:=hd.dX;exact .inr ⟨_,c,he,hle⟩
   .cases hn;obtain⟨a,c,_,he,hle,_⟩:=hd.tY;exact .inr ⟨_,c,he,hle⟩
   .exact .inl ⟨_,rfl⟩
 have ah4:m=0\/n=0->(Builtin.firstCells te.size 0 xu).run P w= .ok #[] w:=by
   intro _;unfold dD at hm;split at hm<;>first|(cases hm;done)|skip
   .rw[hu.fZ];simp[Builtin.firstCells]
   .obtain⟨_,_,he,_⟩:=hu.dX;rw[he];simp[Builtin.firstCells,loadCells,loadCellsFrom]
   .obtain⟨_,_,_,he,_⟩:=hu.tY;rw[he];simp[Builtin.firstCells,loadCells,loadCellsFrom]
   .obtain⟨bs,rfl,_⟩:=hu.eR;simp only[Builtin.firstCells,Sem.run_pure];congr 1;apply Zn4;simp
 have oh:∀base aM,xd= .slice base n aM->(Builtin.copy_ ts ty #[xd,xu]).run P w=((Builtin.firstCells te.size (Nat.min m n) xu).run P w).andThen λcells w=>((match base with|some a=>storeCells a cells.toList|none=>pure ()).run P w).andThen λ_ w=>.ok (goInt (Nat.min m n)) w:=by
   intro base aM he;unfold Builtin.copy_;simp only[h0,he,List.getElem?_toArray,Za8,Zb7,Sem.run_bind,aN hdd,Result.andThen_ok,iY mO,lM,hlen];cases base<;>simp only[Sem.run_bind,Sem.run_pure,Result.andThen_ok]
 split at hr
 . rename_i xI;have xI:=Za2 xI;(split at hr<;>first|(cases hr;done)|skip);rename_i hns;simp only[H0]at hr;subst hr;rcases Oh with⟨s,rfl⟩|⟨base,aM,he,hle⟩
   .exact absurd rfl (hns s)
   .have hk0':Nat.min m n=0:=xI;refine .pure (x:=goInt 0) ?_ (.int _ _);rw[oh base aM he,hk0',ah4 (by have:min m n=0:=xI;omega)];cases base<;>simp[storeCells]
 . rename_i xI;have xI:=Zc2 xI;(split at hr<;>first|(cases hr;done)|skip);rename_i b off n' cap es';(split at hr<;>first|(cases hr;done)|skip);rename_i cs fz new hb mF;(split at hr<;>first|(cases hr;done)|skip);rename_i c1 c2 c3;have c1:=Za6 c1;have c2:=Za6 c2;simp only[H0]at hr;subst hr;simp only[dD,H0]at hn;subst hn;obtain⟨aa,aM,he,hle,_,ha⟩:=hd.dX;have aba:min m n'<=m/\min m n'<=n':=⟨Nat.min_le_left _ _,Nat.min_le_right _ _⟩
   obtain⟨aO,rfl,_⟩:=ha (by omega);obtain⟨ys,e1,e2,e3⟩:=lR (P:=P) hW hu hm aba.1 mF w rfl;have IQ:new.length=min m n'*te.size:=by
     rcases e3 with rfl|e3
     .simp[dD]at hm;omega
     .exact e3
   obtain⟨w2,f1,fB,hE⟩:=IL (P:=P) hW hb (by rw[IQ];exact c1) c2 c3 e2;refine⟨_,goInt ((min m n':Nat):Int),w2,ρ,?_,Yields.value _,λ_ _=>rfl,fB,.int _ _,hE⟩;rw[oh _ _ he];have hmm:Nat.min m n'=min m n':=rfl;rw[hmm,e1];simp only[Result.andThen_ok];rw[f1];rfl
theorem ag4(hT:bZ P tt){t:Nat}{ts:Array TypeId}{ti:TI}(cV:tt.get (key t)=some ti){k:LK}(hk:(k= .s/\ti.k= .string)\/(k= .l/\∃e,ti.k= .slice e)\/(k= .m/\∃a b,ti.k= .map a b))
   (h0:ts[0]? =some t) (ty:TypeId) {u:AV} {xu:Value} {res:cO} (hW:aZ ρ C st w)
   (hu:aq ρ st.next.toNat C u xu) (hr:G9 (λb=>st.heap.get b) st.next k [u]=some res):
   uQ P ρ C st w (((Builtin.len_ ts ty #[xu]).run P w).andThen λv w=>.ok (.value v) w) res:=by
 obtain⟨d,hd,cF⟩:=(hT.at cV).und;have oh:∀x,xu=x->(Builtin.len_ ts ty #[xu]).run P w=(Builtin.len_ ts ty #[x]).run P w:=λx e=>by rw[e]
 simp only[G9]at hr;rcases hk with⟨rfl,hk⟩|⟨rfl,e,hk⟩|⟨rfl,a,b,hk⟩<;>rw[hk]at cF
 .rw[mN cF]at hd;(cases u<;>simp only[reduceCtorEq]at hr<;>first|(cases hr;done)|skip);simp only[H0]at hr;subst hr;obtain⟨bs,rfl,hs⟩:=hu.eR;exact .pure (x:=goInt bs.size) (by unfold Builtin.len_;simp[h0,aN hd]) (by rw[wW hs];exact .int _ _)
 . rw[m9 cF]at hd;cases u<;>simp only[reduceCtorEq]at hr<;>first|(cases hr;done)|skip
   .simp only[H0]at hr;subst hr;rw[hu.fZ];exact .pure (x:=goInt 0) (by unfold Builtin.len_;simp[h0,aN hd]) (.int _ _)
   .simp only[H0]at hr;subst hr;obtain⟨aa,c,he,_⟩:=hu.dX;rw[he];exact .pure (by unfold Builtin.len_;simp[h0,aN hd];rfl) (.int _ _)
   .simp only[H0]at hr;subst hr;obtain⟨aa,c,_,he,_⟩:=hu.tY;rw[he];exact .pure (by unfold Builtin.len_;simp[h0,aN hd];rfl) (.int _ _)
 . rw[Lc cF]at hd;cases u<;>simp only[reduceCtorEq]at hr<;>first|(cases hr;done)|skip
   .simp only[H0]at hr;subst hr;rw[hu.AE];exact .pure (x:=goInt 0) (by unfold Builtin.len_;simp[h0,aN hd]) (.int _ _)
   . (split at hr<;>first|(cases hr;done)|skip);rename_i es c hb;simp only[H0]at hr;subst hr;obtain⟨_,he⟩:=hu.xG;obtain⟨_,_,es',ee,hlen,_⟩:=hW.live _ _ hb;rw[he];exact .pure (x:=goInt es'.size) (by unfold Builtin.len_;simp[h0,aN hd,run_getObj_map ee]) (by rw[<-hlen];exact .int _ _)
theorem Su(z:Array Value)(m:Nat):(Builtin.zeroCells z m).toList=cC z.toList m:=by
 unfold Builtin.zeroCells;by_cases h:0<z.size
 .exact Wt z m h
 .have h0:z.size=0:=(by omega);have:z= #[]:=Zo6 h0;subst this;have h1:cC ([]:List Value) m=[]:=Zb1 (by rw[jx];simp);simp[h1]
theorem acR(hT:bZ P tt){t e:Nat}{ts:Array TypeId}{ti te:TI}{z:List AV}(cV:tt.get (key t)=some ti)(hk:ti.k= .slice e)
   (fU:tt.get (key e)=some te) (hz:te.zero=some z) (h0:ts[0]? =some t) (ty:TypeId) {u:AV} {xu:Value} {res:cO} (hW:aZ ρ C st w)
   (hu:aq ρ st.next.toNat C u xu) (hr:xD (λb=>st.heap.get b) st.next te.size z [u]=some res):
   uQ P ρ C st w (((Builtin.clear_ ts ty #[xu]).run P w).andThen λv w=>.ok (.value v) w) res:=by
 obtain⟨dd,hdd,cF⟩:=(hT.at cV).und;rw[hk]at cF;rw[m9 cF]at hdd;obtain⟨i0,mO,lM,_,Ad⟩:=(hT.at fU).info;obtain⟨zv0,_,_,QG,_⟩:=Ad z hz;obtain⟨zv,Ae,_,ua⟩:=tZ hT fU hz (ρ:=ρ) (n:=st.next.toNat) (C:=C) w;simp only[xD]at hr;split at hr<;>first|(cases hr;done)|skip
 .simp only[H0]at hr;subst hr;rw[hu.fZ];exact .pure (x:=undef) (by unfold Builtin.clear_;simp[h0,aN hdd];rfl) aq.wY
 . rename_i b off n cap es';obtain⟨aa,aM,he,hle,_,ha⟩:=hu.dX;rw[he];split at hr
   .rename_i Om;have:=Za2 Om;subst this;simp only[H0]at hr;subst hr;exact .pure (x:=undef) (by unfold Builtin.clear_;simp[h0,aN hdd];rfl) aq.wY
   . rename_i Om;have Om:=Zc2 Om;(split at hr<;>first|(cases hr;done)|skip);rename_i cs fz hb;(split at hr<;>first|(cases hr;done)|skip);rename_i c1 c2 c3;have c1:=Za6 c1;have c2:=Za6 c2;simp only[H0]at hr;subst hr;obtain⟨_,rfl,_⟩:=ha (by omega);obtain⟨w2,f1,fB,hE⟩:=IL (P:=P) hW hb (vs:=cC z n) (ys:=cC zv.cells.toList n) (by rw[jx,QG];exact c1) c2 c3 (Gl ua n);refine⟨_,undef,w2,ρ,?_,Yields.value _,λ_ _=>rfl,fB,aq.wY,hE⟩;unfold Builtin.clear_;cases n with
     |zero=>exact absurd rfl Om
     |succ n=>simp[h0,aN hdd,Ae,Su,f1,undef]
theorem Hv(c:Call)(f:Operand)(hc:c.callee= .value f)(a:Act)(o:Oper)(ho:o.op= .call c){g:FuncId}{x y:Array Value}(he:a.eval f= .func (.func g) x y):
  (execOp a.eval o).run P w=(callFunc g (x++c.args.map a.eval++y)).run P w:=by
 simp[execOp,ho,resolve,hc,he,Deferred.ofValue,invoke]
theorem aeR (hT:bZ P tt) (c:Call):dI P tt (.call c):=by
 intro ρ C st w k xs cls fr a o vs res ho hc hW hF hx hr;simp only[gP]at hc;split at hc<;>first|(cases hc;done)|skip
 rename_i l hl;split at hc<;>first|(cases hc;done)|skip
 ·
  rename_i g Pj;cases hc;have hv:=eP hl hF hx;simp only[av.run,O6,H0]at hr;subst hr;refine⟨c.args.toList.map a.eval,?_,hv⟩;rw[Hv c _ Pj a o ho (g:=g) (x:= #[]) (y:= #[]) rfl];congr 2;apply Zn4;simp
 ·
  rename_i f hnf Pj;split at hc<;>first|(cases hc;done)|skip
  rename_i ao hao;cases hc;unfold e8 at hx;split at hx<;>first|(cases hx;done)|skip
  rename_i fv hfv;split at hx<;>first|(cases hx;done)|skip
  rename_i vs' aeS;simp only[H0]at hx;subst hx;have h1:=qH hao hF hfv;have h2:=eP hl hF aeS;simp only[av.run,O7]at hr;split at hr<;>first|(cases hr;done)|skip
  rename_i g first captured
  simp only[H0]at hr;subst hr;obtain⟨x,y,he,hx,hy⟩:=h1.DC;refine⟨x.toList++(c.args.toList.map a.eval++y.toList),?_,hx.append (h2.append hy)⟩;rw[Hv c f Pj a o ho he];congr 2;apply Zn4;simp
 ·
  rename_i b Pj;have hex:∀(s:Sem Value),(∀consts,builtin b c.argTypes o.type consts (c.args.map a.eval)=(do pure (.value (<-s))))->(execOp a.eval o).run P w=(s.run P w).andThen λv w=>.ok (.value v) w:=by intro s hs;simp only[execOp,ho,resolve,Pj,pure_bind,invoke];rw[hs];simp
  split at hc<;>first|(cases hc;done)|skip
  ·
   (split at hc<;>first|(cases hc;done)|skip);rename_i t _ _ dH;(split at hc<;>first|(cases hc;done)|skip);rename_i ti cV;have hv:=eP hl hF (vs:=vs) (by
        split at hc<;>first|(cases hc;done)|skip
        all_goals cases hc;exact hx)
   rw[gW] at hv;rw[hex (Builtin.len_ c.argTypes o.type (c.args.map a.eval)) (λ_=>rfl)];have hu:∃u,vs=[u]      :=by
        have h1:=hv.1;have h2:(c.args.toList).length=1:=by
         have: ∀{xs:List   Operand}{os:List eZ},jL xs=some os->xs.length=os.length:=by
            intro xs;induction xs with
            |nil=>intro os h;simp[jL]at h;subst h;rfl
            |cons x xs ih=>intro os h;unfold jL at h;split at h<;>first|(cases h;done)|skip
                           rename_i e1 e2;simp only[H0]at h;subst h;simp[ih e2]
         rw[this hl];rfl
        match vs,h1 with
        |[u],_=>exact⟨u,rfl⟩
        |[],h1=>simp at h1 h2;omega
        |_::_::_,h1=>simp at h1 h2;omega
   obtain⟨u,rfl⟩:=hu;obtain⟨x,iw,hux⟩:=Wy hv;rw[iw];split at hc<;>first|(cases hc;done)|skip
   all_goals
        rename_i hk;cases hc;simp only[av.run]at hr;refine ag4 hT cV ?_ (Wz dH) o.type hW hux hr
   .    exact .inl ⟨rfl,hk⟩
   .    exact .inr (.inl ⟨rfl,_,hk⟩)
   .    exact .inr (.inr ⟨rfl,_,_,hk⟩)
  ·
   (split at hc<;>first|(cases hc;done)|skip);rename_i t t2 _ dH;(split at hc<;>first|(cases hc;done)|skip);rename_i ti J6 cV Lh;split at hc<;>first|(cases hc;done)|skip
   .    rename_i e hk kF;(split at hc<;>first|(cases hc;done)|skip);rename_i te fU;(split at hc<;>first|(cases hc;done)|skip);rename_i z hz hk8 h8;have h8:=Za2 h8;cases hc;have hv:=eP hl hF hx;rw[gW]at hv;rw[hex (Builtin.append_ c.argTypes o.type (c.args.map a.eval)) (λ_=>rfl)];simp only[av.run]at hr;have hu:∃s u,vs=[s,u]:=by
         unfold oc at hr;(split at hr<;>first|(cases hr;done)|skip);exact⟨_,_,rfl⟩
        obtain⟨s,u,rfl⟩:=hu;obtain⟨x,y,iw,h1,h2⟩:=Hu hv;rw[iw];exact Zo hT cV Lh hk (λk hk=>by rw[kF]at hk;cases hk) fU hz h8 (Wz dH) (arr1 dH) o.type hW h1 h2 hr
   rename_i e hk kF _;(split at hc<;>first|(cases hc;done)|skip);rename_i te fU;(split at hc<;>first|(cases hc;done)|skip);rename_i z hz;cases hc;have hv:=eP hl hF hx;rw[gW]at hv;rw[hex (Builtin.append_ c.argTypes o.type (c.args.map a.eval)) (λ_=>rfl)];simp only[av.run]at hr;have hu:∃s u,vs=[s,u]:=by
        unfold gO at hr;(split at hr<;>first|(cases hr;done)|skip);exact⟨_,_,rfl⟩
   obtain⟨s,u,rfl⟩:=hu;obtain⟨x,y,iw,h1,h2⟩:=Hu hv;rw[iw];exact IP hT cV Lh hk (λk hk=>kF k hk) fU hz (Wz dH) (arr1 dH) o.type hW h1 h2 hr
  ·
   (split at hc<;>first|(cases hc;done)|skip);rename_i t _ dH;(split at hc<;>first|(cases hc;done)|skip);rename_i ti cV;(split at hc<;>first|(cases hc;done)|skip);rename_i e hk;(split at hc<;>first|(cases hc;done)|skip);rename_i te fU;cases hc;have hv:=eP hl hF hx;rw[gW]at hv;rw[hex (Builtin.copy_ c.argTypes o.type (c.args.map a.eval)) (λ_=>rfl)];simp only[av.run]at hr;have hu:∃s u,vs=[s,u]:=by
        unfold mq at hr;(split at hr<;>first|(cases hr;done)|skip);exact⟨_,_,rfl⟩
   obtain⟨s,u,rfl⟩:=hu;obtain⟨x,y,iw,h1,h2⟩:=Hu hv;rw[iw];exact aeQ hT cV hk fU (Wz dH) o.type hW h1 h2 hr
  ·
   (split at hc<;>first|(cases hc;done)|skip);cases hc;have hv:=eP hl hF hx;rw[gW]at hv;rw[hex (Builtin.unsafeSliceData_ c.argTypes o.type (c.args.map a.eval)) (λ_=>rfl)];simp only[av.run]at hr;have hu:∃s,vs=[s]:=by
        unfold pQ at hr;(split at hr<;>first|(cases hr;done)|skip);exact⟨_,rfl⟩
   obtain⟨s,rfl⟩:=hu;obtain⟨x,iw,h1⟩:=Wy hv;rw[iw];exact Vk o.type h1 hW hr
  ·
   (split at hc<;>first|(cases hc;done)|skip);rename_i t t2 dH;(split at hc<;>first|(cases hc;done)|skip);rename_i ti cV;(split at hc<;>first|(cases hc;done)|skip);rename_i e hk;(split at hc<;>first|(cases hc;done)|skip);rename_i te fU;(split at hc<;>first|(cases hc;done)|skip);rename_i hk8 h8;have h8:=Za2 h8;cases hc;have hv:=eP hl hF hx;rw[gW]at hv;rw[hex (Builtin.unsafeString_ c.argTypes o.type (c.args.map a.eval)) (λ_=>rfl)];simp only[av.run]at hr;have hu:∃s u,vs=[s,u]:=by
        unfold lU at hr;(split at hr<;>first|(cases hr;done)|skip);exact⟨_,_,rfl⟩
   obtain⟨s,u,rfl⟩:=hu;obtain⟨x,y,iw,h1,h2⟩:=Hu hv;rw[iw];exact Vl hT cV hk fU h8 dH o.type hW h1 h2 hr
  ·
   (split at hc<;>first|(cases hc;done)|skip);cases hc;have hv:=eP hl hF hx;rw[gW]at hv;rw[hex (Builtin.min_ c.argTypes o.type (c.args.map a.eval)) (λ_=>rfl)];simp only[av.run]at hr;have hu:∃s u r,vs=[s,u]/\res= .val r:=by
        unfold Dm at hr;(split at hr<;>first|(cases hr;done)|skip);split at hr<;>first|(cases hr;done)|skip
        all_goals cases hr;exact⟨_,_,_,rfl,rfl⟩
   obtain⟨s,u,r,rfl,rfl⟩:=hu;obtain⟨x,y,iw,h1,h2⟩:=Hu hv;obtain⟨z,hz,hvz⟩:=aeK (P:=P) (w:=w) h1 h2 hr;rw[iw];refine .pure (x:=z) ?_ hvz;simp[Builtin.min_,hz]
  ·
   (split at hc<;>first|(cases hc;done)|skip);cases hc;have hv:=eP hl hF hx;rw[gW]at hv;rw[hex (Builtin.max_ c.argTypes o.type (c.args.map a.eval)) (λ_=>rfl)];simp only[av.run]at hr;have hu:∃s u r,vs=[s,u]/\res= .val r:=by
        unfold Dn at hr;(split at hr<;>first|(cases hr;done)|skip);split at hr<;>first|(cases hr;done)|skip
        all_goals cases hr;exact⟨_,_,_,rfl,rfl⟩
   obtain⟨s,u,r,rfl,rfl⟩:=hu;obtain⟨x,y,iw,h1,h2⟩:=Hu hv;obtain⟨z,hz,hvz⟩:=aeL (P:=P) (w:=w) h1 h2 hr;rw[iw];refine .pure (x:=z) ?_ hvz;simp[Builtin.max_,hz]
  ·
   (split at hc<;>first|(cases hc;done)|skip);rename_i t _ dH;(split at hc<;>first|(cases hc;done)|skip);rename_i ti cV;(split at hc<;>first|(cases hc;done)|skip);rename_i e hk;(split at hc<;>first|(cases hc;done)|skip);rename_i te fU;(split at hc<;>first|(cases hc;done)|skip);rename_i z hz;cases hc;have hv:=eP hl hF hx;rw[gW]at hv;rw[hex (Builtin.clear_ c.argTypes o.type (c.args.map a.eval)) (λ_=>rfl)];simp only[av.run]at hr;have hu:∃u,vs=[u]:=by
        unfold xD at hr;(split at hr<;>first|(cases hr;done)|skip);exact⟨_,rfl⟩
   obtain⟨u,rfl⟩:=hu;obtain⟨x,iw,hux⟩:=Wy hv;rw[iw];exact acR hT cV hk fU hz (Wz dH) o.type hW hux hr
theorem Nl(hT:bZ P tt)(op:Op):dI P tt op:=by
 cases op with
 |move x=>exact aeG x
 |assign x=>exact aaX x
 |pick c x y=>exact aeH c x y
 |alloc t=>exact acL hT t
 |box t x=>exact ag2 t x
 |build t ps=>exact acK hT t ps
 |buildSlice t n ps=>exact Ss hT t n ps
 |insert t m k v=>exact QI hT _ t m k v (.inr rfl)
 |load t x=>exact aeJ hT t x
 |store t x y=>exact acO hT t x y
 |nilCheck x=>exact Wq x
 |binOp op t x y yt=>exact acG hT op t x y yt
 |unOp op t x=>exact aeI op t x
 |convert s d x=>
  by_cases h:∃xs cls,gP tt (.convert s d x)=some (.conv .bytes,xs,cls)
  .exact Vj hT s d x h
  .exact Zm hT s d x λk xs cls hc e=>h ⟨xs,cls,by rw[hc,e]⟩
 |makeInterface t x=>exact Zk hT t x
 |makeFunc f x y=>exact aaY f x y
 |makeMap t r=>exact acM t r hT
 |makeSlice t l c=>exact Zn hT t l c
 |slice t x l h m=>exact acJ hT t x l h m
 |fieldAddr t x f=>exact Vh hT t x f
 |field t x f=>exact acH hT t x f
 |indexAddr t x i=>exact Vi hT t x i
 |index t x i=>exact acI hT t x i
 |lookup t x i ok=>exact aa1 hT t x i ok
 |mapUpdate t m k v=>exact QI hT _ t m k v (.inl rfl)
 |range t x=>exact aa3 hT t x
 |next it s=>exact acP it s
 |extract x i=>exact Zj x i
 |call c=>exact aeR hT c
 |_=>intro ρ C st w k xs cls fr a o vs res ho hc;simp[gP]at hc
end
end
section
open Go
def Reaches(P:Program)(R:Value->World->Prop):Result Next->Prop
 |.ok (.value x) w'=>R x w'
 |.ok .skip w'=>R undef w'
 |.ok (.enter f args) w'=>Calls P f args w' λ|.returned v,w''=>R v w''|_,_=>False
 |.ok (.row row args) w'=>Rows P row args w' R
 |_=>False
theorem Reaches.mono{P:Program}{R R':Value->World->Prop}(h:∀x w,R x w->R' x w):∀{r:Result Next},Reaches P R r->Reaches P R' r
 |.ok (.value _) _,hr=>h _ _ hr
 |.ok .skip _,hr=>h _ _ hr
 |.ok (.enter _ _) _,hr=>Calls.mono hr λe w he=>by cases e<;>first|exact h _ _ he|exact he
 |.ok (.row _ _) _,hr=>Rows.mono hr h
section
variable(P:Program)(ops:Array Oper)
def Sv(o:Oper)(K:Act->World->Prop)(a:Act)(w:World):Prop:=Reaches P (λx w'=>K (a.put o.dst x) w') ((execOp a.eval o).run P w)
def DM(i:Nat)(K:Act->World->Prop)(a:Act)(w:World):Prop:=
 match ops[i]? with
 |none=>K a w
 |some o=>if Region.wanted o (yielded ops a.tmps)then Sv P o K a w else K (a.put o.dst undef) w
def qK(K:Act->World->Prop):List Nat->Act->World->Prop
 |[],a,w=>K a w
 |i::l,a,w=>DM P ops i (qK K l) a w
def VN(K:Act->World->Prop):Nat->Array Bool->Act->World->Prop
 |0,listed,a,w=>Region.ready .any ops listed=[]/\K a w
 |fuel+1,listed,a,w=>(Region.ready .any ops listed=[]->K a w)/\∀i∈Region.ready .any ops listed,DM P ops i (VN K fuel (listed.setIfInBounds i true)) a w
end
section
variable{P:Program}{ops:Array Oper}
theorem Ua{i:Nat}{K K':Act->World->Prop}{a:Act}{w:World}(h:∀a w,K a w->K' a w)(hh:DM P ops i K a w):DM P ops i K' a w:=by
 unfold DM at*
 split
 .rename_i ho;rw[ho]at hh;exact h _ _ hh
 . rename_i o ho;rw[ho]at hh;dsimp only at hh;split
   .rename_i hw;rw[Za9 hw]at hh;exact Reaches.mono (λx w' hk=>h _ _ hk) hh
   .rename_i hw;rw[Za3 hw]at hh;exact h _ _ hh
theorem Ub{K:Act->World->Prop}{l2:List Nat}:∀(l1:List Nat)(a:Act)(w:World),qK P ops (qK P ops K l2) l1 a w->qK P ops K (l1++l2) a w
 |[],_,_,h=>h
 |_::l1,_,_,h=>Ua (λa w=>Ub l1 a w) h
end
section
variable(P:Program)
def Li(R:(Exit->Act->World->Prop)->Act->World->Prop)(Q:Exit->Act->World->Prop):Nat->Act->World->Prop
 |0,_,_=>False
 |n+1,a,w=>R (Exit.then (Li R Q n) Q) a w
def fD:Code->(Exit->Act->World->Prop)->Act->World->Prop
 |.skip,Q,a,w=>Q .normal a w
 |  .region _ ops draw,Q,a,w=>match draw with
    |false=>qK P ops (Q .normal) (List.range ops.size) a w
    |true=>P.follows .mixedOrders=true/\VN P ops (Q .normal) ops.size (Array.replicate ops.size false) a { w with drawn:=w.drawn+1 }
 |.seq x y,Q,a,w=>fD x (Exit.then (fD y Q) Q) a w
 |  .cond c x y,Q,a,w=>∃t,a.eval c= .bool t/\match t with
    |true=>fD x Q a w
    |false=>fD y Q a w
 |.block id x,Q,a,w=>fD x (Exit.inBlock id Q) a w
 |.loop x,Q,a,w=>∃n,Li (fD x) Q n a w
 |.exit id,Q,a,w=>Q (.exit id) a w
 |.ret,Q,a,w=>Q .ret a w
 |_,_,_,_=>False
end
section
variable{P:Program}{Q:Exit->Act->World->Prop}{a:Act}{w:World}
theorem acS(h:Q .normal a w):fD P .skip Q a w:=h
theorem acT{id:Nat}(h:Q (.exit id) a w):fD P (.exit id) Q a w:=h
theorem DN{x y:Code}(h:fD P x (Exit.then (fD P y Q) Q) a w):fD P (.seq x y) Q a w:=h
theorem QK{id:Nat}{x:Code}(h:fD P x (Exit.inBlock id Q) a w):fD P (.block id x) Q a w:=h
theorem Gn{id:Nat}{ops:Array Oper}(h:qK P ops (Q .normal) (List.range ops.size) a w):fD P (.region id ops false) Q a w:=h
theorem Sw{c:Operand}{x y:Code}(hc:a.eval c= .bool true)(h:fD P x Q a w):fD P (.cond c x y) Q a w:=⟨true,hc,h⟩
theorem QL{c:Operand}{x y:Code}(hc:a.eval c= .bool false)(h:fD P y Q a w):fD P (.cond c x y) Q a w:=⟨false,hc,h⟩
theorem acU{x:Code}(n:Nat)(h:Li (fD P x) Q n a w):fD P (.loop x) Q a w:=⟨n,h⟩
theorem Uc{R:(Exit->Act->World->Prop)->Act->World->Prop}{n:Nat}:Li R Q (n+1) a w=R (Exit.then (Li R Q n) Q) a w:=rfl
end
def qL:Code->List Nat
 |.region _ ops _=>ops.toList.filterMap (·.dst)
 |.seq a b=>qL a++qL b
 |.cond _ a b=>qL a++qL b
 |.block _ a=>qL a
 |.loop a=>qL a
 |_=>[]
abbrev Fc(r:Option Nat):Fence:={ Fence.wide with round:=r }
section
variable{P:Program}{r:Option Nat}{n:Nat}{ts:Nat->Prop}{x:Array Value}{ds D:List Deferred}
def InF(D ds:List Deferred)(ts:Nat->Prop)(x:Array Value)(Q:Exit->Act->World->Prop):Exit->Act->World->Prop:=
 λe a w=>a.defers=D/\(∀t,ts t->a.tmps[t]? =x[t]?)/\Q e ⟨a.tmps,ds⟩ w
theorem ag5{row:String}{args:Array Value}{w:World}{R:Value->World->Prop}(h:Rows P row args w R):RowsIn (Fc r) n P row args w R:=
 λc cs _=>let⟨v,w',hr,hs⟩:=h c cs;⟨v,w',hr,stepsIn_wide.2 hs⟩
theorem aeT{f:FuncId}{args:Array Value}{w:World}{R:Ending->World->Prop}(h:Calls P f args w R):CallsIn (Fc r) n P f args w R:=callsIn_wide.2 h
theorem Hw{T:Array Value}{o:Operand}:(⟨T,ds⟩:Act).eval o=(⟨T,D⟩:Act).eval o:=by cases o<;>rfl
theorem ah5{T:Array Value}{d:Option Tmp}{v:Value}:(⟨T,ds⟩:Act).put d v=⟨((⟨T,D⟩:Act).put d v).tmps,ds⟩:=by cases d<;>rfl
theorem ag6{T:Array Value}{d:Option Tmp}{v:Value}:(⟨T,ds⟩:Act).put d v=⟨((⟨T,ds⟩:Act).put d v).tmps,ds⟩:=by cases d<;>rfl
theorem aeU{T:Array Value}{d:Option Tmp}{v:Value}{t:Nat}(h:d≠some t):((⟨T,ds⟩:Act).put d v).tmps[t]? =T[t]? :=by
 cases d with
 |none=>rfl
 |some e=>
  show(T.setIfInBounds e v)[t]? =T[t]?;exact Ze7 λh'=>h (by rw[h'])
theorem ag7{o:Oper}{K:Act->World->Prop}{K':Act->World->Prop}{Q:Exit->Act->World->Prop}{T:Array Value}{w:World}(h:Sv P o K ⟨T,ds⟩ w)
  (hK:∀v w',K ((⟨T,ds⟩:Act).put o.dst v) w'->K' ((⟨T,D⟩:Act).put o.dst v) w'):o.wpIn (Fc r) n P ⟨T,D⟩ w K' Q:=by
 refine⟨λ_ _=>trivial,?_⟩;have he:(⟨T,D⟩:Act).eval=(⟨T,ds⟩:Act).eval:=funext λ_=>Hw
 rw[he];unfold Sv at h;have hs:o.semAt r (⟨T,ds⟩:Act).eval=execOp (⟨T,ds⟩:Act).eval o:=by
  cases r with
  |none=>rfl
  | some l=>
    unfold Oper.semAt;(cases ho:o.op<;>first|rfl|skip);exfalso;unfold execOp at h;rw[ho]at h;simp only[Sem.run_bind,Sem.run_pure]at h;cases hr:(resolve (⟨T,ds⟩:Act).eval _ o.type).run P w<;>rw[hr]at h<;>simp[Result.andThen,Reaches]at h
 show o.uponIn (Fc r) n P _ _ _ ((o.semAt r (⟨T,ds⟩:Act).eval).run P w);rw[hs];generalize (execOp (⟨T,ds⟩:Act).eval o).run P w=z at h;cases z with
 |ok m w'=>
  cases m<;>simp only[Reaches]at h
  .exact hK _ _ h
  .exact hK _ _ h
  .exact⟨λhd=>by simp[Fence.wide]at hd,(aeT h).mono λe w he=>by cases e<;>first|exact hK _ _ he|exact he.elim⟩
  .exact⟨λhd=>by simp[Fence.wide]at hd,(ag5 h).mono λv w he=>hK _ _ he⟩
 |halt v w'=>simp only[Reaches]at h
theorem ZX{ops:Array Oper}{i:Nat}{K K':Act->World->Prop}{Q:Exit->Act->World->Prop}{T:Array Value}{w:World}(h:DM P ops i K ⟨T,ds⟩ w)(dH:∀o,ops[i]? =some o->∀t,o.dst=some t->¬ts t)
   (hx:∀t,ts t->T[t]? =x[t]?) (hK:∀T' w',(∀t,ts t->T'[t]? =x[t]?)->K ⟨T',ds⟩ w'->K' ⟨T',D⟩ w'):wpOpIn (Fc r) n P ops Q i K' ⟨T,D⟩ w:=by
 unfold DM at h;unfold wpOpIn;split at h
 .rename_i ho;rw[ho];exact hK _ _ hx h
 . (rename_i o ho;rw[ho];have abb:∀v t,ts t->((⟨T,D⟩:Act).put o.dst v).tmps[t]? =x[t]? :=λv t ht=>by rw[aeU (λhd=>dH o ho t hd ht)];exact hx t ht);have oh:∀v w',K ((⟨T,ds⟩:Act).put o.dst v) w'->K' ((⟨T,D⟩:Act).put o.dst v) w':=λv w' hk=>by rw[ah5 (D:=D)]at hk;rw[ag6];exact hK _ _ (abb v) hk
   show if Region.wanted o (yielded ops T)=true then _ else _
   dsimp only at h;split at h
   .rename_i hw;rw[Za9 hw];exact ag7 h oh
   .rename_i hw;rw[Za3 hw];exact⟨λ_ _=>trivial,oh _ _ h⟩
theorem acV{ops:Array Oper}(dH:∀t∈ops.toList.filterMap (·.dst),¬ts t){i:Nat}:∀o,ops[i]? =some o->∀t,o.dst=some t->¬ts t:=λo ho t ht=>dH t (by
 rw[Zn5];exact⟨o,by rw[Zm4];exact Zm2 ho,ht⟩)
theorem IU{ops:Array Oper}{K:Act->World->Prop}{Q:Exit->Act->World->Prop}{l2:List Nat}(hK:∀T' w',(∀t,ts t->T'[t]? =x[t]?)->K ⟨T',ds⟩ w'->wpOpsIn (Fc r) n P ops Q l2 ⟨T',D⟩ w'):
  ∀(l:List Nat)(T:Array Value)(w:World),(∀i∈l,∀o,ops[i]? =some o->∀t,o.dst=some t->¬ts t)->(∀t,ts t->T[t]? =x[t]?)->qK P ops K l ⟨T,ds⟩ w->wpOpsIn (Fc r) n P ops Q (l++l2) ⟨T,D⟩ w
 |[],T,w,_,hx,h=>hK T w hx h
 |i::l,T,w,dH,hx,h=>by rw[Zf2,wpOpsIn_cons];exact ZX h (dH i (Zd6 ..)) hx λT' w' nh hk=>IU hK l T' w' (λj hj=>dH j (Za4 _ hj)) nh hk
theorem WA{ops:Array Oper}{K K':Act->World->Prop}{Q:Exit->Act->World->Prop}(hQ:Q .normal=K')(dH:∀t∈ops.toList.filterMap (·.dst),¬ts t)(hK:∀T' w',(∀t,ts t->T'[t]? =x[t]?)->K ⟨T',ds⟩ w'->K' ⟨T',D⟩ w'):
  ∀(fuel:Nat)(listed:Array Bool)(T:Array Value)(w:World),(∀t,ts t->T[t]? =x[t]?)->VN P ops K fuel listed ⟨T,ds⟩ w->wpAnyIn (Fc r) n P .any ops Q fuel listed ⟨T,D⟩ w
 |0,listed,T,w,hx,h=>⟨h.1,by rw[hQ];exact hK T w hx h.2⟩
 |fuel+1,listed,T,w,hx,h=>⟨λhr=>by rw[hQ];exact hK T w hx (h.1 hr),λi hi=>ZX (h.2 i hi) (acV dH) hx λT' w' nh hk=>WA hQ dH hK fuel _ T' w' nh hk⟩
theorem fD.ZY:∀(c:Code)(Q:Exit->Act->World->Prop)(T:Array Value)(w:World),(∀t∈qL c,¬ts t)->(∀t,ts t->T[t]? =x[t]?)->fD P c Q ⟨T,ds⟩ w->
  c.wpIn (Fc r) n P (InF D ds ts x Q) ⟨T,D⟩ w:=by
 intro c;induction c with
 |skip=>exact λQ T w _ hx h=>wpIn_skip ⟨rfl,hx,h⟩
 |region i ops d=>
  intro Q T w dH hx h;cases d
  .refine wpIn_region ?_;rw[<-Zf7 (List.range ops.size)];exact IU (λT' w' nh hk=>by show InF D ds ts x Q .normal _ _;exact⟨rfl,nh,hk⟩) _ T w (λ_ _=>acV dH) hx h
  .exact wpIn_region_any h.1 (WA rfl dH (λT' w' nh hk=>⟨rfl,nh,hk⟩) _ _ T _ hx h.2)
 |seq a b WE WG=>
  intro Q T w dH hx h;refine wpIn_seq (wpIn_mono (WE _ T w (λt ht=>dH t (Zg9 _ ht)) hx h) ?_);rintro e ⟨T',D'⟩ w' ⟨h1,h2,h3⟩;dsimp only at h1;subst h1;cases e with
  |normal=>exact WG Q T' w' (λt ht=>dH t (Zh8 _ ht)) h2 h3
  |_=>exact⟨rfl,h2,h3⟩
 |cond c a b WE WG=>
  intro Q T w dH hx h;obtain⟨t,ht,h⟩:=h;refine wpIn_cond (t:=t) (by rw[<-ht];exact Hw) ?_;cases t
  .exact WG Q T w (λt ht=>dH t (Zh8 _ ht)) hx h
  .exact WE Q T w (λt ht=>dH t (Zg9 _ ht)) hx h
 |block id a ih=>
  intro Q T w dH hx h;refine wpIn_block (wpIn_mono (ih _ T w dH hx h) ?_);rintro e a' w' ⟨h1,h2,h3⟩;cases e with
  | exit i=>
    simp only[Exit.inBlock]at h3 ⊢;split<;>(rename_i hi;first|rw[Za9 hi]at h3|rw[Za3 hi]at h3)<;>exact⟨h1,h2,h3⟩
  |_=>exact⟨h1,h2,h3⟩
 |loop a ih=>
  intro Q T w dH hx h;obtain⟨m,h⟩:=h;refine wpIn_loop_rounds m ?_;induction m generalizing T w with
  |zero=>exact h.elim
  | succ m ihm=>
    rw[roundsIn_succ];refine wpIn_mono (ih _ T w dH hx h) ?_;rintro e ⟨T',D'⟩ w' ⟨h1,h2,h3⟩;dsimp only at h1;subst h1;cases e with
    |normal=>exact ihm T' w' h2 h3
    |_=>exact⟨rfl,h2,h3⟩
 |exit id=>exact λQ T w _ hx h=>wpIn_exit ⟨rfl,hx,h⟩
 |ret=>exact λQ T w _ hx h=>wpIn_ret ⟨rfl,hx,h⟩
 |_=>exact λQ T w _ _ h=>h.elim
theorem fD.wp{c:Code}{Q:Exit->Act->World->Prop}{a:Act}{w:World}(h:fD P c Q a w):c.wp P Q a w:=by refine wpIn_wide (n:=0) |>.1 (wpIn_mono (fD.ZY (r:=none) (D:=a.defers) (ds:=a.defers) (ts:=λ_=>False) (x:= #[]) c Q a.tmps w (λ_ _ h=>h) (λ_ h=>h.elim) h) ?_);rintro e ⟨T,D⟩ w' ⟨h1,_,h3⟩;dsimp only at h1;subst h1;exact h3
end
end
section
open Go Go.RowKit
def ni(ρ:Pos->Loc)(C:Cells)(st:St)(w:World)(v:AV)(st':St)(x:Value)(w':World):Prop:=
 ∃ρ',aq ρ' st'.next.toNat C v x/\(∀b:Pos,b.toNat<st.next.toNat->ρ' b=ρ b)/\st.next.toNat<=st'.next.toNat/\aZ ρ' C st' w'/\j0 ρ st w ρ' st' w'
def fO(P:Program)(C:Cells)(call:ai):Prop:=
 ∀  (ρ:Pos->Loc)(st:St)(w:World)(f:FuncId)(args:List AV)(v:AV)(st':St)(bJ:List Value),call f args st=some (v,st')->
    aZ ρ C st w->ay ρ st.next.toNat C args bJ->Reaches P (ni ρ C st w v st') ((callFunc f bJ.toArray).run P w)
section
variable{P:Program}{tt:TT}{C:Cells}{call:ai}
theorem St.WH(st:St)(del:Option Pos)(set:Option (Pos×AB))(new:Option AB):st.next.toNat<=(st.aG del set new).next.toNat:=by
 cases new with
 |none=>exact Za5 _
 |some x=>simp only[St.aG,Pos.aB];omega
theorem On(hT:bZ P tt)(bV:fO P C call){ρ:Pos->Loc}{st st':St}{w:World}{k:av}{xs:List eZ}{cls:ZO}{fr:Fr}{a:Act}{o:Oper}{vs:List AV}{v:AV}
   (hc:gP tt o.op=some (k,xs,cls)) (hW:aZ ρ C st w) (hF:fV ρ st.next.toNat C fr a.tmps) (hx:e8 fr xs=some vs)
   (hs:bP call k vs st=some (v,st')):Reaches P (ni ρ C st w v st') ((execOp a.eval o).run P w):=by
 have H:=Nl hT o.op ρ C st w k xs cls fr a o vs;unfold bP at hs;split at hs
 . rename_i u hr;simp only[H0,Zb9]at hs;obtain⟨rfl,rfl⟩:=hs;obtain⟨N,x,he,hy,hv⟩:=H _ rfl hc hW hF hx hr;have hp:ni ρ C st w u st x w:=⟨ρ,hv,λ_ _=>rfl,Za5 _,hW,j0.refl _ _ _⟩
   rw[he];rcases hy with rfl|⟨rfl,rfl⟩<;>exact hp
 . rename_i u del set new hr;simp only[H0,Zb9]at hs;obtain⟨rfl,rfl⟩:=hs;obtain⟨N,x,w',ρ',he,hy,aU,fB,hv,hE⟩:=H _ rfl hc hW hF hx hr;have hp:ni ρ C st w u (st.aG del set new) x w':=⟨ρ',hv,aU,St.WH _ _ _ _,fB,hE⟩
   rw[he];rcases hy with rfl|⟨rfl,rfl⟩<;>exact hp
 .rename_i f args hr;obtain⟨bJ,he,hv⟩:=H _ rfl hc hW hF hx hr;rw[he];exact bV ρ st w f args v st' bJ hs hW hv
 .cases hs
structure uS(tt:TT)(nt:Nat)(ops:Array Oper)(o:Oper)(ao:bw):Prop where
 dst:ao.dst=o.dst.map key
 lt:∀d,o.dst=some d->d<nt
 guard:Qt ops o.guard=some ao.guard
 op:(gP tt o.op=some (ao.k,ao.xs,ao.cls))\/(ao.k= .bad/\ao.cls= .aG)
theorem oN{nt:Nat}{ops:Array Oper}:∀{os:List Oper}{bs:List Nat}{l:List bw},oe tt nt ops os bs=some l->
  l.length=os.length/\∀(i:Nat)(o:Oper),os[i]? =some o->∃ao,l[i]? =some ao/\uS tt nt ops o ao/\ao.bK=bs.getD i 0
 |[],bs,l,h=>by simp[oe]at h;subst h;exact⟨rfl,λi o ho=>by simp at ho⟩
 |o ::os,bs,l,h=>by
  unfold oe at h;split at h<;>first|(cases h;done)|skip
  rename_i g l' hg hl hd;obtain⟨h1,h2⟩:=oN hl;have aO:∀d,o.dst=some d->d<nt:=λd hdd=>by rw[hdd]at hd;simpa [oe.agF]using hd
  have hb:∀i,bs.tail.getD i 0=bs.getD (i+1) 0:=λi=>by cases bs<;>simp
  have hb0:bs.headD 0=bs.getD 0 0:=by cases bs<;>simp
  split at h
  . rename_i k xs cls hc;simp only[H0]at h;subst h;refine⟨by simp[h1],λi o' ho=> ?_⟩;cases i with
    |   zero=>
        simp at ho;subst ho;exact⟨_,rfl,⟨rfl,aO,hg,.inl hc⟩,hb0⟩
    |   succ i=>
        simp at ho;obtain⟨ao,h3,h4,h5⟩:=h2 i o' ho;exact⟨ao,by simpa using h3,h4,by rw[h5,hb]⟩
  . simp only[H0]at h;subst h;refine⟨by simp[h1],λi o' ho=> ?_⟩;cases i with
    |   zero=>
        simp at ho;subst ho;exact⟨_,rfl,⟨rfl,aO,hg,.inr ⟨rfl,rfl⟩⟩,hb0⟩
    |   succ i=>
        simp at ho;obtain⟨ao,h3,h4,h5⟩:=h2 i o' ho;exact⟨ao,by simpa using h3,h4,by rw[h5,hb]⟩
theorem DO{ops:Array Oper}{ρ:Pos->Loc}{n:Nat}{fr:Fr}{a:Act}{o:Oper}{g:Option (Pos×Bool)}{b:Bool}(hg:Qt ops o.guard=some g)
   (hF:∀p v,fr.get p=some v->(∃q,g=some (p,q))->∃x,a.tmps[p.toNat - 1]? =some x/\aq ρ n C v x)
   (hw:bW fr g=some b):Region.wanted o (yielded ops a.tmps)=b:=by
 unfold Region.wanted;unfold Qt at hg;split at hg
 .rename_i hn;simp only[H0]at hg;subst hg;simp only[bW,H0]at hw;subst hw;rw[hn]
 . rename_i j want hn;rw[hn];(split at hg<;>first|(cases hg;done)|skip);rename_i oj hj;(split at hg<;>first|(cases hg;done)|skip);rename_i d hd;simp only[H0]at hg;subst hg;simp only[bW]at hw;split at hw
   .rename_i u hu;simp only[H0]at hw;subst hw;obtain⟨x,hx,hv⟩:=hF _ _ hu ⟨_,rfl⟩;rw[fL,Zf4]at hx;have:=hv.iD;subst this;simp[yielded,hj,hd,hx]
   .rename_i l hu;simp only[H0]at hw;subst hw;obtain⟨x,hx,hv⟩:=hF _ _ hu ⟨_,rfl⟩;rw[fL,Zf4]at hx;obtain⟨cs,rfl,_⟩:=hv.TQ;simp[yielded,hj,hd,hx]
   .cases hw
theorem aq.Ud{ρ:Pos->Loc}{n:Nat}:aq ρ n C AV.undef undef:= .tuple [] #[] rfl λ_ _ _ h=>by simp at h
theorem Act.ja(a:Act)(d:Option Tmp)(v:Value):(a.put d v).tmps.size=a.tmps.size:=by cases d<;>simp[Act.put]
theorem Act.jT(a:Act)(d:Option Tmp)(v:Value):(a.put d v).defers=a.defers:=by cases d<;>rfl
theorem fV.put{ρ:Pos->Loc}{n nt:Nat}{fr:Fr}{a:Act}{d:Option Tmp}{v:AV}{x:Value}(hF:fV ρ n C fr a.tmps)(hs:a.tmps.size=nt)
  (hd:∀e,d=some e->e<nt) (hv:aq ρ n C v x):fV ρ n C (dQ fr (d.map key) v) (a.put d x).tmps:=by
 cases d with
 |none=>exact hF
 |some e=>
  have he:=hd e rfl;intro p u hp;simp only[Zf1,dQ]at hp;simp only[Act.put];by_cases QM:key e=p
  .subst QM;rw[T.eO]at hp;simp only[H0]at hp;subst hp;refine⟨x,?_,hv⟩;rw[fL,Zf4,Zl9];simp[hs,he]
  .rw[T.bG _ QM]at hp;obtain⟨y,hy,hr⟩:=hF p u hp;refine⟨y,?_,hr⟩;rw[Ze7,hy];intro h;apply QM;apply Pos.toNat_inj;rw[fL];have:=p.toNat_pos;omega
theorem fV.mono{ρ ρ':Pos->Loc}{n n':Nat}{fr:Fr}{tmps:Array Value}(hF:fV ρ n C fr tmps)(aU:∀b:Pos,b.toNat<n->ρ' b=ρ b)(hn:n<=n'):fV ρ' n' C fr tmps:=
 λp v hp=>let⟨x,hx,hv⟩:=hF p v hp;⟨x,hx,hv.mono aU hn⟩
structure nP(nt:Nat)(ρ:Pos->Loc)(C:Cells)(fr:Fr)(st:St)(a:Act)(w:World):Prop where
 W:aZ ρ C st w
 F:fV ρ st.next.toNat C fr a.tmps
 size:a.tmps.size=nt
 defers:a.defers=[]
def gh(nt:Nat)(ρ:Pos->Loc)(C:Cells)(st:St)(w:World)(bh:Fr)(st':St)(a':Act)(w':World):Prop:=
 ∃ρ',nP nt ρ' C bh st' a' w'/\(∀b:Pos,b.toNat<st.next.toNat->ρ' b=ρ b)/\st.next.toNat<=st'.next.toNat/\j0 ρ st w ρ' st' w'
theorem gh.refl{nt:Nat}{ρ:Pos->Loc}{fr:Fr}{st:St}{a:Act}{w:World}(h:nP nt ρ C fr st a w):gh nt ρ C st w fr st a w:=
 ⟨ρ,h,λ_ _=>rfl,Za5 _,j0.refl _ _ _⟩
theorem gh.trans{nt:Nat}{ρ eH:Pos->Loc}{u9:Fr}{st aQ kP:St}{a2:Act}{w w1 w2:World}
  (h1:∀b:Pos,b.toNat<st.next.toNat->eH b=ρ b) (h2:st.next.toNat<=aQ.next.toNat) (h3:j0 ρ st w eH aQ w1)
  (h:gh nt eH C aQ w1 u9 kP a2 w2):gh nt ρ C st w u9 kP a2 w2:=by
 obtain⟨m7,k1,k2,k3,k4⟩:=h;exact⟨m7,k1,λb hb=>(k2 b (Zd3 hb h2)).trans (h1 b hb),Zd4 h2 k3,h3.trans k4⟩
theorem Reaches.bad{k:av}{vs:List AV}{st:St}{r:AV×St}(hk:k= .bad)(h:bP call k vs st=some r):False:=by subst hk;simp[bP,av.run]at h
theorem qM(hT:bZ P tt)(bV:fO P C call){nt:Nat}{ops:Array Oper}{K:Act->World->Prop}:∀(WI:List bw)(k:Nat)(fr bh:Fr)(st st':St)(ρ:Pos->Loc)(a:Act)(w:World),
  (∀(i:Nat)(ao:bw),WI[i]? =some ao->∃o,ops[k+i]? =some o/\uS tt nt ops o ao)->
  jN call WI fr st=some (bh,st')->nP nt ρ C fr st a w->(∀a' w',gh nt ρ C st w bh st' a' w'->K a' w')->qK P ops K (List.range' k WI.length) a w
 |[],k,fr,bh,st,st',ρ,a,w,_,h,hS,hQ=>by
  simp only[jN,H0,Zb9]at h;obtain⟨rfl,rfl⟩:=h;exact hQ a w (gh.refl hS)
 |ao::WI,k,fr,bh,st,st',ρ,a,w,ho,h,hS,hQ=>by
  obtain⟨o,dP,hR⟩:=ho 0 ao rfl;rw[Zg7]at dP;have Fp:∀(i:Nat)(ao':bw),WI[i]? =some ao'->∃o,ops[k+1+i]? =some o/\uS tt nt ops o ao':=λi ao' hi=>by
    obtain⟨o',h1,h2⟩:=ho (i+1) ao' (by simpa using hi);exact⟨o',by rw[<-h1];congr 1;omega,h2⟩
  simp only[Zc5,Zl2,qK,DM,dP];unfold jN at h;split at h
  . rename_i hw;rw[Za9 (DO hR.guard (λp v hp _=>hS.F p v hp) hw)];(split at h<;>first|(cases h;done)|skip);rename_i vs jq;(split at h<;>first|(cases h;done)|skip);rename_i v aQ jP;rcases hR.op with hc|⟨hk,_⟩
    .   have hr:=On hT bV hc hS.W hS.F jq jP;(refine hr.mono λx w1 hp=> ?_);obtain⟨eH,hv,h1,h2,WJ,hE⟩:=hp;rw[hR.dst]at h;refine qM hT bV WI (k+1) _ bh aQ st' eH _ w1 Fp h ⟨WJ,fV.put (hS.F.mono h1 h2) hS.size hR.lt hv,by rw[Act.ja];exact hS.size,by rw[Act.jT];exact hS.defers⟩ λa' w' hp=>hQ a' w' (gh.trans h1 h2 hE hp)
    .   exact(Reaches.bad hk jP).elim
  .rename_i hw;rw[Za3 (by rw[DO hR.guard (λp v hp _=>hS.F p v hp) hw];simp)];rw[hR.dst]at h;exact qM hT bV WI (k+1) _ bh st st' ρ _ w Fp h ⟨hS.W,fV.put hS.F hS.size hR.lt .Ud,by rw[Act.ja];exact hS.size,by rw[Act.jT];exact hS.defers⟩ hQ
  .cases h
theorem AG{nt:Nat}{ops:Array Oper}{l:List bw}{bs:List Nat}(h:oe tt nt ops ops.toList bs=some l)(i:Nat)(ao:bw)(hi:l[i]? =some ao):
  ∃o,ops[i]? =some o/\uS tt nt ops o ao/\ao.bK=bs.getD i 0:=by
 obtain⟨h1,h2⟩:=oN h;have aO:i<ops.toList.length:=by rw[<-h1];exact(Za1.1 hi).1
 obtain⟨ao',h3,h4,h5⟩:=h2 i _ (H4 aO);rw[hi]at h3;simp only[H0]at h3;subst h3;exact⟨_,by rw[<-Zh7];exact H4 aO,h4,h5⟩
theorem WM(hT:bZ P tt)(bV:fO P C call){nt id:Nat}{ops:Array Oper}{bs:List Nat}{l:List bw}{Q:Exit->Act->World->Prop}{fr bh:Fr}{st st':St}{ρ:Pos->Loc}{a:Act}{w:World}
  (hl:oe tt nt ops ops.toList bs=some l) (h:jN call l fr st=some (bh,st')) (hS:nP nt ρ C fr st a w)
  (hQ:∀a' w',gh nt ρ C st w bh st' a' w'->Q .normal a' w'):fD P (Code.region id ops false) Q a w:=by
 show qK P ops (Q .normal) (List.range ops.size) a w;have hlen:l.length=ops.size:=by rw[(oN hl).1,Zg3]
 rw[Zk0, <-hlen];exact qM hT bV l 0 fr bh st st' ρ a w (λi ao hi=>by
  obtain⟨o,h1,h2,_⟩:=AG hl i ao hi;exact⟨o,by rw[Zd1];exact h1,h2⟩) h hS hQ
end
section
variable{P:Program}{tt:TT}{C:Cells}{call:ai}
def rQ(P:Program)(tt:TT)(C:Cells)(call:ai):Prop:=
 ∀  (nt id:Nat)(ops:Array Oper)(l:List bw)(Q:Exit->Act->World->Prop)(fr bh:Fr)(st st':St)(ρ:Pos->Loc)(a:Act)(w:World),
    oe tt nt ops ops.toList (Wg ops.toList [])=some l->Hg l.length 0 (wP (Dz 0 l) [])=true->dN call (wP (Dz 0 l) []) [] st.heap fr st=some (bh,st')->nP nt ρ C fr st a w->
    (∀a' w',gh nt ρ C st w bh st' a' w'->Q .normal a' w')->fD P (Code.region id ops true) Q a w
def nZ:jZ->Exit
 |.normal=>.normal
 |.exit id=>.exit id
 |.ret=>.ret
def QN(P:Program)(tt:TT)(C:Cells)(call:ai)(nt m:Nat):Prop:=
 ∀  (c:Code)(ac:AC)(fr bh:Fr)(st st':St)(ex:jZ)(ρ:Pos->Loc)(a:Act)(w:World)(Q:Exit->Act->World->Prop),
    tq tt nt c=some ac->exec call m ac fr st=some (ex,bh,st')->nP nt ρ C fr st a w->
    (∀a' w',gh nt ρ C st w bh st' a' w'->Q (nZ ex) a' w')->fD P c Q a w
def QO(P:Program)(tt:TT)(C:Cells)(call:ai)(nt m:Nat):Prop:=
 ∀  (c:Code)(ac:AC)(fr bh:Fr)(st st':St)(ex:jZ)(ρ:Pos->Loc)(a:Act)(w:World)(Q:Exit->Act->World->Prop),
    tq tt nt c=some ac->exec call m (.loop ac) fr st=some (ex,bh,st')->nP nt ρ C fr st a w->
    (∀a' w',gh nt ρ C st w bh st' a' w'->Q (nZ ex) a' w')->Li (fD P c) Q m a w
theorem Ue{nt m:Nat}(DP:QN P tt C call nt m)(ihL:QO P tt C call nt m):QO P tt C call nt (m+1):=by
 intro c ac fr bh st st' ex ρ a w Q hc h hS hQ;simp only[exec,bk]at h;show fD P c (Exit.then (Li (fD P c) Q m) Q) a w;split at h
 .rename_i cr aQ h1;(refine DP c ac fr cr st aQ .normal ρ a w _ hc h1 hS λa1 w1 hp=> ?_);obtain⟨eH,ud,k1,k2,k3⟩:=hp;exact ihL c ac cr bh aQ st' ex eH a1 w1 Q hc h ud λa2 w2 hp=>hQ a2 w2 (gh.trans k1 k2 k3 hp)
 . rename_i cL;cases ex with
   |normal=>exact(cL _ _ h).elim
   |exit id=>exact DP c ac fr bh st st' (.exit id) ρ a w _ hc h hS λa1 w1 hp=>hQ a1 w1 hp
   |ret=>exact DP c ac fr bh st st' .ret ρ a w _ hc h hS λa1 w1 hp=>hQ a1 w1 hp
theorem acW(hT:bZ P tt)(bV:fO P C call)(gJ:rQ P tt C call){nt m:Nat}(DP:QN P tt C call nt m)(ihL:QO P tt C call nt m):QN P tt C call nt (m+1):=by
 intro c ac fr bh st st' ex ρ a w Q hc h hS hQ;have aiU:=Ue DP ihL;unfold tq at hc;split at hc<;>first|(cases hc;done)|skip
 .simp only[H0]at hc;subst hc;simp only[exec,bk,H0,Zb9]at h;obtain⟨rfl,rfl,rfl⟩:=h;exact hQ _ _ (gh.refl hS)
 . rename_i ix ops draw;(split at hc<;>first|(cases hc;done)|skip);rename_i l hl;split at hc
   .simp only[H0]at hc;subst hc;simp only[exec,bk]at h;(split at h<;>first|(cases h;done)|skip);rename_i cr aQ h1;simp only[H0,Zb9]at h;obtain⟨rfl,rfl,rfl⟩:=h;exact WM hT bV hl h1 hS hQ
   . (split at hc<;>first|(cases hc;done)|skip);rename_i ht;simp only[H0]at hc;subst hc;simp only[exec,bk]at h;(split at h<;>first|(cases h;done)|skip);rename_i cr aQ h1;simp only[H0,Zb9]at h;obtain⟨rfl,rfl,rfl⟩:=h;exact gJ nt _ ops l Q fr cr st aQ ρ a w hl ht h1 hS hQ
 . (split at hc<;>first|(cases hc;done)|skip);rename_i x y h1 h2;simp only[H0]at hc;subst hc;simp only[exec,bk]at h;show fD P _ (Exit.then (fD P _ Q) Q) a w;split at h
   .rename_i cr aQ h3;(refine DP _ _ fr cr st aQ .normal ρ a w _ h1 h3 hS λa1 w1 hp=> ?_);obtain⟨eH,ud,k1,k2,k3⟩:=hp;exact DP _ _ cr bh aQ st' ex eH a1 w1 Q h2 h ud λa2 w2 hp=>hQ a2 w2 (gh.trans k1 k2 k3 hp)
   . rename_i cL;cases ex with
     |normal=>exact(cL _ _ h).elim
     |exit id=>exact DP _ _ fr bh st st' (.exit id) ρ a w _ h1 h hS λa1 w1 hp=>hQ a1 w1 hp
     |ret=>exact DP _ _ fr bh st st' .ret ρ a w _ h1 h hS λa1 w1 hp=>hQ a1 w1 hp
 . (split at hc<;>first|(cases hc;done)|skip);rename_i x y z h1 h2 h3;simp only[H0]at hc;subst hc;simp only[exec,bk]at h;split at h
   .rename_i hx;exact⟨true,(qH h1 hS.F hx).iD,(DP _ _ fr bh st st' ex ρ a w Q h2 h hS hQ)⟩
   .rename_i hx;exact⟨false,(qH h1 hS.F hx).iD,(DP _ _ fr bh st st' ex ρ a w Q h3 h hS hQ)⟩
   .cases h
 . (split at hc<;>first|(cases hc;done)|skip);rename_i x h1;simp only[H0]at hc;subst hc;simp only[exec,bk]at h;show fD P _ (Exit.inBlock _ Q) a w;split at h
   . rename_i tj cr aQ h2;split at h
     .  rename_i he;simp only[H0,Zb9]at h;obtain⟨rfl,rfl,rfl⟩:=h;have:=Za2 he;subst this;exact DP _ _ fr cr st aQ (.exit tj) ρ a w _ h1 h2 hS λa1 w1 hp=>by simp only[nZ,Exit.inBlock,Zh0];exact hQ a1 w1 hp
     .  rename_i he;simp only[H0,Zb9]at h;obtain⟨rfl,rfl,rfl⟩:=h;have:=Zc2 he;exact DP _ _ fr cr st aQ (.exit tj) ρ a w _ h1 h2 hS λa1 w1 hp=>by simp only[nZ,Exit.inBlock,Za3 this];exact hQ a1 w1 hp
   . rename_i cL;cases ex with
     |normal=>exact DP _ _ fr bh st st' .normal ρ a w _ h1 h hS λa1 w1 hp=>hQ a1 w1 hp
     |exit id=>exact(cL _ _ _ h).elim
     |ret=>exact DP _ _ fr bh st st' .ret ρ a w _ h1 h hS λa1 w1 hp=>hQ a1 w1 hp
 . (split at hc<;>first|(cases hc;done)|skip);rename_i x h1;simp only[H0]at hc;subst hc;exact⟨m+1,aiU _ _ fr bh st st' ex ρ a w Q h1 h hS hQ⟩
 .simp only[H0]at hc;subst hc;simp only[exec,bk,H0,Zb9]at h;obtain⟨rfl,rfl,rfl⟩:=h;exact hQ _ _ (gh.refl hS)
 .simp only[H0]at hc;subst hc;simp only[exec,bk,H0,Zb9]at h;obtain⟨rfl,rfl,rfl⟩:=h;exact hQ _ _ (gh.refl hS)
 .simp only[H0]at hc;subst hc;simp[exec,bk,jN,bW,e8,bP,av.run]at h
theorem qN(hT:bZ P tt)(bV:fO P C call)(gJ:rQ P tt C call){nt:Nat}:∀m,QN P tt C call nt m/\QO P tt C call nt m
 |0=>⟨λc ac fr bh st st' ex ρ a w Q hc h=>by simp[exec]at h,λc ac fr bh st st' ex ρ a w Q hc h=>by simp[exec]at h⟩
 |m+1=>let⟨h1,h2⟩:=qN hT bV gJ m;⟨acW hT bV gJ h1 h2,Ue h1 h2⟩
def Nm(tmps:Array Value):ResultVar->Sem Value
 |.tmp t=>pure (tmps.getD t undef)
 |.cell a t=>do loadVar t (<-asAddr (tmps.getD a undef))
theorem abc(hT:bZ P tt){ρ:Pos->Loc}{st:St}{w:World}{fr:Fr}{a:Act}{x:Tmp}{t:TypeId}{ti:TI}{q v:AV}(cV:tt.get (key t)=some ti)
  (hW:aZ ρ C st w) (hF:fV ρ st.next.toNat C fr a.tmps) (hq:fr.get (key x)=some q) (hr:(av.load (yu ti)).run (λb=>st.heap.get b) .h [q]=some (.val v)):
  ∃y,(Nm a.tmps (.cell x t)).run P w= .ok y w/\aq ρ st.next.toNat C v y:=by
 have hc:gP tt (.load t (.tmp x))=some (.load (yu ti),[.t (key x)],.read):=by simp[gP,cV,lV]
 have hx:e8 fr [.t (key x)]=some [q]:=by simp[e8,Bm,hq]
 have rP:(av.load (yu ti)).run (λb=>st.heap.get b) st.next [q]=some (.val v):=hr;obtain⟨N,y,he,hy,hv⟩:=Nl hT (.load t (.tmp x)) ρ C st w _ _ _ fr a { dst:=none,op:= .load t (.tmp x),type:=t,pos:=default,after:= #[],guard:=none } _ _ rfl hc hW hF hx rP;refine⟨y,?_,hv⟩;simp only[execOp,Instr.loadAt,Act.eval]at he;simp only[Nm];obtain⟨z,hz,hzq⟩:=hF _ _ hq;rw[fL,Zf4]at hz;have hzd:a.tmps.getD x undef=z:=by simp[Zj0,hz]
 rw[hzd]at he ⊢;have hp:∃ad,z= .pointer (some ad):=by
  simp only[av.run,uP]at hr;split at hr<;>first|(cases hr;done)|skip
  .obtain⟨_,h⟩:=hzq.fR;exact⟨_,h⟩
  .obtain⟨_,_,_,_,h,_⟩:=hzq.Hj;exact⟨_,h⟩
 obtain⟨ad,rfl⟩:=hp;simp only[Instr.sureAddr,asAddr,Sem.run_bind,Sem.run_pure,Result.andThen]at he ⊢;cases hl:(loadVar t ad).run P w with
 |ok u w1=>
  rw[hl]at he;simp at he;obtain⟨h1,h2⟩:=he;subst h2;rcases hy with hy|⟨hy,_⟩
  .rw[hy]at h1;simp at h1;rw[h1]
  .rw[hy]at h1;simp at h1
 |halt u w1=>rw[hl]at he;simp at he
theorem DQ(hT:bZ P tt){ρ:Pos->Loc}{st:St}{w:World}{fr:Fr}{a:Act}(hW:aZ ρ C st w)(hF:fV ρ st.next.toNat C fr a.tmps):
   ∀(rs:List ResultVar)(QT:List Bl)(vs:List AV),mZ tt rs=some QT->c9 (λb=>st.heap.get b) fr QT=some vs->
    ∃ys,(rs.mapM (Nm a.tmps)).run P w= .ok ys w/\ay ρ st.next.toNat C vs ys
 | [],QT,vs,hc,hr=>by
   simp only[mZ,H0]at hc;subst hc;simp only[c9,H0]at hr;subst hr;exact⟨[],by simp,ay.nil⟩
 | .tmp t::rs,QT,vs,hc,hr=>by
   simp only[mZ]at hc;(split at hc<;>first|(cases hc;done)|skip);rename_i l hl;simp only[H0]at hc;subst hc;simp only[c9]at hr;(split at hr<;>first|(cases hr;done)|skip);rename_i v hv;(split at hr<;>first|(cases hr;done)|skip);rename_i us hus;simp only[H0]at hr;subst hr;obtain⟨ys,h1,h2⟩:=DQ hT hW hF rs l us hl hus;obtain⟨z,hz,hzq⟩:=hF _ _ hv;rw[fL,Zf4]at hz;refine⟨z::ys,?_,ay.cons hzq h2⟩;simp[List.mapM_cons,Nm,h1,Zj0,hz]
 | .cell x t::rs,QT,vs,hc,hr=>by
   simp only[mZ]at hc;(split at hc<;>first|(cases hc;done)|skip);rename_i ti l hti hl;simp only[H0]at hc;subst hc;simp only[c9]at hr;(split at hr<;>first|(cases hr;done)|skip);rename_i q hq;(split at hr<;>first|(cases hr;done)|skip);rename_i v hv;(split at hr<;>first|(cases hr;done)|skip);rename_i us hus;simp only[H0]at hr;subst hr;obtain⟨ys,h1,h2⟩:=DQ hT hW hF rs l us hl hus;obtain⟨y,h3,h4⟩:=abc hT hti hW hF hq hv;refine⟨y::ys,?_,ay.cons h4 h2⟩;simp[List.mapM_cons,h1,h3]
theorem rR(hT:bZ P tt){ρ:Pos->Loc}{st:St}{w:World}{fr:Fr}{a:Act}{fn:Func}{QT:List Bl}{vs:List AV}(hW:aZ ρ C st w)(hF:fV ρ st.next.toNat C fr a.tmps)
  (hc:mZ tt fn.results.toList=some QT) (hr:c9 (λb=>st.heap.get b) fr QT=some vs):
  ∃y,(results fn a.tmps).run P w= .ok y w/\aq ρ st.next.toNat C (iC vs) y:=by
 obtain⟨ys,h1,h2⟩:=DQ hT hW hF _ QT vs hc hr;have h3:(fn.results.mapM (Nm a.tmps)).run P w= .ok ys.toArray w:=by
  rw[Array.mapM_eq_mapM_toList];simp[h1]
 have h4:(results fn a.tmps).run P w= .ok (if h:ys.toArray.size=1 then ys.toArray[0]else .tuple ys.toArray) w:=by
  have hfun:results fn a.tmps=(fn.results.mapM (Nm a.tmps) >>= λvs=>pure (if h:vs.size=1 then vs[0]else .tuple vs)):=by unfold results;congr 2
  rw[hfun,Sem.run_bind,h3];simp
 refine⟨_,h4,?_⟩;cases vs with
 |nil=>have:=h2.mU;subst this;simp[iC];exact .tX (by simpa using ay.nil)
 |cons v vs=>
  obtain⟨y,ys',rfl,hv,jq⟩:=h2.cons_inv;cases vs with
  |nil=>have:=jq.mU;subst this;simpa [iC]using hv
  |cons v' vs'=>
   obtain⟨y',ys'',rfl,DH,aeS⟩:=jq.cons_inv;simp[iC];exact .tX (by simpa using ay.cons hv (ay.cons DH aeS))
def Qk(P:Program)(tt:TT)(G:T dc):Prop:=
 ∀p F,G.get p=some F->∃fn,P.funcs[p.toNat - 1]? =some fn/\(fn.name== "runtime.NumGoroutine")=false/\VK tt fn=some F
def qE(P:Program)(C:Cells)(O:fh):Prop:=
 ∀  (f:FuncId)(s:List AV->St->Option (AV×St)),O f=some s->
    ∀(ρ:Pos->Loc)(st:St)(w:World)(args:List AV)(v:AV)(st':St)(bJ:List Value),s args st=some (v,st')->
     aZ ρ C st w->ay ρ st.next.toNat C args bJ->Reaches P (ni ρ C st w v st') ((callFunc f bJ.toArray).run P w)
theorem yD{ρ:Pos->Loc}{n:Nat}{tmps:Array Value}:∀(vs:List AV)(xs:List Value)(i:Nat)(fr:Fr),ay ρ n C vs xs->
  (∀(j:Nat)(x:Value),xs[j]? =some x->tmps[i+j]? =some x)->fV ρ n C fr tmps->fV ρ n C (params i vs fr) tmps
 |[],_,_,_,_,_,hF=>hF
 |v ::vs,xs,i,fr,h,hx,hF=>by
  obtain⟨x,vR,rfl,hv,jq⟩:=h.cons_inv;unfold params;refine yD vs vR (i+1) _ jq (λj y hy=>by rw[<-hx (j+1) y (by simpa using hy)];congr 1;omega) λp u hp=> ?_
  by_cases QM:key i=p
  .subst QM;rw[T.eO]at hp;simp only[H0]at hp;subst hp;exact⟨x,by rw[fL,Zf4];exact hx 0 x rfl,hv⟩
  .rw[T.bG _ QM]at hp;exact hF p u hp
theorem Oo(hT:bZ P tt){O:fh}{G:T dc}(hO:qE P C O)(hG:Qk P tt G)(m:Nat)(gJ:∀d,fO P C (qG O G m d)->rQ P tt C (qG O G m d)):∀d,fO P C (qG O G m d)
 |0=>λρ st w f args v st' bJ h=>by simp[qG]at h
 |d +   1 =>by
  intro ρ st w f args v st' bJ h hW qF;have ih:=Oo hT hO hG m gJ d;unfold qG at h;split at h
  .rename_i s hs;exact hO f s hs ρ st w args v st' bJ h hW qF
  . (split at h<;>first|(cases h;done)|skip);rename_i F hF;(split at h<;>first|(cases h;done)|skip);rename_i hlen;have hlen:=Za2 hlen;obtain⟨fn,Cw,gV,DR⟩:=hG _ _ hF;rw[fL,Zf4]at Cw;unfold VK at DR;(split at DR<;>first|(cases DR;done)|skip);rename_i c hb;(split at DR<;>first|(cases DR;done)|skip);rename_i ac rs WN hrs hle;simp only[H0]at DR;subst DR;simp only at h hlen;have hle:=Za6 hle;have cq:(callFunc f bJ.toArray).run P w= .ok (.enter f bJ.toArray) w:=by
        have DS:¬fn.name= "runtime.NumGoroutine" :=(by simpa using gV);simp[callFunc,Cw,DS,hb]
    rw[cq];simp only[Reaches];refine calls_of_wp Cw hb (fD.wp ?_);have e9:bJ.length<=fn.ntmps:=(by rw[<-qF.1,hlen];exact hle);have hS:nP fn.ntmps ρ C (params 0 args .e) st { tmps:=bJ.toArray++Array.replicate (fn.ntmps - bJ.toArray.size) undef,defers:=[] } w:=by
        refine⟨hW,?_,?_,rfl⟩
        .refine yD args bJ 0 .e qF (λj x hx=> ?_) (λp v hp=>by rw[T.ei]at hp;cases hp);have hj:j<bJ.length:=(Za1.1 hx).1;rw[Zd1,Zi1 (by simpa using hj)];simpa using hx
        .simp;omega
    split at h<;>first|(cases h;done)|skip
    .   rename_i cr aQ h1;(split at h<;>first|(cases h;done)|skip);rename_i vs jq;simp only[H0,Zb9]at h;obtain⟨rfl,rfl⟩:=h;(refine(qN hT ih (gJ _ ih) m).1 c ac _ cr st aQ .normal ρ _ w _ WN h1 hS λa' w' hp=> ?_);obtain⟨eH,ud,k1,k2,k3⟩:=hp;obtain⟨y,Cx,DF⟩:=rR hT ud.W ud.F hrs jq;exact⟨ud.defers,y,Cx,eH,DF,k1,k2,ud.W,k3⟩
    .   rename_i cr aQ h1;(split at h<;>first|(cases h;done)|skip);rename_i vs jq;simp only[H0,Zb9]at h;obtain⟨rfl,rfl⟩:=h;(refine(qN hT ih (gJ _ ih) m).1 c ac _ cr st aQ .ret ρ _ w _ WN h1 hS λa' w' hp=> ?_);obtain⟨eH,ud,k1,k2,k3⟩:=hp;obtain⟨y,Cx,DF⟩:=rR hT ud.W ud.F hrs jq;exact⟨ud.defers,y,Cx,eH,DF,k1,k2,ud.W,k3⟩
end
end
end Go.Ai
