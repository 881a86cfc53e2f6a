/- Its operations, second part; regions. -/
import Derived.Test.YtlkadmkojjceiaaGreatDoorWEvalB
import Derived.Laws.IdiomStrings
import Derived.Laws.RangeString
import Derived.Lib.UnsafeStr
import Derived.LoopN
import Derived.LoopNIn
import Derived.OrdersIn
set_option linter.all false
namespace Go.Ai
section
open Go Go.RowKit
section
variable{P:Program}{tt:TT}{ρ:Pos->Loc}{C:Cells}{st:St}{w w':World}
theorem uJ(del:Option Pos)(h:T AB){b:Pos}{x:AB}(hb:(Dw del h).get b=some x):h.get b=some x/\∀c,del=some c->b≠c:=by
 cases del with
 |none=>exact⟨hb,λ_ h=>by cases h⟩
 |some c=>
  by_cases he:c=b
  .subst he;simp only[Dw]at hb;rw[T.eF]at hb;cases hb
  .simp only[Dw]at hb;rw[T.bw _ he]at hb;exact⟨hb,λd hd=>by cases hd;exact λe=>he e.symm⟩
theorem tU(hW:aX ρ C st w){o:Obj}{x0:AB}{base size:Nat}(del:Option Pos)(hh:w'.heap=w.heap.push o)(h1:w'.os=w.os)(h2:w'.tape=w.tape)(h3:w'.output=w.output)
   (hB:∀ρ' n',(∀b:Pos,b.toNat<st.next.toNat->ρ' b=ρ b)->st.next.toNat<=n'->lU ρ' n' C ⟨w.heap.size,base,size⟩ w' x0):
   ∃ρ':Pos->Loc,(∀b:Pos,b.toNat<st.next.toNat->ρ' b=ρ b)/\ρ' st.next=⟨w.heap.size,base,size⟩/\aX ρ' C (st.aE del none (some x0)) w'/\jN ρ st w ρ' (st.aE del none (some x0)) w':=by
 let ρ':Pos->Loc:=λb=>if b=st.next then⟨w.heap.size,base,size⟩else ρ b
 have aT:∀b:Pos,b.toNat<st.next.toNat->ρ' b=ρ b:=λb hb=>Za3 (λe=>by rw[e]at hb;omega)
 have ee:ρ' st.next=⟨w.heap.size,base,size⟩:=Za6 rfl;have eW:w'.heap.size=w.heap.size+1:=by rw[hh];simp
 have hold:∀k,k<w.heap.size->w'.heap[k]? =w.heap[k]? :=λk hk=>by rw[hh,Array.getElem?_push,Za3 (by omega)]
 refine⟨ρ',aT,ee,?_,⟨h1,h2,h3,by omega,λk hk _=>hold k hk,λb x hb=> ?_⟩⟩;rotate_left
 . by_cases he:b=st.next
   .right;rw[he,ee];exact Za5 _
   .left;simp only[St.aE,Fy]at hb;rw[T.bw _ (λe=>he e.symm)]at hb;have iX:=(uJ del _ hb).1;exact⟨b,x,iX,by rw[aT b (hW.live b x iX).1]⟩
 refine hW.Xp (b0:=st.next) (x0:=x0) (by rw[Pos.aB];omega) (by rw[Pos.aB];omega) (by rw[T.eF]) ?_ aT (by rw[ee];exact hB _ _ aT (by rw[Pos.aB];omega)) ?_ (by rw[ee,eW];simp) (by omega) (λk hk _=>hold k hk)
 .intro b x hb hx;rw[T.bw _ (λe=>hb e.symm)]at hx;have hx:=(uJ del _ hx).1;refine⟨hx,?_⟩;rw[ee];have:=(hW.live b x hx).2.1;simp only;omega
 .intro a v ha;have:=World.block_lt_of_cell? _ _ (hW.dx a v ha).1;rw[ee];simp only;omega
theorem Nk(hW:aX ρ C st w){b:Pos}{x x0:AB}(hb:st.heap.get b=some x)(h1:w'.os=w.os)(h2:w'.tape=w.tape)(h3:w'.output=w.output)(eW:w'.heap.size=w.heap.size)
   (tC:∀k,k≠(ρ b).av->w'.heap[k]? =w.heap[k]?) (hB:lU ρ st.next.toNat C (ρ b) w' x0):
   aX ρ C (st.aE none (some (b,x0)) none) w'/\jN ρ st w ρ (st.aE none (some (b,x0)) none) w':=by
 obtain⟨aN,KS,_⟩:=hW.live b x hb;refine⟨?_,⟨h1,h2,h3,by omega,λk _ hk=>tC k (λe=>hk b x hb e.symm),λc y hc=> ?_⟩⟩;rotate_left
 . left;by_cases he:c=b
   .exact⟨b,x,hb,by rw[he]⟩
   .simp only[St.aE,Fy,Dw]at hc;rw[T.bw _ (λe=>he e.symm)]at hc;exact⟨c,y,hc,rfl⟩
 refine hW.Xp (b0:=b) (x0:=x0) (Za5 _) aN (by simp only[Fy,Dw];rw[T.eF]) ?_ (λ_ _=>rfl) hB ?_ (by omega) (by omega) (λk _ hk=>tC k hk)
 .intro c y hc hy;simp only[Fy,Dw]at hy;rw[T.bw _ (λe=>hc e.symm)]at hy;exact⟨hy,λe=>hc (hW.inj _ _ _ _ hy hb e)⟩
 .exact λa v ha e=>(hW.dx a v ha).2 b x hb e.symm
theorem u7{cs:List AV}{c:Array Value}{e:TypeId}{fr:Nat×Nat}{g:Nat}{n:Nat}(hg:w'.heap[g]? =some (.cells c e fr))(hle:cs.length<=c.size)(hv:au ρ n C cs (c.toList.take cs.length))
  (hf:∀i,i<c.size->¬(fr.1<=i/\i<fr.2)):lU ρ n C ⟨g,0,c.size⟩ w' (.cells cs 0):=
 ⟨c,e,fr,hg,rfl,by simpa using hle,by simpa using hv,λi _ hi=>by simpa using hf i (by simpa using hi)⟩
theorem Zp(hT:bM P tt)(t:TypeId):cJ P tt (.alloc t):=by
 intro ρ C st w k xs cls fr a o vs res ho hc hW hF hx hr;simp only[fO]at hc;split at hc<;>first|(cases hc;done)|skip
 rename_i ti cF;split at hc<;>first|(cases hc;done)|skip
 rename_i z hz;split at hc
 . cases hc;simp only[dV,H0]at hx;subst hx;simp only[ay.run,CO,H0]at hr;subst hr;obtain⟨zv,xX,_,rq⟩:=rj hT cF hz (ρ:=ρ) (n:=st.next.toNat) (C:=C) w;have hl:z.length=zv.cells.size:=(by simpa using rq.1);obtain⟨ρ',aT,ee,ew,hE⟩:=tU (w':=w.alloc (.cells zv.cells t)) (o:= .cells zv.cells t) (x0:= .typed t z) (base:=0) (size:=zv.cells.size) hW none rfl rfl rfl rfl (λρ' n' aT hn=>
     ⟨zv.cells,(0,0),by show(w.heap.push _)[w.heap.size]? =_;simp,rfl,by simp only[Zc4];omega,by rw[hl,Ze0,Zg2 (by simp)];exact rq.mono aT hn,λi _=>by simp,rfl⟩)
   refine⟨_,.pointer (some ⟨w.heap.size,0,none⟩),_,ρ',?_,Yields.value _,aT,ew,?_,hE⟩
   .simp[execOp,ho,Instr.alloc,xX,newVar,newRow]
   .have:=aj.ptr (ρ:=ρ') (n:=(st.aE none none (some (.typed t z))).next.toNat) (C:=C) st.next 0 (by simp[St.aE,Pos.aB]);rw[ee]at this;simpa using this
 cases hc;simp only[dV,H0]at hx;subst hx;simp only[ay.run,Fs,H0]at hr;subst hr;obtain⟨zv,xX,_,rq⟩:=rj hT cF hz (ρ:=ρ) (n:=st.next.toNat) (C:=C) w;have hl:z.length=zv.cells.size:=by simpa using rq.1
 obtain⟨ρ',aT,ee,ew,hE⟩:=tU (w':=w.alloc (.cells zv.cells t)) (o:= .cells zv.cells t) (x0:= .cells z 0) (base:=0) (size:=zv.cells.size) hW none rfl rfl rfl rfl (λρ' n' aT hn=>
   u7 (w':=w.alloc (.cells zv.cells t)) (e:=t) (fr:=(0,0)) (by show(w.heap.push _)[w.heap.size]? =_;simp) (by omega) (by rw[hl,Zg2 (by simp)];exact rq.mono aT hn) (λi _=>by simp))
 refine⟨_,.pointer (some ⟨w.heap.size,0,none⟩),_,ρ',?_,Yields.value _,aT,ew,?_,hE⟩
 .simp[execOp,ho,Instr.alloc,xX,newVar,newRow]
 .have:=aj.ptr (ρ:=ρ') (n:=(st.aE none none (some (.cells z 0))).next.toNat) (C:=C) st.next 0 (by simp[St.aE,Pos.aB]);rw[ee]at this;simpa using this
theorem ado(t:TypeId)(x:Operand):cJ P tt (.box t x):=by
 intro ρ C st w k xs cls fr a o vs res ho hc hW hF hx hr;simp only[fO]at hc;split at hc<;>first|(cases hc;done)|skip
 rename_i b hb;cases hc;obtain⟨v,rfl,hv⟩:=eP hb hF hx;simp only[ay.run,MY,H0]at hr;subst hr;have rq:=hv.cells;have hl:v.cells.length=(a.eval x).cells.size:=by simpa using rq.1
 obtain⟨ρ',aT,ee,ew,hE⟩:=tU (w':=w.alloc (.cells (a.eval x).cells t)) (o:= .cells (a.eval x).cells t) (x0:= .cells v.cells 0) (base:=0) (size:=(a.eval x).cells.size) hW none rfl rfl rfl rfl (λρ' n' aT hn=>
   u7 (w':=w.alloc (.cells (a.eval x).cells t)) (e:=t) (fr:=(0,0)) (by show(w.heap.push _)[w.heap.size]? =_;simp) (by omega) (by rw[hl,Zg2 (by simp)];exact rq.mono aT hn) (λi _=>by simp))
 refine⟨_,.pointer (some ⟨w.heap.size,0,none⟩),_,ρ',?_,Yields.value _,aT,ew,?_,hE⟩
 .simp[execOp,ho,Instr.box,newVar,newRow]
 .have:=aj.ptr (ρ:=ρ') (n:=(st.aE none none (some (.cells v.cells 0))).next.toNat) (C:=C) st.next 0 (by simp[St.aE,Pos.aB]);rw[ee]at this;simpa using this
theorem Dz{n:Nat}{z:List AV}{zs:List Value}(h:au ρ n C z zs):∀m,au ρ n C (bK z m) (bK zs m)
 |0=>au.nil
 |m+1=>h.append (Dz h m)
theorem iG{α:Type}(z:List α):∀m,(bK z m).length=m*z.length
 |0=>by simp[bK]
 |m+1=>by simp[bK,iG z m,Zi5,Nat.add_comm]
theorem KT{α:Type}(z:List α):∀(m i:Nat),i<m*z.length->(bK z m)[i]? =z[i % z.length]?
 |0,i,h=>by simp at h
 |m +1,i,h=>by
  simp only[bK];by_cases hi:i<z.length
  .rw[Zc1 hi,Zj6 hi]
  .have hi:z.length<=i:=(by omega);rw[Zc2 hi,KT z m _ (by rw[Zi5]at h;omega)];congr 1;rw[<-Zo3 hi]
theorem SL(z:Array Value)(m:Nat)(hz:0<z.size):((Array.range (m*z.size)).map (z[· % z.size]!)).toList=bK z.toList m:=by
 apply Zi0;intro i;by_cases hi:i<m*z.size
 .rw[KT _ _ _ (by simpa using hi)];have aN:i % z.size<z.size:=Zi1 _ hz;simp[hi,aN]
 .rw[Zb4 (by simp;omega),Zb4 (by rw[iG];simp;omega)]
theorem zl{ρ':Pos->Loc}{b:Pos}{n g len es aJ size:Nat}{cap:Option Nat}(hb:b.toNat<n)(aT:ρ' b=⟨g,0,size⟩)(hl:len<=aJ)(hc:∀c,cap=some c->c=aJ)(hs:aJ*es<=size):
  aj ρ' n C (.slice b 0 len cap es) (.slice (some ⟨g,0,none⟩) len aJ):=
 .slice _ _ _ _ _ _ _ hl hc (λ_=>⟨hb,by rw[aT],by rw[aT];simpa using hs⟩) (λ_=>hb)
theorem Nl{z:List AV}{zv:Value}{n m size:Nat}(rq:au ρ n C z zv.cells.toList)(hl:z.length=size):
   au ρ n C (bK z m) ((Array.range (m*size)).map ((if m*size=0 then(#[]:Array Value)else zv.cells)[· % (if m*size=0 then(#[]:Array Value)else zv.cells).size]!)).toList/\
   ((Array.range (m*size)).map ((if m*size=0 then(#[]:Array Value)else zv.cells)[· % (if m*size=0 then(#[]:Array Value)else zv.cells).size]!)).size=m*size:=by
 refine⟨?_,by simp⟩;by_cases h0:m*size=0
 .have:bK z m=[]:=(by apply Zb1;rw[iG,hl];exact h0);rw[this];have:(Array.range (m*size))= #[]:=(by rw[h0];rfl);rw[this];simpa using(au.nil:au ρ n C [] [])
 . rw[Za3 h0];have VY:zv.cells.size=size:=(by have:=rq.1;simp at this;omega);have Xx:0<zv.cells.size:=by
    rw[VY];rcases Zo4 size with h|h
    .rw[h]at h0;simp at h0
    .exact h
   have:=SL zv.cells m Xx;rw[VY]at this ⊢;rw[this];exact Dz rq m
theorem adp{k:IntKind}{i:Int}(h1:Qk k<=i)(h2:i<=Ql k):k.wrap i=i:=by
 rw[<-ri];unfold aq;split
 . split
   .rfl
   .exact absurd h2 (by assumption)
 .exact absurd h1 (by assumption)
theorem SM{j:Nat}(h:j<=9223372036854775807):IntKind.i64.wrap (j:Int)=(j:Int):=adp (by simp only[Qk];omega) (by simp only[Ql];omega)
theorem Vr(hT:bM P tt)(t:TypeId)(l c:Operand):cJ P tt (.makeSlice t l c):=by
 intro ρ C st w k xs cls fr a o vs res ho hc hW hF hx hr;simp only[fO]at hc;split at hc<;>first|(cases hc;done)|skip
 rename_i ti l0 cF hl;split at hc<;>first|(cases hc;done)|skip
 rename_i e hk;split at hc<;>first|(cases hc;done)|skip
 rename_i te fc;split at hc<;>first|(cases hc;done)|skip
 rename_i z hz;cases hc;obtain⟨d,hd,bU⟩:=(hT.at cF).und;rw[hk]at bU;rw[lY bU]at hd;obtain⟨i0,lF,kz,hib,xW⟩:=(hT.at fc).info;obtain⟨u,v,rfl,h1,h2⟩:=OZ hl hF hx;simp only[ay.run,vO]at hr;split at hr<;>first|(cases hr;done)|skip
 rename_i jl jc hjl hjc;split at hr<;>first|(cases hr;done)|skip
 rename_i e1 e2 e3;have e1:=Za4 e1;have e2:=Za4 e2;have e3:=Za4 e3;simp only[H0]at hr;subst hr;obtain⟨kl,dh⟩:=jt h1 hjl;obtain⟨kc,VZ⟩:=jt h2 hjc;obtain⟨zv0,hzv0,_,Nm,_⟩:=xW z hz;obtain⟨zv,xX,_,rq⟩:=rj hT fc hz (ρ:=ρ) (n:=st.next.toNat) (C:=C) w;obtain⟨Iu,O3⟩:=Nl (m:=jc) rq Nm;generalize DA:(Array.range (jc*te.size)).map ((if jc*te.size=0 then(#[]:Array Value)else zv.cells)[· % (if jc*te.size=0 then(#[]:Array Value)else zv.cells).size]!)=row at Iu O3;obtain⟨ρ',aT,ee,ew,hE⟩:=tU (w':=w.alloc (.cells row e)) (o:= .cells row e) (x0:= .cells (bK z jc) 0) (base:=0) (size:=row.size) hW none rfl rfl rfl rfl (λρ' n' aT hn=>
   u7 (w':=w.alloc (.cells row e)) (e:=e) (fr:=(0,0)) (by show(w.heap.push _)[w.heap.size]? =_;simp) (by rw[iG,O3,Nm];exact Za5 _)
    (by rw[iG,Nm, <-O3, <-Zf4,Zi4];exact Iu.mono aT hn) (λi _=>by simp))
 refine⟨_,.slice (some ⟨w.heap.size,0,none⟩) jl jc,_,ρ',?_,Yields.value _,aT,ew,?_,hE⟩
 . have cX:=SM (Zc8 e1 e3);have nZ:=SM e3;have hb:¬((te.bytes:Int)*(jc:Int)>2 ^ 48):=(by have h:=Int.ofNat_le.2 e2;rw[Int.natCast_mul]at h;exact Int.not_lt.2 h);have bN:(Instr.makeSlice t (.int kl jl) (.int kc jc)).run P w= .ok (.slice (some ⟨w.heap.size,0,none⟩) jl jc) (w.alloc (.cells row e)):=by
    unfold Instr.makeSlice;simp only[Sem.run_bind,aL hd,Result.andThen_ok,asInt,asIntOf,Sem.run_pure,SC lF,cX,nZ,hib];have ae3:¬((decide ((jc:Int)<0)||decide ((te.bytes:Int)*(jc:Int)>2 ^ 48)||decide ((jl:Int)<0)||decide ((jl:Int)>(jc:Int)))=true):=by
        simp only[Zh0,Zd7];rintro(((h|h)|h)|h)
        .omega
        .exact hb h
        .omega
        .omega
    rw[Za3 ae3];simp only[Sem.run_bind,run_askRoom,Result.andThen_ok,gY lF,kz,Int.toNat_natCast];rw[<-DA];by_cases h0:jc*te.size=0
    .   simp only[h0,Zg3,Sem.run_bind,Sem.run_pure,Result.andThen_ok,newRow,run_newObj,World.alloc_eq]
    .   simp only[h0,Zf7,Sem.run_bind,Sem.run_pure,Result.andThen_ok,xX,newRow,run_newObj,World.alloc_eq]
   simp[execOp,ho,dh,VZ,bN]
 .exact zl (by simp[St.aE,Pos.aB]) ee e1 (λc hc=>by cases hc;rfl) (by rw[O3];exact Za5 _)
theorem O4(hT:bM P tt)(t:TypeId)(len:Nat)(ps:Array (Nat×Operand)):cJ P tt (.buildSlice t len ps):=by
 intro ρ C st w k xs cls fr a o vs res ho hc hW hF hx hr;simp only[fO]at hc;split at hc<;>first|(cases hc;done)|skip
 rename_i ti l0 cF hl;split at hc<;>first|(cases hc;done)|skip
 rename_i e hk;split at hc<;>first|(cases hc;done)|skip
 rename_i te fc;split at hc<;>first|(cases hc;done)|skip
 rename_i z hz hlim;have hlim:=Za4 hlim;cases hc;obtain⟨d,hd,bU⟩:=(hT.at cF).und;rw[hk]at bU;rw[lY bU]at hd;obtain⟨i0,lF,kz,hib,xW⟩:=(hT.at fc).info;have hv:=dM hl hF hx;simp only[ay.run,pW]at hr;split at hr<;>first|(cases hr;done)|skip
 rename_i cs AQ;simp only[H0]at hr;subst hr;obtain⟨zv0,hzv0,_,Nm,_⟩:=xW z hz;obtain⟨zv,xX,_,rq⟩:=rj hT fc hz (ρ:=ρ) (n:=st.next.toNat) (C:=C) w;obtain⟨Iu,O3⟩:=Nl (m:=len) rq Nm;generalize DA:(Array.range (len*te.size)).map ((if len*te.size=0 then(#[]:Array Value)else zv.cells)[· % (if len*te.size=0 then(#[]:Array Value)else zv.cells).size]!)=row at Iu O3;have VX:(ps.map λ(i,x)=>(i,a.eval x)).toList=ps.toList.map λx=>(x.1,a.eval x.2):=by simp
 obtain⟨lH,e1,e2⟩:=LU (λi=>some (i*te.size,te.size)) AQ Iu (ps:=ps.toList.map λx=>(x.1,a.eval x.2)) (by simpa [Zg1,Zj2]using hv) (by simp[Zg1,Zj2]);have hlen:cs.length=lH.size:=by simpa using e2.1
 have ae4:∀{pp:List (Nat×Nat)}{vs cells r:List AV},bY cells pp vs=some r->r.length=cells.length:=by
   intro pp;induction pp with
   |nil=>intro vs cells r h;unfold bY at h;split at h<;>first|(cases h;done)|(simp only[H0]at h;subst h;rfl)|(rename_i hh;cases hh)
   |cons p pp ih=>
    intro vs cells r h;unfold bY at h;(split at h<;>first|(cases h;done)|(rename_i hh;cases hh;done)|skip);rename_i hh;simp only[Zf8]at hh;obtain⟨rfl,rfl⟩:=hh;(split at h<;>first|(cases h;done)|skip);rename_i g1 g2;have g1:=Za2 g1;have g2:=Za4 g2;rw[ih h];simp[aH];omega
 have hcsl:=ae4 AQ;rw[iG,Nm]at hcsl;obtain⟨ρ',aT,ee,ew,hE⟩:=tU (w':=w.alloc (.cells lH e)) (o:= .cells lH e) (x0:= .cells cs 0) (base:=0) (size:=lH.size) hW none rfl rfl rfl rfl (λρ' n' aT hn=>
   u7 (w':=w.alloc (.cells lH e)) (e:=e) (fr:=(0,0)) (by show(w.heap.push _)[w.heap.size]? =_;simp) (by omega)
    (by rw[hlen, <-Zf4,Zi4];exact e2.mono aT hn) (λi _=>by simp))
 refine⟨_,.slice (some ⟨w.heap.size,0,none⟩) len len,_,ρ',?_,Yields.value _,aT,ew,?_,hE⟩
 . have bN:(Instr.buildSlice t len (ps.map λ(i,x)=>(i,a.eval x))).run P w= .ok (.slice (some ⟨w.heap.size,0,none⟩) len len) (w.alloc (.cells lH e)):=by
    unfold Instr.buildSlice;simp only[Sem.run_bind,aL hd,Result.andThen_ok,gY lF,kz];rw[Za3 (by omega)];by_cases h0:len*te.size=0
    .   simp only[h0,Zg3,Sem.run_bind,Sem.run_pure,Result.andThen_ok];simp only[h0,Zg3]at DA;rw[DA,VX,e1];simp only[newRow,Sem.run_bind,run_newObj,World.alloc_eq,Result.andThen_ok,Sem.run_pure]
    .   simp only[h0,Zf7,Sem.run_bind,Sem.run_pure,Result.andThen_ok,xX];simp only[h0,Zf7]at DA;rw[DA,VX,e1];simp only[newRow,Sem.run_bind,run_newObj,World.alloc_eq,Result.andThen_ok,Sem.run_pure]
   simp only[execOp,ho,Sem.run_bind];rw[bN];rfl
 .exact zl (by simp[St.aE,Pos.aB]) ee (Za5 _) (λc hc=>by cases hc;rfl) (by omega)
theorem Zq(t:TypeId)(r:Option Operand)(hT:bM P tt):cJ P tt (.makeMap t r):=by
 intro ρ C st w k xs cls fr a o vs res ho hc hW hF hx hr;have key:k= .mkMap/\(execOp a.eval o).run P w= .ok (.value (.map (some w.heap.size))) (w.alloc (.map #[] 0)):=by
  simp only[fO]at hc;split at hc<;>first|(cases hc;done)|skip
  rename_i ti cF;obtain⟨d,hd,bU⟩:=(hT.at cF).und;split at hc<;>first|(cases hc;done)|skip
  .cases hc;exact⟨rfl,by simp[execOp,ho,Instr.makeMap]⟩
  .rename_i hk;rw[hk]at bU;rw[Ip bU]at hd;cases hc;exact⟨rfl,by simp[execOp,ho,Instr.makeMap,aL hd,Act.eval,asInt,asIntOf]⟩
 obtain⟨rfl,bN⟩:=key;simp only[ay.run,Fv,H0]at hr;subst hr;obtain⟨ρ',aT,ee,ew,hE⟩:=tU (w':=w.alloc (.map #[] 0)) (o:= .map #[] 0) (x0:= .map [] 0) (base:=0) (size:=0) hW none rfl rfl rfl rfl (λρ' n' aT hn=>
  ⟨#[],by show(w.heap.push _)[w.heap.size]? =_;simp,rfl,λi e e' h=>by simp at h⟩)
 refine⟨_,_,_,ρ',bN,Yields.value _,aT,ew,?_,hE⟩;have:=aj.map (ρ:=ρ') (n:=(st.aE none none (some (.map [] 0))).next.toNat) (C:=C) st.next (by simp[St.aE,Pos.aB]);rw[ee]at this;exact this
theorem Xy(hT:bM P tt)(t:TypeId)(x:Operand):cJ P tt (.range t x):=by
 intro ρ C st w k xs cls fr a o vs res ho hc hW hF hx hr;simp only[fO]at hc;split at hc<;>first|(cases hc;done)|skip
 rename_i ti b cF hb;split at hc<;>first|(cases hc;done)|skip
 rename_i hk;cases hc;obtain⟨d,hd,bU⟩:=(hT.at cF).und;rw[hk]at bU;rw[lC bU]at hd;obtain⟨v,rfl,hv⟩:=eP hb hF hx;simp only[ay.run,CN]at hr;split at hr<;>first|(cases hr;done)|skip
 rename_i s;simp only[H0]at hr;subst hr;obtain⟨bs,he,hs⟩:=hv.dX;obtain⟨ρ',aT,ee,ew,hE⟩:=tU (w':=w.alloc (.stringIter bs 0)) (o:= .stringIter bs 0) (x0:= .jq s 0) (base:=0) (size:=0) hW none rfl rfl rfl rfl (λρ' n' aT hn=>
   ⟨bs,by show(w.heap.push _)[w.heap.size]? =_;simp,hs,rfl⟩)
 refine⟨_,.pointer (some ⟨w.heap.size,0,none⟩),_,ρ',?_,Yields.value _,aT,ew,?_,hE⟩
 .simp[execOp,ho,he,Instr.range,aL hd]
 .have:=aj.ptr (ρ:=ρ') (n:=(st.aE none none (some (.jq s 0))).next.toNat) (C:=C) st.next 0 (by simp[St.aE,Pos.aB]);rw[ee]at this;simpa using this
theorem RI(hT:bM P tt)(src dst:TypeId)(x:Operand)(hb:∃xs cls,fO tt (.convert src dst x)=some (.conv .bytes,xs,cls)):cJ P tt (.convert src dst x):=by
 intro ρ C st w k xs cls fr a o vs res ho hc hW hF hx hr;obtain⟨_,_,iX⟩:=hb;rw[hc]at iX;simp only[H0,Zb3]at iX;obtain⟨rfl,_⟩:=iX;simp only[fO]at hc;split at hc<;>first|(cases hc;done)|skip
 rename_i s d b hs hd hb;obtain⟨ds,sS,Al⟩:=(hT.at hs).und;obtain⟨dd,hdd,bU⟩:=(hT.at hd).und;split at hc<;>first|(cases hc;done)|skip
 . rename_i e h1 h2;(split at hc<;>first|(cases hc;done)|skip);rename_i te fc;(split at hc<;>first|(cases hc;done)|skip);rename_i Zk;cases hc;rw[h1]at Al;rw[h2]at bU;rw[lC Al]at sS;rw[lY bU]at hdd;obtain⟨de,Zl,Zm⟩:=(hT.at fc).und;rw[Zk]at Zm;rw[Ei Zm]at Zl;obtain⟨v,rfl,hv⟩:=eP hb hF hx;simp only[ay.run,uV]at hr;split at hr<;>first|(cases hr;done)|(rename_i heq;cases heq;done)|(rename_i heq;cases heq)
   (rename_i u;simp only[H0]at hr;subst hr;obtain⟨bs,he,hs⟩:=hv.dX;have bN:=run_bytes_of_string (P:=P) w src dst e bs sS hdd Zl;have O0:bs.size<=grownCap w bs.size 0 e:=(by unfold grownCap Question.cut;exact Zm7 _ _);generalize grownCap w bs.size 0 e=cap at bN O0;have eW:(bytesRow bs cap).size=cap:=by have:bs.data.size=bs.size:=rfl;simp[bytesRow,this];omega);have hul:u.length=bs.size:=(uI hs).symm;have hrel:∀ρ' n',au ρ' n' C (u.map λc=>AV.int .u8 (.ofNat c)) ((bytesRow bs cap).toList.take (u.map λc=>AV.int .u8 (.ofNat c)).length):=by
     (intro ρ' n';have h1:(bytesRow bs cap).toList.take (u.map λc=>AV.int .u8 (.ofNat c)).length=u.map λc=>Value.int .u8 (.ofNat c):=by have hdl:bs.data.toList.length=bs.size:=(by simp);rw[Za9,hul];simp only[bytesRow,Array.toList_append,Zp3];rw[Zk2 (by simp), <-hs,Zg1];rfl);rw[h1];refine⟨by simp,λi v x hv hx=> ?_⟩;simp only[Zb8,Zd4]at hv hx;obtain⟨c,hc,rfl⟩:=hv;obtain⟨c',tV,rfl⟩:=hx;rw[hc]at tV;cases tV;exact .int _ _
   obtain⟨ρ',aT,ee,ew,hE⟩:=tU (w':=w.drew.alloc (.cells (bytesRow bs cap) e ((bytesRow bs cap).size,(bytesRow bs cap).size+1))) (o:= .cells (bytesRow bs cap) e ((bytesRow bs cap).size,(bytesRow bs cap).size+1))
     (x0:= .cells (u.map λc=>AV.int .u8 (.ofNat c)) 0) (base:=0) (size:=(bytesRow bs cap).size) hW none rfl rfl rfl rfl (λρ' n' aT hn=>
     u7 (e:=e) (fr:=((bytesRow bs cap).size,(bytesRow bs cap).size+1)) (by show(w.heap.push _)[w.heap.size]? =_;simp) (by rw[Za9,hul,eW];exact O0) (hrel _ _) (λi hi=>by simp;omega))
   refine⟨_,.slice (some ⟨w.heap.size,0,none⟩) u.length cap,_,ρ',?_,Yields.value _,aT,ew,?_,hE⟩
   .simp only[execOp,ho,he,Sem.run_bind];rw[bN,hul];rfl
   .exact zl (by simp[St.aE,Pos.aB]) ee (by omega) (λc hc=>by cases hc) (by omega)
 all_goals
   repeat' split at hc
   all_goals (cases hc;done)
end
section
variable{P:Program}{tt:TT}{ρ:Pos->Loc}{C:Cells}{st:St}{w w':World}
theorem vW{n:Nat}:∀{l:List AV}{ys:List Value},aS l=true->au ρ n C l ys->∀y∈ys,y.oneCell'=true
 |[],ys,_,h=>by have:=h.mL;subst this;simp
 |v::l,ys,h1,h=>by
  unfold aS at h1;split at h1<;>first|(cases h1;done)|skip
  rename_i ho;obtain⟨y,ys',rfl,hv,hs⟩:=h.cons_inv;intro z hz;simp at hz;rcases hz with rfl|hz
  .cases hv<;>first|rfl|(simp[AV.one]at ho;done)
  .exact vW h1 hs z hz
theorem AR{α:Type}(l:List α){i:Nat}(vs:List α)(hi:i<=l.length)(k:Nat):(aH l i vs)[k]? =if k<i then l[k]? else if k<i+vs.length then vs[k - i]? else l[k]? :=by
 unfold aH;have hl:(l.take i).length=i:=by simp;omega
 split
 .rename_i h;rw[Zc1 (by omega),Zc0,Za6 h]
 . rename_i h;rw[Zc2 (by omega),hl];split
   .rename_i h';rw[Zc1 (by omega)]
   .rename_i h';rw[Zc2 (by omega),Zc6];congr 1;omega
theorem DB{α:Type}(l:List α)(b off:Nat)(vs:List α)(h:b+off<=l.length):(aH l (b+off) vs).drop b=aH (l.drop b) off vs:=by
 apply Zi0;intro k;rw[Zc6,AR l vs h,AR (l.drop b) vs (by simp;omega),Zc6];by_cases h1:k<off
 .rw[Za6 (by omega),Za6 h1]
 . rw[Za3 (by omega),Za3 h1];by_cases h2:k<off+vs.length
   .rw[Za6 (by omega),Za6 h2];congr 1;omega
   .rw[Za3 (by omega),Za3 h2]
theorem KU{α:Type}(l:List α)(off m:Nat)(vs:List α)(h:off+vs.length<=m)(h':m<=l.length):(aH l off vs).take m=aH (l.take m) off vs:=by
 apply Zi0;intro k;rw[Zc0,AR l vs (by omega),AR (l.take m) vs (by simp;omega),Zc0];by_cases h1:k<off
 .rw[Za6 (by omega),Za6 h1,Za6 h1,Za6 (by omega)]
 . by_cases h2:k<off+vs.length
   .rw[Za6 (by omega),Za3 h1,Za6 h2,Za3 h1,Za6 h2]
   .rw[Za3 h1,Za3 h2,Za3 h1,Za3 h2]
theorem FG(hW:aX ρ C st w){b:Pos}{cs vs:List AV}{fz off:Nat}{ys:List Value}(hb:st.heap.get b=some (.cells cs fz))(hle:off+vs.length<=cs.length)(YW:fz<=off)
   (h1:aS vs=true) (hv:au ρ st.next.toNat C vs ys):
   ∃w',(storeCells ⟨(ρ b).av,(ρ b).base+off,none⟩ ys).run P w= .ok () w'/\aX ρ C (st.aE none (some (b,.cells (aH cs off vs) fz)) none) w'/\jN ρ st w ρ (st.aE none (some (b,.cells (aH cs off vs) fz)) none) w':=by
 obtain⟨_,_,c,e,fr,g1,g2,g3,g4,g5⟩:=hW.live b _ hb;have hl:vs.length=ys.length:=hv.1;obtain⟨w',e1,e2,e3,e4,e5,e6,e7⟩:=jZ (P:=P) (ρ b).av e fr ys 0 ((ρ b).base+off) c w g1 (by omega) (vW h1 hv) (λk hk kH=>by
   have:=g5 (k - (ρ b).base) (by omega) (by omega)
   rwa [show(ρ b).base+(k - (ρ b).base)=k from by omega]at this)
 simp only[Zg6]at e1 e2;refine⟨w',e1,?_⟩;have hlen:(aH cs off vs).length=cs.length:=by simp[aH];omega
 refine Nk hW hb e5 e6 e7 e3 e4 ⟨_,e,fr,e2,?_,?_,?_,λi hi Ho=>g5 i hi ?_⟩
 .simp[aH];omega
 .rw[hlen];simp[aH];omega
 .rw[hlen];rw[DB _ _ _ _ (by simp;omega),KU _ _ _ _ (by omega) (by simp;omega)];exact g4.aH hv off
 .simp[aH]at Ho;omega
theorem Zr(hW:aX ρ C st w){b:Pos}{cs vs:List AV}{t:TypeId}{off:Nat}{ys:List Value}(hb:st.heap.get b=some (.typed t cs))(hle:off+vs.length<=cs.length)
   (h1:aS vs=true) (hv:au ρ st.next.toNat C vs ys):
   ∃w',(storeCells ⟨(ρ b).av,(ρ b).base+off,none⟩ ys).run P w= .ok () w'/\aX ρ C (st.aE none (some (b,.typed t (aH cs off vs))) none) w'/\jN ρ st w ρ (st.aE none (some (b,.typed t (aH cs off vs))) none) w':=by
 obtain⟨_,_,c,fr,g1,g2,g3,g4,g5,g6⟩:=hW.live b _ hb;have hl:vs.length=ys.length:=hv.1;obtain⟨w',e1,e2,e3,e4,e5,e6,e7⟩:=jZ (P:=P) (ρ b).av t fr ys 0 ((ρ b).base+off) c w g1 (by omega) (vW h1 hv) (λk hk kH=>by
   have:=g5 (k - (ρ b).base) (by omega) (by omega)
   rwa [show(ρ b).base+(k - (ρ b).base)=k from by omega]at this)
 simp only[Zg6]at e1 e2;refine⟨w',e1,?_⟩;have hlen:(aH cs off vs).length=cs.length:=by simp[aH];omega
 refine Nk hW hb e5 e6 e7 e3 e4 ⟨_,fr,e2,?_,?_,?_,λi hi Ho=>g5 i hi ?_,g6⟩
 .simp[aH];omega
 .rw[hlen];simp[aH];omega
 .rw[hlen];rw[DB _ _ _ _ (by simp;omega),KU _ _ _ _ (by omega) (by simp;omega)];exact g4.aH hv off
 .simp[aH]at Ho;omega
theorem aj.uK{n:Nat}:aj ρ n C .undef undef:= .tuple [] #[] rfl (λ_ _ _ h=>by simp at h)
theorem Zs(hT:bM P tt)(t:TypeId)(x y:Operand):cJ P tt (.store t x y):=by
 intro ρ C st w k xs cls fr a o vs res ho hc hW hF hx hr;simp only[fO]at hc;split at hc<;>first|(cases hc;done)|skip
 rename_i ti l cF hl;cases hc;obtain⟨p,v,rfl,h1,h2⟩:=OZ hl hF hx;obtain⟨i0,lF,kz,_⟩:=(hT.at cF).info;simp only[ay.run,Bi]at hr;split at hr<;>first|(cases hr;done)|skip
 rename_i b off;split at hr<;>first|(cases hr;done)|skip
 rotate_left
 .rename_i t0 cs hb;(split at hr<;>first|(cases hr;done)|skip);rename_i e1 e2 e4;have e1:=Za2 e1;have e2:=Za4 e2;simp only[H0]at hr;subst hr;obtain⟨_,he⟩:=h1.eG;have hc:=h2.cells;obtain⟨w',bN,ew,hE⟩:=Zr (P:=P) (vs:=v.cells) (off:=off) hW hb (by omega) e4 hc;refine⟨.skip,undef,w',ρ,?_,.inr ⟨rfl,rfl⟩,λ_ _=>rfl,ew,aj.uK,hE⟩;have eW:(a.eval y).cells.size=ti.size:=(by have:=hc.1;simp at this;omega);simp[execOp,ho,he,Instr.storeAt,Instr.sureAddr,storeVar,gY lF,kz,eW,bN]
 rename_i cs fz hb;split at hr<;>first|(cases hr;done)|skip
 rename_i e1 e2 e3 e4;have e1:=Za2 e1;have e2:=Za4 e2;have e3:=Za4 e3;simp only[H0]at hr;subst hr;obtain⟨_,he⟩:=h1.eG;have hc:=h2.cells;obtain⟨w',bN,ew,hE⟩:=FG (P:=P) hW hb (by omega) e3 e4 hc;refine⟨.skip,undef,w',ρ,?_,.inr ⟨rfl,rfl⟩,λ_ _=>rfl,ew,aj.uK,hE⟩;have eW:(a.eval y).cells.size=ti.size:=by have:=hc.1;simp at this;omega
 simp[execOp,ho,he,Instr.storeAt,Instr.sureAddr,storeVar,gY lF,kz,eW,bN]
theorem run_setObj_map{r:Nat}{es:Array MapEntry}{c:Nat}{o:Obj}{w:World}(h:w.heap[r]? =some (.map es c)):(setObj r o).run P w= .ok () { w with heap:=w.heap.setIfInBounds r o }:=by
 simp[setObj,Sem.run,h]
theorem Nn(hW:aX ρ C st w){b:Pos}{es:List (AV×AV×Nat)}{clock:Nat}(hb:st.heap.get b=some (.map es clock)){Hp:List (AV×AV×Nat)}{Xz:Array MapEntry}{Er:Nat}
  (hE:CW ρ st.next.toNat C Hp Xz.toList):
  aX ρ C (st.aE none (some (b,.map Hp Er)) none) { w with heap:=w.heap.setIfInBounds (ρ b).av (.map Xz Er) }/\jN ρ st w ρ (st.aE none (some (b,.map Hp Er)) none) { w with heap:=w.heap.setIfInBounds (ρ b).av (.map Xz Er) }:=by
 have aN:=(hW.live b _ hb).2.1;refine Nk hW hb rfl rfl rfl (by simp) (λk hk=>by simp[Ze1 (Ne.symm hk)]) ⟨Xz,by simp[aN],by simpa using hE.1,λi e e' h1 h2=>hE.2 i e e' h1 (by simpa using h2)⟩
theorem LV{n:Nat}{pk:PK}{u v:AV}{x y:Value}(h1:aj ρ n C u x)(h2:aj ρ n C v y)(h:yo pk u v=some true)(m:Nat):Instr.sameBits m y x=true:=by
 unfold yo at h;split at h<;>first|(cases h;done)|skip
 .simp only[H0]at h;rw[h1.gG,h2.gG];rename_i p q;have:p=q:=(by simpa using h);subst this;cases m<;>simp[Instr.sameBits]
 . (split at h<;>first|(cases h;done)|skip);rename_i Ak;have:=u0 Ak;subst this;simp only[H0,kj]at h;rw[h1.iq,h2.iq];rename_i p q _;have:p=q:=(by simpa using h);subst this;cases m<;>simp[Instr.sameBits]
 .simp only[H0]at h;obtain⟨bx,rfl,e1⟩:=h1.dX;obtain⟨bz,rfl,e2⟩:=h2.dX;have:bz==bx:=(by rw[beq_toListBytes,El e2 e1,kD];exact(kD.1 h).symm);cases m<;>simpa [Instr.sameBits]using this
theorem Qu{pk:PK}{u:AV}:∀{es:List (AV×AV×Nat)}{i j:Nat}{v:AV},jr pk u es i=some (some (j,v))->∃e,i<=j/\es[j - i]? =some e/\yo pk u e.1=some true
 |[],i,j,v,h=>by simp[jr]at h
 |(k',v',born)::es,i,j,v,h=>by
  unfold jr at h;split at h<;>first|(cases h;done)|skip
  .rename_i hq;simp only[H0,Zb3]at h;obtain⟨rfl,_⟩:=h;exact⟨(k',v',born),Za5 _,by simp,hq⟩
  .obtain⟨e,h1,h2,h3⟩:=Qu h;refine⟨e,by omega,?_,h3⟩;rw[show j - i=(j - (i+1))+1 from by omega];simpa using h2
theorem Iv(k v:AV):∀(es:List (AV×AV×Nat))(i j:Nat),(nk k v es i)[j]? =if j=i then(es[i]?).map (λe=>(k,v,e.2.2))else es[j]?
 |[],i,j=>by cases i<;>cases j<;>simp[nk]
 |(a,b,born)::es,0,j=>by cases j<;>simp[nk]
 |e::es,i+1,j=>by
  cases j with
  |zero=>simp[nk]
  |succ j=>simp[nk,Iv k v es i j]
theorem Np (hT:bM P tt)(op:Op)(t:TypeId)(m k0 v0:Operand)(hop:op= .mapUpdate t m k0 v0\/op= .insert t m k0 v0):cJ P tt op:=by
 intro ρ C st w k xs cls fr a o vs res ho hc hW hF hx hr;have hc:fO.Xn tt t m k0 v0=some (k,xs,cls):=by rcases hop with rfl|rfl<;>simpa only[fO]using hc
 have hex:(execOp a.eval o).run P w=((Instr.mapUpdate t (a.eval m) (a.eval k0) (a.eval v0)).run P w).andThen λ_ w=>.ok .skip w:=by
   rcases hop with rfl|rfl<;>simp[execOp,ho]
 unfold fO.Xn at hc;split at hc<;>first|(cases hc;done)|skip
 rename_i ti l cF hl;split at hc<;>first|(cases hc;done)|skip
 rename_i kt et hk;split at hc<;>first|(cases hc;done)|skip
 rename_i tk Hi;obtain⟨d,hd,bU⟩:=(hT.at cF).und;rw[hk]at bU;rw[Ip bU]at hd;obtain⟨dk,Qr,Ak⟩:=(hT.at Hi).und;have key:∃pk,k= .mapSet pk/\xs=l/\pk.fits dk=true:=by
   split at hc<;>first|(cases hc;done)|skip
   all_goals
     rename_i h1;cases hc;refine⟨_,rfl,rfl,ac0 tk.k Ak ?_⟩
   .exact .inr (.inl ⟨⟨_,h1⟩,rfl⟩)
   .exact .inr (.inr ⟨h1,rfl⟩)
   .exact .inl ⟨h1,rfl⟩
 obtain⟨pk,rfl,rfl,Dx⟩:=key;obtain⟨mm,kk,vv,rfl,h1,h2,h3⟩:=evs3 hl hF hx;have Hj:∀e w,(Instr.checkKey e 10000 kt (a.eval k0)).run P w= .ok () w:=λe w=>Eo Qr Dx e 9999 _ w
 simp only[ay.run,uX]at hr;split at hr<;>first|(cases hr;done)|skip
 rename_i b;split at hr<;>first|(cases hr;done)|skip
 rename_i es clock hb;obtain⟨_,he⟩:=h1.u5;obtain⟨_,_,es',dc,hlen,cG⟩:=hW.live _ _ hb;have hE:CW ρ st.next.toNat C es es'.toList:=⟨by simpa using hlen,λi e e' h1 h2=>cG i e e' h1 (by simpa using h2)⟩
 split at hr<;>first|(cases hr;done)|skip
 . rename_i i v hpk hf;simp only[H0]at hr;subst hr;obtain⟨r',Zt,pZ⟩:=zk Dx h2 hE hf;rcases pZ with⟨e1,_⟩|⟨j',v',y,e1,e2,e3,_,e5⟩
   .cases e1
   . cases  e1;subst e2;obtain⟨e,_,hei,hek⟩:=Qu hf;rw[Zo1]at hei;have hi:i<es'.size:=(by omega);have XA:es'[i]? =some es'[i]:=Zf1 hi;have hkey:=(cG i e es'[i] hei XA).1;have hsb:=LV h2 hkey hek 10000;have Zu  :CW ρ st.next.toNat C (nk kk vv es i) (es'.modify i λe=>{ e with key:=a.eval k0,val:=a.eval v0 }).toList:=by
        refine⟨?_,λj e e' g1 g2=> ?_⟩
        . have KV:∀(es:List (AV×AV×Nat))(i:Nat),(nk kk vv es i).length=es.length:=by
            intro es;induction es with
            |nil=>intro i;cases i<;>rfl
            | cons e es ih=>intro i;cases i with
              |zero=>obtain⟨a,b,c⟩:=e;rfl
              |succ i=>simp[nk,ih i]
          rw[KV];simpa using hlen
        . rw[Iv]at g1;simp only[Zg4,Zm5]at g2;by_cases hji:j=i
          .subst hji;rw[Za6 rfl,hei]at g1;simp[XA]at g1 g2;subst g1;subst g2;exact⟨h2,h3,(cG j e es'[j] hei XA).2.2⟩
          .rw[Za3 hji]at g1;rw[Za3 (λe=>hji e.symm)]at g2;exact cG j e e' g1 g2
     obtain⟨ew,Zv⟩:=Nn hW hb (Er:=clock) Zu;refine⟨.skip,undef,_,ρ,?_,.inr ⟨rfl,rfl⟩,λ_ _=>rfl,ew,aj.uK,Zv⟩;rw[hex];simp only[Instr.mapUpdate,Sem.run_bind,aL hd,Result.andThen_ok,he,run_getObj_map dc,Hj,run_findKey Qr Zt,XA,Ze7,Zj5,Instr.keyThatStays,hsb,Zg3,Sem.run_pure,run_setObj_map dc]
 . rename_i hpk hf;simp only[H0]at hr;subst hr;obtain⟨r',Zt,pZ⟩:=zk Dx h2 hE hf;rcases pZ with⟨_,e2⟩|⟨j',v',y,e1,_⟩
   . subst  e2;have Zu:CW ρ st.next.toNat C (es++[(kk,vv,clock)]) (es'.push { key:=a.eval k0,val:=a.eval v0,born:=clock }).toList:=by
        refine⟨by simp[hlen],λj e e' g1 g2=> ?_⟩;simp only[Array.toList_push]at g2;rcases Zh8 j es.length with hj|hj
        .rw[Zc1 hj]at g1;rw[Zc1 (by simp;omega)]at g2;exact cG j e e' g1 (by simpa using g2)
        .rw[Zc2 hj]at g1;rw[Zc2 (by simp;omega)]at g2;have:j - es.length=0:=(by have:=(Za0.1 g1).1;simp at this;omega);rw[this]at g1;have:j - es'.toList.length=0:=(by simp;omega);rw[this]at g2;simp at g1 g2;subst g1;subst g2;exact⟨h2,h3,rfl⟩
     obtain⟨ew,Zv⟩:=Nn hW hb (Er:=clock+1) Zu;refine⟨.skip,undef,_,ρ,?_,.inr ⟨rfl,rfl⟩,λ_ _=>rfl,ew,aj.uK,Zv⟩;rw[hex];simp only[Instr.mapUpdate,Sem.run_bind,aL hd,Result.andThen_ok,he,run_getObj_map dc,Hj,run_findKey Qr Zt,run_setObj_map dc]
   .cases e1
theorem Zw(it:Operand)(isS:Bool):cJ P tt (.next it isS):=by
 intro ρ C st w k xs cls fr a o vs res ho hc hW hF hx hr;simp only[fO]at hc;split at hc<;>first|(cases hc;done)|skip
 rename_i b hb;cases hc;obtain⟨v,rfl,hv⟩:=eP hb hF hx;simp only[ay.run,Fw]at hr;split at hr<;>first|(cases hr;done)|skip
 rename_i bb;split at hr<;>first|(cases hr;done)|skip
 rename_i s pos j5;obtain⟨_,he⟩:=hv.eG;obtain⟨_,_,bs,Hh,hs,R7⟩:=hW.live _ _ j5;have eW:=uI hs;have qq:(getObj (ρ bb).av).run P w= .ok (.stringIter bs pos) w:=by simp[getObj,Sem.run,Hh]
 rw[R7]at he;split at hr
 . (rename_i aN;have aN:pos<s.length:=(by simpa using aN);(split at hr<;>first|(cases hr;done)|skip);rename_i c wd LW;simp only[H0]at hr;subst hr;have Bn:pos<bs.size:=(by omega);unfold VR at LW;(split at LW<;>first|(cases LW;done)|skip);rename_i c' tV;(split at LW<;>first|(cases LW;done)|skip);rename_i abg;simp only[H0,Zb3]at LW;obtain⟨rfl,rfl⟩:=LW;have abg:c'<128:=(by simpa using abg);have hcb:(bs[pos]'Bn).toNat=c':=by rw[kV, <-hs,Zb8]at tV;obtain⟨b',Hq,Hr⟩:=Zd4.1 tV;obtain⟨hl,hbb'⟩:=Za0.1 Hq;rw[<-Hr, <-hbb'];rfl);have V0:=decode_ascii bs pos Bn (by rw[hcb];exact abg);rw[hcb]at V0;have FH:(setObj (ρ bb).av (.stringIter bs (pos+1))).run P w= .ok () { w with heap:=w.heap.setIfInBounds (ρ bb).av (.stringIter bs (pos+1)) }:=(by simp[setObj,Sem.run,Hh]);have hltb:=(hW.live _ _ j5).2.1
   obtain⟨ew,Zv⟩:=Nk (w':={ w with heap:=w.heap.setIfInBounds (ρ bb).av (.stringIter bs (pos+1)) }) (x0:= .jq s (pos+1)) hW j5 rfl rfl rfl (by simp)
     (λk hk=>by simp[Ze1 (Ne.symm hk)]) ⟨bs,by simp[hltb],hs,R7⟩
   refine⟨.value (.tuple #[.bool true,goInt pos,.int .i32 (c':Int)]),_,_,ρ,?_,Yields.value _,λ_ _=>rfl,ew,?_,Zv⟩
   .simp only[execOp,ho,he,Instr.next,Sem.run_bind,qq,Result.andThen_ok,Bn,Zg3,V0,FH,Sem.run_pure]
   .exact .q8 (au.cons (.bool true) (au.cons (.int _ _) (au.cons (.int _ _) au.nil)))
 . (rename_i aN;have aN:¬pos<s.length:=λh=>by have:Nat.blt pos s.length=true:=(by simpa using h);rw[this]at aN;cases aN);simp only[H0]at hr;subst hr;have Bn:¬pos<bs.size:=(by omega);refine .pure (x:= .tuple #[.bool false]) ?_ (.q8 (au.cons (.bool false) au.nil));simp only[execOp,ho,he,Instr.next,Sem.run_bind,qq,Result.andThen_ok,Bn,Zf7,Sem.run_pure]
end
section
variable{P:Program}{tt:TT}{ρ:Pos->Loc}{C:Cells}{st:St}{w w':World}
theorem aX.of_heap(hW:aX ρ C st w)(h:w'.heap=w.heap):aX ρ C st w' where
 live b x hb:=let⟨h1,h2,h3⟩:=hW.live b x hb;⟨h1,by rw[h];exact h2,h3.of_heap (by rw[h])⟩
 inj:=hW.inj
 dx a v ha:=let⟨h1,h2⟩:=hW.dx a v ha;⟨by unfold World.cell? at h1 ⊢; rw[h];exact h1,h2⟩
 whole a v ha o ho:=by have:=hW.whole a v ha o ho;unfold World.cell? at this ⊢; rw[h];exact this
theorem KW{es:Nat}:∀{xs:List (List AV)}(_h:∀(i:Nat)(cs:List AV),xs[i]? =some cs->cs.length=es)(q:Nat)(v:AV),
  xs.flatten[q]? =some v->∃cs,xs[q / es]? =some cs/\cs[q % es]? =some v
 |[],_,q,v,hv=>by simp at hv
 |c ::xs,h,q,v,hv=>by
  have hc:c.length=es:=h 0 c rfl;have gJ:∀(i:Nat)(cs:List AV),xs[i]? =some cs->cs.length=es:=λi cs hi=>h (i+1) cs (by simpa using hi)
  rw[Zf6]at hv;rcases Zh8 q c.length with hq|hq
  . rw[Zc1 hq]at hv;refine⟨c,?_,?_⟩
    .   rw[Nat.div_eq_of_lt (by omega)];rfl
    .   rw[Zj6 (by omega)];exact hv
  . rw[   Zc2 hq]at hv;obtain⟨cs,h1,h2⟩:=KW gJ (q - c.length) v hv;rw[hc]at hq h1 h2;have Xx:0<es:=by
        rcases Zo4 es with h0|h0
        .subst h0;have hl:=gJ _ _ h1;have:=(Za0.1 h2).1;omega
        .exact h0
    refine⟨cs,?_,?_⟩
    .   rw[Nat.div_eq_sub_div Xx hq];simpa using h1
    .   rw[Zo3 hq];exact h2
theorem KY{es:Nat}:∀{xs:List (List AV)}(_h:∀(i:Nat)(cs:List AV),xs[i]? =some cs->cs.length=es),xs.flatten.length=xs.length*es
 |[],_=>by simp
 |c::xs,h=>by have hc:c.length=es:=h 0 c rfl;rw[Zf6,Zd2,KY (λi cs hi=>h (i+1) cs (by simpa using hi)),hc,Ze2,Zi5];omega
theorem kF(hW:aX ρ C st w){es m:Nat}{u:AV}{x:Value}{new:List AV}{k:Nat}(hu:aj ρ st.next.toNat C u x)(hk:cZ u=some k)(hmk:m<=k)(h:cg es m (λb=>st.heap.get b) u=some new)(w2:World)(nZ:w2.heap=w.heap):
   ∃ys:List Value,(Builtin.firstCells es m x).run P w2= .ok ys.toArray w2/\au ρ st.next.toNat C new ys/\(u= .ah\/new.length=m*es):=by
 have Es:=hW.of_heap (w':=w2) nZ;unfold cg at h;split at h
 .simp only[H0]at h;subst h;rw[hu.fA];exact⟨[],by simp[Builtin.firstCells],au.nil,.inl rfl⟩
 . rename_i b off len cap es';simp only[cZ,H0]at hk;subst hk;obtain⟨aa,aJ,he,hle,_,ha⟩:=hu.cW;rw[he];split at h
   .rename_i h0;have h0:=Za2 h0;simp only[H0]at h;subst h;exact⟨[],by simp[Builtin.firstCells,h0,loadCells,loadCellsFrom],au.nil,.inr (by simp[h0])⟩
   .rename_i h0;have h0:=Zb7 h0;(split at h<;>first|(cases h;done)|skip);rename_i cs fz hb;have hm:m≠0:=(by intro e;subst e;simp at h0);obtain⟨_,rfl,_⟩:=ha (by omega);obtain⟨ys,h1,h2⟩:=Es.loadCells (P:=P) hb h;exact⟨ys,by simp only[Builtin.firstCells];exact h1,h2,.inr (sw h)⟩
 . rename_i xs es';simp only[cZ,H0]at hk;subst hk;(split at h<;>first|(cases h;done)|skip);rename_i SN Qv;have SN:=Za2 SN;have Qv:=Za4 Qv;subst SN;simp only[H0]at h;subst h;obtain⟨aa,aJ,cell,he,hle,vU,g1,g2,g3⟩:=hu.q9;rw[he];have dc:∀(i:Nat)(cs:List AV),(xs.take m)[i]? =some cs->cs.length=es:=λi cs hi=>by
     rw[Zc0]at hi;split at hi
     .exact g1 i cs hi
     .cases hi
   have SP:=KY dc;rw[Zh6,Zk0 Qv]at SP;have ac1:∀q v,(xs.take m).flatten[q]? =some v->∃cs,xs[q / es]? =some cs/\cs[q % es]? =some v:=λq v hv=>by
     obtain⟨cs,h1,h2⟩:=KW dc q v hv;rw[Zc0]at h1;split at h1
     .exact⟨cs,h1,h2⟩
     .cases h1
   refine⟨(List.range (m*es)).map λq=>cell (q / es) (q % es),?_,⟨by simp[SP],λq v y hv hy=> ?_⟩,.inr SP⟩
   .simp only[Builtin.firstCells];(refine run_loadCells w2 _ _ _ λq hq=> ?_);have aN:q<(xs.take m).flatten.length:=(by rw[SP];exact hq);obtain⟨cs,h1,h2⟩:=ac1 q _ (H4 aN);have vU:=vU (by intro e;rw[e]at h1;simp at h1);obtain⟨ab,ao,asp⟩:=aa;simp only at vU;subst vU;have:=(Es.dx _ _ (g2 _ _ _ _ h1 h2)).1;rw[kW];simp only at this;rw[show ao+q=ao+q / es*es+q % es from by rw[Zh5,Nat.mul_comm,Nat.div_add_mod]];exact this
   .obtain⟨cs,h1,h2⟩:=ac1 q v hv;have hq:q<m*es:=(by rw[<-SP];exact(Za0.1 hv).1);simp[hq]at hy;subst hy;exact g3 _ _ _ _ h1 h2
 . rename_i s;simp only[cZ,H0]at hk;subst hk;(split at h<;>first|(cases h;done)|skip);rename_i SN Qv;have SN:=Za2 SN;have Qv:=Za4 Qv;subst SN;simp only[H0]at h;subst h;obtain⟨bs,rfl,hs⟩:=hu.dX;refine⟨(s.take m).map λ(c:Nat)=>Value.int .u8 (.ofNat c),?_,⟨by simp,λq v y hv hy=> ?_⟩,.inr (by simp;omega)⟩
   .simp only[Builtin.firstCells,Sem.run_pure];congr 1;apply Zl9;simp only[Zp3,ByteArray.data_extract,Zn4,List.extract,Ze0,Zo1];rw[<-hs, <-Zn1,Zg1];rfl
   .simp only[Zb8,Zd4]at hv hy;obtain⟨c,hc,rfl⟩:=hv;obtain⟨c',tV,rfl⟩:=hy;rw[hc]at tV;cases tV;exact .int _ _
 .cases h
theorem LX{n:Nat}{u:AV}{x:Value}{k:Nat}(hu:aj ρ n C u x)(hk:cZ u=some k):(Builtin.lenOf x).run P w= .ok k w:=by
 unfold cZ at hk;split at hk<;>first|(cases hk;done)|skip
 all_goals simp only[H0]at hk;subst hk
 .rw[hu.fA];rfl
 .obtain⟨_,_,he,_⟩:=hu.cW;rw[he];rfl
 .obtain⟨_,_,_,he,_⟩:=hu.q9;rw[he];rfl
 .obtain⟨bs,rfl,hs⟩:=hu.dX;rw[<-uI hs];rfl
theorem Qw(nl:Nat):∀(r c:Nat),c<=nl+(nl+768) / 4->Builtin.growBy nl r c<=nl+(nl+768) / 4
 |0,c,h=>h
 |r+1,c,h=>by
  unfold Builtin.growBy;split
  .exact h
  .exact Qw nl r _ (by omega)
theorem nextslicecap_le{XB dI:Nat}(h:dI<XB):Builtin.nextslicecap XB dI<=2*XB+768:=by
 unfold Builtin.nextslicecap;split
 .omega
 . split
   .omega
   .have:=Qw XB 4 dI (by omega);omega
theorem FI(hT:bM P tt){t t2 e:Nat}{ts:Array TypeId}{ti Hg te:TI}(cF:tt.get (key t)=some ti)(Iw:tt.get (key t2)=some Hg)(hk:ti.k= .slice e)(kI:∀k,Hg.k≠ .int k)
  (fc:tt.get (key e)=some te) (h0:ts[0]? =some t) (h1:ts[1]? =some t2) (ty:TypeId) (base:Option Addr) (n cap m:Nat) (x:Value) (w:World)
  (hx:(Builtin.lenOf x).run P w= .ok m w) (hb:(2*(n+m)+768)*te.bytes<=281474976710656) (hi:n+m<=9223372036854775807):
  (Builtin.append_ ts ty #[.slice base n cap,x]).run P w=
    if n+m<=cap then((Builtin.firstCells te.size m x).run P w).andThen λnew w=>((match base with|some a=>storeCells (a.add (n*te.size)) new.toList|none=>pure ()).run P w).andThen λ_ w=>.ok (.slice base (n+m) cap) w
    else((Builtin.firstCells te.size n (.slice base n cap)).run P w.drew).andThen λdI w1=>((Builtin.firstCells te.size m x).run P w1).andThen λnew w2=>((zeroValue e).run P w2).andThen λz w3=>
        .ok (.slice (some ⟨w3.heap.size,0,none⟩) (n+m) (grownCap w (n+m) cap e)) (w3.alloc (.cells (dI++new++Builtin.zeroCells z.cells (grownCap w (n+m) cap e - (n+m))) e)):=by
 obtain⟨d,hd,bU⟩:=(hT.at cF).und;rw[hk]at bU;rw[lY bU]at hd;obtain⟨d2,Nq,abh⟩:=(hT.at Iw).und;obtain⟨i0,lF,kz,hib,_⟩:=(hT.at fc).info;have ae5:∀k,d2≠ .int k:=by
  rintro k rfl;cases Ak:Hg.k<;>rw[Ak]at abh<;>first|(simp[bD]at abh;done)|exact absurd Ak (kI _)
 have XC:¬(((n+m:Nat):Int)>IntKind.i64.max):=by
  have:IntKind.i64.max=9223372036854775807:=by decide
  rw[this];omega
 have ae6:¬(n+m<=cap)->¬(Builtin.nextslicecap (n+m) cap*te.bytes>2 ^ 48):=λhc=>by
  have h1:=nextslicecap_le (Nat.lt_of_not_le hc);have h2:=Zf9 te.bytes h1;have:(2:Nat) ^ 48=281474976710656:=by decide
  omega
 have O0:∀q,(Question.appendCap (n+m) cap e).forced=q->q=false:=by rintro q rfl;rfl
 clear abh;cases d2<;>first|(exact absurd rfl (ae5 _))|skip
 all_goals
  unfold Builtin.append_;simp only[h0,h1,List.getElem?_toArray,Zb2,Ze4,Sem.run_bind,aL hd,Result.andThen_ok,gY lF,kz,aL Nq,Sem.run_pure,hx,Zf0,Zf7,Zo5,Zg3,Sem.run_ite];by_cases hc:n+m<=cap
  .rw[Za6 hc,Za6 hc];cases base<;>simp only[Sem.run_bind,Sem.run_pure,Result.andThen_ok]
  .rw[Za3 hc,Za3 hc];simp only[Sem.run_bind,SC lF,hib,Result.andThen_ok,XC,false_and,Zf7,ae6 hc,run_choose,Question.forced,Zf0,World.drew_eq,run_askRoom,Sem.run_pure,newRow,run_newObj,World.alloc_eq];rfl
end
section
variable{P:Program}{tt:TT}{ρ:Pos->Loc}{C:Cells}{st:St}{w w':World}
theorem abi{L:Loc}{cs:List AV}{n:Nat}(fz:Nat)(h:lU ρ n C L w' (.cells cs 0)):lU ρ n C L w' (.cells cs fz):=
 let⟨c,e,fr,h1,h2,h3,h4,h5⟩:=h
 ⟨c,e,fr,h1,h2,h3,h4,λi _ hi=>h5 i (Zh3 _) hi⟩
theorem XD(hW:aX ρ C st w)(del:Option Pos)(fz:Nat){dI new rest:List Value}{ol nl:List AV}{e:TypeId}{n m es aJ:Nat}(h1:au ρ st.next.toNat C ol dI)(h2:au ρ st.next.toNat C nl new)
  (xZ:ol.length=n*es) (Hs:nl.length=m*es) (hr:rest.length=(aJ - (n+m))*es) (hc:n+m<=aJ) {w2:World} (nZ:w2=w.drew.alloc (.cells (dI++new++rest).toArray e)):
  ∃ρ':Pos->Loc,(∀b:Pos,b.toNat<st.next.toNat->ρ' b=ρ b)/\aX ρ' C (st.aE del none (some (.cells (ol++nl) fz))) w2/\jN ρ st w ρ' (st.aE del none (some (.cells (ol++nl) fz))) w2/\
   aj ρ' (st.aE del none (some (.cells (ol++nl) fz))).next.toNat C (.slice st.next 0 (n+m) none es) (.slice (some ⟨w.heap.size,0,none⟩) (n+m) aJ):=by
 subst nZ;have ya:dI.length=n*es:=by rw[<-h1.1,xZ]
 have mU:new.length=m*es:=by rw[<-h2.1,Hs]
 have eW:(dI++new++rest).length=aJ*es:=by simp only[Zd2,ya,mU,hr];rw[<-Zi5, <-Zi5];congr 1;omega
 obtain ⟨ρ',aT,ee,ew,hE⟩:=tU (w':=w.drew.alloc (.cells (dI++new++rest).toArray e)) (o:= .cells (dI++new++rest).toArray e) (x0:= .cells (ol++nl) fz) (base:=0) (size:=(dI++new++rest).toArray.size) hW del rfl rfl rfl rfl (λρ' n' aT hn=>
  abi   fz <| u7 (e:=e) (fr:=(0,0)) (by show(w.heap.push _)[w.heap.size]? =_;simp) (by simp[xZ,Hs,ya,mU])
   (by
        have:(dI++new++rest).toArray.toList.take (ol++nl).length=dI++new:=by
         rw[Zk2 (by simp[xZ,Hs,ya,mU])]
        rw[this];exact(h1.append h2).mono aT hn) (λi _=>by simp))
 refine⟨ρ',aT,ew,hE,zl (by simp[St.aE,Pos.aB]) ee hc (λc hc=>by cases hc) (by simp only[Zm1,eW];exact Za5 _)⟩
theorem zS(z:Array Value)(m:Nat):(Builtin.zeroCells z m).toList.length=m*z.size:=by simp[Builtin.zeroCells]
theorem abj{m:Nat}(h:Nat.beq m 0=false):m≠0:=Zb7 h
theorem FJ (hT:bM P tt){t t2 e:Nat}{ts:Array TypeId}{ti Hg te:TI}{z:List AV}(cF:tt.get (key t)=some ti)(Iw:tt.get (key t2)=some Hg)(hk:ti.k= .slice e)(kI:∀k,Hg.k≠ .int k)
   (fc:tt.get (key e)=some te) (hz:te.zero=some z) (h0:ts[0]? =some t) (h1:ts[1]? =some t2) (ty:TypeId) {s u:AV} {xs xu:Value} {res:b6} (hW:aX ρ C st w)
   (hs:aj ρ st.next.toNat C s xs) (hu:aj ρ st.next.toNat C u xu) (hr:fN (λb=>st.heap.get b) st.next te.size te.bytes [s,u]=some res):
   sv P ρ C st w (((Builtin.append_ ts ty #[xs,xu]).run P w).andThen λv w=>.ok (.value v) w) res:=by
 simp only[fN]at hr;split at hr<;>first|(cases hr;done)|skip
 rename_i n m hn hm;split at hr<;>first|(cases hr;done)|skip
 rename_i b1 b2;have b1:=Za4 b1;have b2:=Za4 b2;have hlen:=LX (P:=P) (w:=w) hu hm;obtain⟨i0,lF,kz,_,xW⟩:=(hT.at fc).info;obtain⟨zv0,hzv0,_,Nm,_⟩:=xW z hz;have Ni:=λw=>rj hT fc hz (ρ:=ρ) (n:=st.next.toNat) (C:=C) w
 have KV:∃base aJ,xs= .slice base n aJ/\n<=aJ:=by
   unfold cZ at hn;split at hn<;>first|(cases hn;done)|skip
   .cases hn;exact⟨none,0,hs.fA,Za5 _⟩
   .cases hn;obtain⟨a,c,he,hle,_⟩:=hs.cW;exact⟨_,c,he,hle⟩
   .cases hn;obtain⟨a,c,_,he,hle,_⟩:=hs.q9;exact⟨_,c,he,hle⟩
   .rename_i s';exfalso;cases hbm:Nat.beq m 0<;>simp[hbm]at hr
 obtain⟨base,aJ,gJ,hle⟩:=KV;have bN:=FI hT cF Iw hk kI fc h0 h1 ty base n aJ m xu w hlen b1 b2;rw[gJ,bN];have hg:∀c,n+m<=grownCap w (n+m) c e:=λc=>by unfold grownCap Question.cut;exact Zm7 _ _
 have LY:∀(del:Option Pos)(fz:Nat)(ol nl:List AV),¬(n+m<=aJ)->cg te.size n (λb=>st.heap.get b) s=some ol->cg te.size m (λb=>st.heap.get b) u=some nl->ol.length=n*te.size->nl.length=m*te.size->
     sv P ρ C st w ((if n+m<=aJ then((Builtin.firstCells te.size m xu).run P w).andThen λnew w=>((match base with|some a=>storeCells (a.add (n*te.size)) new.toList|none=>pure ()).run P w).andThen λ_ w=>.ok (.slice base (n+m) aJ) w
     else((Builtin.firstCells te.size n (.slice base n aJ)).run P w.drew).andThen λdI w1=>((Builtin.firstCells te.size m xu).run P w1).andThen λnew w2=>((zeroValue e).run P w2).andThen λz w3=>
        .ok (.slice (some ⟨w3.heap.size,0,none⟩) (n+m) (grownCap w (n+m) aJ e)) (w3.alloc (.cells (dI++new++Builtin.zeroCells z.cells (grownCap w (n+m) aJ e - (n+m))) e))).andThen λv w=>.ok (.value v) w)
        (.aE (.slice st.next 0 (n+m) none te.size) del none (some (.cells (ol++nl) fz))):=by
   intro del fz ol nl hc ho kX xZ Hs;obtain⟨dI,e1,e2,_⟩:=kF (P:=P) hW hs hn (Za5 _) ho w.drew rfl;obtain⟨new,e3,e4,_⟩:=kF (P:=P) hW hu hm (Za5 _) kX w.drew rfl;obtain⟨zv,xX,_,rq⟩:=Ni w.drew;rw[gJ]at e1;have CT:(Builtin.zeroCells zv.cells (grownCap w (n+m) aJ e - (n+m))).toList.length=(grownCap w (n+m) aJ e - (n+m))*te.size:=(by rw[zS];congr 1;have:=rq.1;simp at this;omega);obtain⟨ρ',aT,ew,hE,hv⟩:=XD hW del fz e2 e4 xZ Hs CT (hg aJ) (e:=e) rfl;refine⟨_,_,_,ρ',?_,Yields.value _,aT,ew,hv,hE⟩;rw[Za3 hc];simp only[e1,e3,xX,Result.andThen_ok,World.size_drew];congr 2;simp
 have Zx:∀nl,cg te.size m (λb=>st.heap.get b) u=some nl->m≠0->nl.length=m*te.size:=by
   intro nl kX hm0;obtain⟨_,_,_,h⟩:=kF (P:=P) hW hu hm (Za5 _) kX w rfl;rcases h with rfl|h
   .simp[cZ]at hm;omega
   .exact h
 have hls:∀ol,cg te.size n (λb=>st.heap.get b) s=some ol->ol.length=n*te.size:=by
   intro ol ru;obtain⟨ys,_,Bk,h⟩:=kF (P:=P) hW hs hn (Za5 _) ru w rfl;rcases h with rfl|h
   .simp[cZ]at hn;subst hn;simp[cg]at ru;subst ru;simp
   .exact h
 have hzero:m=0->aj ρ st.next.toNat C s xs->sv P ρ C st w ((if n+m<=aJ then((Builtin.firstCells te.size m xu).run P w).andThen λnew w=>((match base with|some a=>storeCells (a.add (n*te.size)) new.toList|none=>pure ()).run P w).andThen λ_ w=>.ok (.slice base (n+m) aJ) w
     else((Builtin.firstCells te.size n (.slice base n aJ)).run P w.drew).andThen λdI w1=>((Builtin.firstCells te.size m xu).run P w1).andThen λnew w2=>((zeroValue e).run P w2).andThen λz w3=>
        .ok (.slice (some ⟨w3.heap.size,0,none⟩) (n+m) (grownCap w (n+m) aJ e)) (w3.alloc (.cells (dI++new++Builtin.zeroCells z.cells (grownCap w (n+m) aJ e - (n+m))) e))).andThen λv w=>.ok (.value v) w) (.val s):=by
   rintro rfl hsx;have hf:(Builtin.firstCells te.size 0 xu).run P w= .ok #[] w:=by
     unfold cZ at hm;split at hm<;>first|(cases hm;done)|skip
     .  rw[hu.fA];simp[Builtin.firstCells]
     .  obtain⟨_,_,he,_⟩:=hu.cW;rw[he];simp[Builtin.firstCells,loadCells,loadCellsFrom]
     .  obtain⟨_,_,_,he,_⟩:=hu.q9;rw[he];simp[Builtin.firstCells,loadCells,loadCellsFrom]
     .  obtain⟨bs,rfl,_⟩:=hu.dX;simp only[Builtin.firstCells,Sem.run_pure];congr 1;apply Zl9;simp
   rw[gJ]at hsx;refine .pure (x:= .slice base n aJ) ?_ hsx;rw[Za6 (by omega),hf];cases base<;>simp[storeCells]
 split at hr<;>first|(cases hr;done)|skip
 .rename_i vX;simp only[H0]at hr;subst hr;exact hzero (Za2 vX) hs
 .rename_i vX;simp only[H0]at hr;subst hr;exact hzero (Za2 vX) hs
 .rename_i vX;simp only[H0]at hr;subst hr;exact hzero (Za2 vX) hs
 ·
   rename_i vX;have vX:=abj vX;(split at hr<;>first|(cases hr;done)|skip);rename_i new kX;simp only[H0]at hr;subst hr;have he:=hs.fA;rw[he]at gJ;simp only[Value.slice.injEq]at gJ;obtain⟨rfl,rfl,rfl⟩:=gJ;have:=LY none 0 [] new (by omega) rfl kX (by simp) (Zx new kX vX);simpa using this
 ·
   rename_i b off n' c es' vX;have vX:=abj vX;simp only[cZ,H0]at hn;subst hn;obtain⟨aa,cc,he,hlec,SQ,ha⟩:=hs.cW;rw[he]at gJ;simp only[Value.slice.injEq]at gJ;obtain⟨rfl,_,rfl⟩:=gJ;have:=SQ c rfl;subst this;split at hr
   . rename_i qI;have qI:=Za4 qI;(split at hr<;>first|(cases hr;done)|skip);rename_i cs fz new hb kX;(split at hr<;>first|(cases hr;done)|skip);rename_i c1 c2 c3;have c1:=Za4 c1;simp only[Za8]at c2;have c2a:=Za4 c2.1;have c2b:=Za2 c2.2;subst c2b;simp only[H0]at hr;subst hr;obtain⟨aN,rfl,hbound⟩:=ha (by omega);obtain⟨ys,e1,e2,_⟩:=kF (P:=P) hW hu hm (Za5 _) kX w rfl;have FK:=Zx new kX vX;obtain⟨w2,e3,ew,hE⟩:=FG (P:=P) hW hb (by rw[FK];rw[Zi5]at c1;omega) c2a c3 e2;refine⟨_,.slice (some ⟨(ρ b).av,(ρ b).base+off,none⟩) (n'+m) c,w2,ρ,?_,Yields.value _,λ_ _=>rfl,ew,?_,hE⟩
     .  rw[Za6 qI,e1];simp only[Result.andThen_ok,kW];rw[Zh5,e3];rfl
     .  exact .slice _ _ _ _ _ _ _ qI (λc hc=>by cases hc;rfl) (λ_=>⟨aN,rfl,hbound⟩) (λh=>by cases h)
   . rename_i qI;have qI:¬(n'+m<=c):=λh=>by rw[Nat.ble_eq_true_of_le h]at qI;cases qI
     (split at hr<;>first|(cases hr;done)|skip);rename_i dI new ru kX;simp only[H0]at hr;subst hr;exact LY none 0 dI new qI ru kX (hls dI ru) (Zx new kX vX)
 ·
   rename_i b off n' es' vX;have vX:=abj vX;simp only[cZ,H0]at hn;subst hn;(split at hr<;>first|(cases hr;done)|skip);rename_i cs fz dI new hb ru kX;(split at hr<;>first|(cases hr;done)|skip);rename_i c2 c3;simp only[Za8]at c2;have c2a:=Za4 c2.1;have c2b:=Za2 c2.2;subst c2b;simp only[H0]at hr;subst hr;by_cases qI:n'+m<=aJ
   ·
     obtain ⟨aa,cc,he,hlec,SQ,ha⟩:=hs.cW;rw[he]at gJ;simp only[Value.slice.injEq]at gJ;obtain⟨rfl,_,rfl⟩:=gJ;obtain⟨aN,rfl,hbound⟩:=ha (by omega);obtain⟨ys,e1,e2,_⟩:=kF (P:=P) hW hu hm (Za5 _) kX w rfl;have FK:=Zx new kX vX;have ac2:=hls dI ru;obtain⟨KS,Hh,c,ce,fr,g1,g2,g3,g4,g5⟩:=hW.live b _ hb;have hmul:(n'+m)*te.size<=cc*te.size:=Zf9 _ qI;have hmul2:(n'+m)*te.size=n'*te.size+m*te.size:=Zi5 _ _ _;have hyl:ys.length=m*te.size:=(by rw[<-e2.1,FK]);have hold:au ρ st.next.toNat C dI ((c.toList.drop ((ρ b).base+off)).take (n'*te.size)):=by
        simp only[cg]at ru;split at ru
        .rename_i hz0;have hz0:=Za2 hz0;simp only[H0]at ru;subst ru;rw[hz0];simpa using(au.nil:au ρ st.next.toNat C [] [])
        . rw[hb]at ru;simp only at ru;obtain⟨ho1,Bt⟩:=Bo ru;have h:=(g4.drop off).take (n'*te.size);rw[<-ho1]at h;have:List.take (n'*te.size) (List.drop off (List.take cs.length (List.drop (ρ b).base c.toList)))=(c.toList.drop ((ρ b).base+off)).take (n'*te.size):=by
            rw[List.drop_take,Zo6,Zo7,Zk0 (by omega)]
          rw[this]at h;exact h
     obtain⟨w2,s1,s2,s3,s4,s5,s6,s7⟩:=jZ (P:=P) (ρ b).av ce fr ys 0 ((ρ b).base+off+n'*te.size) c w g1 (by omega) (vW c3 e2) (λk hk kH=>by
        have:=g5 (k - (ρ b).base) (by omega) (by omega)
        rwa [show(ρ b).base+(k - (ρ b).base)=k from by omega]at this)
     simp only[Zg6]at s1 s2
     let ρ':Pos->Loc:=λq=>if q=st.next then⟨(ρ b).av,(ρ b).base+off,(ρ b).size⟩else ρ q
     have aT:∀q:Pos,q.toNat<st.next.toNat->ρ' q=ρ q:=λq hq=>Za3 (λe=>by rw[e]at hq;omega)
     have ee:ρ' st.next=⟨(ρ b).av,(ρ b).base+off,(ρ b).size⟩:=Za6 rfl;have hcl:c.toList.length=c.size:=(by simp);have hWn:aX ρ' C (st.aE (some b) none (some (.cells (dI++new) (fz - off)))) w2:=by
        refine hW.Xp (b0:=st.next) (x0:= .cells (dI++new) (fz - off)) (by rw[Pos.aB];omega) (by rw[Pos.aB];omega) (by rw[T.eF]) ?_ aT ?_ ?_ (by rw[ee,s3];exact Hh) (by omega) (λk hk kH=>s4 k (by rw[ee]at kH;exact kH))
        .intro q x hq hx;rw[T.bw _ (λe=>hq e.symm)]at hx;obtain⟨h1,h2⟩:=uJ (some b) _ hx;refine⟨h1,?_⟩;rw[ee];exact λe=>h2 b rfl (hW.inj _ _ _ _ h1 hb e)
        . rw[ee];refine⟨_,ce,fr,s2,by simp[aH];omega,by simp[aH,ac2,FK];omega,?_,λi lF hi=> ?_⟩
          . (simp only;rw[DB _ _ _ _ (by omega)];have Hi:(aH (c.toList.drop ((ρ b).base+off)) (n'*te.size) ys).take (dI++new).length=(c.toList.drop ((ρ b).base+off)).take (n'*te.size)++ys:=by unfold aH;rw[<-Zi6,Zk2];simp[ac2,FK,hyl];omega);rw[Hi];exact(hold.append e2).mono aT (by rw[Pos.aB];omega)
          . have Ho:(ρ b).base+off+i<c.size:=(by simp only[Zm1]at hi;have:(aH c.toList ((ρ b).base+off+n'*te.size) ys).length=c.size:=(by simp[aH];omega);omega);have:=g5 (off+i) (by omega) (by omega);simp only
            rwa [<-Zh5]at this
        .intro ad v hv;rw[ee];exact λe=>(hW.dx ad v hv).2 b _ hb e.symm
     refine⟨_,(.slice (some ⟨(ρ b).av,(ρ b).base+off,none⟩) (n'+m) cc),w2,ρ',?_,Yields.value _,aT,hWn,?_,⟨s5,s6,s7,by omega,λk _ hk=>s4 k (λe=>hk b _ hb e.symm),λq x hx=> ?_⟩⟩;rotate_left;rotate_left
     .  left;by_cases hq:q=st.next
        .exact⟨b,_,hb,by rw[hq,ee]⟩
        .simp only[St.aE,Fy]at hx;rw[T.bw _ (λe=>hq e.symm)]at hx;obtain⟨h1,_⟩:=uJ (some b) _ hx;exact⟨q,x,h1,by rw[aT q (hW.live q x h1).1]⟩
     .  rw[Za6 qI,e1];simp only[Result.andThen_ok,kW];rw[s1];rfl
     .  refine .slice _ _ _ _ _ _ _ qI (λc hc=>by cases hc) (λ_=>⟨by simp[St.aE,Pos.aB],by rw[ee];rfl,?_⟩) (λ_=>by simp[St.aE,Pos.aB]);rw[ee];simp only;omega
   .exact LY (some b) _ dI new qI ru kX (hls dI ru) (Zx new kX vX)
end
section
variable{P:Program}{tt:TT}{ρ:Pos->Loc}{C:Cells}{st:St}{w w':World}
theorem Qx:∀l:List Nat,aS (l.map λc=>AV.int .u8 (.ofNat c))=true
 |[]=>rfl
 |a::l=>by simpa [aS,AV.one]using Qx l
theorem KZ(hW:aX ρ C st w)(del:Option Pos){dI new rest:List Value}{ol nl:List AV}{e:TypeId}{n m aJ:Nat}(h1:au ρ st.next.toNat C ol dI)(h2:au ρ st.next.toNat C nl new)
  (xZ:ol.length=n) (Hs:nl.length=m) (hr:rest.length=aJ - (n+m)) (hc:n+m<=aJ) {w2:World} (nZ:w2=w.drew.alloc (.cells (dI++new++rest).toArray e)):
  ∃ρ':Pos->Loc,(∀b:Pos,b.toNat<st.next.toNat->ρ' b=ρ b)/\aX ρ' C (st.aE del none (some (.typed e (ol++nl)))) w2/\jN ρ st w ρ' (st.aE del none (some (.typed e (ol++nl)))) w2/\
   aj ρ' (st.aE del none (some (.typed e (ol++nl)))).next.toNat C (.slice st.next 0 (n+m) none 1) (.slice (some ⟨w.heap.size,0,none⟩) (n+m) aJ):=by
 subst nZ;have ya:dI.length=n:=by rw[<-h1.1,xZ]
 have mU:new.length=m:=by rw[<-h2.1,Hs]
 have eW:(dI++new++rest).length=aJ:=by simp only[Zd2,ya,mU,hr];omega
 obtain ⟨ ρ',aT,ee,ew,hE⟩:=tU (w':=w.drew.alloc (.cells (dI++new++rest).toArray e)) (o:= .cells (dI++new++rest).toArray e) (x0:= .typed e (ol++nl)) (base:=0) (size:=(dI++new++rest).toArray.size) hW del rfl rfl rfl rfl (λρ' n' aT hn=>
  ⟨_,   (0,0),by show(w.heap.push _)[w.heap.size]? =_;simp,rfl,by simp[xZ,Hs,ya,mU],by
        have:(dI++new++rest).toArray.toList.take (ol++nl).length=dI++new:=by
          rw[Zk2 (by simp[xZ,Hs,ya,mU])]
        rw[Ze0,this];exact(h1.append h2).mono aT hn,λi _=>by simp,rfl⟩)
 refine⟨ρ',aT,ew,hE,zl (by simp[St.aE,Pos.aB]) ee hc (λc hc=>by cases hc) (by simp only[Zm1,eW,Zj3];exact Za5 _)⟩
theorem Vt (hT:bM P tt){t t2 e:Nat}{ts:Array TypeId}{ti Hg te:TI}{z:List AV}(cF:tt.get (key t)=some ti)(Iw:tt.get (key t2)=some Hg)(hk:ti.k= .slice e)(kI:∀k,Hg.k≠ .int k)
  (fc:tt.get (key e)=some te) (hz:te.zero=some z) (h8:te.size=1) (h0:ts[0]? =some t) (h1:ts[1]? =some t2) (ty:TypeId) {s u:AV} {xs xu:Value} {res:b6} (hW:aX ρ C st w)
  (hs:aj ρ st.next.toNat C s xs) (hu:aj ρ st.next.toNat C u xu) (hr:sk (λb=>st.heap.get b) st.next e te.bytes [s,u]=some res):
  sv P ρ C st w (((Builtin.append_ ts ty #[xs,xu]).run P w).andThen λv w=>.ok (.value v) w) res:=by
 have Ni:=λw=>rj hT fc hz (ρ:=ρ) (n:=st.next.toNat) (C:=C) w
 simp only[sk]at hr;split at hr<;>first|(cases hr;done)|skip
 rename_i us;obtain⟨bs,rfl,Hh⟩:=hu.dX;have hm:cZ (AV.str us)=some us.length:=rfl;have hlen:=LX (P:=P) (w:=w) hu hm
 have Zy:∀{n:Nat}{s:AV},cZ s=some n->Nat.ble ((2*(n+us.length)+768)*te.bytes) 281474976710656=true->Nat.ble (n+us.length) 9223372036854775807=true->us.length=0->(s= .ah\/∃b,s= .slice b 0 n none 1)->
    fN (λb=>st.heap.get b) st.next te.size te.bytes [s,.str us]=some (.val s):=by
  intro n s h1 h2 h3 h4 h5;rw[h4]at h2 h3;rcases h5 with rfl|⟨b,rfl⟩
  .simp only[fN,h1,hm,h2,h3,h4];try rfl
  .simp only[fN,h1,hm,h2,h3,h4];try rfl
 have kX:cg te.size us.length (λb=>st.heap.get b) (.str us)=some (us.map λc=>AV.int .u8 (.ofNat c)):=by
  have e1:Nat.beq te.size 1=true:=by rw[h8];rfl
  have e2:Nat.ble us.length us.length=true:=Nat.ble_self_eq_true _;simp only[cg,e1,e2,Zi4]
 split at hr<;>first|(cases hr;done)|skip
 ·
  split at hr<;>first|(cases hr;done)|skip
  rename_i b1 b2;split at hr
  .rename_i hb;simp only[H0]at hr;subst hr;exact FJ hT cF Iw hk kI fc hz h0 h1 ty hW hs hu (Zy rfl b1 b2 (Za2 hb) (.inl rfl))
  . rename_i hb;have hb:=Zb7 hb;simp only[H0]at hr;subst hr;have gJ:=hs.fA;subst gJ;have bN:=FI hT cF Iw hk kI fc h0 h1 ty none 0 0 us.length (.string bs) w hlen (Za4 b1) (Za4 b2);rw[bN,Za3 (by omega)];have hg:0+us.length<=grownCap w (0+us.length) 0 e:=(by unfold grownCap Question.cut;exact Zm7 _ _);obtain⟨new,e3,e4,_⟩:=kF (P:=P) hW hu hm (Za5 _) kX w.drew rfl;obtain⟨zv,xX,_,rq⟩:=Ni w.drew;have VY:zv.cells.size=1:=(by have:=rq.1;have h2:=(hT.at fc).info;obtain⟨i0,lF,kz,_,xW⟩:=h2;obtain⟨v0,Ep,_,Zz,_⟩:=xW z hz;simp at this;omega);have CT:(Builtin.zeroCells zv.cells (grownCap w (0+us.length) 0 e - (0+us.length))).toList.length=grownCap w (0+us.length) 0 e - (0+us.length):=by
        rw[zS,VY,Zj3]
    obtain⟨ρ',aT,ew,hE,hv⟩:=KZ hW none (au.nil (ρ:=ρ)) e4 (by simp) (by simp) CT hg (e:=e) rfl;refine⟨_,_,_,ρ',?_,Yields.value _,aT,ew,hv,hE⟩;have e0:(Builtin.firstCells te.size 0 (.slice none 0 0)).run P w.drew= .ok #[] w.drew:=(by simp[Builtin.firstCells]);simp only[e0,e3,xX,Result.andThen_ok,World.size_drew];congr 2;simp
 ·
  rename_i b n;split at hr<;>first|(cases hr;done)|skip
  rename_i b1 b2;split at hr
  .rename_i hb;simp only[H0]at hr;subst hr;exact FJ hT cF Iw hk kI fc hz h0 h1 ty hW hs hu (Zy rfl b1 b2 (Za2 hb) (.inr ⟨_,rfl⟩))
  . rename_i hbm;have hbm:=Zb7 hbm;(split at hr<;>first|(cases hr;done)|skip);rename_i e' cs hb;(split at hr<;>first|(cases hr;done)|skip);rename_i dI ku ru;have ku:=Za2 ku;subst ku;simp only[H0]at hr;subst hr;obtain⟨aa,aJ,gJ,hle,SQ,ha⟩:=hs.cW;subst gJ;have bN:=FI hT cF Iw hk kI fc h0 h1 ty (some aa) n aJ us.length (.string bs) w hlen (Za4 b1) (Za4 b2);rw[bN];obtain⟨ho1,Bt⟩:=Bo ru;have XE:=sw ru;obtain⟨KS,hbs2,c,fr,g1,g2,g3,g4,g5,g6⟩:=hW.live b _ hb;by_cases qI:n+us.length<=aJ
    ·
        obtain⟨aN,rfl,hbound⟩:=ha (by omega);rw[Zj3,g6,Zg6,Zc4]at hbound;rw[g6]at g3 g4 g5;simp only[Zc4,Ze0]at g3 g4 g5;obtain⟨ys,e1,e2,_⟩:=kF (P:=P) hW hu hm (Za5 _) kX w rfl;have hyl:ys.length=us.length:=(by rw[<-e2.1];simp);have hold:au ρ st.next.toNat C dI (c.toList.take n):=(by have h:=(g4.drop 0).take n;rw[<-ho1,Ze0,Zo6,Zk0 (by omega)]at h;exact h);obtain⟨w2,s1,s2,s3,s4,s5,s6,s7⟩:=jZ (P:=P) (ρ b).av e fr ys 0 n c w g1 (by omega) (vW (Qx us) e2) (λk hk kH=>g5 k (Zh3 _) kH);simp only[Zg6]at s1 s2
        let ρ':Pos->Loc:=λq=>if q=st.next then⟨(ρ b).av,0,(ρ b).size⟩else ρ q
        have aT:∀q:Pos,q.toNat<st.next.toNat->ρ' q=ρ q:=λq hq=>Za3 (λe=>by rw[e]at hq;omega)
        have ee:ρ' st.next=⟨(ρ b).av,0,(ρ b).size⟩:=Za6 rfl;have hcl:c.toList.length=c.size:=(by simp);have hWn:aX ρ' C (st.aE (some b) none (some (.typed e (dI++us.map λc=>AV.int .u8 (.ofNat c))))) w2:=by
          refine hW.Xp (b0:=st.next) (x0:= .typed e (dI++us.map λc=>AV.int .u8 (.ofNat c))) (by rw[Pos.aB];omega) (by rw[Pos.aB];omega) (by rw[T.eF]) ?_ aT ?_ ?_ (by rw[ee,s3];exact hbs2) (by omega) (λk hk kH=>s4 k (by rw[ee]at kH;exact kH))
          .intro q x hq hx;rw[T.bw _ (λe=>hq e.symm)]at hx;obtain⟨h1,h2⟩:=uJ (some b) _ hx;refine⟨h1,?_⟩;rw[ee];exact λe=>h2 b rfl (hW.inj _ _ _ _ h1 hb e)
          . rw[ee];refine⟨_,fr,s2,by simp[aH];omega,by simp[aH,XE];omega,?_,λi lF hi=> ?_,rfl⟩
            . (simp only[Ze0];have Hi:(aH c.toList n ys).take (dI++us.map λc=>AV.int .u8 (.ofNat c)).length=c.toList.take n++ys:=by unfold aH;rw[<-Zi6,Zk2];simp[XE,hyl];omega);rw[Hi];exact(hold.append e2).mono aT (by rw[Pos.aB];omega)
            .have Ho:i<c.size:=(by simp only[Zm1,Zc4]at hi;have:(aH c.toList n ys).length=c.size:=(by simp[aH];omega);omega);simpa using g5 i (Zh3 _) Ho
          .intro ad v hv;rw[ee];exact λe=>(hW.dx ad v hv).2 b _ hb e.symm
        refine⟨_,(.slice (some ⟨(ρ b).av,(ρ b).base+0,none⟩) (n+us.length) aJ),w2,ρ',?_,Yields.value _,aT,hWn,?_,⟨s5,s6,s7,by omega,λk _ hk=>s4 k (λe=>hk b _ hb e.symm),λq x hx=> ?_⟩⟩;rotate_left;rotate_left
        . left;by_cases hq:q=st.next
          .exact⟨b,_,hb,by rw[hq,ee]⟩
          .simp only[St.aE,Fy]at hx;rw[T.bw _ (λe=>hq e.symm)]at hx;obtain⟨h1,_⟩:=uJ (some b) _ hx;exact⟨q,x,h1,by rw[aT q (hW.live q x h1).1]⟩
        .rw[Za6 qI,e1];simp only[Result.andThen_ok,kW,h8,Zj3,g6,Zc4];rw[s1];rfl
        .refine .slice _ _ _ _ _ _ _ qI (λc hc=>by cases hc) (λ_=>⟨by simp[St.aE,Pos.aB],by rw[ee,g6],?_⟩) (λ_=>by simp[St.aE,Pos.aB]);rw[ee];simp only;omega
    .   rw[ Za3 qI];have hg:n+us.length<=grownCap w (n+us.length) aJ e:=(by unfold grownCap Question.cut;exact Zm7 _ _);obtain⟨new,e3,e4,_⟩:=kF (P:=P) hW hu hm (Za5 _) kX w.drew rfl;obtain⟨zv,xX,_,rq⟩:=Ni w.drew;have VY:zv.cells.size=1:=(by have:=rq.1;have h2:=(hT.at fc).info;obtain⟨i0,lF,kz,_,xW⟩:=h2;obtain⟨v0,Ep,_,Zz,_⟩:=xW z hz;simp at this;omega);have CT:(Builtin.zeroCells zv.cells (grownCap w (n+us.length) aJ e - (n+us.length))).toList.length=grownCap w (n+us.length) aJ e - (n+us.length):=by
          rw[zS,VY,Zj3]
        have hold:∃os:List Value,(Builtin.firstCells te.size n (.slice (some aa) n aJ)).run P w.drew= .ok os.toArray w.drew/\au ρ st.next.toNat C dI os:=by
          by_cases K3:n=0
          .subst K3;have:dI=[]:=Zb1 XE;subst this;exact⟨[],by simp[Builtin.firstCells,loadCells,loadCellsFrom],au.nil⟩
          .obtain⟨aN,rfl,hbound⟩:=ha (by omega);obtain⟨ys,Bk,iz⟩:=(show aX ρ C st w.drew from⟨λb x hb=>hW.live b x hb,hW.inj,hW.dx,hW.whole⟩).Nf (P:=P) hb ru;exact⟨ys,by simpa [Builtin.firstCells,h8]using Bk,iz⟩
        obtain⟨os,e5,e6⟩:=hold;obtain⟨ρ',aT,ew,hE,hv⟩:=KZ hW (some b) e6 e4 XE (by simp) CT hg (e:=e) rfl;refine⟨_,_,_,ρ',?_,Yields.value _,aT,ew,hv,hE⟩;simp only[e5,e3,xX,Result.andThen_ok,World.size_drew];congr 2;simp
theorem RJ{ts:Array TypeId}(ty:TypeId){s:AV}{xs:Value}{res:b6}(hs:aj ρ st.next.toNat C s xs)(hW:aX ρ C st w)(hr:qZ (λb=>st.heap.get b) st.next [s]=some res):
   sv P ρ C st w (((Builtin.unsafeSliceData_ ts ty #[xs]).run P w).andThen λv w=>.ok (.value v) w) res:=by
 simp only[qZ]at hr;split at hr<;>first|(cases hr;done)|skip
 .simp only[H0]at hr;subst hr;have:=hs.fA;subst this;exact .pure (x:= .pointer none) rfl .iw
 .rename_i b off n cap es;(split at hr<;>first|(cases hr;done)|skip);rename_i h0;have h0:=Zb7 h0;simp only[H0]at hr;subst hr;obtain⟨aa,aJ,gJ,hle,_,ha⟩:=hs.cW;subst gJ;have hc:aJ≠0:=(by omega);obtain⟨h1,h2,_⟩:=ha hc;refine .pure (x:= .pointer (some aa)) (by rw[Lib.run_unsafeSliceData_row w ts ty aa n aJ hc];rfl) ?_;rw[h2];exact .ptr b off h1
theorem aeh(hW:aX ρ C st w){b:Pos}{x:AB}(hb:st.heap.get b=some x)(h1:w'.os=w.os)(h2:w'.tape=w.tape)(h3:w'.output=w.output)(eW:w'.heap.size=w.heap.size)
   (tC:∀k,k≠(ρ b).av->w'.heap[k]? =w.heap[k]?):
   aX ρ C (st.aE (some b) none none) w'/\jN ρ st w ρ (st.aE (some b) none none) w':=by
 have qq:∀c y,(st.aE (some b) none none).heap.get c=some y->st.heap.get c=some y/\c≠b:=λc y hc=>by
   obtain⟨g1,g2⟩:=uJ (some b) _ (show(Dw (some b) st.heap).get c=some y from hc);exact⟨g1,λe=>g2 b rfl e⟩
 refine⟨⟨λc y hc=> ?_,λc c' y y' hc tV e=>hW.inj c c' y y' (qq c y hc).1 (qq c' y' tV).1 e,λa v ha=> ?_,λa v ha o ho=> ?_⟩,⟨h1,h2,h3,by omega,λk _ hk=>tC k (λe=>hk b x hb e.symm),λc y hc=>.inl ⟨c,y,(qq c y hc).1,rfl⟩⟩⟩
 .obtain⟨g1,g2⟩:=qq c y hc;obtain⟨k1,k2,k3⟩:=hW.live c y g1;exact⟨k1,by omega,k3.of_heap (tC _ λe=>g2 (hW.inj _ _ _ _ g1 hb e))⟩
 .obtain⟨g1,g2⟩:=hW.dx a v ha;refine⟨?_,λc y hc=>g2 c y (qq c y hc).1⟩;have:=tC a.block (λe=>g2 b x hb e.symm);rw[<-g1];simp only[World.cell?,this]
 .have:=tC a.block (λe=>(hW.dx a v ha).2 b x hb e.symm);rw[<-hW.whole a v ha o ho];simp only[World.cell?,this]
theorem RK(hT:bM P tt){t t2 e:Nat}{ts:Array TypeId}{ti te:TI}(cF:tt.get (key t)=some ti)(hk:ti.k= .ptr e)(fc:tt.get (key e)=some te)(h8:te.size=1)(cH:ts.toList=[t,t2])
   (ty:TypeId) {s u:AV} {xs xu:Value} {res:b6} (hW:aX ρ C st w)
   (hs:aj ρ st.next.toNat C s xs) (hu:aj ρ st.next.toNat C u xu) (hr:nY (λb=>st.heap.get b) st.next e [s,u]=some res):
   sv P ρ C st w (((Builtin.unsafeString_ ts ty #[xs,xu]).run P w).andThen λv w=>.ok (.value v) w) res:=by
 obtain rfl:ts= #[t,t2]:=by apply Zl9;rw[cH]
 simp only[nY]at hr;split at hr<;>first|(cases hr;done)|skip
 rename_i n;have:=hu.iq;subst this;split at hr
 . rename_i h0;have:=Za2 h0;subst this;split at hr<;>first|(cases hr;done)|skip
   .simp only[H0]at hr;subst hr;have:=hs.oZ;subst this;exact .pure (x:= .string .empty) (by rw[show(Int.ofNat 0)=(0:Int)from rfl,Lib.run_unsafeString_none];rfl) (.str _ _ rfl)
   .simp only[H0]at hr;subst hr;obtain⟨_,he⟩:=hs.eG;subst he;exact .pure (x:= .string .empty) (by rw[show(Int.ofNat 0)=(0:Int)from rfl,Lib.run_unsafeString_none];rfl) (.str _ _ rfl)
 . (rename_i h0;have h0:=Zb7 h0;(split at hr<;>first|(cases hr;done)|skip);rename_i b;(split at hr<;>first|(cases hr;done)|skip);rename_i e' cs hb;(split at hr<;>first|(cases hr;done)|skip);rename_i l he hcut XC;have he:=Za2 he;have XC:=Za4 XC;subst he;(split at hr<;>first|(cases hr;done)|skip);rename_i s' SJ;simp only[H0]at hr;subst hr;obtain⟨_,gJ⟩:=hs.eG;subst gJ;obtain⟨d,hd,bU⟩:=(hT.at cF).und;rw[hk]at bU;rw[Nd bU]at hd;obtain⟨i0,lF,kz,_⟩:=(hT.at fc).info;have CS:P.cellsOf e=1:=(by simp[Program.cellsOf,lF,kz,h8]);obtain⟨KS,hbs2,c,fr,g1,g2,g3,g4,g5,g6⟩:=hW.live b _ hb;rw[g6]at g3 g4 ⊢;simp only[Zc4,Ze0]at g3 g4;have MS:w.shape? (ρ b).av=some (e,c.size):=(by simp[World.shape?,g1]);obtain⟨ya,mU⟩:=Bo hcut;have Hs:=sw hcut;have iz:au ρ st.next.toNat C l (c.toList.take n):=by have h:=(g4.drop 0).take n;rw[<-ya,Ze0,Zo6,Zk0 (by omega)]at h;exact h);obtain⟨e1,e2⟩:=Dy SJ iz;have KV:s'.length=n:=(by have:=congrArg List.length e1;simp at this;omega);have bN:=Lib.run_unsafeString_row (P:=P) w t t2 ty e hd CS (ρ b).av c.size MS (s'.map UInt8.ofNat) (by intro h;simp at h;rw[h]at KV;simp at KV;omega) (by simp;omega) (by simp;omega) (λj x hj=>by simp only[Zb8,Zd4]at hj;obtain⟨k,hk,rfl⟩:=hj;have hjn:j<n:=(by rw[<-KV];exact(Za0.1 hk).1);have h2:(c.toList.take n)[j]? =some (.int .u8 (k:Int)):=(by rw[e1];simp[hk]);rw[Zc0,Za6 hjn]at h2;have hk256:=e2 k (Zb6 hk);rw[kW];simp only[World.cell?,g1,Zc4];rw[<-Zg4,h2];congr 2;simp;omega);have hlen:(s'.map UInt8.ofNat).length=n:=(by simp[KV]);rw[hlen]at bN;obtain⟨q1,q2⟩:=aeh (w':=w.freeze ⟨(ρ b).av,0,none⟩ n) hW hb (by unfold World.freeze;split<;>rfl) (by unfold World.freeze;split<;>rfl) (by unfold World.freeze;split<;>rfl) (by unfold World.freeze;split<;>simp) (λk hk=>by
     unfold World.freeze;split
     .  rfl
     .  simp only[Zm5];rw[Za3 (λe=>hk e.symm)])
   refine⟨_,.string ⟨(s'.map UInt8.ofNat).toArray⟩,_,ρ,?_,Yields.value _,λ_ _=>rfl,q1,.str _ _ ?_,q2⟩
   .show((Builtin.unsafeString_ #[t,t2] ty #[.pointer (some ⟨(ρ b).av,0,none⟩),.int .i64 (n:Int)]).run P w).andThen _=_;rw[bN];rfl
   . (simp only[Zg1];have e3:s'.map (UInt8.toNat∘UInt8.ofNat)=s'.map id:=Zi8 λc hc=>by have:=e2 c hc;simp only[Function.comp,id,UInt8.toNat_ofNat'];omega);rw[e3,List.map_id]
end
section
variable{P:Program}{tt:TT}{ρ:Pos->Loc}{C:Cells}{st:St}{w w':World}
theorem Eu{n:Nat}{xs:Array Value}{u v:AV}(h:au ρ n C [u,v] xs.toList):∃x y,xs= #[x,y]/\aj ρ n C u x/\aj ρ n C v y:=by
 obtain⟨x,l,h1,h2,h3⟩:=h.cons_inv;obtain⟨y,l',h4,h5,h6⟩:=h3.cons_inv;have:=h6.mL;subst this;exact⟨x,y,by apply Zl9;rw[h1,h4],h2,h5⟩
theorem SS{n:Nat}{xs:Array Value}{u:AV}(h:au ρ n C [u] xs.toList):∃x,xs= #[x]/\aj ρ n C u x:=by
 obtain⟨x,l,h1,h2,h3⟩:=h.cons_inv;have:=h3.mL;subst this;exact⟨x,by apply Zl9;rw[h1],h2⟩
theorem SU{ts:Array TypeId}{t:TypeId}{l:List TypeId}(h:ts.toList=t::l):ts[0]? =some t:=by rw[<-Zg4,h];rfl
theorem arr1{ts:Array TypeId}{t t2:TypeId}{l:List TypeId}(h:ts.toList=t::t2::l):ts[1]? =some t2:=by rw[<-Zg4,h];rfl
theorem abk(hT:bM P tt){t e:Nat}{ts:Array TypeId}{ti te:TI}(cF:tt.get (key t)=some ti)(hk:ti.k= .slice e)
   (fc:tt.get (key e)=some te) (h0:ts[0]? =some t) (ty:TypeId) {d u:AV} {xd xu:Value} {res:b6} (hW:aX ρ C st w)
   (hd:aj ρ st.next.toNat C d xd) (hu:aj ρ st.next.toNat C u xu) (hr:yp (λb=>st.heap.get b) st.next te.size [d,u]=some res):
   sv P ρ C st w (((Builtin.copy_ ts ty #[xd,xu]).run P w).andThen λv w=>.ok (.value v) w) res:=by
 obtain⟨dd,hdd,bU⟩:=(hT.at cF).und;rw[hk]at bU;rw[lY bU]at hdd;obtain⟨i0,lF,kz,_⟩:=(hT.at fc).info;simp only[yp]at hr;split at hr<;>first|(cases hr;done)|skip
 rename_i n m hn hm;have hlen:=LX (P:=P) (w:=w) hu hm;have KV:(∃s,d= .str s)\/∃base aJ,xd= .slice base n aJ/\n<=aJ:=by
   unfold cZ at hn;split at hn<;>first|(cases hn;done)|skip
   .cases hn;exact .inr ⟨none,0,hd.fA,Za5 _⟩
   .cases hn;obtain⟨a,c,he,hle,_⟩:=hd.cW;exact .inr ⟨_,c,he,hle⟩
   .cases hn;obtain⟨a,c,_,he,hle,_⟩:=hd.q9;exact .inr ⟨_,c,he,hle⟩
   .exact .inl ⟨_,rfl⟩
 have aei:m=0\/n=0->(Builtin.firstCells te.size 0 xu).run P w= .ok #[] w:=by
   intro _;unfold cZ at hm;split at hm<;>first|(cases hm;done)|skip
   .rw[hu.fA];simp[Builtin.firstCells]
   .obtain⟨_,_,he,_⟩:=hu.cW;rw[he];simp[Builtin.firstCells,loadCells,loadCellsFrom]
   .obtain⟨_,_,_,he,_⟩:=hu.q9;rw[he];simp[Builtin.firstCells,loadCells,loadCellsFrom]
   .obtain⟨bs,rfl,_⟩:=hu.dX;simp only[Builtin.firstCells,Sem.run_pure];congr 1;apply Zl9;simp
 have mV:∀base aJ,xd= .slice base n aJ->(Builtin.copy_ ts ty #[xd,xu]).run P w=((Builtin.firstCells te.size (Nat.min m n) xu).run P w).andThen λcells w=>((match base with|some a=>storeCells a cells.toList|none=>pure ()).run P w).andThen λ_ w=>.ok (goInt (Nat.min m n)) w:=by
   intro base aJ he;unfold Builtin.copy_;simp only[h0,he,List.getElem?_toArray,Zb2,Ze4,Sem.run_bind,aL hdd,Result.andThen_ok,gY lF,kz,hlen];cases base<;>simp only[Sem.run_bind,Sem.run_pure,Result.andThen_ok]
 split at hr
 . rename_i u9;have u9:=Za2 u9;(split at hr<;>first|(cases hr;done)|skip);rename_i hns;simp only[H0]at hr;subst hr;rcases KV with⟨s,rfl⟩|⟨base,aJ,he,hle⟩
   .exact absurd rfl (hns s)
   .have hk0':Nat.min m n=0:=u9;refine .pure (x:=goInt 0) ?_ (.int _ _);rw[mV base aJ he,hk0',aei (by have:min m n=0:=u9;omega)];cases base<;>simp[storeCells]
 . rename_i u9;have u9:=Zb7 u9;(split at hr<;>first|(cases hr;done)|skip);rename_i b off n' cap es';(split at hr<;>first|(cases hr;done)|skip);rename_i cs fz new hb kX;(split at hr<;>first|(cases hr;done)|skip);rename_i c1 c2 c3;have c1:=Za4 c1;have c2:=Za4 c2;simp only[H0]at hr;subst hr;simp only[cZ,H0]at hn;subst hn;obtain⟨aa,aJ,he,hle,_,ha⟩:=hd.cW;have abl:min m n'<=m/\min m n'<=n':=⟨Nat.min_le_left _ _,Nat.min_le_right _ _⟩
   obtain⟨aN,rfl,_⟩:=ha (by omega);obtain⟨ys,e1,e2,e3⟩:=kF (P:=P) hW hu hm abl.1 kX w rfl;have FK:new.length=min m n'*te.size:=by
     rcases e3 with rfl|e3
     .simp[cZ]at hm;omega
     .exact e3
   obtain⟨w2,f1,ew,hE⟩:=FG (P:=P) hW hb (by rw[FK];exact c1) c2 c3 e2;refine⟨_,goInt ((min m n':Nat):Int),w2,ρ,?_,Yields.value _,λ_ _=>rfl,ew,.int _ _,hE⟩;rw[mV _ _ he];have hmm:Nat.min m n'=min m n':=rfl;rw[hmm,e1];simp only[Result.andThen_ok];rw[f1];rfl
theorem adq(hT:bM P tt){t:Nat}{ts:Array TypeId}{ti:TI}(cF:tt.get (key t)=some ti){k:LK}(hk:(k= .s/\ti.k= .string)\/(k= .l/\∃e,ti.k= .slice e)\/(k= .m/\∃a b,ti.k= .map a b))
   (h0:ts[0]? =some t) (ty:TypeId) {u:AV} {xu:Value} {res:b6} (hW:aX ρ C st w)
   (hu:aj ρ st.next.toNat C u xu) (hr:Ee (λb=>st.heap.get b) st.next k [u]=some res):
   sv P ρ C st w (((Builtin.len_ ts ty #[xu]).run P w).andThen λv w=>.ok (.value v) w) res:=by
 obtain⟨d,hd,bU⟩:=(hT.at cF).und;have mV:∀x,xu=x->(Builtin.len_ ts ty #[xu]).run P w=(Builtin.len_ ts ty #[x]).run P w:=λx e=>by rw[e]
 simp only[Ee]at hr;rcases hk with⟨rfl,hk⟩|⟨rfl,e,hk⟩|⟨rfl,a,b,hk⟩<;>rw[hk]at bU
 .rw[lC bU]at hd;(cases u<;>simp only[reduceCtorEq]at hr<;>first|(cases hr;done)|skip);simp only[H0]at hr;subst hr;obtain⟨bs,rfl,hs⟩:=hu.dX;exact .pure (x:=goInt bs.size) (by unfold Builtin.len_;simp[h0,aL hd]) (by rw[uI hs];exact .int _ _)
 . rw[lY bU]at hd;cases u<;>simp only[reduceCtorEq]at hr<;>first|(cases hr;done)|skip
   .simp only[H0]at hr;subst hr;rw[hu.fA];exact .pure (x:=goInt 0) (by unfold Builtin.len_;simp[h0,aL hd]) (.int _ _)
   .simp only[H0]at hr;subst hr;obtain⟨aa,c,he,_⟩:=hu.cW;rw[he];exact .pure (by unfold Builtin.len_;simp[h0,aL hd];rfl) (.int _ _)
   .simp only[H0]at hr;subst hr;obtain⟨aa,c,_,he,_⟩:=hu.q9;rw[he];exact .pure (by unfold Builtin.len_;simp[h0,aL hd];rfl) (.int _ _)
 . rw[Ip bU]at hd;cases u<;>simp only[reduceCtorEq]at hr<;>first|(cases hr;done)|skip
   .simp only[H0]at hr;subst hr;rw[hu.yx];exact .pure (x:=goInt 0) (by unfold Builtin.len_;simp[h0,aL hd]) (.int _ _)
   . (split at hr<;>first|(cases hr;done)|skip);rename_i es c hb;simp only[H0]at hr;subst hr;obtain⟨_,he⟩:=hu.u5;obtain⟨_,_,es',dc,hlen,_⟩:=hW.live _ _ hb;rw[he];exact .pure (x:=goInt es'.size) (by unfold Builtin.len_;simp[h0,aL hd,run_getObj_map dc]) (by rw[<-hlen];exact .int _ _)
theorem O5(z:Array Value)(m:Nat):(Builtin.zeroCells z m).toList=bK z.toList m:=by
 unfold Builtin.zeroCells;by_cases h:0<z.size
 .exact SL z m h
 .have h0:z.size=0:=(by omega);have:z= #[]:=Zm8 h0;subst this;have h1:bK ([]:List Value) m=[]:=Zb1 (by rw[iG];simp);simp[h1]
theorem ZA(hT:bM P tt){t e:Nat}{ts:Array TypeId}{ti te:TI}{z:List AV}(cF:tt.get (key t)=some ti)(hk:ti.k= .slice e)
   (fc:tt.get (key e)=some te) (hz:te.zero=some z) (h0:ts[0]? =some t) (ty:TypeId) {u:AV} {xu:Value} {res:b6} (hW:aX ρ C st w)
   (hu:aj ρ st.next.toNat C u xu) (hr:uY (λb=>st.heap.get b) st.next te.size z [u]=some res):
   sv P ρ C st w (((Builtin.clear_ ts ty #[xu]).run P w).andThen λv w=>.ok (.value v) w) res:=by
 obtain⟨dd,hdd,bU⟩:=(hT.at cF).und;rw[hk]at bU;rw[lY bU]at hdd;obtain⟨i0,lF,kz,_,xW⟩:=(hT.at fc).info;obtain⟨zv0,_,_,Nm,_⟩:=xW z hz;obtain⟨zv,xX,_,rq⟩:=rj hT fc hz (ρ:=ρ) (n:=st.next.toNat) (C:=C) w;simp only[uY]at hr;split at hr<;>first|(cases hr;done)|skip
 .simp only[H0]at hr;subst hr;rw[hu.fA];exact .pure (x:=undef) (by unfold Builtin.clear_;simp[h0,aL hdd];rfl) aj.uK
 . rename_i b off n cap es';obtain⟨aa,aJ,he,hle,_,ha⟩:=hu.cW;rw[he];split at hr
   .rename_i K3;have:=Za2 K3;subst this;simp only[H0]at hr;subst hr;exact .pure (x:=undef) (by unfold Builtin.clear_;simp[h0,aL hdd];rfl) aj.uK
   . rename_i K3;have K3:=Zb7 K3;(split at hr<;>first|(cases hr;done)|skip);rename_i cs fz hb;(split at hr<;>first|(cases hr;done)|skip);rename_i c1 c2 c3;have c1:=Za4 c1;have c2:=Za4 c2;simp only[H0]at hr;subst hr;obtain⟨_,rfl,_⟩:=ha (by omega);obtain⟨w2,f1,ew,hE⟩:=FG (P:=P) hW hb (vs:=bK z n) (ys:=bK zv.cells.toList n) (by rw[iG,Nm];exact c1) c2 c3 (Dz rq n);refine⟨_,undef,w2,ρ,?_,Yields.value _,λ_ _=>rfl,ew,aj.uK,hE⟩;unfold Builtin.clear_;cases n with
     |zero=>exact absurd rfl K3
     |succ n=>simp[h0,aL hdd,xX,O5,f1,undef]
theorem Ev(c:Call)(f:Operand)(hc:c.callee= .value f)(a:Act)(o:Oper)(ho:o.op= .call c){g:FuncId}{x y:Array Value}(he:a.eval f= .func (.func g) x y):
  (execOp a.eval o).run P w=(callFunc g (x++c.args.map a.eval++y)).run P w:=by
 simp[execOp,ho,resolve,hc,he,Deferred.ofValue,invoke]
theorem abm (hT:bM P tt) (c:Call):cJ P tt (.call c):=by
 intro ρ C st w k xs cls fr a o vs res ho hc hW hF hx hr;simp only[fO]at hc;split at hc<;>first|(cases hc;done)|skip
 rename_i l hl;split at hc<;>first|(cases hc;done)|skip
 ·
  rename_i g LZ;cases hc;have hv:=dM hl hF hx;simp only[ay.run,LN,H0]at hr;subst hr;refine⟨c.args.toList.map a.eval,?_,hv⟩;rw[Ev c _ LZ a o ho (g:=g) (x:= #[]) (y:= #[]) rfl];congr 2;apply Zl9;simp
 ·
  rename_i f hnf LZ;split at hc<;>first|(cases hc;done)|skip
  rename_i ao hao;cases hc;unfold dV at hx;split at hx<;>first|(cases hx;done)|skip
  rename_i fv hfv;split at hx<;>first|(cases hx;done)|skip
  rename_i vs' abn;simp only[H0]at hx;subst hx;have h1:=oY hao hF hfv;have h2:=dM hl hF abn;simp only[ay.run,LO]at hr;split at hr<;>first|(cases hr;done)|skip
  rename_i g first captured
  simp only[H0]at hr;subst hr;obtain⟨x,y,he,hx,hy⟩:=h1.yq;refine⟨x.toList++(c.args.toList.map a.eval++y.toList),?_,hx.append (h2.append hy)⟩;rw[Ev c f LZ a o ho he];congr 2;apply Zl9;simp
 ·
  rename_i b LZ;have hex:∀(s:Sem Value),(∀consts,builtin b c.argTypes o.type consts (c.args.map a.eval)=(do pure (.value (<-s))))->(execOp a.eval o).run P w=(s.run P w).andThen λv w=>.ok (.value v) w:=by intro s hs;simp only[execOp,ho,resolve,LZ,pure_bind,invoke];rw[hs];simp
  split at hc<;>first|(cases hc;done)|skip
  ·
   (split at hc<;>first|(cases hc;done)|skip);rename_i t _ _ cH;(split at hc<;>first|(cases hc;done)|skip);rename_i ti cF;have hv:=dM hl hF (vs:=vs) (by
        split at hc<;>first|(cases hc;done)|skip
        all_goals cases hc;exact hx)
   rw[fV] at hv;rw[hex (Builtin.len_ c.argTypes o.type (c.args.map a.eval)) (λ_=>rfl)];have hu:∃u,vs=[u]      :=by
        have h1:=hv.1;have h2:(c.args.toList).length=1:=by
         have: ∀{xs:List   Operand}{os:List dU},iT xs=some os->xs.length=os.length:=by
            intro xs;induction xs with
            |nil=>intro os h;simp[iT]at h;subst h;rfl
            |cons x xs ih=>intro os h;unfold iT at h;split at h<;>first|(cases h;done)|skip
                           rename_i e1 e2;simp only[H0]at h;subst h;simp[ih e2]
         rw[this hl];rfl
        match vs,h1 with
        |[u],_=>exact⟨u,rfl⟩
        |[],h1=>simp at h1 h2;omega
        |_::_::_,h1=>simp at h1 h2;omega
   obtain⟨u,rfl⟩:=hu;obtain⟨x,gJ,hux⟩:=SS hv;rw[gJ];split at hc<;>first|(cases hc;done)|skip
   all_goals
        rename_i hk;cases hc;simp only[ay.run]at hr;refine adq hT cF ?_ (SU cH) o.type hW hux hr
   .    exact .inl ⟨rfl,hk⟩
   .    exact .inr (.inl ⟨rfl,_,hk⟩)
   .    exact .inr (.inr ⟨rfl,_,_,hk⟩)
  ·
   (split at hc<;>first|(cases hc;done)|skip);rename_i t t2 _ cH;(split at hc<;>first|(cases hc;done)|skip);rename_i ti Hg cF Iw;split at hc<;>first|(cases hc;done)|skip
   .    rename_i e hk kI;(split at hc<;>first|(cases hc;done)|skip);rename_i te fc;(split at hc<;>first|(cases hc;done)|skip);rename_i z hz Zk h8;have h8:=Za2 h8;cases hc;have hv:=dM hl hF hx;rw[fV]at hv;rw[hex (Builtin.append_ c.argTypes o.type (c.args.map a.eval)) (λ_=>rfl)];simp only[ay.run]at hr;have hu:∃s u,vs=[s,u]:=by
         unfold sk at hr;(split at hr<;>first|(cases hr;done)|skip);exact⟨_,_,rfl⟩
        obtain⟨s,u,rfl⟩:=hu;obtain⟨x,y,gJ,h1,h2⟩:=Eu hv;rw[gJ];exact Vt hT cF Iw hk (λk hk=>by rw[kI]at hk;cases hk) fc hz h8 (SU cH) (arr1 cH) o.type hW h1 h2 hr
   rename_i e hk kI _;(split at hc<;>first|(cases hc;done)|skip);rename_i te fc;(split at hc<;>first|(cases hc;done)|skip);rename_i z hz;cases hc;have hv:=dM hl hF hx;rw[fV]at hv;rw[hex (Builtin.append_ c.argTypes o.type (c.args.map a.eval)) (λ_=>rfl)];simp only[ay.run]at hr;have hu:∃s u,vs=[s,u]:=by
        unfold fN at hr;(split at hr<;>first|(cases hr;done)|skip);exact⟨_,_,rfl⟩
   obtain⟨s,u,rfl⟩:=hu;obtain⟨x,y,gJ,h1,h2⟩:=Eu hv;rw[gJ];exact FJ hT cF Iw hk (λk hk=>kI k hk) fc hz (SU cH) (arr1 cH) o.type hW h1 h2 hr
  ·
   (split at hc<;>first|(cases hc;done)|skip);rename_i t _ cH;(split at hc<;>first|(cases hc;done)|skip);rename_i ti cF;(split at hc<;>first|(cases hc;done)|skip);rename_i e hk;(split at hc<;>first|(cases hc;done)|skip);rename_i te fc;cases hc;have hv:=dM hl hF hx;rw[fV]at hv;rw[hex (Builtin.copy_ c.argTypes o.type (c.args.map a.eval)) (λ_=>rfl)];simp only[ay.run]at hr;have hu:∃s u,vs=[s,u]:=by
        unfold yp at hr;(split at hr<;>first|(cases hr;done)|skip);exact⟨_,_,rfl⟩
   obtain⟨s,u,rfl⟩:=hu;obtain⟨x,y,gJ,h1,h2⟩:=Eu hv;rw[gJ];exact abk hT cF hk fc (SU cH) o.type hW h1 h2 hr
  ·
   (split at hc<;>first|(cases hc;done)|skip);cases hc;have hv:=dM hl hF hx;rw[fV]at hv;rw[hex (Builtin.unsafeSliceData_ c.argTypes o.type (c.args.map a.eval)) (λ_=>rfl)];simp only[ay.run]at hr;have hu:∃s,vs=[s]:=by
        unfold qZ at hr;(split at hr<;>first|(cases hr;done)|skip);exact⟨_,rfl⟩
   obtain⟨s,rfl⟩:=hu;obtain⟨x,gJ,h1⟩:=SS hv;rw[gJ];exact RJ o.type h1 hW hr
  ·
   (split at hc<;>first|(cases hc;done)|skip);rename_i t t2 cH;(split at hc<;>first|(cases hc;done)|skip);rename_i ti cF;(split at hc<;>first|(cases hc;done)|skip);rename_i e hk;(split at hc<;>first|(cases hc;done)|skip);rename_i te fc;(split at hc<;>first|(cases hc;done)|skip);rename_i Zk h8;have h8:=Za2 h8;cases hc;have hv:=dM hl hF hx;rw[fV]at hv;rw[hex (Builtin.unsafeString_ c.argTypes o.type (c.args.map a.eval)) (λ_=>rfl)];simp only[ay.run]at hr;have hu:∃s u,vs=[s,u]:=by
        unfold nY at hr;(split at hr<;>first|(cases hr;done)|skip);exact⟨_,_,rfl⟩
   obtain⟨s,u,rfl⟩:=hu;obtain⟨x,y,gJ,h1,h2⟩:=Eu hv;rw[gJ];exact RK hT cF hk fc h8 cH o.type hW h1 h2 hr
  ·
   (split at hc<;>first|(cases hc;done)|skip);cases hc;have hv:=dM hl hF hx;rw[fV]at hv;rw[hex (Builtin.min_ c.argTypes o.type (c.args.map a.eval)) (λ_=>rfl)];simp only[ay.run]at hr;have hu:∃s u r,vs=[s,u]/\res= .val r:=by
        unfold A8 at hr;(split at hr<;>first|(cases hr;done)|skip);split at hr<;>first|(cases hr;done)|skip
        all_goals cases hr;exact⟨_,_,_,rfl,rfl⟩
   obtain⟨s,u,r,rfl,rfl⟩:=hu;obtain⟨x,y,gJ,h1,h2⟩:=Eu hv;obtain⟨z,hz,hvz⟩:=abd (P:=P) (w:=w) h1 h2 hr;rw[gJ];refine .pure (x:=z) ?_ hvz;simp[Builtin.min_,hz]
  ·
   (split at hc<;>first|(cases hc;done)|skip);cases hc;have hv:=dM hl hF hx;rw[fV]at hv;rw[hex (Builtin.max_ c.argTypes o.type (c.args.map a.eval)) (λ_=>rfl)];simp only[ay.run]at hr;have hu:∃s u r,vs=[s,u]/\res= .val r:=by
        unfold A9 at hr;(split at hr<;>first|(cases hr;done)|skip);split at hr<;>first|(cases hr;done)|skip
        all_goals cases hr;exact⟨_,_,_,rfl,rfl⟩
   obtain⟨s,u,r,rfl,rfl⟩:=hu;obtain⟨x,y,gJ,h1,h2⟩:=Eu hv;obtain⟨z,hz,hvz⟩:=abe (P:=P) (w:=w) h1 h2 hr;rw[gJ];refine .pure (x:=z) ?_ hvz;simp[Builtin.max_,hz]
  ·
   (split at hc<;>first|(cases hc;done)|skip);rename_i t _ cH;(split at hc<;>first|(cases hc;done)|skip);rename_i ti cF;(split at hc<;>first|(cases hc;done)|skip);rename_i e hk;(split at hc<;>first|(cases hc;done)|skip);rename_i te fc;(split at hc<;>first|(cases hc;done)|skip);rename_i z hz;cases hc;have hv:=dM hl hF hx;rw[fV]at hv;rw[hex (Builtin.clear_ c.argTypes o.type (c.args.map a.eval)) (λ_=>rfl)];simp only[ay.run]at hr;have hu:∃u,vs=[u]:=by
        unfold uY at hr;(split at hr<;>first|(cases hr;done)|skip);exact⟨_,rfl⟩
   obtain⟨u,rfl⟩:=hu;obtain⟨x,gJ,hux⟩:=SS hv;rw[gJ];exact ZA hT cF hk fc hz (SU cH) o.type hW hux hr
theorem J5(hT:bM P tt)(op:Op):cJ P tt op:=by
 cases op with
 |move x=>exact aa9 x
 |assign x=>exact Xs x
 |pick c x y=>exact aba c x y
 |alloc t=>exact Zp hT t
 |box t x=>exact ado t x
 |build t ps=>exact Zo hT t ps
 |buildSlice t n ps=>exact O4 hT t n ps
 |insert t m k v=>exact Np hT _ t m k v (.inr rfl)
 |load t x=>exact abc hT t x
 |store t x y=>exact Zs hT t x y
 |nilCheck x=>exact SI x
 |binOp op t x y yt=>exact Zf hT op t x y yt
 |unOp op t x=>exact abb op t x
 |convert s d x=>
  by_cases h:∃xs cls,fO tt (.convert s d x)=some (.conv .bytes,xs,cls)
  .exact RI hT s d x h
  .exact Vq hT s d x λk xs cls hc e=>h ⟨xs,cls,by rw[hc,e]⟩
 |makeInterface t x=>exact Vo hT t x
 |makeFunc f x y=>exact Xt f x y
 |makeMap t r=>exact Zq t r hT
 |makeSlice t l c=>exact Vr hT t l c
 |slice t x l h m=>exact Zj hT t x l h m
 |fieldAddr t x f=>exact RF hT t x f
 |field t x f=>exact Zg hT t x f
 |indexAddr t x i=>exact RH hT t x i
 |index t x i=>exact Zh hT t x i
 |lookup t x i ok=>exact Xw hT t x i ok
 |mapUpdate t m k v=>exact Np hT _ t m k v (.inl rfl)
 |range t x=>exact Xy hT t x
 |next it s=>exact Zw it s
 |extract x i=>exact Vn x i
 |call c=>exact abm hT c
 |_=>intro ρ C st w k xs cls fr a o vs res ho hc;simp[fO]at hc
end
end
section
open Go
def Reaches(P:Program)(R:Value->World->Prop):Result Next->Prop
 |.ok (.value x) w'=>R x w'
 |.ok .skip w'=>R undef w'
 |.ok (.enter f args) w'=>Calls P f args w' λ|.returned v,w''=>R v w''|_,_=>False
 |.ok (.row row args) w'=>Rows P row args w' R
 |_=>False
theorem Reaches.mono{P:Program}{R R':Value->World->Prop}(h:∀x w,R x w->R' x w):∀{r:Result Next},Reaches P R r->Reaches P R' r
 |.ok (.value _) _,hr=>h _ _ hr
 |.ok .skip _,hr=>h _ _ hr
 |.ok (.enter _ _) _,hr=>Calls.mono hr λe w he=>by cases e<;>first|exact h _ _ he|exact he
 |.ok (.row _ _) _,hr=>Rows.mono hr h
section
variable(P:Program)(ops:Array Oper)
def O6(o:Oper)(K:Act->World->Prop)(a:Act)(w:World):Prop:=Reaches P (λx w'=>K (a.put o.dst x) w') ((execOp a.eval o).run P w)
def Bu(i:Nat)(K:Act->World->Prop)(a:Act)(w:World):Prop:=
 match ops[i]? with
 |none=>K a w
 |some o=>if Region.wanted o (yielded ops a.tmps)then O6 P o K a w else K (a.put o.dst undef) w
def o6(K:Act->World->Prop):List Nat->Act->World->Prop
 |[],a,w=>K a w
 |i::l,a,w=>Bu P ops i (o6 K l) a w
def R8(K:Act->World->Prop):Nat->Array Bool->Act->World->Prop
 |0,listed,a,w=>Region.ready .any ops listed=[]/\K a w
 |fuel+1,listed,a,w=>(Region.ready .any ops listed=[]->K a w)/\∀i∈Region.ready .any ops listed,Bu P ops i (R8 K fuel (listed.setIfInBounds i true)) a w
end
section
variable{P:Program}{ops:Array Oper}
theorem Qy{i:Nat}{K K':Act->World->Prop}{a:Act}{w:World}(h:∀a w,K a w->K' a w)(hh:Bu P ops i K a w):Bu P ops i K' a w:=by
 unfold Bu at*
 split
 .rename_i ho;rw[ho]at hh;exact h _ _ hh
 . rename_i o ho;rw[ho]at hh;dsimp only at hh;split
   .rename_i hw;rw[Za6 hw]at hh;exact Reaches.mono (λx w' hk=>h _ _ hk) hh
   .rename_i hw;rw[Za3 hw]at hh;exact h _ _ hh
theorem Qz{K:Act->World->Prop}{l2:List Nat}:∀(l1:List Nat)(a:Act)(w:World),o6 P ops (o6 P ops K l2) l1 a w->o6 P ops K (l1++l2) a w
 |[],_,_,h=>h
 |_::l1,_,_,h=>Qy (λa w=>Qz l1 a w) h
end
section
variable(P:Program)
def Ix(R:(Exit->Act->World->Prop)->Act->World->Prop)(Q:Exit->Act->World->Prop):Nat->Act->World->Prop
 |0,_,_=>False
 |n+1,a,w=>R (Exit.then (Ix R Q n) Q) a w
def eE:Code->(Exit->Act->World->Prop)->Act->World->Prop
 |.skip,Q,a,w=>Q .normal a w
 |  .region _ ops draw,Q,a,w=>match draw with
    |false=>o6 P ops (Q .normal) (List.range ops.size) a w
    |true=>P.follows .mixedOrders=true/\R8 P ops (Q .normal) ops.size (Array.replicate ops.size false) a { w with drawn:=w.drawn+1 }
 |.seq x y,Q,a,w=>eE x (Exit.then (eE y Q) Q) a w
 |  .cond c x y,Q,a,w=>∃t,a.eval c= .bool t/\match t with
    |true=>eE x Q a w
    |false=>eE y Q a w
 |.block id x,Q,a,w=>eE x (Exit.inBlock id Q) a w
 |.loop x,Q,a,w=>∃n,Ix (eE x) Q n a w
 |.exit id,Q,a,w=>Q (.exit id) a w
 |.ret,Q,a,w=>Q .ret a w
 |_,_,_,_=>False
end
section
variable{P:Program}{Q:Exit->Act->World->Prop}{a:Act}{w:World}
theorem ZB(h:Q .normal a w):eE P .skip Q a w:=h
theorem ZC{id:Nat}(h:Q (.exit id) a w):eE P (.exit id) Q a w:=h
theorem Bv{x y:Code}(h:eE P x (Exit.then (eE P y Q) Q) a w):eE P (.seq x y) Q a w:=h
theorem Nr{id:Nat}{x:Code}(h:eE P x (Exit.inBlock id Q) a w):eE P (.block id x) Q a w:=h
theorem DC{id:Nat}{ops:Array Oper}(h:o6 P ops (Q .normal) (List.range ops.size) a w):eE P (.region id ops false) Q a w:=h
theorem O7{c:Operand}{x y:Code}(hc:a.eval c= .bool true)(h:eE P x Q a w):eE P (.cond c x y) Q a w:=⟨true,hc,h⟩
theorem Ns{c:Operand}{x y:Code}(hc:a.eval c= .bool false)(h:eE P y Q a w):eE P (.cond c x y) Q a w:=⟨false,hc,h⟩
theorem ZD{x:Code}(n:Nat)(h:Ix (eE P x) Q n a w):eE P (.loop x) Q a w:=⟨n,h⟩
theorem QA{R:(Exit->Act->World->Prop)->Act->World->Prop}{n:Nat}:Ix R Q (n+1) a w=R (Exit.then (Ix R Q n) Q) a w:=rfl
end
def o7:Code->List Nat
 |.region _ ops _=>ops.toList.filterMap (·.dst)
 |.seq a b=>o7 a++o7 b
 |.cond _ a b=>o7 a++o7 b
 |.block _ a=>o7 a
 |.loop a=>o7 a
 |_=>[]
abbrev Fc(r:Option Nat):Fence:={ Fence.wide with round:=r }
section
variable{P:Program}{r:Option Nat}{n:Nat}{ts:Nat->Prop}{x:Array Value}{ds D:List Deferred}
def InF(D ds:List Deferred)(ts:Nat->Prop)(x:Array Value)(Q:Exit->Act->World->Prop):Exit->Act->World->Prop:=
 λe a w=>a.defers=D/\(∀t,ts t->a.tmps[t]? =x[t]?)/\Q e ⟨a.tmps,ds⟩ w
theorem adr{row:String}{args:Array Value}{w:World}{R:Value->World->Prop}(h:Rows P row args w R):RowsIn (Fc r) n P row args w R:=
 λc cs _=>let⟨v,w',hr,hs⟩:=h c cs;⟨v,w',hr,stepsIn_wide.2 hs⟩
theorem abo{f:FuncId}{args:Array Value}{w:World}{R:Ending->World->Prop}(h:Calls P f args w R):CallsIn (Fc r) n P f args w R:=callsIn_wide.2 h
theorem Ew{T:Array Value}{o:Operand}:(⟨T,ds⟩:Act).eval o=(⟨T,D⟩:Act).eval o:=by cases o<;>rfl
theorem aej{T:Array Value}{d:Option Tmp}{v:Value}:(⟨T,ds⟩:Act).put d v=⟨((⟨T,D⟩:Act).put d v).tmps,ds⟩:=by cases d<;>rfl
theorem ads{T:Array Value}{d:Option Tmp}{v:Value}:(⟨T,ds⟩:Act).put d v=⟨((⟨T,ds⟩:Act).put d v).tmps,ds⟩:=by cases d<;>rfl
theorem abp{T:Array Value}{d:Option Tmp}{v:Value}{t:Nat}(h:d≠some t):((⟨T,ds⟩:Act).put d v).tmps[t]? =T[t]? :=by
 cases d with
 |none=>rfl
 |some e=>
  show(T.setIfInBounds e v)[t]? =T[t]?;exact Ze1 λh'=>h (by rw[h'])
theorem adt{o:Oper}{K:Act->World->Prop}{K':Act->World->Prop}{Q:Exit->Act->World->Prop}{T:Array Value}{w:World}(h:O6 P o K ⟨T,ds⟩ w)
  (hK:∀v w',K ((⟨T,ds⟩:Act).put o.dst v) w'->K' ((⟨T,D⟩:Act).put o.dst v) w'):o.wpIn (Fc r) n P ⟨T,D⟩ w K' Q:=by
 refine⟨λ_ _=>trivial,?_⟩;have he:(⟨T,D⟩:Act).eval=(⟨T,ds⟩:Act).eval:=funext λ_=>Ew
 rw[he];unfold O6 at h;have hs:o.semAt r (⟨T,ds⟩:Act).eval=execOp (⟨T,ds⟩:Act).eval o:=by
  cases r with
  |none=>rfl
  | some l=>
    unfold Oper.semAt;(cases ho:o.op<;>first|rfl|skip);exfalso;unfold execOp at h;rw[ho]at h;simp only[Sem.run_bind,Sem.run_pure]at h;cases hr:(resolve (⟨T,ds⟩:Act).eval _ o.type).run P w<;>rw[hr]at h<;>simp[Result.andThen,Reaches]at h
 show o.uponIn (Fc r) n P _ _ _ ((o.semAt r (⟨T,ds⟩:Act).eval).run P w);rw[hs];generalize (execOp (⟨T,ds⟩:Act).eval o).run P w=z at h;cases z with
 |ok m w'=>
  cases m<;>simp only[Reaches]at h
  .exact hK _ _ h
  .exact hK _ _ h
  .exact⟨λhd=>by simp[Fence.wide]at hd,(abo h).mono λe w he=>by cases e<;>first|exact hK _ _ he|exact he.elim⟩
  .exact⟨λhd=>by simp[Fence.wide]at hd,(adr h).mono λv w he=>hK _ _ he⟩
 |halt v w'=>simp only[Reaches]at h
theorem V6{ops:Array Oper}{i:Nat}{K K':Act->World->Prop}{Q:Exit->Act->World->Prop}{T:Array Value}{w:World}(h:Bu P ops i K ⟨T,ds⟩ w)(cH:∀o,ops[i]? =some o->∀t,o.dst=some t->¬ts t)
   (hx:∀t,ts t->T[t]? =x[t]?) (hK:∀T' w',(∀t,ts t->T'[t]? =x[t]?)->K ⟨T',ds⟩ w'->K' ⟨T',D⟩ w'):wpOpIn (Fc r) n P ops Q i K' ⟨T,D⟩ w:=by
 unfold Bu at h;unfold wpOpIn;split at h
 .rename_i ho;rw[ho];exact hK _ _ hx h
 . (rename_i o ho;rw[ho];have XF:∀v t,ts t->((⟨T,D⟩:Act).put o.dst v).tmps[t]? =x[t]? :=λv t ht=>by rw[abp (λhd=>cH o ho t hd ht)];exact hx t ht);have mV:∀v w',K ((⟨T,ds⟩:Act).put o.dst v) w'->K' ((⟨T,D⟩:Act).put o.dst v) w':=λv w' hk=>by rw[aej (D:=D)]at hk;rw[ads];exact hK _ _ (XF v) hk
   show if Region.wanted o (yielded ops T)=true then _ else _
   dsimp only at h;split at h
   .rename_i hw;rw[Za6 hw];exact adt h mV
   .rename_i hw;rw[Za3 hw];exact⟨λ_ _=>trivial,mV _ _ h⟩
theorem ZE{ops:Array Oper}(cH:∀t∈ops.toList.filterMap (·.dst),¬ts t){i:Nat}:∀o,ops[i]? =some o->∀t,o.dst=some t->¬ts t:=λo ho t ht=>cH t (by
 rw[Zm0];exact⟨o,by rw[Zk6];exact Zk5 ho,ht⟩)
theorem FL{ops:Array Oper}{K:Act->World->Prop}{Q:Exit->Act->World->Prop}{l2:List Nat}(hK:∀T' w',(∀t,ts t->T'[t]? =x[t]?)->K ⟨T',ds⟩ w'->wpOpsIn (Fc r) n P ops Q l2 ⟨T',D⟩ w'):
  ∀(l:List Nat)(T:Array Value)(w:World),(∀i∈l,∀o,ops[i]? =some o->∀t,o.dst=some t->¬ts t)->(∀t,ts t->T[t]? =x[t]?)->o6 P ops K l ⟨T,ds⟩ w->wpOpsIn (Fc r) n P ops Q (l++l2) ⟨T,D⟩ w
 |[],T,w,_,hx,h=>hK T w hx h
 |i::l,T,w,cH,hx,h=>by rw[Ze8,wpOpsIn_cons];exact V6 h (cH i (Zc3 ..)) hx λT' w' kA hk=>FL hK l T' w' (λj hj=>cH j (Za7 _ hj)) kA hk
theorem SV{ops:Array Oper}{K K':Act->World->Prop}{Q:Exit->Act->World->Prop}(hQ:Q .normal=K')(cH:∀t∈ops.toList.filterMap (·.dst),¬ts t)(hK:∀T' w',(∀t,ts t->T'[t]? =x[t]?)->K ⟨T',ds⟩ w'->K' ⟨T',D⟩ w'):
  ∀(fuel:Nat)(listed:Array Bool)(T:Array Value)(w:World),(∀t,ts t->T[t]? =x[t]?)->R8 P ops K fuel listed ⟨T,ds⟩ w->wpAnyIn (Fc r) n P .any ops Q fuel listed ⟨T,D⟩ w
 |0,listed,T,w,hx,h=>⟨h.1,by rw[hQ];exact hK T w hx h.2⟩
 |fuel+1,listed,T,w,hx,h=>⟨λhr=>by rw[hQ];exact hK T w hx (h.1 hr),λi hi=>V6 (h.2 i hi) (ZE cH) hx λT' w' kA hk=>SV hQ cH hK fuel _ T' w' kA hk⟩
theorem eE.V8:∀(c:Code)(Q:Exit->Act->World->Prop)(T:Array Value)(w:World),(∀t∈o7 c,¬ts t)->(∀t,ts t->T[t]? =x[t]?)->eE P c Q ⟨T,ds⟩ w->
  c.wpIn (Fc r) n P (InF D ds ts x Q) ⟨T,D⟩ w:=by
 intro c;induction c with
 |skip=>exact λQ T w _ hx h=>wpIn_skip ⟨rfl,hx,h⟩
 |region i ops d=>
  intro Q T w cH hx h;cases d
  .refine wpIn_region ?_;rw[<-Zf3 (List.range ops.size)];exact FL (λT' w' kA hk=>by show InF D ds ts x Q .normal _ _;exact⟨rfl,kA,hk⟩) _ T w (λ_ _=>ZE cH) hx h
  .exact wpIn_region_any h.1 (SV rfl cH (λT' w' kA hk=>⟨rfl,kA,hk⟩) _ _ T _ hx h.2)
 |seq a b SW SX=>
  intro Q T w cH hx h;refine wpIn_seq (wpIn_mono (SW _ T w (λt ht=>cH t (Zg7 _ ht)) hx h) ?_);rintro e ⟨T',D'⟩ w' ⟨h1,h2,h3⟩;dsimp only at h1;subst h1;cases e with
  |normal=>exact SX Q T' w' (λt ht=>cH t (Zi3 _ ht)) h2 h3
  |_=>exact⟨rfl,h2,h3⟩
 |cond c a b SW SX=>
  intro Q T w cH hx h;obtain⟨t,ht,h⟩:=h;refine wpIn_cond (t:=t) (by rw[<-ht];exact Ew) ?_;cases t
  .exact SX Q T w (λt ht=>cH t (Zi3 _ ht)) hx h
  .exact SW Q T w (λt ht=>cH t (Zg7 _ ht)) hx h
 |block id a ih=>
  intro Q T w cH hx h;refine wpIn_block (wpIn_mono (ih _ T w cH hx h) ?_);rintro e a' w' ⟨h1,h2,h3⟩;cases e with
  | exit i=>
    simp only[Exit.inBlock]at h3 ⊢;split<;>(rename_i hi;first|rw[Za6 hi]at h3|rw[Za3 hi]at h3)<;>exact⟨h1,h2,h3⟩
  |_=>exact⟨h1,h2,h3⟩
 |loop a ih=>
  intro Q T w cH hx h;obtain⟨m,h⟩:=h;refine wpIn_loop_rounds m ?_;induction m generalizing T w with
  |zero=>exact h.elim
  | succ m ihm=>
    rw[roundsIn_succ];refine wpIn_mono (ih _ T w cH hx h) ?_;rintro e ⟨T',D'⟩ w' ⟨h1,h2,h3⟩;dsimp only at h1;subst h1;cases e with
    |normal=>exact ihm T' w' h2 h3
    |_=>exact⟨rfl,h2,h3⟩
 |exit id=>exact λQ T w _ hx h=>wpIn_exit ⟨rfl,hx,h⟩
 |ret=>exact λQ T w _ hx h=>wpIn_ret ⟨rfl,hx,h⟩
 |_=>exact λQ T w _ _ h=>h.elim
theorem eE.wp{c:Code}{Q:Exit->Act->World->Prop}{a:Act}{w:World}(h:eE P c Q a w):c.wp P Q a w:=by refine wpIn_wide (n:=0) |>.1 (wpIn_mono (eE.V8 (r:=none) (D:=a.defers) (ds:=a.defers) (ts:=λ_=>False) (x:= #[]) c Q a.tmps w (λ_ _ h=>h) (λ_ h=>h.elim) h) ?_);rintro e ⟨T,D⟩ w' ⟨h1,_,h3⟩;dsimp only at h1;subst h1;exact h3
end
end
section
open Go Go.RowKit
def l6(ρ:Pos->Loc)(C:Cells)(st:St)(w:World)(v:AV)(st':St)(x:Value)(w':World):Prop:=
 ∃ρ',aj ρ' st'.next.toNat C v x/\(∀b:Pos,b.toNat<st.next.toNat->ρ' b=ρ b)/\st.next.toNat<=st'.next.toNat/\aX ρ' C st' w'/\jN ρ st w ρ' st' w'
def eV(P:Program)(C:Cells)(call:ai):Prop:=
 ∀  (ρ:Pos->Loc)(st:St)(w:World)(f:FuncId)(args:List AV)(v:AV)(st':St)(bE:List Value),call f args st=some (v,st')->
    aX ρ C st w->au ρ st.next.toNat C args bE->Reaches P (l6 ρ C st w v st') ((callFunc f bE.toArray).run P w)
section
variable{P:Program}{tt:TT}{C:Cells}{call:ai}
theorem St.SY(st:St)(del:Option Pos)(set:Option (Pos×AB))(new:Option AB):st.next.toNat<=(st.aE del set new).next.toNat:=by
 cases new with
 |none=>exact Za5 _
 |some x=>simp only[St.aE,Pos.aB];omega
theorem K4(hT:bM P tt)(bH:eV P C call){ρ:Pos->Loc}{st st':St}{w:World}{k:ay}{xs:List dU}{cls:VS}{fr:Fr}{a:Act}{o:Oper}{vs:List AV}{v:AV}
   (hc:fO tt o.op=some (k,xs,cls)) (hW:aX ρ C st w) (hF:fh ρ st.next.toNat C fr a.tmps) (hx:dV fr xs=some vs)
   (hs:bF call k vs st=some (v,st')):Reaches P (l6 ρ C st w v st') ((execOp a.eval o).run P w):=by
 have H:=J5 hT o.op ρ C st w k xs cls fr a o vs;unfold bF at hs;split at hs
 . rename_i u hr;simp only[H0,Zb3]at hs;obtain⟨rfl,rfl⟩:=hs;obtain⟨N,x,he,hy,hv⟩:=H _ rfl hc hW hF hx hr;have hp:l6 ρ C st w u st x w:=⟨ρ,hv,λ_ _=>rfl,Za5 _,hW,jN.refl _ _ _⟩
   rw[he];rcases hy with rfl|⟨rfl,rfl⟩<;>exact hp
 . rename_i u del set new hr;simp only[H0,Zb3]at hs;obtain⟨rfl,rfl⟩:=hs;obtain⟨N,x,w',ρ',he,hy,aT,ew,hv,hE⟩:=H _ rfl hc hW hF hx hr;have hp:l6 ρ C st w u (st.aE del set new) x w':=⟨ρ',hv,aT,St.SY _ _ _ _,ew,hE⟩
   rw[he];rcases hy with rfl|⟨rfl,rfl⟩<;>exact hp
 .rename_i f args hr;obtain⟨bE,he,hv⟩:=H _ rfl hc hW hF hx hr;rw[he];exact bH ρ st w f args v st' bE hs hW hv
 .cases hs
structure sx(tt:TT)(nt:Nat)(ops:Array Oper)(o:Oper)(ao:bk):Prop where
 dst:ao.dst=o.dst.map key
 lt:∀d,o.dst=some d->d<nt
 guard:Na ops o.guard=some ao.guard
 op:(fO tt o.op=some (ao.k,ao.xs,ao.cls))\/(ao.k= .bad/\ao.cls= .aE)
theorem ny{nt:Nat}{ops:Array Oper}:∀{os:List Oper}{bs:List Nat}{l:List bk},mT tt nt ops os bs=some l->
  l.length=os.length/\∀(i:Nat)(o:Oper),os[i]? =some o->∃ao,l[i]? =some ao/\sx tt nt ops o ao/\ao.bC=bs.getD i 0
 |[],bs,l,h=>by simp[mT]at h;subst h;exact⟨rfl,λi o ho=>by simp at ho⟩
 |o ::os,bs,l,h=>by
  unfold mT at h;split at h<;>first|(cases h;done)|skip
  rename_i g l' hg hl hd;obtain⟨h1,h2⟩:=ny hl;have aN:∀d,o.dst=some d->d<nt:=λd hdd=>by rw[hdd]at hd;simpa [mT.acY]using hd
  have hb:∀i,bs.tail.getD i 0=bs.getD (i+1) 0:=λi=>by cases bs<;>simp
  have hb0:bs.headD 0=bs.getD 0 0:=by cases bs<;>simp
  split at h
  . rename_i k xs cls hc;simp only[H0]at h;subst h;refine⟨by simp[h1],λi o' ho=> ?_⟩;cases i with
    |   zero=>
        simp at ho;subst ho;exact⟨_,rfl,⟨rfl,aN,hg,.inl hc⟩,hb0⟩
    |   succ i=>
        simp at ho;obtain⟨ao,h3,h4,h5⟩:=h2 i o' ho;exact⟨ao,by simpa using h3,h4,by rw[h5,hb]⟩
  . simp only[H0]at h;subst h;refine⟨by simp[h1],λi o' ho=> ?_⟩;cases i with
    |   zero=>
        simp at ho;subst ho;exact⟨_,rfl,⟨rfl,aN,hg,.inr ⟨rfl,rfl⟩⟩,hb0⟩
    |   succ i=>
        simp at ho;obtain⟨ao,h3,h4,h5⟩:=h2 i o' ho;exact⟨ao,by simpa using h3,h4,by rw[h5,hb]⟩
theorem Bw{ops:Array Oper}{ρ:Pos->Loc}{n:Nat}{fr:Fr}{a:Act}{o:Oper}{g:Option (Pos×Bool)}{b:Bool}(hg:Na ops o.guard=some g)
   (hF:∀p v,fr.get p=some v->(∃q,g=some (p,q))->∃x,a.tmps[p.toNat - 1]? =some x/\aj ρ n C v x)
   (hw:bI fr g=some b):Region.wanted o (yielded ops a.tmps)=b:=by
 unfold Region.wanted;unfold Na at hg;split at hg
 .rename_i hn;simp only[H0]at hg;subst hg;simp only[bI,H0]at hw;subst hw;rw[hn]
 . rename_i j want hn;rw[hn];(split at hg<;>first|(cases hg;done)|skip);rename_i oj hj;(split at hg<;>first|(cases hg;done)|skip);rename_i d hd;simp only[H0]at hg;subst hg;simp only[bI]at hw;split at hw
   .rename_i u hu;simp only[H0]at hw;subst hw;obtain⟨x,hx,hv⟩:=hF _ _ hu ⟨_,rfl⟩;rw[eO,Ze9]at hx;have:=hv.gG;subst this;simp[yielded,hj,hd,hx]
   .rename_i l hu;simp only[H0]at hw;subst hw;obtain⟨x,hx,hv⟩:=hF _ _ hu ⟨_,rfl⟩;rw[eO,Ze9]at hx;obtain⟨cs,rfl,_⟩:=hv.Qm;simp[yielded,hj,hd,hx]
   .cases hw
theorem aj.QB{ρ:Pos->Loc}{n:Nat}:aj ρ n C AV.undef undef:= .tuple [] #[] rfl λ_ _ _ h=>by simp at h
theorem Act.g9(a:Act)(d:Option Tmp)(v:Value):(a.put d v).tmps.size=a.tmps.size:=by cases d<;>simp[Act.put]
theorem Act.jf(a:Act)(d:Option Tmp)(v:Value):(a.put d v).defers=a.defers:=by cases d<;>rfl
theorem fh.put{ρ:Pos->Loc}{n nt:Nat}{fr:Fr}{a:Act}{d:Option Tmp}{v:AV}{x:Value}(hF:fh ρ n C fr a.tmps)(hs:a.tmps.size=nt)
  (hd:∀e,d=some e->e<nt) (hv:aj ρ n C v x):fh ρ n C (cM fr (d.map key) v) (a.put d x).tmps:=by
 cases d with
 |none=>exact hF
 |some e=>
  have he:=hd e rfl;intro p u hp;simp only[Ze7,cM]at hp;simp only[Act.put];by_cases Nt:key e=p
  .subst Nt;rw[T.eF]at hp;simp only[H0]at hp;subst hp;refine⟨x,?_,hv⟩;rw[eO,Ze9,Zk3];simp[hs,he]
  .rw[T.bw _ Nt]at hp;obtain⟨y,hy,hr⟩:=hF p u hp;refine⟨y,?_,hr⟩;rw[Ze1,hy];intro h;apply Nt;apply Pos.toNat_inj;rw[eO];have:=p.toNat_pos;omega
theorem fh.mono{ρ ρ':Pos->Loc}{n n':Nat}{fr:Fr}{tmps:Array Value}(hF:fh ρ n C fr tmps)(aT:∀b:Pos,b.toNat<n->ρ' b=ρ b)(hn:n<=n'):fh ρ' n' C fr tmps:=
 λp v hp=>let⟨x,hx,hv⟩:=hF p v hp;⟨x,hx,hv.mono aT hn⟩
structure mF(nt:Nat)(ρ:Pos->Loc)(C:Cells)(fr:Fr)(st:St)(a:Act)(w:World):Prop where
 W:aX ρ C st w
 F:fh ρ st.next.toNat C fr a.tmps
 size:a.tmps.size=nt
 defers:a.defers=[]
def fB(nt:Nat)(ρ:Pos->Loc)(C:Cells)(st:St)(w:World)(aY:Fr)(st':St)(a':Act)(w':World):Prop:=
 ∃ρ',mF nt ρ' C aY st' a' w'/\(∀b:Pos,b.toNat<st.next.toNat->ρ' b=ρ b)/\st.next.toNat<=st'.next.toNat/\jN ρ st w ρ' st' w'
theorem fB.refl{nt:Nat}{ρ:Pos->Loc}{fr:Fr}{st:St}{a:Act}{w:World}(h:mF nt ρ C fr st a w):fB nt ρ C st w fr st a w:=
 ⟨ρ,h,λ_ _=>rfl,Za5 _,jN.refl _ _ _⟩
theorem fB.trans{nt:Nat}{ρ dJ:Pos->Loc}{sU:Fr}{st aM iy:St}{a2:Act}{w w1 w2:World}
  (h1:∀b:Pos,b.toNat<st.next.toNat->dJ b=ρ b) (h2:st.next.toNat<=aM.next.toNat) (h3:jN ρ st w dJ aM w1)
  (h:fB nt dJ C aM w1 sU iy a2 w2):fB nt ρ C st w sU iy a2 w2:=by
 obtain⟨lV,k1,k2,k3,k4⟩:=h;exact⟨lV,k1,λb hb=>(k2 b (Zc7 hb h2)).trans (h1 b hb),Zc8 h2 k3,h3.trans k4⟩
theorem Reaches.bad{k:ay}{vs:List AV}{st:St}{r:AV×St}(hk:k= .bad)(h:bF call k vs st=some r):False:=by subst hk;simp[bF,ay.run]at h
theorem o8(hT:bM P tt)(bH:eV P C call){nt:Nat}{ops:Array Oper}{K:Act->World->Prop}:∀(S5:List bk)(k:Nat)(fr aY:Fr)(st st':St)(ρ:Pos->Loc)(a:Act)(w:World),
  (∀(i:Nat)(ao:bk),S5[i]? =some ao->∃o,ops[k+i]? =some o/\sx tt nt ops o ao)->
  iW call S5 fr st=some (aY,st')->mF nt ρ C fr st a w->(∀a' w',fB nt ρ C st w aY st' a' w'->K a' w')->o6 P ops K (List.range' k S5.length) a w
 |[],k,fr,aY,st,st',ρ,a,w,_,h,hS,hQ=>by
  simp only[iW,H0,Zb3]at h;obtain⟨rfl,rfl⟩:=h;exact hQ a w (fB.refl hS)
 |ao::S5,k,fr,aY,st,st',ρ,a,w,ho,h,hS,hQ=>by
  obtain⟨o,e8,hR⟩:=ho 0 ao rfl;rw[Zg6]at e8;have CX:∀(i:Nat)(ZF:bk),S5[i]? =some ZF->∃o,ops[k+1+i]? =some o/\sx tt nt ops o ZF:=λi ZF hi=>by
    obtain⟨o',h1,h2⟩:=ho (i+1) ZF (by simpa using hi);exact⟨o',by rw[<-h1];congr 1;omega,h2⟩
  simp only[Ze2,Zm9,o6,Bu,e8];unfold iW at h;split at h
  . rename_i hw;rw[Za6 (Bw hR.guard (λp v hp _=>hS.F p v hp) hw)];(split at h<;>first|(cases h;done)|skip);rename_i vs iz;(split at h<;>first|(cases h;done)|skip);rename_i v aM iY;rcases hR.op with hc|⟨hk,_⟩
    .   have hr:=K4 hT bH hc hS.W hS.F iz iY;(refine hr.mono λx w1 hp=> ?_);obtain⟨dJ,hv,h1,h2,S6,hE⟩:=hp;rw[hR.dst]at h;refine o8 hT bH S5 (k+1) _ aY aM st' dJ _ w1 CX h ⟨S6,fh.put (hS.F.mono h1 h2) hS.size hR.lt hv,by rw[Act.g9];exact hS.size,by rw[Act.jf];exact hS.defers⟩ λa' w' hp=>hQ a' w' (fB.trans h1 h2 hE hp)
    .   exact(Reaches.bad hk iY).elim
  .rename_i hw;rw[Za3 (by rw[Bw hR.guard (λp v hp _=>hS.F p v hp) hw];simp)];rw[hR.dst]at h;exact o8 hT bH S5 (k+1) _ aY st st' ρ _ w CX h ⟨hS.W,fh.put hS.F hS.size hR.lt .QB,by rw[Act.g9];exact hS.size,by rw[Act.jf];exact hS.defers⟩ hQ
  .cases h
theorem yy{nt:Nat}{ops:Array Oper}{l:List bk}{bs:List Nat}(h:mT tt nt ops ops.toList bs=some l)(i:Nat)(ao:bk)(hi:l[i]? =some ao):
  ∃o,ops[i]? =some o/\sx tt nt ops o ao/\ao.bC=bs.getD i 0:=by
 obtain⟨h1,h2⟩:=ny h;have aN:i<ops.toList.length:=by rw[<-h1];exact(Za0.1 hi).1
 obtain⟨ZF,h3,h4,h5⟩:=h2 i _ (H4 aN);rw[hi]at h3;simp only[H0]at h3;subst h3;exact⟨_,by rw[<-Zg4];exact H4 aN,h4,h5⟩
theorem S7(hT:bM P tt)(bH:eV P C call){nt id:Nat}{ops:Array Oper}{bs:List Nat}{l:List bk}{Q:Exit->Act->World->Prop}{fr aY:Fr}{st st':St}{ρ:Pos->Loc}{a:Act}{w:World}
  (hl:mT tt nt ops ops.toList bs=some l) (h:iW call l fr st=some (aY,st')) (hS:mF nt ρ C fr st a w)
  (hQ:∀a' w',fB nt ρ C st w aY st' a' w'->Q .normal a' w'):eE P (Code.region id ops false) Q a w:=by
 show o6 P ops (Q .normal) (List.range ops.size) a w;have hlen:l.length=ops.size:=by rw[(ny hl).1,Zf4]
 rw[Zk7, <-hlen];exact o8 hT bH l 0 fr aY st st' ρ a w (λi ao hi=>by
  obtain⟨o,h1,h2,_⟩:=yy hl i ao hi;exact⟨o,by rw[Zc4];exact h1,h2⟩) h hS hQ
end
section
variable{P:Program}{tt:TT}{C:Cells}{call:ai}
def p9(P:Program)(tt:TT)(C:Cells)(call:ai):Prop:=
 ∀  (nt id:Nat)(ops:Array Oper)(l:List bk)(Q:Exit->Act->World->Prop)(fr aY:Fr)(st st':St)(ρ:Pos->Loc)(a:Act)(w:World),
    mT tt nt ops ops.toList (Sy ops.toList [])=some l->Eh l.length 0 (uD (Bj 0 l) [])=true->cL call (uD (Bj 0 l) []) [] st.heap fr st=some (aY,st')->mF nt ρ C fr st a w->
    (∀a' w',fB nt ρ C st w aY st' a' w'->Q .normal a' w')->eE P (Code.region id ops true) Q a w
def mN:js->Exit
 |.normal=>.normal
 |.exit id=>.exit id
 |.ret=>.ret
def Nu(P:Program)(tt:TT)(C:Cells)(call:ai)(nt m:Nat):Prop:=
 ∀  (c:Code)(ac:AC)(fr aY:Fr)(st st':St)(ex:js)(ρ:Pos->Loc)(a:Act)(w:World)(Q:Exit->Act->World->Prop),
    qH tt nt c=some ac->exec call m ac fr st=some (ex,aY,st')->mF nt ρ C fr st a w->
    (∀a' w',fB nt ρ C st w aY st' a' w'->Q (mN ex) a' w')->eE P c Q a w
def Nv(P:Program)(tt:TT)(C:Cells)(call:ai)(nt m:Nat):Prop:=
 ∀  (c:Code)(ac:AC)(fr aY:Fr)(st st':St)(ex:js)(ρ:Pos->Loc)(a:Act)(w:World)(Q:Exit->Act->World->Prop),
    qH tt nt c=some ac->exec call m (.loop ac) fr st=some (ex,aY,st')->mF nt ρ C fr st a w->
    (∀a' w',fB nt ρ C st w aY st' a' w'->Q (mN ex) a' w')->Ix (eE P c) Q m a w
theorem QC{nt m:Nat}(Bx:Nu P tt C call nt m)(ihL:Nv P tt C call nt m):Nv P tt C call nt (m+1):=by
 intro c ac fr aY st st' ex ρ a w Q hc h hS hQ;simp only[exec,aZ]at h;show eE P c (Exit.then (Ix (eE P c) Q m) Q) a w;split at h
 .rename_i bO aM h1;(refine Bx c ac fr bO st aM .normal ρ a w _ hc h1 hS λa1 w1 hp=> ?_);obtain⟨dJ,ry,k1,k2,k3⟩:=hp;exact ihL c ac bO aY aM st' ex dJ a1 w1 Q hc h ry λa2 w2 hp=>hQ a2 w2 (fB.trans k1 k2 k3 hp)
 . rename_i aV;cases ex with
   |normal=>exact(aV _ _ h).elim
   |exit id=>exact Bx c ac fr aY st st' (.exit id) ρ a w _ hc h hS λa1 w1 hp=>hQ a1 w1 hp
   |ret=>exact Bx c ac fr aY st st' .ret ρ a w _ hc h hS λa1 w1 hp=>hQ a1 w1 hp
theorem ZG(hT:bM P tt)(bH:eV P C call)(fL:p9 P tt C call){nt m:Nat}(Bx:Nu P tt C call nt m)(ihL:Nv P tt C call nt m):Nu P tt C call nt (m+1):=by
 intro c ac fr aY st st' ex ρ a w Q hc h hS hQ;have ae7:=QC Bx ihL;unfold qH at hc;split at hc<;>first|(cases hc;done)|skip
 .simp only[H0]at hc;subst hc;simp only[exec,aZ,H0,Zb3]at h;obtain⟨rfl,rfl,rfl⟩:=h;exact hQ _ _ (fB.refl hS)
 . rename_i ix ops draw;(split at hc<;>first|(cases hc;done)|skip);rename_i l hl;split at hc
   .simp only[H0]at hc;subst hc;simp only[exec,aZ]at h;(split at h<;>first|(cases h;done)|skip);rename_i bO aM h1;simp only[H0,Zb3]at h;obtain⟨rfl,rfl,rfl⟩:=h;exact S7 hT bH hl h1 hS hQ
   . (split at hc<;>first|(cases hc;done)|skip);rename_i ht;simp only[H0]at hc;subst hc;simp only[exec,aZ]at h;(split at h<;>first|(cases h;done)|skip);rename_i bO aM h1;simp only[H0,Zb3]at h;obtain⟨rfl,rfl,rfl⟩:=h;exact fL nt _ ops l Q fr bO st aM ρ a w hl ht h1 hS hQ
 . (split at hc<;>first|(cases hc;done)|skip);rename_i x y h1 h2;simp only[H0]at hc;subst hc;simp only[exec,aZ]at h;show eE P _ (Exit.then (eE P _ Q) Q) a w;split at h
   .rename_i bO aM h3;(refine Bx _ _ fr bO st aM .normal ρ a w _ h1 h3 hS λa1 w1 hp=> ?_);obtain⟨dJ,ry,k1,k2,k3⟩:=hp;exact Bx _ _ bO aY aM st' ex dJ a1 w1 Q h2 h ry λa2 w2 hp=>hQ a2 w2 (fB.trans k1 k2 k3 hp)
   . rename_i aV;cases ex with
     |normal=>exact(aV _ _ h).elim
     |exit id=>exact Bx _ _ fr aY st st' (.exit id) ρ a w _ h1 h hS λa1 w1 hp=>hQ a1 w1 hp
     |ret=>exact Bx _ _ fr aY st st' .ret ρ a w _ h1 h hS λa1 w1 hp=>hQ a1 w1 hp
 . (split at hc<;>first|(cases hc;done)|skip);rename_i x y z h1 h2 h3;simp only[H0]at hc;subst hc;simp only[exec,aZ]at h;split at h
   .rename_i hx;exact⟨true,(oY h1 hS.F hx).gG,(Bx _ _ fr aY st st' ex ρ a w Q h2 h hS hQ)⟩
   .rename_i hx;exact⟨false,(oY h1 hS.F hx).gG,(Bx _ _ fr aY st st' ex ρ a w Q h3 h hS hQ)⟩
   .cases h
 . (split at hc<;>first|(cases hc;done)|skip);rename_i x h1;simp only[H0]at hc;subst hc;simp only[exec,aZ]at h;show eE P _ (Exit.inBlock _ Q) a w;split at h
   . rename_i qG bO aM h2;split at h
     .  rename_i he;simp only[H0,Zb3]at h;obtain⟨rfl,rfl,rfl⟩:=h;have:=Za2 he;subst this;exact Bx _ _ fr bO st aM (.exit qG) ρ a w _ h1 h2 hS λa1 w1 hp=>by simp only[mN,Exit.inBlock,Zg3];exact hQ a1 w1 hp
     .  rename_i he;simp only[H0,Zb3]at h;obtain⟨rfl,rfl,rfl⟩:=h;have:=Zb7 he;exact Bx _ _ fr bO st aM (.exit qG) ρ a w _ h1 h2 hS λa1 w1 hp=>by simp only[mN,Exit.inBlock,Za3 this];exact hQ a1 w1 hp
   . rename_i aV;cases ex with
     |normal=>exact Bx _ _ fr aY st st' .normal ρ a w _ h1 h hS λa1 w1 hp=>hQ a1 w1 hp
     |exit id=>exact(aV _ _ _ h).elim
     |ret=>exact Bx _ _ fr aY st st' .ret ρ a w _ h1 h hS λa1 w1 hp=>hQ a1 w1 hp
 . (split at hc<;>first|(cases hc;done)|skip);rename_i x h1;simp only[H0]at hc;subst hc;exact⟨m+1,ae7 _ _ fr aY st st' ex ρ a w Q h1 h hS hQ⟩
 .simp only[H0]at hc;subst hc;simp only[exec,aZ,H0,Zb3]at h;obtain⟨rfl,rfl,rfl⟩:=h;exact hQ _ _ (fB.refl hS)
 .simp only[H0]at hc;subst hc;simp only[exec,aZ,H0,Zb3]at h;obtain⟨rfl,rfl,rfl⟩:=h;exact hQ _ _ (fB.refl hS)
 .simp only[H0]at hc;subst hc;simp[exec,aZ,iW,bI,dV,bF,ay.run]at h
theorem o9(hT:bM P tt)(bH:eV P C call)(fL:p9 P tt C call){nt:Nat}:∀m,Nu P tt C call nt m/\Nv P tt C call nt m
 |0=>⟨λc ac fr aY st st' ex ρ a w Q hc h=>by simp[exec]at h,λc ac fr aY st st' ex ρ a w Q hc h=>by simp[exec]at h⟩
 |m+1=>let⟨h1,h2⟩:=o9 hT bH fL m;⟨ZG hT bH fL h1 h2,QC h1 h2⟩
def J6(tmps:Array Value):ResultVar->Sem Value
 |.tmp t=>pure (tmps.getD t undef)
 |.cell a t=>do loadVar t (<-asAddr (tmps.getD a undef))
theorem XG(hT:bM P tt){ρ:Pos->Loc}{st:St}{w:World}{fr:Fr}{a:Act}{x:Tmp}{t:TypeId}{ti:TI}{q v:AV}(cF:tt.get (key t)=some ti)
  (hW:aX ρ C st w) (hF:fh ρ st.next.toNat C fr a.tmps) (hq:fr.get (key x)=some q) (hr:(ay.load (vQ ti)).run (λb=>st.heap.get b) .h [q]=some (.val v)):
  ∃y,(J6 a.tmps (.cell x t)).run P w= .ok y w/\aj ρ st.next.toNat C v y:=by
 have hc:fO tt (.load t (.tmp x))=some (.load (vQ ti),[.t (key x)],.read):=by simp[fO,cF,kG]
 have hx:dV fr [.t (key x)]=some [q]:=by simp[dV,zi,hq]
 have pZ:(ay.load (vQ ti)).run (λb=>st.heap.get b) st.next [q]=some (.val v):=hr;obtain⟨N,y,he,hy,hv⟩:=J5 hT (.load t (.tmp x)) ρ C st w _ _ _ fr a { dst:=none,op:= .load t (.tmp x),type:=t,pos:=default,after:= #[],guard:=none } _ _ rfl hc hW hF hx pZ;refine⟨y,?_,hv⟩;simp only[execOp,Instr.loadAt,Act.eval]at he;simp only[J6];obtain⟨z,hz,hzq⟩:=hF _ _ hq;rw[eO,Ze9]at hz;have hzd:a.tmps.getD x undef=z:=by simp[Zh7,hz]
 rw[hzd]at he ⊢;have hp:∃ad,z= .pointer (some ad):=by
  simp only[ay.run,sg]at hr;split at hr<;>first|(cases hr;done)|skip
  .obtain⟨_,h⟩:=hzq.eG;exact⟨_,h⟩
  .obtain⟨_,_,_,_,h,_⟩:=hzq.Ej;exact⟨_,h⟩
 obtain⟨ad,rfl⟩:=hp;simp only[Instr.sureAddr,asAddr,Sem.run_bind,Sem.run_pure,Result.andThen]at he ⊢;cases hl:(loadVar t ad).run P w with
 |ok u w1=>
  rw[hl]at he;simp at he;obtain⟨h1,h2⟩:=he;subst h2;rcases hy with hy|⟨hy,_⟩
  .rw[hy]at h1;simp at h1;rw[h1]
  .rw[hy]at h1;simp at h1
 |halt u w1=>rw[hl]at he;simp at he
theorem By(hT:bM P tt){ρ:Pos->Loc}{st:St}{w:World}{fr:Fr}{a:Act}(hW:aX ρ C st w)(hF:fh ρ st.next.toNat C fr a.tmps):
   ∀(rs:List ResultVar)(Nw:List zh)(vs:List AV),lS tt rs=some Nw->cw (λb=>st.heap.get b) fr Nw=some vs->
    ∃ys,(rs.mapM (J6 a.tmps)).run P w= .ok ys w/\au ρ st.next.toNat C vs ys
 | [],Nw,vs,hc,hr=>by
   simp only[lS,H0]at hc;subst hc;simp only[cw,H0]at hr;subst hr;exact⟨[],by simp,au.nil⟩
 | .tmp t::rs,Nw,vs,hc,hr=>by
   simp only[lS]at hc;(split at hc<;>first|(cases hc;done)|skip);rename_i l hl;simp only[H0]at hc;subst hc;simp only[cw]at hr;(split at hr<;>first|(cases hr;done)|skip);rename_i v hv;(split at hr<;>first|(cases hr;done)|skip);rename_i us Zi;simp only[H0]at hr;subst hr;obtain⟨ys,h1,h2⟩:=By hT hW hF rs l us hl Zi;obtain⟨z,hz,hzq⟩:=hF _ _ hv;rw[eO,Ze9]at hz;refine⟨z::ys,?_,au.cons hzq h2⟩;simp[List.mapM_cons,J6,h1,Zh7,hz]
 | .cell x t::rs,Nw,vs,hc,hr=>by
   simp only[lS]at hc;(split at hc<;>first|(cases hc;done)|skip);rename_i ti l Zn hl;simp only[H0]at hc;subst hc;simp only[cw]at hr;(split at hr<;>first|(cases hr;done)|skip);rename_i q hq;(split at hr<;>first|(cases hr;done)|skip);rename_i v hv;(split at hr<;>first|(cases hr;done)|skip);rename_i us Zi;simp only[H0]at hr;subst hr;obtain⟨ys,h1,h2⟩:=By hT hW hF rs l us hl Zi;obtain⟨y,h3,h4⟩:=XG hT Zn hW hF hq hv;refine⟨y::ys,?_,au.cons h4 h2⟩;simp[List.mapM_cons,h1,h3]
theorem qc(hT:bM P tt){ρ:Pos->Loc}{st:St}{w:World}{fr:Fr}{a:Act}{fn:Func}{Nw:List zh}{vs:List AV}(hW:aX ρ C st w)(hF:fh ρ st.next.toNat C fr a.tmps)
  (hc:lS tt fn.results.toList=some Nw) (hr:cw (λb=>st.heap.get b) fr Nw=some vs):
  ∃y,(results fn a.tmps).run P w= .ok y w/\aj ρ st.next.toNat C (gD vs) y:=by
 obtain⟨ys,h1,h2⟩:=By hT hW hF _ Nw vs hc hr;have h3:(fn.results.mapM (J6 a.tmps)).run P w= .ok ys.toArray w:=by
  rw[Array.mapM_eq_mapM_toList];simp[h1]
 have h4:(results fn a.tmps).run P w= .ok (if h:ys.toArray.size=1 then ys.toArray[0]else .tuple ys.toArray) w:=by
  have hfun:results fn a.tmps=(fn.results.mapM (J6 a.tmps) >>= λvs=>pure (if h:vs.size=1 then vs[0]else .tuple vs)):=by unfold results;congr 2
  rw[hfun,Sem.run_bind,h3];simp
 refine⟨_,h4,?_⟩;cases vs with
 |nil=>have:=h2.mL;subst this;simp[gD];exact .q8 (by simpa using au.nil)
 |cons v vs=>
  obtain⟨y,ys',rfl,hv,iz⟩:=h2.cons_inv;cases vs with
  |nil=>have:=iz.mL;subst this;simpa [gD]using hv
  |cons v' vs'=>
   obtain⟨y',ys'',rfl,xT,abn⟩:=iz.cons_inv;simp[gD];exact .q8 (by simpa using au.cons hv (au.cons xT abn))
def MU(P:Program)(tt:TT)(G:T cE):Prop:=
 ∀p F,G.get p=some F->∃fn,P.funcs[p.toNat - 1]? =some fn/\(fn.name== "runtime.NumGoroutine")=false/\R5 tt fn=some F
def oV(P:Program)(C:Cells)(O:dZ):Prop:=
 ∀  (f:FuncId)(s:List AV->St->Option (AV×St)),O f=some s->
    ∀(ρ:Pos->Loc)(st:St)(w:World)(args:List AV)(v:AV)(st':St)(bE:List Value),s args st=some (v,st')->
     aX ρ C st w->au ρ st.next.toNat C args bE->Reaches P (l6 ρ C st w v st') ((callFunc f bE.toArray).run P w)
theorem vY{ρ:Pos->Loc}{n:Nat}{tmps:Array Value}:∀(vs:List AV)(xs:List Value)(i:Nat)(fr:Fr),au ρ n C vs xs->
  (∀(j:Nat)(x:Value),xs[j]? =some x->tmps[i+j]? =some x)->fh ρ n C fr tmps->fh ρ n C (params i vs fr) tmps
 |[],_,_,_,_,_,hF=>hF
 |v ::vs,xs,i,fr,h,hx,hF=>by
  obtain⟨x,tT,rfl,hv,iz⟩:=h.cons_inv;unfold params;refine vY vs tT (i+1) _ iz (λj y hy=>by rw[<-hx (j+1) y (by simpa using hy)];congr 1;omega) λp u hp=> ?_
  by_cases Nt:key i=p
  .subst Nt;rw[T.eF]at hp;simp only[H0]at hp;subst hp;exact⟨x,by rw[eO,Ze9];exact hx 0 x rfl,hv⟩
  .rw[T.bw _ Nt]at hp;exact hF p u hp
theorem K5(hT:bM P tt){O:dZ}{G:T cE}(hO:oV P C O)(hG:MU P tt G)(m:Nat)(fL:∀d,eV P C (oX O G m d)->p9 P tt C (oX O G m d)):∀d,eV P C (oX O G m d)
 |0=>λρ st w f args v st' bE h=>by simp[oX]at h
 |d +   1 =>by
  intro ρ st w f args v st' bE h hW oW;have ih:=K5 hT hO hG m fL d;unfold oX at h;split at h
  .rename_i s hs;exact hO f s hs ρ st w args v st' bE h hW oW
  . (split at h<;>first|(cases h;done)|skip);rename_i F hF;(split at h<;>first|(cases h;done)|skip);rename_i hlen;have hlen:=Za2 hlen;obtain⟨fn,Ah,ji,Bz⟩:=hG _ _ hF;rw[eO,Ze9]at Ah;unfold R5 at Bz;(split at Bz<;>first|(cases Bz;done)|skip);rename_i c hb;(split at Bz<;>first|(cases Bz;done)|skip);rename_i ac rs S8 ZH hle;simp only[H0]at Bz;subst Bz;simp only at h hlen;have hle:=Za4 hle;have bN:(callFunc f bE.toArray).run P w= .ok (.enter f bE.toArray) w:=by
        have BA:¬fn.name= "runtime.NumGoroutine" :=(by simpa using ji);simp[callFunc,Ah,BA,hb]
    rw[bN];simp only[Reaches];refine calls_of_wp Ah hb (eE.wp ?_);have eW:bE.length<=fn.ntmps:=(by rw[<-oW.1,hlen];exact hle);have hS:mF fn.ntmps ρ C (params 0 args .e) st { tmps:=bE.toArray++Array.replicate (fn.ntmps - bE.toArray.size) undef,defers:=[] } w:=by
        refine⟨hW,?_,?_,rfl⟩
        .refine vY args bE 0 .e oW (λj x hx=> ?_) (λp v hp=>by rw[T.dm]at hp;cases hp);have hj:j<bE.length:=(Za0.1 hx).1;rw[Zc4,Zg8 (by simpa using hj)];simpa using hx
        .simp;omega
    split at h<;>first|(cases h;done)|skip
    .   rename_i bO aM h1;(split at h<;>first|(cases h;done)|skip);rename_i vs iz;simp only[H0,Zb3]at h;obtain⟨rfl,rfl⟩:=h;(refine(o9 hT ih (fL _ ih) m).1 c ac _ bO st aM .normal ρ _ w _ S8 h1 hS λa' w' hp=> ?_);obtain⟨dJ,ry,k1,k2,k3⟩:=hp;obtain⟨y,Aj,Bp⟩:=qc hT ry.W ry.F ZH iz;exact⟨ry.defers,y,Aj,dJ,Bp,k1,k2,ry.W,k3⟩
    .   rename_i bO aM h1;(split at h<;>first|(cases h;done)|skip);rename_i vs iz;simp only[H0,Zb3]at h;obtain⟨rfl,rfl⟩:=h;(refine(o9 hT ih (fL _ ih) m).1 c ac _ bO st aM .ret ρ _ w _ S8 h1 hS λa' w' hp=> ?_);obtain⟨dJ,ry,k1,k2,k3⟩:=hp;obtain⟨y,Aj,Bp⟩:=qc hT ry.W ry.F ZH iz;exact⟨ry.defers,y,Aj,dJ,Bp,k1,k2,ry.W,k3⟩
end
end
end Go.Ai
