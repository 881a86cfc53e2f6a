/- Its operations, second part; regions. -/
import Derived.Test.YtoeleelojgimfaaGreatDoorPEvalB
import Derived.Laws.IdiomStrings
import Derived.Laws.RangeString
import Derived.Lib.UnsafeStr
import Derived.LoopN
import Derived.LoopNIn
import Derived.OrdersIn
set_option linter.all false
namespace Go.Ai
section
open Go Go.RowKit
section
variable{P:Program}{tt:TT}{ρ:Pos->Loc}{C:Cells}{st:St}{w w':World}
theorem sQ(del:Option Pos)(h:T AB){b:Pos}{x:AB}(hb:(By del h).get b=some x):h.get b=some x/\∀c,del=some c->b≠c:=by
 cases del with
 |none=>exact⟨hb,λ_ h=>by cases h⟩
 |some c=>
  by_cases he:c=b
  .subst he;simp only[By]at hb;rw[T.ee]at hb;cases hb
  .simp only[By]at hb;rw[T.bn _ he]at hb;exact⟨hb,λd hd=>by cases hd;exact λe=>he e.symm⟩
theorem rF(hW:aU ρ C st w){o:Obj}{x0:AB}{base size:Nat}(del:Option Pos)(hh:w'.heap=w.heap.push o)(h1:w'.os=w.os)(h2:w'.tape=w.tape)(h3:w'.output=w.output)
   (hB:∀ρ' n',(∀b:Pos,b.toNat<st.next.toNat->ρ' b=ρ b)->st.next.toNat<=n'->kG ρ' n' C ⟨w.heap.size,base,size⟩ w' x0):
   ∃ρ':Pos->Loc,(∀b:Pos,b.toNat<st.next.toNat->ρ' b=ρ b)/\ρ' st.next=⟨w.heap.size,base,size⟩/\aU ρ' C (st.aC del none (some x0)) w'/\iT ρ st w ρ' (st.aC del none (some x0)) w':=by
 let ρ':Pos->Loc:=λb=>if b=st.next then⟨w.heap.size,base,size⟩else ρ b
 have aQ:∀b:Pos,b.toNat<st.next.toNat->ρ' b=ρ b:=λb hb=>Za5 (λe=>by rw[e]at hb;omega)
 have dS:ρ' st.next=⟨w.heap.size,base,size⟩:=Za7 rfl;have eu:w'.heap.size=w.heap.size+1:=by rw[hh];simp
 have hold:∀k,k<w.heap.size->w'.heap[k]? =w.heap[k]? :=λk hk=>by rw[hh,Array.getElem?_push,Za5 (by omega)]
 refine⟨ρ',aQ,dS,?_,⟨h1,h2,h3,by omega,λk hk _=>hold k hk,λb x hb=> ?_⟩⟩;rotate_left
 . by_cases he:b=st.next
   .right;rw[he,dS];exact Za4 _
   .left;simp only[St.aC,Di]at hb;rw[T.bn _ (λe=>he e.symm)]at hb;have gQ:=(sQ del _ hb).1;exact⟨b,x,gQ,by rw[aQ b (hW.live b x gQ).1]⟩
 refine hW.Uk (b0:=st.next) (x0:=x0) (by rw[Pos.ax];omega) (by rw[Pos.ax];omega) (by rw[T.ee]) ?_ aQ (by rw[dS];exact hB _ _ aQ (by rw[Pos.ax];omega)) ?_ (by rw[dS,eu];simp) (by omega) (λk hk _=>hold k hk)
 .intro b x hb hx;rw[T.bn _ (λe=>hb e.symm)]at hx;have hx:=(sQ del _ hx).1;refine⟨hx,?_⟩;rw[dS];have:=(hW.live b x hx).2.1;simp only;omega
 .intro a v ha;have:=World.block_lt_of_cell? _ _ (hW.cY a v ha).1;rw[dS];simp only;omega
theorem Kr(hW:aU ρ C st w){b:Pos}{x x0:AB}(hb:st.heap.get b=some x)(h1:w'.os=w.os)(h2:w'.tape=w.tape)(h3:w'.output=w.output)(eu:w'.heap.size=w.heap.size)
   (q9:∀k,k≠(ρ b).au->w'.heap[k]? =w.heap[k]?) (hB:kG ρ st.next.toNat C (ρ b) w' x0):
   aU ρ C (st.aC none (some (b,x0)) none) w'/\iT ρ st w ρ (st.aC none (some (b,x0)) none) w':=by
 obtain⟨aV,Ks,_⟩:=hW.live b x hb;refine⟨?_,⟨h1,h2,h3,by omega,λk _ hk=>q9 k (λe=>hk b x hb e.symm),λc y hc=> ?_⟩⟩;rotate_left
 . left;by_cases he:c=b
   .exact⟨b,x,hb,by rw[he]⟩
   .simp only[St.aC,Di,By]at hc;rw[T.bn _ (λe=>he e.symm)]at hc;exact⟨c,y,hc,rfl⟩
 refine hW.Uk (b0:=b) (x0:=x0) (Za4 _) aV (by simp only[Di,By];rw[T.ee]) ?_ (λ_ _=>rfl) hB ?_ (by omega) (by omega) (λk _ hk=>q9 k hk)
 .intro c y hc hy;simp only[Di,By]at hy;rw[T.bn _ (λe=>hc e.symm)]at hy;exact⟨hy,λe=>hc (hW.inj _ _ _ _ hy hb e)⟩
 .exact λa v ha e=>(hW.cY a v ha).2 b x hb e.symm
theorem tG{cs:List AV}{c:Array Value}{e:TypeId}{fr:Nat×Nat}{g:Nat}{n:Nat}(hg:w'.heap[g]? =some (.cells c e fr))(hle:cs.length<=c.size)(hv:aq ρ n C cs (c.toList.take cs.length))
  (hf:∀i,i<c.size->¬(fr.1<=i/\i<fr.2)):kG ρ n C ⟨g,0,c.size⟩ w' (.cells cs 0):=
 ⟨c,e,fr,hg,rfl,by simpa using hle,by simpa using hv,λi _ hi=>by simpa using hf i (by simpa using hi)⟩
theorem Wb(hT:bH P tt)(t:TypeId):cr P tt (.alloc t):=by
 intro ρ C st w k xs cls fr a o vs res ho hc hW hF hx hr;simp only[fo]at hc;split at hc<;>first|(cases hc;done)|skip
 rename_i ti b9;split at hc<;>first|(cases hc;done)|skip
 rename_i z hz;split at hc
 . cases hc;simp only[dM,H0]at hx;subst hx;simp only[av.run,AP,H0]at hr;subst hr;obtain⟨zv,vE,_,pX⟩:=pW hT b9 hz (ρ:=ρ) (n:=st.next.toNat) (C:=C) w;have hl:z.length=zv.cells.size:=(by simpa using pX.1);obtain⟨ρ',aQ,dS,dY,hE⟩:=rF (w':=w.alloc (.cells zv.cells t)) (o:= .cells zv.cells t) (x0:= .typed t z) (base:=0) (size:=zv.cells.size) hW none rfl rfl rfl rfl (λρ' n' aQ hn=>
     ⟨zv.cells,(0,0),by show(w.heap.push _)[w.heap.size]? =_;simp,rfl,by simp only[Zc3];omega,by rw[hl,Ze4,Zf8 (by simp)];exact pX.mono aQ hn,λi _=>by simp,rfl⟩)
   refine⟨_,.pointer (some ⟨w.heap.size,0,none⟩),_,ρ',?_,Yields.value _,aQ,dY,?_,hE⟩
   .simp[execOp,ho,Instr.alloc,vE,newVar,newRow]
   .have:=aj.ptr (ρ:=ρ') (n:=(st.aC none none (some (.typed t z))).next.toNat) (C:=C) st.next 0 (by simp[St.aC,Pos.ax]);rw[dS]at this;simpa using this
 cases hc;simp only[dM,H0]at hx;subst hx;simp only[av.run,Dc,H0]at hr;subst hr;obtain⟨zv,vE,_,pX⟩:=pW hT b9 hz (ρ:=ρ) (n:=st.next.toNat) (C:=C) w;have hl:z.length=zv.cells.size:=by simpa using pX.1
 obtain⟨ρ',aQ,dS,dY,hE⟩:=rF (w':=w.alloc (.cells zv.cells t)) (o:= .cells zv.cells t) (x0:= .cells z 0) (base:=0) (size:=zv.cells.size) hW none rfl rfl rfl rfl (λρ' n' aQ hn=>
   tG (w':=w.alloc (.cells zv.cells t)) (e:=t) (fr:=(0,0)) (by show(w.heap.push _)[w.heap.size]? =_;simp) (by omega) (by rw[hl,Zf8 (by simp)];exact pX.mono aQ hn) (λi _=>by simp))
 refine⟨_,.pointer (some ⟨w.heap.size,0,none⟩),_,ρ',?_,Yields.value _,aQ,dY,?_,hE⟩
 .simp[execOp,ho,Instr.alloc,vE,newVar,newRow]
 .have:=aj.ptr (ρ:=ρ') (n:=(st.aC none none (some (.cells z 0))).next.toNat) (C:=C) st.next 0 (by simp[St.aC,Pos.ax]);rw[dS]at this;simpa using this
theorem aa2(t:TypeId)(x:Operand):cr P tt (.box t x):=by
 intro ρ C st w k xs cls fr a o vs res ho hc hW hF hx hr;simp only[fo]at hc;split at hc<;>first|(cases hc;done)|skip
 rename_i b hb;cases hc;obtain⟨v,rfl,hv⟩:=ek hb hF hx;simp only[av.run,Kf,H0]at hr;subst hr;have pX:=hv.cells;have hl:v.cells.length=(a.eval x).cells.size:=by simpa using pX.1
 obtain⟨ρ',aQ,dS,dY,hE⟩:=rF (w':=w.alloc (.cells (a.eval x).cells t)) (o:= .cells (a.eval x).cells t) (x0:= .cells v.cells 0) (base:=0) (size:=(a.eval x).cells.size) hW none rfl rfl rfl rfl (λρ' n' aQ hn=>
   tG (w':=w.alloc (.cells (a.eval x).cells t)) (e:=t) (fr:=(0,0)) (by show(w.heap.push _)[w.heap.size]? =_;simp) (by omega) (by rw[hl,Zf8 (by simp)];exact pX.mono aQ hn) (λi _=>by simp))
 refine⟨_,.pointer (some ⟨w.heap.size,0,none⟩),_,ρ',?_,Yields.value _,aQ,dY,?_,hE⟩
 .simp[execOp,ho,Instr.box,newVar,newRow]
 .have:=aj.ptr (ρ:=ρ') (n:=(st.aC none none (some (.cells v.cells 0))).next.toNat) (C:=C) st.next 0 (by simp[St.aC,Pos.ax]);rw[dS]at this;simpa using this
theorem BB{n:Nat}{z:List AV}{zs:List Value}(h:aq ρ n C z zs):∀m,aq ρ n C (bK z m) (bK zs m)
 |0=>aq.nil
 |m+1=>h.append (BB h m)
theorem gU{α:Type}(z:List α):∀m,(bK z m).length=m*z.length
 |0=>by simp[bK]
 |m+1=>by simp[bK,gU z m,Zi2,Nat.add_comm]
theorem Iq{α:Type}(z:List α):∀(m i:Nat),i<m*z.length->(bK z m)[i]? =z[i % z.length]?
 |0,i,h=>by simp at h
 |m +1,i,h=>by
  simp only[bK];by_cases hi:i<z.length
  .rw[Zc1 hi,Zj3 hi]
  .have hi:z.length<=i:=(by omega);rw[Zc2 hi,Iq z m _ (by rw[Zi2]at h;omega)];congr 1;rw[<-Zn2 hi]
theorem PV(z:Array Value)(m:Nat)(hz:0<z.size):((Array.range (m*z.size)).map (z[· % z.size]!)).toList=bK z.toList m:=by
 apply Zh1;intro i;by_cases hi:i<m*z.size
 .rw[Iq _ _ _ (by simpa using hi)];have aV:i % z.size<z.size:=Zh8 _ hz;simp[hi,aV]
 .rw[Zb7 (by simp;omega),Zb7 (by rw[gU];simp;omega)]
theorem wZ{ρ':Pos->Loc}{b:Pos}{n g len es aF size:Nat}{cap:Option Nat}(hb:b.toNat<n)(aQ:ρ' b=⟨g,0,size⟩)(hl:len<=aF)(hc:∀c,cap=some c->c=aF)(hs:aF*es<=size):
  aj ρ' n C (.slice b 0 len cap es) (.slice (some ⟨g,0,none⟩) len aF):=
 .slice _ _ _ _ _ _ _ hl hc (λ_=>⟨hb,by rw[aQ],by rw[aQ];simpa using hs⟩) (λ_=>hb)
theorem Kt{z:List AV}{zv:Value}{n m size:Nat}(pX:aq ρ n C z zv.cells.toList)(hl:z.length=size):
   aq ρ n C (bK z m) ((Array.range (m*size)).map ((if m*size=0 then(#[]:Array Value)else zv.cells)[· % (if m*size=0 then(#[]:Array Value)else zv.cells).size]!)).toList/\
   ((Array.range (m*size)).map ((if m*size=0 then(#[]:Array Value)else zv.cells)[· % (if m*size=0 then(#[]:Array Value)else zv.cells).size]!)).size=m*size:=by
 refine⟨?_,by simp⟩;by_cases h0:m*size=0
 .have:bK z m=[]:=(by apply Zb0;rw[gU,hl];exact h0);rw[this];have:(Array.range (m*size))= #[]:=(by rw[h0];rfl);rw[this];simpa using(aq.nil:aq ρ n C [] [])
 . rw[Za5 h0];have SU:zv.cells.size=size:=(by have:=pX.1;simp at this;omega);have Ut:0<zv.cells.size:=by
    rw[SU];rcases Zn3 size with h|h
    .rw[h]at h0;simp at h0
    .exact h
   have:=PV zv.cells m Ut;rw[SU]at this ⊢;rw[this];exact BB pX m
theorem aa3{k:IntKind}{i:Int}(h1:Nl k<=i)(h2:i<=Nm k):k.wrap i=i:=by
 rw[<-pV];unfold ay;split
 . split
   .rfl
   .exact absurd h2 (by assumption)
 .exact absurd h1 (by assumption)
theorem PW{j:Nat}(h:j<=9223372036854775807):IntKind.i64.wrap (j:Int)=(j:Int):=aa3 (by simp only[Nl];omega) (by simp only[Nm];omega)
theorem Sl(hT:bH P tt)(t:TypeId)(l c:Operand):cr P tt (.makeSlice t l c):=by
 intro ρ C st w k xs cls fr a o vs res ho hc hW hF hx hr;simp only[fo]at hc;split at hc<;>first|(cases hc;done)|skip
 rename_i ti l0 b9 hl;split at hc<;>first|(cases hc;done)|skip
 rename_i e hk;split at hc<;>first|(cases hc;done)|skip
 rename_i te eH;split at hc<;>first|(cases hc;done)|skip
 rename_i z hz;cases hc;obtain⟨d,hd,bO⟩:=(hT.at b9).und;rw[hk]at bO;rw[kJ bO]at hd;obtain⟨i0,ku,jF,hib,vD⟩:=(hT.at eH).info;obtain⟨u,v,rfl,h1,h2⟩:=L5 hl hF hx;simp only[av.run,uf]at hr;split at hr<;>first|(cases hr;done)|skip
 rename_i jl jc hjl hjc;split at hr<;>first|(cases hr;done)|skip
 rename_i e1 e2 e3;have e1:=Za3 e1;have e2:=Za3 e2;have e3:=Za3 e3;simp only[H0]at hr;subst hr;obtain⟨kl,jP⟩:=iG h1 hjl;obtain⟨kc,SV⟩:=iG h2 hjc;obtain⟨zv0,hzv0,_,Ku,_⟩:=vD z hz;obtain⟨zv,vE,_,pX⟩:=pW hT eH hz (ρ:=ρ) (n:=st.next.toNat) (C:=C) w;obtain⟨FJ,L7⟩:=Kt (m:=jc) pX Ku;generalize BC:(Array.range (jc*te.size)).map ((if jc*te.size=0 then(#[]:Array Value)else zv.cells)[· % (if jc*te.size=0 then(#[]:Array Value)else zv.cells).size]!)=row at FJ L7;obtain⟨ρ',aQ,dS,dY,hE⟩:=rF (w':=w.alloc (.cells row e)) (o:= .cells row e) (x0:= .cells (bK z jc) 0) (base:=0) (size:=row.size) hW none rfl rfl rfl rfl (λρ' n' aQ hn=>
   tG (w':=w.alloc (.cells row e)) (e:=e) (fr:=(0,0)) (by show(w.heap.push _)[w.heap.size]? =_;simp) (by rw[gU,L7,Ku];exact Za4 _)
    (by rw[gU,Ku, <-L7, <-Zf0,Zi8];exact FJ.mono aQ hn) (λi _=>by simp))
 refine⟨_,.slice (some ⟨w.heap.size,0,none⟩) jl jc,_,ρ',?_,Yields.value _,aQ,dY,?_,hE⟩
 . have dI:=PW (Zc7 e1 e3);have mT:=PW e3;have hb:¬((te.bytes:Int)*(jc:Int)>2 ^ 48):=(by have h:=Int.ofNat_le.2 e2;rw[Int.natCast_mul]at h;exact Int.not_lt.2 h);have bP:(Instr.makeSlice t (.int kl jl) (.int kc jc)).run P w= .ok (.slice (some ⟨w.heap.size,0,none⟩) jl jc) (w.alloc (.cells row e)):=by
    unfold Instr.makeSlice;simp only[Sem.run_bind,aJ hd,Result.andThen_ok,asInt,asIntOf,Sem.run_pure,PI ku,dI,mT,hib];have acG:¬((decide ((jc:Int)<0)||decide ((te.bytes:Int)*(jc:Int)>2 ^ 48)||decide ((jl:Int)<0)||decide ((jl:Int)>(jc:Int)))=true):=by
        simp only[Zh9,Ze1];rintro(((h|h)|h)|h)
        .omega
        .exact hb h
        .omega
        .omega
    rw[Za5 acG];simp only[Sem.run_bind,run_askRoom,Result.andThen_ok,gu ku,jF,Int.toNat_natCast];rw[<-BC];by_cases h0:jc*te.size=0
    .   simp only[h0,Zg8,Sem.run_bind,Sem.run_pure,Result.andThen_ok,newRow,run_newObj,World.alloc_eq]
    .   simp only[h0,Zh4,Sem.run_bind,Sem.run_pure,Result.andThen_ok,vE,newRow,run_newObj,World.alloc_eq]
   simp[execOp,ho,jP,SV,bP]
 .exact wZ (by simp[St.aC,Pos.ax]) dS e1 (λc hc=>by cases hc;rfl) (by rw[L7];exact Za4 _)
theorem L8(hT:bH P tt)(t:TypeId)(len:Nat)(ps:Array (Nat×Operand)):cr P tt (.buildSlice t len ps):=by
 intro ρ C st w k xs cls fr a o vs res ho hc hW hF hx hr;simp only[fo]at hc;split at hc<;>first|(cases hc;done)|skip
 rename_i ti l0 b9 hl;split at hc<;>first|(cases hc;done)|skip
 rename_i e hk;split at hc<;>first|(cases hc;done)|skip
 rename_i te eH;split at hc<;>first|(cases hc;done)|skip
 rename_i z hz hlim;have hlim:=Za3 hlim;cases hc;obtain⟨d,hd,bO⟩:=(hT.at b9).und;rw[hk]at bO;rw[kJ bO]at hd;obtain⟨i0,ku,jF,hib,vD⟩:=(hT.at eH).info;have hv:=dB hl hF hx;simp only[av.run,oD]at hr;split at hr<;>first|(cases hr;done)|skip
 rename_i cs yK;simp only[H0]at hr;subst hr;obtain⟨zv0,hzv0,_,Ku,_⟩:=vD z hz;obtain⟨zv,vE,_,pX⟩:=pW hT eH hz (ρ:=ρ) (n:=st.next.toNat) (C:=C) w;obtain⟨FJ,L7⟩:=Kt (m:=len) pX Ku;generalize BC:(Array.range (len*te.size)).map ((if len*te.size=0 then(#[]:Array Value)else zv.cells)[· % (if len*te.size=0 then(#[]:Array Value)else zv.cells).size]!)=row at FJ L7;have SS:(ps.map λ(i,x)=>(i,a.eval x)).toList=ps.toList.map λx=>(x.1,a.eval x.2):=by simp
 obtain⟨kz,e1,e2⟩:=Jl (λi=>some (i*te.size,te.size)) yK FJ (ps:=ps.toList.map λx=>(x.1,a.eval x.2)) (by simpa [Zf7,Zj1]using hv) (by simp[Zf7,Zj1]);have hlen:cs.length=kz.size:=by simpa using e2.1
 have acH:∀{pp:List (Nat×Nat)}{vs cells r:List AV},bW cells pp vs=some r->r.length=cells.length:=by
   intro pp;induction pp with
   |nil=>intro vs cells r h;unfold bW at h;split at h<;>first|(cases h;done)|(simp only[H0]at h;subst h;rfl)|(rename_i hh;cases hh)
   |cons p pp ih=>
    intro vs cells r h;unfold bW at h;(split at h<;>first|(cases h;done)|(rename_i hh;cases hh;done)|skip);rename_i hh;simp only[Zf4]at hh;obtain⟨rfl,rfl⟩:=hh;(split at h<;>first|(cases h;done)|skip);rename_i g1 g2;have g1:=Za1 g1;have g2:=Za3 g2;rw[ih h];simp[aG];omega
 have hcsl:=acH yK;rw[gU,Ku]at hcsl;obtain⟨ρ',aQ,dS,dY,hE⟩:=rF (w':=w.alloc (.cells kz e)) (o:= .cells kz e) (x0:= .cells cs 0) (base:=0) (size:=kz.size) hW none rfl rfl rfl rfl (λρ' n' aQ hn=>
   tG (w':=w.alloc (.cells kz e)) (e:=e) (fr:=(0,0)) (by show(w.heap.push _)[w.heap.size]? =_;simp) (by omega)
    (by rw[hlen, <-Zf0,Zi8];exact e2.mono aQ hn) (λi _=>by simp))
 refine⟨_,.slice (some ⟨w.heap.size,0,none⟩) len len,_,ρ',?_,Yields.value _,aQ,dY,?_,hE⟩
 . have bP:(Instr.buildSlice t len (ps.map λ(i,x)=>(i,a.eval x))).run P w= .ok (.slice (some ⟨w.heap.size,0,none⟩) len len) (w.alloc (.cells kz e)):=by
    unfold Instr.buildSlice;simp only[Sem.run_bind,aJ hd,Result.andThen_ok,gu ku,jF];rw[Za5 (by omega)];by_cases h0:len*te.size=0
    .   simp only[h0,Zg8,Sem.run_bind,Sem.run_pure,Result.andThen_ok];simp only[h0,Zg8]at BC;rw[BC,SS,e1];simp only[newRow,Sem.run_bind,run_newObj,World.alloc_eq,Result.andThen_ok,Sem.run_pure]
    .   simp only[h0,Zh4,Sem.run_bind,Sem.run_pure,Result.andThen_ok,vE];simp only[h0,Zh4]at BC;rw[BC,SS,e1];simp only[newRow,Sem.run_bind,run_newObj,World.alloc_eq,Result.andThen_ok,Sem.run_pure]
   simp only[execOp,ho,Sem.run_bind];rw[bP];rfl
 .exact wZ (by simp[St.aC,Pos.ax]) dS (Za4 _) (λc hc=>by cases hc;rfl) (by omega)
theorem Wc(t:TypeId)(r:Option Operand)(hT:bH P tt):cr P tt (.makeMap t r):=by
 intro ρ C st w k xs cls fr a o vs res ho hc hW hF hx hr;have key:k= .mkMap/\(execOp a.eval o).run P w= .ok (.value (.map (some w.heap.size))) (w.alloc (.map #[] 0)):=by
  simp only[fo]at hc;split at hc<;>first|(cases hc;done)|skip
  rename_i ti b9;obtain⟨d,hd,bO⟩:=(hT.at b9).und;split at hc<;>first|(cases hc;done)|skip
  .cases hc;exact⟨rfl,by simp[execOp,ho,Instr.makeMap]⟩
  .rename_i hk;rw[hk]at bO;rw[FG bO]at hd;cases hc;exact⟨rfl,by simp[execOp,ho,Instr.makeMap,aJ hd,Act.eval,asInt,asIntOf]⟩
 obtain⟨rfl,bP⟩:=key;simp only[av.run,Df,H0]at hr;subst hr;obtain⟨ρ',aQ,dS,dY,hE⟩:=rF (w':=w.alloc (.map #[] 0)) (o:= .map #[] 0) (x0:= .map [] 0) (base:=0) (size:=0) hW none rfl rfl rfl rfl (λρ' n' aQ hn=>
  ⟨#[],by show(w.heap.push _)[w.heap.size]? =_;simp,rfl,λi e e' h=>by simp at h⟩)
 refine⟨_,_,_,ρ',bP,Yields.value _,aQ,dY,?_,hE⟩;have:=aj.map (ρ:=ρ') (n:=(st.aC none none (some (.map [] 0))).next.toNat) (C:=C) st.next (by simp[St.aC,Pos.ax]);rw[dS]at this;exact this
theorem Uu(hT:bH P tt)(t:TypeId)(x:Operand):cr P tt (.range t x):=by
 intro ρ C st w k xs cls fr a o vs res ho hc hW hF hx hr;simp only[fo]at hc;split at hc<;>first|(cases hc;done)|skip
 rename_i ti b b9 hb;split at hc<;>first|(cases hc;done)|skip
 rename_i hk;cases hc;obtain⟨d,hd,bO⟩:=(hT.at b9).und;rw[hk]at bO;rw[kq bO]at hd;obtain⟨v,rfl,hv⟩:=ek hb hF hx;simp only[av.run,AO]at hr;split at hr<;>first|(cases hr;done)|skip
 rename_i s;simp only[H0]at hr;subst hr;obtain⟨bs,he,hs⟩:=hv.dO;obtain⟨ρ',aQ,dS,dY,hE⟩:=rF (w':=w.alloc (.stringIter bs 0)) (o:= .stringIter bs 0) (x0:= .iD s 0) (base:=0) (size:=0) hW none rfl rfl rfl rfl (λρ' n' aQ hn=>
   ⟨bs,by show(w.heap.push _)[w.heap.size]? =_;simp,hs,rfl⟩)
 refine⟨_,.pointer (some ⟨w.heap.size,0,none⟩),_,ρ',?_,Yields.value _,aQ,dY,?_,hE⟩
 .simp[execOp,ho,he,Instr.range,aJ hd]
 .have:=aj.ptr (ρ:=ρ') (n:=(st.aC none none (some (.iD s 0))).next.toNat) (C:=C) st.next 0 (by simp[St.aC,Pos.ax]);rw[dS]at this;simpa using this
theorem ON(hT:bH P tt)(src dst:TypeId)(x:Operand)(hb:∃xs cls,fo tt (.convert src dst x)=some (.conv .bytes,xs,cls)):cr P tt (.convert src dst x):=by
 intro ρ C st w k xs cls fr a o vs res ho hc hW hF hx hr;obtain⟨_,_,gQ⟩:=hb;rw[hc]at gQ;simp only[H0,Zb2]at gQ;obtain⟨rfl,_⟩:=gQ;simp only[fo]at hc;split at hc<;>first|(cases hc;done)|skip
 rename_i s d b hs hd hb;obtain⟨ds,qO,yg⟩:=(hT.at hs).und;obtain⟨dd,hdd,bO⟩:=(hT.at hd).und;split at hc<;>first|(cases hc;done)|skip
 . rename_i e h1 h2;(split at hc<;>first|(cases hc;done)|skip);rename_i te eH;(split at hc<;>first|(cases hc;done)|skip);rename_i V0;cases hc;rw[h1]at yg;rw[h2]at bO;rw[kq yg]at qO;rw[kJ bO]at hdd;obtain⟨de,V6,V8⟩:=(hT.at eH).und;rw[V0]at V8;rw[Cd V8]at V6;obtain⟨v,rfl,hv⟩:=ek hb hF hx;simp only[av.run,tq]at hr;split at hr<;>first|(cases hr;done)|(rename_i heq;cases heq;done)|(rename_i heq;cases heq)
   (rename_i u;simp only[H0]at hr;subst hr;obtain⟨bs,he,hs⟩:=hv.dO;have bP:=run_bytes_of_string (P:=P) w src dst e bs qO hdd V6;have L6:bs.size<=grownCap w bs.size 0 e:=(by unfold grownCap Question.cut;exact Zm2 _ _);generalize grownCap w bs.size 0 e=cap at bP L6;have eu:(bytesRow bs cap).size=cap:=by have:bs.data.size=bs.size:=rfl;simp[bytesRow,this];omega);have hul:u.length=bs.size:=(sP hs).symm;have hrel:∀ρ' n',aq ρ' n' C (u.map λc=>AV.int .u8 (.ofNat c)) ((bytesRow bs cap).toList.take (u.map λc=>AV.int .u8 (.ofNat c)).length):=by
     (intro ρ' n';have h1:(bytesRow bs cap).toList.take (u.map λc=>AV.int .u8 (.ofNat c)).length=u.map λc=>Value.int .u8 (.ofNat c):=by have hdl:bs.data.toList.length=bs.size:=(by simp);rw[Zb3,hul];simp only[bytesRow,Array.toList_append,Zo2];rw[Zj7 (by simp), <-hs,Zf7];rfl);rw[h1];refine⟨by simp,λi v x hv hx=> ?_⟩;simp only[Zc0,Zd3]at hv hx;obtain⟨c,hc,rfl⟩:=hv;obtain⟨c',rG,rfl⟩:=hx;rw[hc]at rG;cases rG;exact .int _ _
   obtain⟨ρ',aQ,dS,dY,hE⟩:=rF (w':=w.drew.alloc (.cells (bytesRow bs cap) e ((bytesRow bs cap).size,(bytesRow bs cap).size+1))) (o:= .cells (bytesRow bs cap) e ((bytesRow bs cap).size,(bytesRow bs cap).size+1))
     (x0:= .cells (u.map λc=>AV.int .u8 (.ofNat c)) 0) (base:=0) (size:=(bytesRow bs cap).size) hW none rfl rfl rfl rfl (λρ' n' aQ hn=>
     tG (e:=e) (fr:=((bytesRow bs cap).size,(bytesRow bs cap).size+1)) (by show(w.heap.push _)[w.heap.size]? =_;simp) (by rw[Zb3,hul,eu];exact L6) (hrel _ _) (λi hi=>by simp;omega))
   refine⟨_,.slice (some ⟨w.heap.size,0,none⟩) u.length cap,_,ρ',?_,Yields.value _,aQ,dY,?_,hE⟩
   .simp only[execOp,ho,he,Sem.run_bind];rw[bP,hul];rfl
   .exact wZ (by simp[St.aC,Pos.ax]) dS (by omega) (λc hc=>by cases hc) (by omega)
 all_goals
   repeat' split at hc
   all_goals (cases hc;done)
end
section
variable{P:Program}{tt:TT}{ρ:Pos->Loc}{C:Cells}{st:St}{w w':World}
theorem um{n:Nat}:∀{l:List AV}{ys:List Value},aO l=true->aq ρ n C l ys->∀y∈ys,y.oneCell'=true
 |[],ys,_,h=>by have:=h.lC;subst this;simp
 |v::l,ys,h1,h=>by
  unfold aO at h1;split at h1<;>first|(cases h1;done)|skip
  rename_i ho;obtain⟨y,ys',rfl,hv,hs⟩:=h.cons_inv;intro z hz;simp at hz;rcases hz with rfl|hz
  .cases hv<;>first|rfl|(simp[AV.one]at ho;done)
  .exact um h1 hs z hz
theorem yL{α:Type}(l:List α){i:Nat}(vs:List α)(hi:i<=l.length)(k:Nat):(aG l i vs)[k]? =if k<i then l[k]? else if k<i+vs.length then vs[k - i]? else l[k]? :=by
 unfold aG;have hl:(l.take i).length=i:=by simp;omega
 split
 .rename_i h;rw[Zc1 (by omega),Zb8,Za7 h]
 . rename_i h;rw[Zc2 (by omega),hl];split
   .rename_i h';rw[Zc1 (by omega)]
   .rename_i h';rw[Zc2 (by omega),Zc4];congr 1;omega
theorem BD{α:Type}(l:List α)(b off:Nat)(vs:List α)(h:b+off<=l.length):(aG l (b+off) vs).drop b=aG (l.drop b) off vs:=by
 apply Zh1;intro k;rw[Zc4,yL l vs h,yL (l.drop b) vs (by simp;omega),Zc4];by_cases h1:k<off
 .rw[Za7 (by omega),Za7 h1]
 . rw[Za5 (by omega),Za5 h1];by_cases h2:k<off+vs.length
   .rw[Za7 (by omega),Za7 h2];congr 1;omega
   .rw[Za5 (by omega),Za5 h2]
theorem Ir{α:Type}(l:List α)(off m:Nat)(vs:List α)(h:off+vs.length<=m)(h':m<=l.length):(aG l off vs).take m=aG (l.take m) off vs:=by
 apply Zh1;intro k;rw[Zb8,yL l vs (by omega),yL (l.take m) vs (by simp;omega),Zb8];by_cases h1:k<off
 .rw[Za7 (by omega),Za7 h1,Za7 h1,Za7 (by omega)]
 . by_cases h2:k<off+vs.length
   .rw[Za7 (by omega),Za5 h1,Za7 h2,Za5 h1,Za7 h2]
   .rw[Za5 h1,Za5 h2,Za5 h1,Za5 h2]
theorem Ds(hW:aU ρ C st w){b:Pos}{cs vs:List AV}{fz off:Nat}{ys:List Value}(hb:st.heap.get b=some (.cells cs fz))(hle:off+vs.length<=cs.length)(VT:fz<=off)
   (h1:aO vs=true) (hv:aq ρ st.next.toNat C vs ys):
   ∃w',(storeCells ⟨(ρ b).au,(ρ b).base+off,none⟩ ys).run P w= .ok () w'/\aU ρ C (st.aC none (some (b,.cells (aG cs off vs) fz)) none) w'/\iT ρ st w ρ (st.aC none (some (b,.cells (aG cs off vs) fz)) none) w':=by
 obtain⟨_,_,c,e,fr,g1,g2,g3,g4,g5⟩:=hW.live b _ hb;have hl:vs.length=ys.length:=hv.1;obtain⟨w',e1,e2,e3,e4,e5,e6,e7⟩:=jk (P:=P) (ρ b).au e fr ys 0 ((ρ b).base+off) c w g1 (by omega) (um h1 hv) (λk hk jO=>by
   have:=g5 (k - (ρ b).base) (by omega) (by omega)
   rwa [show(ρ b).base+(k - (ρ b).base)=k from by omega]at this)
 simp only[Zg7]at e1 e2;refine⟨w',e1,?_⟩;have hlen:(aG cs off vs).length=cs.length:=by simp[aG];omega
 refine Kr hW hb e5 e6 e7 e3 e4 ⟨_,e,fr,e2,?_,?_,?_,λi hi Is=>g5 i hi ?_⟩
 .simp[aG];omega
 .rw[hlen];simp[aG];omega
 .rw[hlen];rw[BD _ _ _ _ (by simp;omega),Ir _ _ _ _ (by omega) (by simp;omega)];exact g4.aG hv off
 .simp[aG]at Is;omega
theorem Wd(hW:aU ρ C st w){b:Pos}{cs vs:List AV}{t:TypeId}{off:Nat}{ys:List Value}(hb:st.heap.get b=some (.typed t cs))(hle:off+vs.length<=cs.length)
   (h1:aO vs=true) (hv:aq ρ st.next.toNat C vs ys):
   ∃w',(storeCells ⟨(ρ b).au,(ρ b).base+off,none⟩ ys).run P w= .ok () w'/\aU ρ C (st.aC none (some (b,.typed t (aG cs off vs))) none) w'/\iT ρ st w ρ (st.aC none (some (b,.typed t (aG cs off vs))) none) w':=by
 obtain⟨_,_,c,fr,g1,g2,g3,g4,g5,g6⟩:=hW.live b _ hb;have hl:vs.length=ys.length:=hv.1;obtain⟨w',e1,e2,e3,e4,e5,e6,e7⟩:=jk (P:=P) (ρ b).au t fr ys 0 ((ρ b).base+off) c w g1 (by omega) (um h1 hv) (λk hk jO=>by
   have:=g5 (k - (ρ b).base) (by omega) (by omega)
   rwa [show(ρ b).base+(k - (ρ b).base)=k from by omega]at this)
 simp only[Zg7]at e1 e2;refine⟨w',e1,?_⟩;have hlen:(aG cs off vs).length=cs.length:=by simp[aG];omega
 refine Kr hW hb e5 e6 e7 e3 e4 ⟨_,fr,e2,?_,?_,?_,λi hi Is=>g5 i hi ?_,g6⟩
 .simp[aG];omega
 .rw[hlen];simp[aG];omega
 .rw[hlen];rw[BD _ _ _ _ (by simp;omega),Ir _ _ _ _ (by omega) (by simp;omega)];exact g4.aG hv off
 .simp[aG]at Is;omega
theorem aj.sS{n:Nat}:aj ρ n C .undef undef:= .tuple [] #[] rfl (λ_ _ _ h=>by simp at h)
theorem We(hT:bH P tt)(t:TypeId)(x y:Operand):cr P tt (.store t x y):=by
 intro ρ C st w k xs cls fr a o vs res ho hc hW hF hx hr;simp only[fo]at hc;split at hc<;>first|(cases hc;done)|skip
 rename_i ti l b9 hl;cases hc;obtain⟨p,v,rfl,h1,h2⟩:=L5 hl hF hx;obtain⟨i0,ku,jF,_⟩:=(hT.at b9).info;simp only[av.run,zi]at hr;split at hr<;>first|(cases hr;done)|skip
 rename_i b off;split at hr<;>first|(cases hr;done)|skip
 rotate_left
 .rename_i t0 cs hb;(split at hr<;>first|(cases hr;done)|skip);rename_i e1 e2 e4;have e1:=Za1 e1;have e2:=Za3 e2;simp only[H0]at hr;subst hr;obtain⟨_,he⟩:=h1.ei;have hc:=h2.cells;obtain⟨w',bP,dY,hE⟩:=Wd (P:=P) (vs:=v.cells) (off:=off) hW hb (by omega) e4 hc;refine⟨.skip,undef,w',ρ,?_,.inr ⟨rfl,rfl⟩,λ_ _=>rfl,dY,aj.sS,hE⟩;have eu:(a.eval y).cells.size=ti.size:=(by have:=hc.1;simp at this;omega);simp[execOp,ho,he,Instr.storeAt,Instr.sureAddr,storeVar,gu ku,jF,eu,bP]
 rename_i cs fz hb;split at hr<;>first|(cases hr;done)|skip
 rename_i e1 e2 e3 e4;have e1:=Za1 e1;have e2:=Za3 e2;have e3:=Za3 e3;simp only[H0]at hr;subst hr;obtain⟨_,he⟩:=h1.ei;have hc:=h2.cells;obtain⟨w',bP,dY,hE⟩:=Ds (P:=P) hW hb (by omega) e3 e4 hc;refine⟨.skip,undef,w',ρ,?_,.inr ⟨rfl,rfl⟩,λ_ _=>rfl,dY,aj.sS,hE⟩;have eu:(a.eval y).cells.size=ti.size:=by have:=hc.1;simp at this;omega
 simp[execOp,ho,he,Instr.storeAt,Instr.sureAddr,storeVar,gu ku,jF,eu,bP]
theorem run_setObj_map{r:Nat}{es:Array MapEntry}{c:Nat}{o:Obj}{w:World}(h:w.heap[r]? =some (.map es c)):(setObj r o).run P w= .ok () { w with heap:=w.heap.setIfInBounds r o }:=by
 simp[setObj,Sem.run,h]
theorem Kv(hW:aU ρ C st w){b:Pos}{es:List (AV×AV×Nat)}{clock:Nat}(hb:st.heap.get b=some (.map es clock)){EL:List (AV×AV×Nat)}{Uv:Array MapEntry}{Cm:Nat}
  (hE:AZ ρ st.next.toNat C EL Uv.toList):
  aU ρ C (st.aC none (some (b,.map EL Cm)) none) { w with heap:=w.heap.setIfInBounds (ρ b).au (.map Uv Cm) }/\iT ρ st w ρ (st.aC none (some (b,.map EL Cm)) none) { w with heap:=w.heap.setIfInBounds (ρ b).au (.map Uv Cm) }:=by
 have aV:=(hW.live b _ hb).2.1;refine Kr hW hb rfl rfl rfl (by simp) (λk hk=>by simp[Zd6 (Ne.symm hk)]) ⟨Uv,by simp[aV],by simpa using hE.1,λi e e' h1 h2=>hE.2 i e e' h1 (by simpa using h2)⟩
theorem Jm{n:Nat}{pk:PK}{u v:AV}{x y:Value}(h1:aj ρ n C u x)(h2:aj ρ n C v y)(h:vQ pk u v=some true)(m:Nat):Instr.sameBits m y x=true:=by
 unfold vQ at h;split at h<;>first|(cases h;done)|skip
 .simp only[H0]at h;rw[h1.fM,h2.fM];rename_i p q;have:p=q:=(by simpa using h);subst this;cases m<;>simp[Instr.sameBits]
 . (split at h<;>first|(cases h;done)|skip);rename_i ye;have:=tE ye;subst this;simp only[H0,jB]at h;rw[h1.gD,h2.gD];rename_i p q _;have:p=q:=(by simpa using h);subst this;cases m<;>simp[Instr.sameBits]
 .simp only[H0]at h;obtain⟨bx,rfl,e1⟩:=h1.dO;obtain⟨bz,rfl,e2⟩:=h2.dO;have:bz==bx:=(by rw[beq_toListBytes,Ci e2 e1,jI];exact(jI.1 h).symm);cases m<;>simpa [Instr.sameBits]using this
theorem Nv{pk:PK}{u:AV}:∀{es:List (AV×AV×Nat)}{i j:Nat}{v:AV},iE pk u es i=some (some (j,v))->∃e,i<=j/\es[j - i]? =some e/\vQ pk u e.1=some true
 |[],i,j,v,h=>by simp[iE]at h
 |(k',v',born)::es,i,j,v,h=>by
  unfold iE at h;split at h<;>first|(cases h;done)|skip
  .rename_i hq;simp only[H0,Zb2]at h;obtain⟨rfl,_⟩:=h;exact⟨(k',v',born),Za4 _,by simp,hq⟩
  .obtain⟨e,h1,h2,h3⟩:=Nv h;refine⟨e,by omega,?_,h3⟩;rw[show j - i=(j - (i+1))+1 from by omega];simpa using h2
theorem FK(k v:AV):∀(es:List (AV×AV×Nat))(i j:Nat),(mh k v es i)[j]? =if j=i then(es[i]?).map (λe=>(k,v,e.2.2))else es[j]?
 |[],i,j=>by cases i<;>cases j<;>simp[mh]
 |(a,b,born)::es,0,j=>by cases j<;>simp[mh]
 |e::es,i+1,j=>by
  cases j with
  |zero=>simp[mh]
  |succ j=>simp[mh,FK k v es i j]
theorem Kw (hT:bH P tt)(op:Op)(t:TypeId)(m k0 v0:Operand)(hop:op= .mapUpdate t m k0 v0\/op= .insert t m k0 v0):cr P tt op:=by
 intro ρ C st w k xs cls fr a o vs res ho hc hW hF hx hr;have hc:fo.Ui tt t m k0 v0=some (k,xs,cls):=by rcases hop with rfl|rfl<;>simpa only[fo]using hc
 have hex:(execOp a.eval o).run P w=((Instr.mapUpdate t (a.eval m) (a.eval k0) (a.eval v0)).run P w).andThen λ_ w=>.ok .skip w:=by
   rcases hop with rfl|rfl<;>simp[execOp,ho]
 unfold fo.Ui at hc;split at hc<;>first|(cases hc;done)|skip
 rename_i ti l b9 hl;split at hc<;>first|(cases hc;done)|skip
 rename_i kt et hk;split at hc<;>first|(cases hc;done)|skip
 rename_i tk EI;obtain⟨d,hd,bO⟩:=(hT.at b9).und;rw[hk]at bO;rw[FG bO]at hd;obtain⟨dk,Nt,ye⟩:=(hT.at EI).und;have key:∃pk,k= .mapSet pk/\xs=l/\pk.fits dk=true:=by
   split at hc<;>first|(cases hc;done)|skip
   all_goals
     rename_i h1;cases hc;refine⟨_,rfl,rfl,aaI tk.k ye ?_⟩
   .exact .inr (.inl ⟨⟨_,h1⟩,rfl⟩)
   .exact .inr (.inr ⟨h1,rfl⟩)
   .exact .inl ⟨h1,rfl⟩
 obtain⟨pk,rfl,rfl,Bz⟩:=key;obtain⟨mm,kk,vv,rfl,h1,h2,h3⟩:=evs3 hl hF hx;have EJ:∀e w,(Instr.checkKey e 10000 kt (a.eval k0)).run P w= .ok () w:=λe w=>Ck Nt Bz e 9999 _ w
 simp only[av.run,tu]at hr;split at hr<;>first|(cases hr;done)|skip
 rename_i b;split at hr<;>first|(cases hr;done)|skip
 rename_i es clock hb;obtain⟨_,he⟩:=h1.tF;obtain⟨_,_,es',cW,hlen,fN⟩:=hW.live _ _ hb;have hE:AZ ρ st.next.toNat C es es'.toList:=⟨by simpa using hlen,λi e e' h1 h2=>fN i e e' h1 (by simpa using h2)⟩
 split at hr<;>first|(cases hr;done)|skip
 . rename_i i v hpk hf;simp only[H0]at hr;subst hr;obtain⟨r',hf',oG⟩:=wY Bz h2 hE hf;rcases oG with⟨e1,_⟩|⟨j',v',y,e1,e2,e3,_,e5⟩
   .cases e1
   . cases  e1;subst e2;obtain⟨e,_,hei,hek⟩:=Nv hf;rw[Zo4]at hei;have hi:i<es'.size:=(by omega);have Uw:es'[i]? =some es'[i]:=Ze7 hi;have hkey:=(fN i e es'[i] hei Uw).1;have hsb:=Jm h2 hkey hek 10000;have Wg  :AZ ρ st.next.toNat C (mh kk vv es i) (es'.modify i λe=>{ e with key:=a.eval k0,val:=a.eval v0 }).toList:=by
        refine⟨?_,λj e e' g1 g2=> ?_⟩
        . have It:∀(es:List (AV×AV×Nat))(i:Nat),(mh kk vv es i).length=es.length:=by
            intro es;induction es with
            |nil=>intro i;cases i<;>rfl
            | cons e es ih=>intro i;cases i with
              |zero=>obtain⟨a,b,c⟩:=e;rfl
              |succ i=>simp[mh,ih i]
          rw[It];simpa using hlen
        . rw[FK]at g1;simp only[Zg1,Zm0]at g2;by_cases hji:j=i
          .subst hji;rw[Za7 rfl,hei]at g1;simp[Uw]at g1 g2;subst g1;subst g2;exact⟨h2,h3,(fN j e es'[j] hei Uw).2.2⟩
          .rw[Za5 hji]at g1;rw[Za5 (λe=>hji e.symm)]at g2;exact fN j e e' g1 g2
     obtain⟨dY,Wh⟩:=Kv hW hb (Cm:=clock) Wg;refine⟨.skip,undef,_,ρ,?_,.inr ⟨rfl,rfl⟩,λ_ _=>rfl,dY,aj.sS,Wh⟩;rw[hex];simp only[Instr.mapUpdate,Sem.run_bind,aJ hd,Result.andThen_ok,he,run_getObj_map cW,EJ,run_findKey Nt hf',Uw,Ze2,Zj2,Instr.keyThatStays,hsb,Zg8,Sem.run_pure,run_setObj_map cW]
 . rename_i hpk hf;simp only[H0]at hr;subst hr;obtain⟨r',hf',oG⟩:=wY Bz h2 hE hf;rcases oG with⟨_,e2⟩|⟨j',v',y,e1,_⟩
   . subst  e2;have Wg:AZ ρ st.next.toNat C (es++[(kk,vv,clock)]) (es'.push { key:=a.eval k0,val:=a.eval v0,born:=clock }).toList:=by
        refine⟨by simp[hlen],λj e e' g1 g2=> ?_⟩;simp only[Array.toList_push]at g2;rcases Zh5 j es.length with hj|hj
        .rw[Zc1 hj]at g1;rw[Zc1 (by simp;omega)]at g2;exact fN j e e' g1 (by simpa using g2)
        .rw[Zc2 hj]at g1;rw[Zc2 (by simp;omega)]at g2;have:j - es.length=0:=(by have:=(Za0.1 g1).1;simp at this;omega);rw[this]at g1;have:j - es'.toList.length=0:=(by simp;omega);rw[this]at g2;simp at g1 g2;subst g1;subst g2;exact⟨h2,h3,rfl⟩
     obtain⟨dY,Wh⟩:=Kv hW hb (Cm:=clock+1) Wg;refine⟨.skip,undef,_,ρ,?_,.inr ⟨rfl,rfl⟩,λ_ _=>rfl,dY,aj.sS,Wh⟩;rw[hex];simp only[Instr.mapUpdate,Sem.run_bind,aJ hd,Result.andThen_ok,he,run_getObj_map cW,EJ,run_findKey Nt hf',run_setObj_map cW]
   .cases e1
theorem Wi(it:Operand)(isS:Bool):cr P tt (.next it isS):=by
 intro ρ C st w k xs cls fr a o vs res ho hc hW hF hx hr;simp only[fo]at hc;split at hc<;>first|(cases hc;done)|skip
 rename_i b hb;cases hc;obtain⟨v,rfl,hv⟩:=ek hb hF hx;simp only[av.run,Dg]at hr;split at hr<;>first|(cases hr;done)|skip
 rename_i bb;split at hr<;>first|(cases hr;done)|skip
 rename_i s pos jq;obtain⟨_,he⟩:=hv.ei;obtain⟨_,_,bs,EH,hs,Pc⟩:=hW.live _ _ jq;have eu:=sP hs;have oX:(getObj (ρ bb).au).run P w= .ok (.stringIter bs pos) w:=by simp[getObj,Sem.run,EH]
 rw[Pc]at he;split at hr
 . (rename_i aV;have aV:pos<s.length:=(by simpa using aV);(split at hr<;>first|(cases hr;done)|skip);rename_i c wd Jn;simp only[H0]at hr;subst hr;have Dq:pos<bs.size:=(by omega);unfold SK at Jn;(split at Jn<;>first|(cases Jn;done)|skip);rename_i c' rG;(split at Jn<;>first|(cases Jn;done)|skip);rename_i YU;simp only[H0,Zb2]at Jn;obtain⟨rfl,rfl⟩:=Jn;have YU:c'<128:=(by simpa using YU);have hcb:(bs[pos]'Dq).toNat=c':=by rw[j4, <-hs,Zc0]at rG;obtain⟨b',EM,Ky⟩:=Zd3.1 rG;obtain⟨hl,hbb'⟩:=Za0.1 EM;rw[<-Ky, <-hbb'];rfl);have SW:=decode_ascii bs pos Dq (by rw[hcb];exact YU);rw[hcb]at SW;have Dt:(setObj (ρ bb).au (.stringIter bs (pos+1))).run P w= .ok () { w with heap:=w.heap.setIfInBounds (ρ bb).au (.stringIter bs (pos+1)) }:=(by simp[setObj,Sem.run,EH]);have hltb:=(hW.live _ _ jq).2.1
   obtain⟨dY,Wh⟩:=Kr (w':={ w with heap:=w.heap.setIfInBounds (ρ bb).au (.stringIter bs (pos+1)) }) (x0:= .iD s (pos+1)) hW jq rfl rfl rfl (by simp)
     (λk hk=>by simp[Zd6 (Ne.symm hk)]) ⟨bs,by simp[hltb],hs,Pc⟩
   refine⟨.value (.tuple #[.bool true,goInt pos,.int .i32 (c':Int)]),_,_,ρ,?_,Yields.value _,λ_ _=>rfl,dY,?_,Wh⟩
   .simp only[execOp,ho,he,Instr.next,Sem.run_bind,oX,Result.andThen_ok,Dq,Zg8,SW,Dt,Sem.run_pure]
   .exact .pT (aq.cons (.bool true) (aq.cons (.int _ _) (aq.cons (.int _ _) aq.nil)))
 . (rename_i aV;have aV:¬pos<s.length:=λh=>by have:Nat.blt pos s.length=true:=(by simpa using h);rw[this]at aV;cases aV);simp only[H0]at hr;subst hr;have Dq:¬pos<bs.size:=(by omega);refine .pure (x:= .tuple #[.bool false]) ?_ (.pT (aq.cons (.bool false) aq.nil));simp only[execOp,ho,he,Instr.next,Sem.run_bind,oX,Result.andThen_ok,Dq,Zh4,Sem.run_pure]
end
section
variable{P:Program}{tt:TT}{ρ:Pos->Loc}{C:Cells}{st:St}{w w':World}
theorem aU.of_heap(hW:aU ρ C st w)(h:w'.heap=w.heap):aU ρ C st w' where
 live b x hb:=let⟨h1,h2,h3⟩:=hW.live b x hb;⟨h1,by rw[h];exact h2,h3.of_heap (by rw[h])⟩
 inj:=hW.inj
 cY a v ha:=let⟨h1,h2⟩:=hW.cY a v ha;⟨by unfold World.cell? at h1 ⊢; rw[h];exact h1,h2⟩
 whole a v ha o ho:=by have:=hW.whole a v ha o ho;unfold World.cell? at this ⊢; rw[h];exact this
theorem Iu{es:Nat}:∀{xs:List (List AV)}(_h:∀(i:Nat)(cs:List AV),xs[i]? =some cs->cs.length=es)(q:Nat)(v:AV),
  xs.flatten[q]? =some v->∃cs,xs[q / es]? =some cs/\cs[q % es]? =some v
 |[],_,q,v,hv=>by simp at hv
 |c ::xs,h,q,v,hv=>by
  have hc:c.length=es:=h 0 c rfl;have fQ:∀(i:Nat)(cs:List AV),xs[i]? =some cs->cs.length=es:=λi cs hi=>h (i+1) cs (by simpa using hi)
  rw[Zf2]at hv;rcases Zh5 q c.length with hq|hq
  . rw[Zc1 hq]at hv;refine⟨c,?_,?_⟩
    .   rw[Nat.div_eq_of_lt (by omega)];rfl
    .   rw[Zj3 (by omega)];exact hv
  . rw[   Zc2 hq]at hv;obtain⟨cs,h1,h2⟩:=Iu fQ (q - c.length) v hv;rw[hc]at hq h1 h2;have Ut:0<es:=by
        rcases Zn3 es with h0|h0
        .subst h0;have hl:=fQ _ _ h1;have:=(Za0.1 h2).1;omega
        .exact h0
    refine⟨cs,?_,?_⟩
    .   rw[Nat.div_eq_sub_div Ut hq];simpa using h1
    .   rw[Zn2 hq];exact h2
theorem Iv{es:Nat}:∀{xs:List (List AV)}(_h:∀(i:Nat)(cs:List AV),xs[i]? =some cs->cs.length=es),xs.flatten.length=xs.length*es
 |[],_=>by simp
 |c::xs,h=>by have hc:c.length=es:=h 0 c rfl;rw[Zf2,Ze0,Iv (λi cs hi=>h (i+1) cs (by simpa using hi)),hc,Ze6,Zi2];omega
theorem jJ(hW:aU ρ C st w){es m:Nat}{u:AV}{x:Value}{new:List AV}{k:Nat}(hu:aj ρ st.next.toNat C u x)(hk:cQ u=some k)(hmk:m<=k)(h:bV es m (λb=>st.heap.get b) u=some new)(w2:World)(mT:w2.heap=w.heap):
   ∃ys:List Value,(Builtin.firstCells es m x).run P w2= .ok ys.toArray w2/\aq ρ st.next.toNat C new ys/\(u= .ah\/new.length=m*es):=by
 have Cn:=hW.of_heap (w':=w2) mT;unfold bV at h;split at h
 .simp only[H0]at h;subst h;rw[hu.eP];exact⟨[],by simp[Builtin.firstCells],aq.nil,.inl rfl⟩
 . rename_i b off len cap es';simp only[cQ,H0]at hk;subst hk;obtain⟨aa,aF,he,hle,_,ha⟩:=hu.cN;rw[he];split at h
   .rename_i h0;have h0:=Za1 h0;simp only[H0]at h;subst h;exact⟨[],by simp[Builtin.firstCells,h0,loadCells,loadCellsFrom],aq.nil,.inr (by simp[h0])⟩
   .rename_i h0;have h0:=Zb6 h0;(split at h<;>first|(cases h;done)|skip);rename_i cs fz hb;have hm:m≠0:=(by intro e;subst e;simp at h0);obtain⟨_,rfl,_⟩:=ha (by omega);obtain⟨ys,h1,h2⟩:=Cn.loadCells (P:=P) hb h;exact⟨ys,by simp only[Builtin.firstCells];exact h1,h2,.inr (qC h)⟩
 . rename_i xs es';simp only[cQ,H0]at hk;subst hk;(split at h<;>first|(cases h;done)|skip);rename_i PY Nw;have PY:=Za1 PY;have Nw:=Za3 Nw;subst PY;simp only[H0]at h;subst h;obtain⟨aa,aF,cell,he,hle,yf,g1,g2,g3⟩:=hu.pU;rw[he];have cW:∀(i:Nat)(cs:List AV),(xs.take m)[i]? =some cs->cs.length=es:=λi cs hi=>by
     rw[Zb8]at hi;split at hi
     .exact g1 i cs hi
     .cases hi
   have Kz:=Iv cW;rw[Zi7,Zj6 Nw]at Kz;have aaJ:∀q v,(xs.take m).flatten[q]? =some v->∃cs,xs[q / es]? =some cs/\cs[q % es]? =some v:=λq v hv=>by
     obtain⟨cs,h1,h2⟩:=Iu cW q v hv;rw[Zb8]at h1;split at h1
     .exact⟨cs,h1,h2⟩
     .cases h1
   refine⟨(List.range (m*es)).map λq=>cell (q / es) (q % es),?_,⟨by simp[Kz],λq v y hv hy=> ?_⟩,.inr Kz⟩
   .simp only[Builtin.firstCells];(refine run_loadCells w2 _ _ _ λq hq=> ?_);have aV:q<(xs.take m).flatten.length:=(by rw[Kz];exact hq);obtain⟨cs,h1,h2⟩:=aaJ q _ (H4 aV);have yf:=yf (by intro e;rw[e]at h1;simp at h1);obtain⟨ab,ao,asp⟩:=aa;simp only at yf;subst yf;have:=(Cn.cY _ _ (g2 _ _ _ _ h1 h2)).1;rw[j5];simp only at this;rw[show ao+q=ao+q / es*es+q % es from by rw[Zh3,Nat.mul_comm,Nat.div_add_mod]];exact this
   .obtain⟨cs,h1,h2⟩:=aaJ q v hv;have hq:q<m*es:=(by rw[<-Kz];exact(Za0.1 hv).1);simp[hq]at hy;subst hy;exact g3 _ _ _ _ h1 h2
 . rename_i s;simp only[cQ,H0]at hk;subst hk;(split at h<;>first|(cases h;done)|skip);rename_i PY Nw;have PY:=Za1 PY;have Nw:=Za3 Nw;subst PY;simp only[H0]at h;subst h;obtain⟨bs,rfl,hs⟩:=hu.dO;refine⟨(s.take m).map λ(c:Nat)=>Value.int .u8 (.ofNat c),?_,⟨by simp,λq v y hv hy=> ?_⟩,.inr (by simp;omega)⟩
   .simp only[Builtin.firstCells,Sem.run_pure];congr 1;apply Zl4;simp only[Zo2,ByteArray.data_extract,Zm7,List.extract,Ze4,Zo4];rw[<-hs, <-List.map_take,Zf7];rfl
   .simp only[Zc0,Zd3]at hv hy;obtain⟨c,hc,rfl⟩:=hv;obtain⟨c',rG,rfl⟩:=hy;rw[hc]at rG;cases rG;exact .int _ _
 .cases h
theorem Jo{n:Nat}{u:AV}{x:Value}{k:Nat}(hu:aj ρ n C u x)(hk:cQ u=some k):(Builtin.lenOf x).run P w= .ok k w:=by
 unfold cQ at hk;split at hk<;>first|(cases hk;done)|skip
 all_goals simp only[H0]at hk;subst hk
 .rw[hu.eP];rfl
 .obtain⟨_,_,he,_⟩:=hu.cN;rw[he];rfl
 .obtain⟨_,_,_,he,_⟩:=hu.pU;rw[he];rfl
 .obtain⟨bs,rfl,hs⟩:=hu.dO;rw[<-sP hs];rfl
theorem Nx(nl:Nat):∀(r c:Nat),c<=nl+(nl+768) / 4->Builtin.growBy nl r c<=nl+(nl+768) / 4
 |0,c,h=>h
 |r+1,c,h=>by
  unfold Builtin.growBy;split
  .exact h
  .exact Nx nl r _ (by omega)
theorem nextslicecap_le{Ux dw:Nat}(h:dw<Ux):Builtin.nextslicecap Ux dw<=2*Ux+768:=by
 unfold Builtin.nextslicecap;split
 .omega
 . split
   .omega
   .have:=Nx Ux 4 dw (by omega);omega
theorem Du(hT:bH P tt){t t2 e:Nat}{ts:Array TypeId}{ti EG te:TI}(b9:tt.get (key t)=some ti)(FL:tt.get (key t2)=some EG)(hk:ti.k= .slice e)(kW:∀k,EG.k≠ .int k)
  (eH:tt.get (key e)=some te) (h0:ts[0]? =some t) (h1:ts[1]? =some t2) (ty:TypeId) (base:Option Addr) (n cap m:Nat) (x:Value) (w:World)
  (hx:(Builtin.lenOf x).run P w= .ok m w) (hb:(2*(n+m)+768)*te.bytes<=281474976710656) (hi:n+m<=9223372036854775807):
  (Builtin.append_ ts ty #[.slice base n cap,x]).run P w=
    if n+m<=cap then((Builtin.firstCells te.size m x).run P w).andThen λnew w=>((match base with|some a=>storeCells (a.add (n*te.size)) new.toList|none=>pure ()).run P w).andThen λ_ w=>.ok (.slice base (n+m) cap) w
    else((Builtin.firstCells te.size n (.slice base n cap)).run P w.drew).andThen λdw w1=>((Builtin.firstCells te.size m x).run P w1).andThen λnew w2=>((zeroValue e).run P w2).andThen λz w3=>
        .ok (.slice (some ⟨w3.heap.size,0,none⟩) (n+m) (grownCap w (n+m) cap e)) (w3.alloc (.cells (dw++new++Builtin.zeroCells z.cells (grownCap w (n+m) cap e - (n+m))) e)):=by
 obtain⟨d,hd,bO⟩:=(hT.at b9).und;rw[hk]at bO;rw[kJ bO]at hd;obtain⟨d2,KA,YV⟩:=(hT.at FL).und;obtain⟨i0,ku,jF,hib,_⟩:=(hT.at eH).info;have acI:∀k,d2≠ .int k:=by
  rintro k rfl;cases ye:EG.k<;>rw[ye]at YV<;>first|(simp[bu]at YV;done)|exact absurd ye (kW _)
 have Uy:¬(((n+m:Nat):Int)>IntKind.i64.max):=by
  have:IntKind.i64.max=9223372036854775807:=by decide
  rw[this];omega
 have acJ:¬(n+m<=cap)->¬(Builtin.nextslicecap (n+m) cap*te.bytes>2 ^ 48):=λhc=>by
  have h1:=nextslicecap_le (Nat.lt_of_not_le hc);have h2:=Zf5 te.bytes h1;have:(2:Nat) ^ 48=281474976710656:=by decide
  omega
 have L6:∀q,(Question.appendCap (n+m) cap e).forced=q->q=false:=by rintro q rfl;rfl
 clear YV;cases d2<;>first|(exact absurd rfl (acI _))|skip
 all_goals
  unfold Builtin.append_;simp only[h0,h1,List.getElem?_toArray,Zb1,Ze3,Sem.run_bind,aJ hd,Result.andThen_ok,gu ku,jF,aJ KA,Sem.run_pure,hx,Zg3,Zh4,Zn4,Zg8,Sem.run_ite];by_cases hc:n+m<=cap
  .rw[Za7 hc,Za7 hc];cases base<;>simp only[Sem.run_bind,Sem.run_pure,Result.andThen_ok]
  .rw[Za5 hc,Za5 hc];simp only[Sem.run_bind,PI ku,hib,Result.andThen_ok,Uy,false_and,Zh4,acJ hc,run_choose,Question.forced,Zg3,World.drew_eq,run_askRoom,Sem.run_pure,newRow,run_newObj,World.alloc_eq];rfl
end
section
variable{P:Program}{tt:TT}{ρ:Pos->Loc}{C:Cells}{st:St}{w w':World}
theorem YW{L:Loc}{cs:List AV}{n:Nat}(fz:Nat)(h:kG ρ n C L w' (.cells cs 0)):kG ρ n C L w' (.cells cs fz):=
 let⟨c,e,fr,h1,h2,h3,h4,h5⟩:=h
 ⟨c,e,fr,h1,h2,h3,h4,λi _ hi=>h5 i (Zk2 _) hi⟩
theorem Uz(hW:aU ρ C st w)(del:Option Pos)(fz:Nat){dw new rest:List Value}{ol nl:List AV}{e:TypeId}{n m es aF:Nat}(h1:aq ρ st.next.toNat C ol dw)(h2:aq ρ st.next.toNat C nl new)
  (vG:ol.length=n*es) (EN:nl.length=m*es) (hr:rest.length=(aF - (n+m))*es) (hc:n+m<=aF) {w2:World} (mT:w2=w.drew.alloc (.cells (dw++new++rest).toArray e)):
  ∃ρ':Pos->Loc,(∀b:Pos,b.toNat<st.next.toNat->ρ' b=ρ b)/\aU ρ' C (st.aC del none (some (.cells (ol++nl) fz))) w2/\iT ρ st w ρ' (st.aC del none (some (.cells (ol++nl) fz))) w2/\
   aj ρ' (st.aC del none (some (.cells (ol++nl) fz))).next.toNat C (.slice st.next 0 (n+m) none es) (.slice (some ⟨w.heap.size,0,none⟩) (n+m) aF):=by
 subst mT;have vH:dw.length=n*es:=by rw[<-h1.1,vG]
 have nF:new.length=m*es:=by rw[<-h2.1,EN]
 have eu:(dw++new++rest).length=aF*es:=by simp only[Ze0,vH,nF,hr];rw[<-Zi2, <-Zi2];congr 1;omega
 obtain ⟨ρ',aQ,dS,dY,hE⟩:=rF (w':=w.drew.alloc (.cells (dw++new++rest).toArray e)) (o:= .cells (dw++new++rest).toArray e) (x0:= .cells (ol++nl) fz) (base:=0) (size:=(dw++new++rest).toArray.size) hW del rfl rfl rfl rfl (λρ' n' aQ hn=>
  YW fz  <| tG (e:=e) (fr:=(0,0)) (by show(w.heap.push _)[w.heap.size]? =_;simp) (by simp[vG,EN,vH,nF])
   (by
        have:(dw++new++rest).toArray.toList.take (ol++nl).length=dw++new:=by
         rw[Zj7 (by simp[vG,EN,vH,nF])]
        rw[this];exact(h1.append h2).mono aQ hn) (λi _=>by simp))
 refine⟨ρ',aQ,dY,hE,wZ (by simp[St.aC,Pos.ax]) dS hc (λc hc=>by cases hc) (by simp only[Zl6,eu];exact Za4 _)⟩
theorem xN(z:Array Value)(m:Nat):(Builtin.zeroCells z m).toList.length=m*z.size:=by simp[Builtin.zeroCells]
theorem YX{m:Nat}(h:Nat.beq m 0=false):m≠0:=Zb6 h
theorem Dv (hT:bH P tt){t t2 e:Nat}{ts:Array TypeId}{ti EG te:TI}{z:List AV}(b9:tt.get (key t)=some ti)(FL:tt.get (key t2)=some EG)(hk:ti.k= .slice e)(kW:∀k,EG.k≠ .int k)
   (eH:tt.get (key e)=some te) (hz:te.zero=some z) (h0:ts[0]? =some t) (h1:ts[1]? =some t2) (ty:TypeId) {s u:AV} {xs xu:Value} {res:bU} (hW:aU ρ C st w)
   (hs:aj ρ st.next.toNat C s xs) (hu:aj ρ st.next.toNat C u xu) (hr:fk (λb=>st.heap.get b) st.next te.size te.bytes [s,u]=some res):
   qz P ρ C st w (((Builtin.append_ ts ty #[xs,xu]).run P w).andThen λv w=>.ok (.value v) w) res:=by
 simp only[fk]at hr;split at hr<;>first|(cases hr;done)|skip
 rename_i n m hn hm;split at hr<;>first|(cases hr;done)|skip
 rename_i b1 b2;have b1:=Za3 b1;have b2:=Za3 b2;have hlen:=Jo (P:=P) (w:=w) hu hm;obtain⟨i0,ku,jF,_,vD⟩:=(hT.at eH).info;obtain⟨zv0,hzv0,_,Ku,_⟩:=vD z hz;have Kp:=λw=>pW hT eH hz (ρ:=ρ) (n:=st.next.toNat) (C:=C) w
 have It:∃base aF,xs= .slice base n aF/\n<=aF:=by
   unfold cQ at hn;split at hn<;>first|(cases hn;done)|skip
   .cases hn;exact⟨none,0,hs.eP,Za4 _⟩
   .cases hn;obtain⟨a,c,he,hle,_⟩:=hs.cN;exact⟨_,c,he,hle⟩
   .cases hn;obtain⟨a,c,_,he,hle,_⟩:=hs.pU;exact⟨_,c,he,hle⟩
   .rename_i s';exfalso;cases hbm:Nat.beq m 0<;>simp[hbm]at hr
 obtain⟨base,aF,fQ,hle⟩:=It;have bP:=Du hT b9 FL hk kW eH h0 h1 ty base n aF m xu w hlen b1 b2;rw[fQ,bP];have hg:∀c,n+m<=grownCap w (n+m) c e:=λc=>by unfold grownCap Question.cut;exact Zm2 _ _
 have Jp:∀(del:Option Pos)(fz:Nat)(ol nl:List AV),¬(n+m<=aF)->bV te.size n (λb=>st.heap.get b) s=some ol->bV te.size m (λb=>st.heap.get b) u=some nl->ol.length=n*te.size->nl.length=m*te.size->
     qz P ρ C st w ((if n+m<=aF then((Builtin.firstCells te.size m xu).run P w).andThen λnew w=>((match base with|some a=>storeCells (a.add (n*te.size)) new.toList|none=>pure ()).run P w).andThen λ_ w=>.ok (.slice base (n+m) aF) w
     else((Builtin.firstCells te.size n (.slice base n aF)).run P w.drew).andThen λdw w1=>((Builtin.firstCells te.size m xu).run P w1).andThen λnew w2=>((zeroValue e).run P w2).andThen λz w3=>
        .ok (.slice (some ⟨w3.heap.size,0,none⟩) (n+m) (grownCap w (n+m) aF e)) (w3.alloc (.cells (dw++new++Builtin.zeroCells z.cells (grownCap w (n+m) aF e - (n+m))) e))).andThen λv w=>.ok (.value v) w)
        (.aC (.slice st.next 0 (n+m) none te.size) del none (some (.cells (ol++nl) fz))):=by
   intro del fz ol nl hc ho j7 vG EN;obtain⟨dw,e1,e2,_⟩:=jJ (P:=P) hW hs hn (Za4 _) ho w.drew rfl;obtain⟨new,e3,e4,_⟩:=jJ (P:=P) hW hu hm (Za4 _) j7 w.drew rfl;obtain⟨zv,vE,_,pX⟩:=Kp w.drew;rw[fQ]at e1;have AU:(Builtin.zeroCells zv.cells (grownCap w (n+m) aF e - (n+m))).toList.length=(grownCap w (n+m) aF e - (n+m))*te.size:=(by rw[xN];congr 1;have:=pX.1;simp at this;omega);obtain⟨ρ',aQ,dY,hE,hv⟩:=Uz hW del fz e2 e4 vG EN AU (hg aF) (e:=e) rfl;refine⟨_,_,_,ρ',?_,Yields.value _,aQ,dY,hv,hE⟩;rw[Za5 hc];simp only[e1,e3,vE,Result.andThen_ok,World.size_drew];congr 2;simp
 have Wj:∀nl,bV te.size m (λb=>st.heap.get b) u=some nl->m≠0->nl.length=m*te.size:=by
   intro nl j7 hm0;obtain⟨_,_,_,h⟩:=jJ (P:=P) hW hu hm (Za4 _) j7 w rfl;rcases h with rfl|h
   .simp[cQ]at hm;omega
   .exact h
 have hls:∀ol,bV te.size n (λb=>st.heap.get b) s=some ol->ol.length=n*te.size:=by
   intro ol rH;obtain⟨ys,_,zk,h⟩:=jJ (P:=P) hW hs hn (Za4 _) rH w rfl;rcases h with rfl|h
   .simp[cQ]at hn;subst hn;simp[bV]at rH;subst rH;simp
   .exact h
 have hzero:m=0->aj ρ st.next.toNat C s xs->qz P ρ C st w ((if n+m<=aF then((Builtin.firstCells te.size m xu).run P w).andThen λnew w=>((match base with|some a=>storeCells (a.add (n*te.size)) new.toList|none=>pure ()).run P w).andThen λ_ w=>.ok (.slice base (n+m) aF) w
     else((Builtin.firstCells te.size n (.slice base n aF)).run P w.drew).andThen λdw w1=>((Builtin.firstCells te.size m xu).run P w1).andThen λnew w2=>((zeroValue e).run P w2).andThen λz w3=>
        .ok (.slice (some ⟨w3.heap.size,0,none⟩) (n+m) (grownCap w (n+m) aF e)) (w3.alloc (.cells (dw++new++Builtin.zeroCells z.cells (grownCap w (n+m) aF e - (n+m))) e))).andThen λv w=>.ok (.value v) w) (.val s):=by
   rintro rfl hsx;have hf:(Builtin.firstCells te.size 0 xu).run P w= .ok #[] w:=by
     unfold cQ at hm;split at hm<;>first|(cases hm;done)|skip
     .  rw[hu.eP];simp[Builtin.firstCells]
     .  obtain⟨_,_,he,_⟩:=hu.cN;rw[he];simp[Builtin.firstCells,loadCells,loadCellsFrom]
     .  obtain⟨_,_,_,he,_⟩:=hu.pU;rw[he];simp[Builtin.firstCells,loadCells,loadCellsFrom]
     .  obtain⟨bs,rfl,_⟩:=hu.dO;simp only[Builtin.firstCells,Sem.run_pure];congr 1;apply Zl4;simp
   rw[fQ]at hsx;refine .pure (x:= .slice base n aF) ?_ hsx;rw[Za7 (by omega),hf];cases base<;>simp[storeCells]
 split at hr<;>first|(cases hr;done)|skip
 .rename_i uo;simp only[H0]at hr;subst hr;exact hzero (Za1 uo) hs
 .rename_i uo;simp only[H0]at hr;subst hr;exact hzero (Za1 uo) hs
 .rename_i uo;simp only[H0]at hr;subst hr;exact hzero (Za1 uo) hs
 ·
   rename_i uo;have uo:=YX uo;(split at hr<;>first|(cases hr;done)|skip);rename_i new j7;simp only[H0]at hr;subst hr;have he:=hs.eP;rw[he]at fQ;simp only[Value.slice.injEq]at fQ;obtain⟨rfl,rfl,rfl⟩:=fQ;have:=Jp none 0 [] new (by omega) rfl j7 (by simp) (Wj new j7 uo);simpa using this
 ·
   rename_i b off n' c es' uo;have uo:=YX uo;simp only[cQ,H0]at hn;subst hn;obtain⟨aa,cc,he,hlec,Wk,ha⟩:=hs.cN;rw[he]at fQ;simp only[Value.slice.injEq]at fQ;obtain⟨rfl,_,rfl⟩:=fQ;have:=Wk c rfl;subst this;split at hr
   . rename_i pI;have pI:=Za3 pI;(split at hr<;>first|(cases hr;done)|skip);rename_i cs fz new hb j7;(split at hr<;>first|(cases hr;done)|skip);rename_i c1 c2 c3;have c1:=Za3 c1;simp only[Za8]at c2;have c2a:=Za3 c2.1;have c2b:=Za1 c2.2;subst c2b;simp only[H0]at hr;subst hr;obtain⟨aV,rfl,hbound⟩:=ha (by omega);obtain⟨ys,e1,e2,_⟩:=jJ (P:=P) hW hu hm (Za4 _) j7 w rfl;have Dw:=Wj new j7 uo;obtain⟨w2,e3,dY,hE⟩:=Ds (P:=P) hW hb (by rw[Dw];rw[Zi2]at c1;omega) c2a c3 e2;refine⟨_,.slice (some ⟨(ρ b).au,(ρ b).base+off,none⟩) (n'+m) c,w2,ρ,?_,Yields.value _,λ_ _=>rfl,dY,?_,hE⟩
     .  rw[Za7 pI,e1];simp only[Result.andThen_ok,j5];rw[Zh3,e3];rfl
     .  exact .slice _ _ _ _ _ _ _ pI (λc hc=>by cases hc;rfl) (λ_=>⟨aV,rfl,hbound⟩) (λh=>by cases h)
   . rename_i pI;have pI:¬(n'+m<=c):=λh=>by rw[Nat.ble_eq_true_of_le h]at pI;cases pI
     (split at hr<;>first|(cases hr;done)|skip);rename_i dw new rH j7;simp only[H0]at hr;subst hr;exact Jp none 0 dw new pI rH j7 (hls dw rH) (Wj new j7 uo)
 ·
   rename_i b off n' es' uo;have uo:=YX uo;simp only[cQ,H0]at hn;subst hn;(split at hr<;>first|(cases hr;done)|skip);rename_i cs fz dw new hb rH j7;(split at hr<;>first|(cases hr;done)|skip);rename_i c2 c3;simp only[Za8]at c2;have c2a:=Za3 c2.1;have c2b:=Za1 c2.2;subst c2b;simp only[H0]at hr;subst hr;by_cases pI:n'+m<=aF
   ·
     obtain ⟨aa,cc,he,hlec,Wk,ha⟩:=hs.cN;rw[he]at fQ;simp only[Value.slice.injEq]at fQ;obtain⟨rfl,_,rfl⟩:=fQ;obtain⟨aV,rfl,hbound⟩:=ha (by omega);obtain⟨ys,e1,e2,_⟩:=jJ (P:=P) hW hu hm (Za4 _) j7 w rfl;have Dw:=Wj new j7 uo;have aaK:=hls dw rH;obtain⟨Ks,EH,c,ce,fr,g1,g2,g3,g4,g5⟩:=hW.live b _ hb;have hmul:(n'+m)*te.size<=cc*te.size:=Zf5 _ pI;have hmul2:(n'+m)*te.size=n'*te.size+m*te.size:=Zi2 _ _ _;have hyl:ys.length=m*te.size:=(by rw[<-e2.1,Dw]);have hold:aq ρ st.next.toNat C dw ((c.toList.drop ((ρ b).base+off)).take (n'*te.size)):=by
        simp only[bV]at rH;split at rH
        .rename_i hz0;have hz0:=Za1 hz0;simp only[H0]at rH;subst rH;rw[hz0];simpa using(aq.nil:aq ρ st.next.toNat C [] [])
        . rw[hb]at rH;simp only at rH;obtain⟨ho1,zw⟩:=zn rH;have h:=(g4.drop off).take (n'*te.size);rw[<-ho1]at h;have:List.take (n'*te.size) (List.drop off (List.take cs.length (List.drop (ρ b).base c.toList)))=(c.toList.drop ((ρ b).base+off)).take (n'*te.size):=by
            rw[List.drop_take,Zn5,Zn6,Zj6 (by omega)]
          rw[this]at h;exact h
     obtain⟨w2,s1,s2,s3,s4,s5,s6,s7⟩:=jk (P:=P) (ρ b).au ce fr ys 0 ((ρ b).base+off+n'*te.size) c w g1 (by omega) (um c3 e2) (λk hk jO=>by
        have:=g5 (k - (ρ b).base) (by omega) (by omega)
        rwa [show(ρ b).base+(k - (ρ b).base)=k from by omega]at this)
     simp only[Zg7]at s1 s2
     let ρ':Pos->Loc:=λq=>if q=st.next then⟨(ρ b).au,(ρ b).base+off,(ρ b).size⟩else ρ q
     have aQ:∀q:Pos,q.toNat<st.next.toNat->ρ' q=ρ q:=λq hq=>Za5 (λe=>by rw[e]at hq;omega)
     have dS:ρ' st.next=⟨(ρ b).au,(ρ b).base+off,(ρ b).size⟩:=Za7 rfl;have hcl:c.toList.length=c.size:=(by simp);have hWn:aU ρ' C (st.aC (some b) none (some (.cells (dw++new) (fz - off)))) w2:=by
        refine hW.Uk (b0:=st.next) (x0:= .cells (dw++new) (fz - off)) (by rw[Pos.ax];omega) (by rw[Pos.ax];omega) (by rw[T.ee]) ?_ aQ ?_ ?_ (by rw[dS,s3];exact EH) (by omega) (λk hk jO=>s4 k (by rw[dS]at jO;exact jO))
        .intro q x hq hx;rw[T.bn _ (λe=>hq e.symm)]at hx;obtain⟨h1,h2⟩:=sQ (some b) _ hx;refine⟨h1,?_⟩;rw[dS];exact λe=>h2 b rfl (hW.inj _ _ _ _ h1 hb e)
        . rw[dS];refine⟨_,ce,fr,s2,by simp[aG];omega,by simp[aG,aaK,Dw];omega,?_,λi ku hi=> ?_⟩
          . (simp only;rw[BD _ _ _ _ (by omega)];have EI:(aG (c.toList.drop ((ρ b).base+off)) (n'*te.size) ys).take (dw++new).length=(c.toList.drop ((ρ b).base+off)).take (n'*te.size)++ys:=by unfold aG;rw[<-Zi3,Zj7];simp[aaK,Dw,hyl];omega);rw[EI];exact(hold.append e2).mono aQ (by rw[Pos.ax];omega)
          . have Is:(ρ b).base+off+i<c.size:=(by simp only[Zl6]at hi;have:(aG c.toList ((ρ b).base+off+n'*te.size) ys).length=c.size:=(by simp[aG];omega);omega);have:=g5 (off+i) (by omega) (by omega);simp only
            rwa [<-Zh3]at this
        .intro ad v hv;rw[dS];exact λe=>(hW.cY ad v hv).2 b _ hb e.symm
     refine⟨_,(.slice (some ⟨(ρ b).au,(ρ b).base+off,none⟩) (n'+m) cc),w2,ρ',?_,Yields.value _,aQ,hWn,?_,⟨s5,s6,s7,by omega,λk _ hk=>s4 k (λe=>hk b _ hb e.symm),λq x hx=> ?_⟩⟩;rotate_left;rotate_left
     .  left;by_cases hq:q=st.next
        .exact⟨b,_,hb,by rw[hq,dS]⟩
        .simp only[St.aC,Di]at hx;rw[T.bn _ (λe=>hq e.symm)]at hx;obtain⟨h1,_⟩:=sQ (some b) _ hx;exact⟨q,x,h1,by rw[aQ q (hW.live q x h1).1]⟩
     .  rw[Za7 pI,e1];simp only[Result.andThen_ok,j5];rw[s1];rfl
     .  refine .slice _ _ _ _ _ _ _ pI (λc hc=>by cases hc) (λ_=>⟨by simp[St.aC,Pos.ax],by rw[dS];rfl,?_⟩) (λ_=>by simp[St.aC,Pos.ax]);rw[dS];simp only;omega
   .exact Jp (some b) _ dw new pI rH j7 (hls dw rH) (Wj new j7 uo)
end
section
variable{P:Program}{tt:TT}{ρ:Pos->Loc}{C:Cells}{st:St}{w w':World}
theorem Ny:∀l:List Nat,aO (l.map λc=>AV.int .u8 (.ofNat c))=true
 |[]=>rfl
 |a::l=>by simpa [aO,AV.one]using Ny l
theorem Iw(hW:aU ρ C st w)(del:Option Pos){dw new rest:List Value}{ol nl:List AV}{e:TypeId}{n m aF:Nat}(h1:aq ρ st.next.toNat C ol dw)(h2:aq ρ st.next.toNat C nl new)
  (vG:ol.length=n) (EN:nl.length=m) (hr:rest.length=aF - (n+m)) (hc:n+m<=aF) {w2:World} (mT:w2=w.drew.alloc (.cells (dw++new++rest).toArray e)):
  ∃ρ':Pos->Loc,(∀b:Pos,b.toNat<st.next.toNat->ρ' b=ρ b)/\aU ρ' C (st.aC del none (some (.typed e (ol++nl)))) w2/\iT ρ st w ρ' (st.aC del none (some (.typed e (ol++nl)))) w2/\
   aj ρ' (st.aC del none (some (.typed e (ol++nl)))).next.toNat C (.slice st.next 0 (n+m) none 1) (.slice (some ⟨w.heap.size,0,none⟩) (n+m) aF):=by
 subst mT;have vH:dw.length=n:=by rw[<-h1.1,vG]
 have nF:new.length=m:=by rw[<-h2.1,EN]
 have eu:(dw++new++rest).length=aF:=by simp only[Ze0,vH,nF,hr];omega
 obtain ⟨ ρ',aQ,dS,dY,hE⟩:=rF (w':=w.drew.alloc (.cells (dw++new++rest).toArray e)) (o:= .cells (dw++new++rest).toArray e) (x0:= .typed e (ol++nl)) (base:=0) (size:=(dw++new++rest).toArray.size) hW del rfl rfl rfl rfl (λρ' n' aQ hn=>
  ⟨_,   (0,0),by show(w.heap.push _)[w.heap.size]? =_;simp,rfl,by simp[vG,EN,vH,nF],by
        have:(dw++new++rest).toArray.toList.take (ol++nl).length=dw++new:=by
          rw[Zj7 (by simp[vG,EN,vH,nF])]
        rw[Ze4,this];exact(h1.append h2).mono aQ hn,λi _=>by simp,rfl⟩)
 refine⟨ρ',aQ,dY,hE,wZ (by simp[St.aC,Pos.ax]) dS hc (λc hc=>by cases hc) (by simp only[Zl6,eu,Zj5];exact Za4 _)⟩
theorem Sm (hT:bH P tt){t t2 e:Nat}{ts:Array TypeId}{ti EG te:TI}{z:List AV}(b9:tt.get (key t)=some ti)(FL:tt.get (key t2)=some EG)(hk:ti.k= .slice e)(kW:∀k,EG.k≠ .int k)
  (eH:tt.get (key e)=some te) (hz:te.zero=some z) (h8:te.size=1) (h0:ts[0]? =some t) (h1:ts[1]? =some t2) (ty:TypeId) {s u:AV} {xs xu:Value} {res:bU} (hW:aU ρ C st w)
  (hs:aj ρ st.next.toNat C s xs) (hu:aj ρ st.next.toNat C u xu) (hr:qx (λb=>st.heap.get b) st.next e te.bytes [s,u]=some res):
  qz P ρ C st w (((Builtin.append_ ts ty #[xs,xu]).run P w).andThen λv w=>.ok (.value v) w) res:=by
 have Kp:=λw=>pW hT eH hz (ρ:=ρ) (n:=st.next.toNat) (C:=C) w
 simp only[qx]at hr;split at hr<;>first|(cases hr;done)|skip
 rename_i us;obtain⟨bs,rfl,EH⟩:=hu.dO;have hm:cQ (AV.str us)=some us.length:=rfl;have hlen:=Jo (P:=P) (w:=w) hu hm
 have Wl:∀{n:Nat}{s:AV},cQ s=some n->Nat.ble ((2*(n+us.length)+768)*te.bytes) 281474976710656=true->Nat.ble (n+us.length) 9223372036854775807=true->us.length=0->(s= .ah\/∃b,s= .slice b 0 n none 1)->
    fk (λb=>st.heap.get b) st.next te.size te.bytes [s,.str us]=some (.val s):=by
  intro n s h1 h2 h3 h4 h5;rw[h4]at h2 h3;rcases h5 with rfl|⟨b,rfl⟩
  .simp only[fk,h1,hm,h2,h3,h4];try rfl
  .simp only[fk,h1,hm,h2,h3,h4];try rfl
 have j7:bV te.size us.length (λb=>st.heap.get b) (.str us)=some (us.map λc=>AV.int .u8 (.ofNat c)):=by
  have e1:Nat.beq te.size 1=true:=by rw[h8];rfl
  have e2:Nat.ble us.length us.length=true:=Nat.ble_self_eq_true _;simp only[bV,e1,e2,Zi8]
 split at hr<;>first|(cases hr;done)|skip
 ·
  split at hr<;>first|(cases hr;done)|skip
  rename_i b1 b2;split at hr
  .rename_i hb;simp only[H0]at hr;subst hr;exact Dv hT b9 FL hk kW eH hz h0 h1 ty hW hs hu (Wl rfl b1 b2 (Za1 hb) (.inl rfl))
  . rename_i hb;have hb:=Zb6 hb;simp only[H0]at hr;subst hr;have fQ:=hs.eP;subst fQ;have bP:=Du hT b9 FL hk kW eH h0 h1 ty none 0 0 us.length (.string bs) w hlen (Za3 b1) (Za3 b2);rw[bP,Za5 (by omega)];have hg:0+us.length<=grownCap w (0+us.length) 0 e:=(by unfold grownCap Question.cut;exact Zm2 _ _);obtain⟨new,e3,e4,_⟩:=jJ (P:=P) hW hu hm (Za4 _) j7 w.drew rfl;obtain⟨zv,vE,_,pX⟩:=Kp w.drew;have SU:zv.cells.size=1:=(by have:=pX.1;have h2:=(hT.at eH).info;obtain⟨i0,ku,jF,_,vD⟩:=h2;obtain⟨v0,Cl,_,Wm,_⟩:=vD z hz;simp at this;omega);have AU:(Builtin.zeroCells zv.cells (grownCap w (0+us.length) 0 e - (0+us.length))).toList.length=grownCap w (0+us.length) 0 e - (0+us.length):=by
        rw[xN,SU,Zj5]
    obtain⟨ρ',aQ,dY,hE,hv⟩:=Iw hW none (aq.nil (ρ:=ρ)) e4 (by simp) (by simp) AU hg (e:=e) rfl;refine⟨_,_,_,ρ',?_,Yields.value _,aQ,dY,hv,hE⟩;have e0:(Builtin.firstCells te.size 0 (.slice none 0 0)).run P w.drew= .ok #[] w.drew:=(by simp[Builtin.firstCells]);simp only[e0,e3,vE,Result.andThen_ok,World.size_drew];congr 2;simp
 ·
  rename_i b n;split at hr<;>first|(cases hr;done)|skip
  rename_i b1 b2;split at hr
  .rename_i hb;simp only[H0]at hr;subst hr;exact Dv hT b9 FL hk kW eH hz h0 h1 ty hW hs hu (Wl rfl b1 b2 (Za1 hb) (.inr ⟨_,rfl⟩))
  . rename_i hbm;have hbm:=Zb6 hbm;(split at hr<;>first|(cases hr;done)|skip);rename_i e' cs hb;(split at hr<;>first|(cases hr;done)|skip);rename_i dw jE rH;have jE:=Za1 jE;subst jE;simp only[H0]at hr;subst hr;obtain⟨aa,aF,fQ,hle,Wk,ha⟩:=hs.cN;subst fQ;have bP:=Du hT b9 FL hk kW eH h0 h1 ty (some aa) n aF us.length (.string bs) w hlen (Za3 b1) (Za3 b2);rw[bP];obtain⟨ho1,zw⟩:=zn rH;have UA:=qC rH;obtain⟨Ks,hbs2,c,fr,g1,g2,g3,g4,g5,g6⟩:=hW.live b _ hb;by_cases pI:n+us.length<=aF
    ·
        obtain⟨aV,rfl,hbound⟩:=ha (by omega);rw[Zj5,g6,Zg7,Zc3]at hbound;rw[g6]at g3 g4 g5;simp only[Zc3,Ze4]at g3 g4 g5;obtain⟨ys,e1,e2,_⟩:=jJ (P:=P) hW hu hm (Za4 _) j7 w rfl;have hyl:ys.length=us.length:=(by rw[<-e2.1];simp);have hold:aq ρ st.next.toNat C dw (c.toList.take n):=(by have h:=(g4.drop 0).take n;rw[<-ho1,Ze4,Zn5,Zj6 (by omega)]at h;exact h);obtain⟨w2,s1,s2,s3,s4,s5,s6,s7⟩:=jk (P:=P) (ρ b).au e fr ys 0 n c w g1 (by omega) (um (Ny us) e2) (λk hk jO=>g5 k (Zk2 _) jO);simp only[Zg7]at s1 s2
        let ρ':Pos->Loc:=λq=>if q=st.next then⟨(ρ b).au,0,(ρ b).size⟩else ρ q
        have aQ:∀q:Pos,q.toNat<st.next.toNat->ρ' q=ρ q:=λq hq=>Za5 (λe=>by rw[e]at hq;omega)
        have dS:ρ' st.next=⟨(ρ b).au,0,(ρ b).size⟩:=Za7 rfl;have hcl:c.toList.length=c.size:=(by simp);have hWn:aU ρ' C (st.aC (some b) none (some (.typed e (dw++us.map λc=>AV.int .u8 (.ofNat c))))) w2:=by
          refine hW.Uk (b0:=st.next) (x0:= .typed e (dw++us.map λc=>AV.int .u8 (.ofNat c))) (by rw[Pos.ax];omega) (by rw[Pos.ax];omega) (by rw[T.ee]) ?_ aQ ?_ ?_ (by rw[dS,s3];exact hbs2) (by omega) (λk hk jO=>s4 k (by rw[dS]at jO;exact jO))
          .intro q x hq hx;rw[T.bn _ (λe=>hq e.symm)]at hx;obtain⟨h1,h2⟩:=sQ (some b) _ hx;refine⟨h1,?_⟩;rw[dS];exact λe=>h2 b rfl (hW.inj _ _ _ _ h1 hb e)
          . rw[dS];refine⟨_,fr,s2,by simp[aG];omega,by simp[aG,UA];omega,?_,λi ku hi=> ?_,rfl⟩
            . (simp only[Ze4];have EI:(aG c.toList n ys).take (dw++us.map λc=>AV.int .u8 (.ofNat c)).length=c.toList.take n++ys:=by unfold aG;rw[<-Zi3,Zj7];simp[UA,hyl];omega);rw[EI];exact(hold.append e2).mono aQ (by rw[Pos.ax];omega)
            .have Is:i<c.size:=(by simp only[Zl6,Zc3]at hi;have:(aG c.toList n ys).length=c.size:=(by simp[aG];omega);omega);simpa using g5 i (Zk2 _) Is
          .intro ad v hv;rw[dS];exact λe=>(hW.cY ad v hv).2 b _ hb e.symm
        refine⟨_,(.slice (some ⟨(ρ b).au,(ρ b).base+0,none⟩) (n+us.length) aF),w2,ρ',?_,Yields.value _,aQ,hWn,?_,⟨s5,s6,s7,by omega,λk _ hk=>s4 k (λe=>hk b _ hb e.symm),λq x hx=> ?_⟩⟩;rotate_left;rotate_left
        . left;by_cases hq:q=st.next
          .exact⟨b,_,hb,by rw[hq,dS]⟩
          .simp only[St.aC,Di]at hx;rw[T.bn _ (λe=>hq e.symm)]at hx;obtain⟨h1,_⟩:=sQ (some b) _ hx;exact⟨q,x,h1,by rw[aQ q (hW.live q x h1).1]⟩
        .rw[Za7 pI,e1];simp only[Result.andThen_ok,j5,h8,Zj5,g6,Zc3];rw[s1];rfl
        .refine .slice _ _ _ _ _ _ _ pI (λc hc=>by cases hc) (λ_=>⟨by simp[St.aC,Pos.ax],by rw[dS,g6],?_⟩) (λ_=>by simp[St.aC,Pos.ax]);rw[dS];simp only;omega
    .   rw[ Za5 pI];have hg:n+us.length<=grownCap w (n+us.length) aF e:=(by unfold grownCap Question.cut;exact Zm2 _ _);obtain⟨new,e3,e4,_⟩:=jJ (P:=P) hW hu hm (Za4 _) j7 w.drew rfl;obtain⟨zv,vE,_,pX⟩:=Kp w.drew;have SU:zv.cells.size=1:=(by have:=pX.1;have h2:=(hT.at eH).info;obtain⟨i0,ku,jF,_,vD⟩:=h2;obtain⟨v0,Cl,_,Wm,_⟩:=vD z hz;simp at this;omega);have AU:(Builtin.zeroCells zv.cells (grownCap w (n+us.length) aF e - (n+us.length))).toList.length=grownCap w (n+us.length) aF e - (n+us.length):=by
          rw[xN,SU,Zj5]
        have hold:∃os:List Value,(Builtin.firstCells te.size n (.slice (some aa) n aF)).run P w.drew= .ok os.toArray w.drew/\aq ρ st.next.toNat C dw os:=by
          by_cases Ix:n=0
          .subst Ix;have:dw=[]:=Zb0 UA;subst this;exact⟨[],by simp[Builtin.firstCells,loadCells,loadCellsFrom],aq.nil⟩
          .obtain⟨aV,rfl,hbound⟩:=ha (by omega);obtain⟨ys,zk,gI⟩:=(show aU ρ C st w.drew from⟨λb x hb=>hW.live b x hb,hW.inj,hW.cY,hW.whole⟩).Kl (P:=P) hb rH;exact⟨ys,by simpa [Builtin.firstCells,h8]using zk,gI⟩
        obtain⟨os,e5,e6⟩:=hold;obtain⟨ρ',aQ,dY,hE,hv⟩:=Iw hW (some b) e6 e4 UA (by simp) AU hg (e:=e) rfl;refine⟨_,_,_,ρ',?_,Yields.value _,aQ,dY,hv,hE⟩;simp only[e5,e3,vE,Result.andThen_ok,World.size_drew];congr 2;simp
theorem OO{ts:Array TypeId}(ty:TypeId){s:AV}{xs:Value}{res:bU}(hs:aj ρ st.next.toNat C s xs)(hW:aU ρ C st w)(hr:pS (λb=>st.heap.get b) st.next [s]=some res):
   qz P ρ C st w (((Builtin.unsafeSliceData_ ts ty #[xs]).run P w).andThen λv w=>.ok (.value v) w) res:=by
 simp only[pS]at hr;split at hr<;>first|(cases hr;done)|skip
 .simp only[H0]at hr;subst hr;have:=hs.eP;subst this;exact .pure (x:= .pointer none) rfl .gH
 .rename_i b off n cap es;(split at hr<;>first|(cases hr;done)|skip);rename_i h0;have h0:=Zb6 h0;simp only[H0]at hr;subst hr;obtain⟨aa,aF,fQ,hle,_,ha⟩:=hs.cN;subst fQ;have hc:aF≠0:=(by omega);obtain⟨h1,h2,_⟩:=ha hc;refine .pure (x:= .pointer (some aa)) (by rw[Lib.run_unsafeSliceData_row w ts ty aa n aF hc];rfl) ?_;rw[h2];exact .ptr b off h1
theorem abW(hW:aU ρ C st w){b:Pos}{x:AB}(hb:st.heap.get b=some x)(h1:w'.os=w.os)(h2:w'.tape=w.tape)(h3:w'.output=w.output)(eu:w'.heap.size=w.heap.size)
   (q9:∀k,k≠(ρ b).au->w'.heap[k]? =w.heap[k]?):
   aU ρ C (st.aC (some b) none none) w'/\iT ρ st w ρ (st.aC (some b) none none) w':=by
 have oX:∀c y,(st.aC (some b) none none).heap.get c=some y->st.heap.get c=some y/\c≠b:=λc y hc=>by
   obtain⟨g1,g2⟩:=sQ (some b) _ (show(By (some b) st.heap).get c=some y from hc);exact⟨g1,λe=>g2 b rfl e⟩
 refine⟨⟨λc y hc=> ?_,λc c' y y' hc rG e=>hW.inj c c' y y' (oX c y hc).1 (oX c' y' rG).1 e,λa v ha=> ?_,λa v ha o ho=> ?_⟩,⟨h1,h2,h3,by omega,λk _ hk=>q9 k (λe=>hk b x hb e.symm),λc y hc=>.inl ⟨c,y,(oX c y hc).1,rfl⟩⟩⟩
 .obtain⟨g1,g2⟩:=oX c y hc;obtain⟨k1,k2,k3⟩:=hW.live c y g1;exact⟨k1,by omega,k3.of_heap (q9 _ λe=>g2 (hW.inj _ _ _ _ g1 hb e))⟩
 .obtain⟨g1,g2⟩:=hW.cY a v ha;refine⟨?_,λc y hc=>g2 c y (oX c y hc).1⟩;have:=q9 a.block (λe=>g2 b x hb e.symm);rw[<-g1];simp only[World.cell?,this]
 .have:=q9 a.block (λe=>(hW.cY a v ha).2 b x hb e.symm);rw[<-hW.whole a v ha o ho];simp only[World.cell?,this]
theorem OP(hT:bH P tt){t t2 e:Nat}{ts:Array TypeId}{ti te:TI}(b9:tt.get (key t)=some ti)(hk:ti.k= .ptr e)(eH:tt.get (key e)=some te)(h8:te.size=1)(cv:ts.toList=[t,t2])
   (ty:TypeId) {s u:AV} {xs xu:Value} {res:bU} (hW:aU ρ C st w)
   (hs:aj ρ st.next.toNat C s xs) (hu:aj ρ st.next.toNat C u xu) (hr:mS (λb=>st.heap.get b) st.next e [s,u]=some res):
   qz P ρ C st w (((Builtin.unsafeString_ ts ty #[xs,xu]).run P w).andThen λv w=>.ok (.value v) w) res:=by
 obtain rfl:ts= #[t,t2]:=by apply Zl4;rw[cv]
 simp only[mS]at hr;split at hr<;>first|(cases hr;done)|skip
 rename_i n;have:=hu.gD;subst this;split at hr
 . rename_i h0;have:=Za1 h0;subst this;split at hr<;>first|(cases hr;done)|skip
   .simp only[H0]at hr;subst hr;have:=hs.nO;subst this;exact .pure (x:= .string .empty) (by rw[show(Int.ofNat 0)=(0:Int)from rfl,Lib.run_unsafeString_none];rfl) (.str _ _ rfl)
   .simp only[H0]at hr;subst hr;obtain⟨_,he⟩:=hs.ei;subst he;exact .pure (x:= .string .empty) (by rw[show(Int.ofNat 0)=(0:Int)from rfl,Lib.run_unsafeString_none];rfl) (.str _ _ rfl)
 . (rename_i h0;have h0:=Zb6 h0;(split at hr<;>first|(cases hr;done)|skip);rename_i b;(split at hr<;>first|(cases hr;done)|skip);rename_i e' cs hb;(split at hr<;>first|(cases hr;done)|skip);rename_i l he hcut Uy;have he:=Za1 he;have Uy:=Za3 Uy;subst he;(split at hr<;>first|(cases hr;done)|skip);rename_i s' PT;simp only[H0]at hr;subst hr;obtain⟨_,fQ⟩:=hs.ei;subst fQ;obtain⟨d,hd,bO⟩:=(hT.at b9).und;rw[hk]at bO;rw[Kk bO]at hd;obtain⟨i0,ku,jF,_⟩:=(hT.at eH).info;have AT:P.cellsOf e=1:=(by simp[Program.cellsOf,ku,jF,h8]);obtain⟨Ks,hbs2,c,fr,g1,g2,g3,g4,g5,g6⟩:=hW.live b _ hb;rw[g6]at g3 g4 ⊢;simp only[Zc3,Ze4]at g3 g4;have Ko:w.shape? (ρ b).au=some (e,c.size):=(by simp[World.shape?,g1]);obtain⟨vH,nF⟩:=zn hcut;have EN:=qC hcut;have gI:aq ρ st.next.toNat C l (c.toList.take n):=by have h:=(g4.drop 0).take n;rw[<-vH,Ze4,Zn5,Zj6 (by omega)]at h;exact h);obtain⟨e1,e2⟩:=BA PT gI;have It:s'.length=n:=(by have:=congrArg List.length e1;simp at this;omega);have bP:=Lib.run_unsafeString_row (P:=P) w t t2 ty e hd AT (ρ b).au c.size Ko (s'.map UInt8.ofNat) (by intro h;simp at h;rw[h]at It;simp at It;omega) (by simp;omega) (by simp;omega) (λj x hj=>by simp only[Zc0,Zd3]at hj;obtain⟨k,hk,rfl⟩:=hj;have hjn:j<n:=(by rw[<-It];exact(Za0.1 hk).1);have h2:(c.toList.take n)[j]? =some (.int .u8 (k:Int)):=(by rw[e1];simp[hk]);rw[Zb8,Za7 hjn]at h2;have hk256:=e2 k (Zb5 hk);rw[j5];simp only[World.cell?,g1,Zc3];rw[<-Zg1,h2];congr 2;simp;omega);have hlen:(s'.map UInt8.ofNat).length=n:=(by simp[It]);rw[hlen]at bP;obtain⟨q1,q2⟩:=abW (w':=w.freeze ⟨(ρ b).au,0,none⟩ n) hW hb (by unfold World.freeze;split<;>rfl) (by unfold World.freeze;split<;>rfl) (by unfold World.freeze;split<;>rfl) (by unfold World.freeze;split<;>simp) (λk hk=>by
     unfold World.freeze;split
     .  rfl
     .  simp only[Zm0];rw[Za5 (λe=>hk e.symm)])
   refine⟨_,.string ⟨(s'.map UInt8.ofNat).toArray⟩,_,ρ,?_,Yields.value _,λ_ _=>rfl,q1,.str _ _ ?_,q2⟩
   .show((Builtin.unsafeString_ #[t,t2] ty #[.pointer (some ⟨(ρ b).au,0,none⟩),.int .i64 (n:Int)]).run P w).andThen _=_;rw[bP];rfl
   . (simp only[Zf7];have e3:s'.map (UInt8.toNat∘UInt8.ofNat)=s'.map id:=Zi5 λc hc=>by have:=e2 c hc;simp only[Function.comp,id,UInt8.toNat_ofNat'];omega);rw[e3,List.map_id]
end
section
variable{P:Program}{tt:TT}{ρ:Pos->Loc}{C:Cells}{st:St}{w w':World}
theorem Co{n:Nat}{xs:Array Value}{u v:AV}(h:aq ρ n C [u,v] xs.toList):∃x y,xs= #[x,y]/\aj ρ n C u x/\aj ρ n C v y:=by
 obtain⟨x,l,h1,h2,h3⟩:=h.cons_inv;obtain⟨y,l',h4,h5,h6⟩:=h3.cons_inv;have:=h6.lC;subst this;exact⟨x,y,by apply Zl4;rw[h1,h4],h2,h5⟩
theorem PZ{n:Nat}{xs:Array Value}{u:AV}(h:aq ρ n C [u] xs.toList):∃x,xs= #[x]/\aj ρ n C u x:=by
 obtain⟨x,l,h1,h2,h3⟩:=h.cons_inv;have:=h3.lC;subst this;exact⟨x,by apply Zl4;rw[h1],h2⟩
theorem P0{ts:Array TypeId}{t:TypeId}{l:List TypeId}(h:ts.toList=t::l):ts[0]? =some t:=by rw[<-Zg1,h];rfl
theorem arr1{ts:Array TypeId}{t t2:TypeId}{l:List TypeId}(h:ts.toList=t::t2::l):ts[1]? =some t2:=by rw[<-Zg1,h];rfl
theorem YY(hT:bH P tt){t e:Nat}{ts:Array TypeId}{ti te:TI}(b9:tt.get (key t)=some ti)(hk:ti.k= .slice e)
   (eH:tt.get (key e)=some te) (h0:ts[0]? =some t) (ty:TypeId) {d u:AV} {xd xu:Value} {res:bU} (hW:aU ρ C st w)
   (hd:aj ρ st.next.toNat C d xd) (hu:aj ρ st.next.toNat C u xu) (hr:vR (λb=>st.heap.get b) st.next te.size [d,u]=some res):
   qz P ρ C st w (((Builtin.copy_ ts ty #[xd,xu]).run P w).andThen λv w=>.ok (.value v) w) res:=by
 obtain⟨dd,hdd,bO⟩:=(hT.at b9).und;rw[hk]at bO;rw[kJ bO]at hdd;obtain⟨i0,ku,jF,_⟩:=(hT.at eH).info;simp only[vR]at hr;split at hr<;>first|(cases hr;done)|skip
 rename_i n m hn hm;have hlen:=Jo (P:=P) (w:=w) hu hm;have It:(∃s,d= .str s)\/∃base aF,xd= .slice base n aF/\n<=aF:=by
   unfold cQ at hn;split at hn<;>first|(cases hn;done)|skip
   .cases hn;exact .inr ⟨none,0,hd.eP,Za4 _⟩
   .cases hn;obtain⟨a,c,he,hle,_⟩:=hd.cN;exact .inr ⟨_,c,he,hle⟩
   .cases hn;obtain⟨a,c,_,he,hle,_⟩:=hd.pU;exact .inr ⟨_,c,he,hle⟩
   .exact .inl ⟨_,rfl⟩
 have abX:m=0\/n=0->(Builtin.firstCells te.size 0 xu).run P w= .ok #[] w:=by
   intro _;unfold cQ at hm;split at hm<;>first|(cases hm;done)|skip
   .rw[hu.eP];simp[Builtin.firstCells]
   .obtain⟨_,_,he,_⟩:=hu.cN;rw[he];simp[Builtin.firstCells,loadCells,loadCellsFrom]
   .obtain⟨_,_,_,he,_⟩:=hu.pU;rw[he];simp[Builtin.firstCells,loadCells,loadCellsFrom]
   .obtain⟨bs,rfl,_⟩:=hu.dO;simp only[Builtin.firstCells,Sem.run_pure];congr 1;apply Zl4;simp
 have lQ:∀base aF,xd= .slice base n aF->(Builtin.copy_ ts ty #[xd,xu]).run P w=((Builtin.firstCells te.size (Nat.min m n) xu).run P w).andThen λcells w=>((match base with|some a=>storeCells a cells.toList|none=>pure ()).run P w).andThen λ_ w=>.ok (goInt (Nat.min m n)) w:=by
   intro base aF he;unfold Builtin.copy_;simp only[h0,he,List.getElem?_toArray,Zb1,Ze3,Sem.run_bind,aJ hdd,Result.andThen_ok,gu ku,jF,hlen];cases base<;>simp only[Sem.run_bind,Sem.run_pure,Result.andThen_ok]
 split at hr
 . rename_i tH;have tH:=Za1 tH;(split at hr<;>first|(cases hr;done)|skip);rename_i hns;simp only[H0]at hr;subst hr;rcases It with⟨s,rfl⟩|⟨base,aF,he,hle⟩
   .exact absurd rfl (hns s)
   .have hk0':Nat.min m n=0:=tH;refine .pure (x:=goInt 0) ?_ (.int _ _);rw[lQ base aF he,hk0',abX (by have:min m n=0:=tH;omega)];cases base<;>simp[storeCells]
 . rename_i tH;have tH:=Zb6 tH;(split at hr<;>first|(cases hr;done)|skip);rename_i b off n' cap es';(split at hr<;>first|(cases hr;done)|skip);rename_i cs fz new hb j7;(split at hr<;>first|(cases hr;done)|skip);rename_i c1 c2 c3;have c1:=Za3 c1;have c2:=Za3 c2;simp only[H0]at hr;subst hr;simp only[cQ,H0]at hn;subst hn;obtain⟨aa,aF,he,hle,_,ha⟩:=hd.cN;have YZ:min m n'<=m/\min m n'<=n':=⟨Nat.min_le_left _ _,Nat.min_le_right _ _⟩
   obtain⟨aV,rfl,_⟩:=ha (by omega);obtain⟨ys,e1,e2,e3⟩:=jJ (P:=P) hW hu hm YZ.1 j7 w rfl;have Dw:new.length=min m n'*te.size:=by
     rcases e3 with rfl|e3
     .simp[cQ]at hm;omega
     .exact e3
   obtain⟨w2,f1,dY,hE⟩:=Ds (P:=P) hW hb (by rw[Dw];exact c1) c2 c3 e2;refine⟨_,goInt ((min m n':Nat):Int),w2,ρ,?_,Yields.value _,λ_ _=>rfl,dY,.int _ _,hE⟩;rw[lQ _ _ he];have hmm:Nat.min m n'=min m n':=rfl;rw[hmm,e1];simp only[Result.andThen_ok];rw[f1];rfl
theorem aa4(hT:bH P tt){t:Nat}{ts:Array TypeId}{ti:TI}(b9:tt.get (key t)=some ti){k:LK}(hk:(k= .s/\ti.k= .string)\/(k= .l/\∃e,ti.k= .slice e)\/(k= .m/\∃a b,ti.k= .map a b))
   (h0:ts[0]? =some t) (ty:TypeId) {u:AV} {xu:Value} {res:bU} (hW:aU ρ C st w)
   (hu:aj ρ st.next.toNat C u xu) (hr:B9 (λb=>st.heap.get b) st.next k [u]=some res):
   qz P ρ C st w (((Builtin.len_ ts ty #[xu]).run P w).andThen λv w=>.ok (.value v) w) res:=by
 obtain⟨d,hd,bO⟩:=(hT.at b9).und;have lQ:∀x,xu=x->(Builtin.len_ ts ty #[xu]).run P w=(Builtin.len_ ts ty #[x]).run P w:=λx e=>by rw[e]
 simp only[B9]at hr;rcases hk with⟨rfl,hk⟩|⟨rfl,e,hk⟩|⟨rfl,a,b,hk⟩<;>rw[hk]at bO
 .rw[kq bO]at hd;(cases u<;>simp only[reduceCtorEq]at hr<;>first|(cases hr;done)|skip);simp only[H0]at hr;subst hr;obtain⟨bs,rfl,hs⟩:=hu.dO;exact .pure (x:=goInt bs.size) (by unfold Builtin.len_;simp[h0,aJ hd]) (by rw[sP hs];exact .int _ _)
 . rw[kJ bO]at hd;cases u<;>simp only[reduceCtorEq]at hr<;>first|(cases hr;done)|skip
   .simp only[H0]at hr;subst hr;rw[hu.eP];exact .pure (x:=goInt 0) (by unfold Builtin.len_;simp[h0,aJ hd]) (.int _ _)
   .simp only[H0]at hr;subst hr;obtain⟨aa,c,he,_⟩:=hu.cN;rw[he];exact .pure (by unfold Builtin.len_;simp[h0,aJ hd];rfl) (.int _ _)
   .simp only[H0]at hr;subst hr;obtain⟨aa,c,_,he,_⟩:=hu.pU;rw[he];exact .pure (by unfold Builtin.len_;simp[h0,aJ hd];rfl) (.int _ _)
 . rw[FG bO]at hd;cases u<;>simp only[reduceCtorEq]at hr<;>first|(cases hr;done)|skip
   .simp only[H0]at hr;subst hr;rw[hu.vX];exact .pure (x:=goInt 0) (by unfold Builtin.len_;simp[h0,aJ hd]) (.int _ _)
   . (split at hr<;>first|(cases hr;done)|skip);rename_i es c hb;simp only[H0]at hr;subst hr;obtain⟨_,he⟩:=hu.tF;obtain⟨_,_,es',cW,hlen,_⟩:=hW.live _ _ hb;rw[he];exact .pure (x:=goInt es'.size) (by unfold Builtin.len_;simp[h0,aJ hd,run_getObj_map cW]) (by rw[<-hlen];exact .int _ _)
theorem L9(z:Array Value)(m:Nat):(Builtin.zeroCells z m).toList=bK z.toList m:=by
 unfold Builtin.zeroCells;by_cases h:0<z.size
 .exact PV z m h
 .have h0:z.size=0:=(by omega);have:z= #[]:=Zm3 h0;subst this;have h1:bK ([]:List Value) m=[]:=Zb0 (by rw[gU];simp);simp[h1]
theorem Wn(hT:bH P tt){t e:Nat}{ts:Array TypeId}{ti te:TI}{z:List AV}(b9:tt.get (key t)=some ti)(hk:ti.k= .slice e)
   (eH:tt.get (key e)=some te) (hz:te.zero=some z) (h0:ts[0]? =some t) (ty:TypeId) {u:AV} {xu:Value} {res:bU} (hW:aU ρ C st w)
   (hu:aj ρ st.next.toNat C u xu) (hr:tC (λb=>st.heap.get b) st.next te.size z [u]=some res):
   qz P ρ C st w (((Builtin.clear_ ts ty #[xu]).run P w).andThen λv w=>.ok (.value v) w) res:=by
 obtain⟨dd,hdd,bO⟩:=(hT.at b9).und;rw[hk]at bO;rw[kJ bO]at hdd;obtain⟨i0,ku,jF,_,vD⟩:=(hT.at eH).info;obtain⟨zv0,_,_,Ku,_⟩:=vD z hz;obtain⟨zv,vE,_,pX⟩:=pW hT eH hz (ρ:=ρ) (n:=st.next.toNat) (C:=C) w;simp only[tC]at hr;split at hr<;>first|(cases hr;done)|skip
 .simp only[H0]at hr;subst hr;rw[hu.eP];exact .pure (x:=undef) (by unfold Builtin.clear_;simp[h0,aJ hdd];rfl) aj.sS
 . rename_i b off n cap es';obtain⟨aa,aF,he,hle,_,ha⟩:=hu.cN;rw[he];split at hr
   .rename_i Ix;have:=Za1 Ix;subst this;simp only[H0]at hr;subst hr;exact .pure (x:=undef) (by unfold Builtin.clear_;simp[h0,aJ hdd];rfl) aj.sS
   . rename_i Ix;have Ix:=Zb6 Ix;(split at hr<;>first|(cases hr;done)|skip);rename_i cs fz hb;(split at hr<;>first|(cases hr;done)|skip);rename_i c1 c2 c3;have c1:=Za3 c1;have c2:=Za3 c2;simp only[H0]at hr;subst hr;obtain⟨_,rfl,_⟩:=ha (by omega);obtain⟨w2,f1,dY,hE⟩:=Ds (P:=P) hW hb (vs:=bK z n) (ys:=bK zv.cells.toList n) (by rw[gU,Ku];exact c1) c2 c3 (BB pX n);refine⟨_,undef,w2,ρ,?_,Yields.value _,λ_ _=>rfl,dY,aj.sS,hE⟩;unfold Builtin.clear_;cases n with
     |zero=>exact absurd rfl Ix
     |succ n=>simp[h0,aJ hdd,vE,L9,f1,undef]
theorem Cp(c:Call)(f:Operand)(hc:c.callee= .value f)(a:Act)(o:Oper)(ho:o.op= .call c){g:FuncId}{x y:Array Value}(he:a.eval f= .func (.func g) x y):
  (execOp a.eval o).run P w=(callFunc g (x++c.args.map a.eval++y)).run P w:=by
 simp[execOp,ho,resolve,hc,he,Deferred.ofValue,invoke]
theorem Y0 (hT:bH P tt) (c:Call):cr P tt (.call c):=by
 intro ρ C st w k xs cls fr a o vs res ho hc hW hF hx hr;simp only[fo]at hc;split at hc<;>first|(cases hc;done)|skip
 rename_i l hl;split at hc<;>first|(cases hc;done)|skip
 ·
  rename_i g Jq;cases hc;have hv:=dB hl hF hx;simp only[av.run,Jf,H0]at hr;subst hr;refine⟨c.args.toList.map a.eval,?_,hv⟩;rw[Cp c _ Jq a o ho (g:=g) (x:= #[]) (y:= #[]) rfl];congr 2;apply Zl4;simp
 ·
  rename_i f hnf Jq;split at hc<;>first|(cases hc;done)|skip
  rename_i ao hao;cases hc;unfold dM at hx;split at hx<;>first|(cases hx;done)|skip
  rename_i fv hfv;split at hx<;>first|(cases hx;done)|skip
  rename_i vs' Y3;simp only[H0]at hx;subst hx;have h1:=nN hao hF hfv;have h2:=dB hl hF Y3;simp only[av.run,Jg]at hr;split at hr<;>first|(cases hr;done)|skip
  rename_i g first captured
  simp only[H0]at hr;subst hr;obtain⟨x,y,he,hx,hy⟩:=h1.vS;refine⟨x.toList++(c.args.toList.map a.eval++y.toList),?_,hx.append (h2.append hy)⟩;rw[Cp c f Jq a o ho he];congr 2;apply Zl4;simp
 ·
  rename_i b Jq;have hex:∀(s:Sem Value),(∀consts,builtin b c.argTypes o.type consts (c.args.map a.eval)=(do pure (.value (<-s))))->(execOp a.eval o).run P w=(s.run P w).andThen λv w=>.ok (.value v) w:=by intro s hs;simp only[execOp,ho,resolve,Jq,pure_bind,invoke];rw[hs];simp
  split at hc<;>first|(cases hc;done)|skip
  ·
   (split at hc<;>first|(cases hc;done)|skip);rename_i t _ _ cv;(split at hc<;>first|(cases hc;done)|skip);rename_i ti b9;have hv:=dB hl hF (vs:=vs) (by
        split at hc<;>first|(cases hc;done)|skip
        all_goals cases hc;exact hx)
   rw[fD] at hv;rw[hex (Builtin.len_ c.argTypes o.type (c.args.map a.eval)) (λ_=>rfl)];have hu:∃u,vs=[u]      :=by
        have h1:=hv.1;have h2:(c.args.toList).length=1:=by
         have: ∀{xs:List   Operand}{os:List dL},ij xs=some os->xs.length=os.length:=by
            intro xs;induction xs with
            |nil=>intro os h;simp[ij]at h;subst h;rfl
            |cons x xs ih=>intro os h;unfold ij at h;split at h<;>first|(cases h;done)|skip
                           rename_i e1 e2;simp only[H0]at h;subst h;simp[ih e2]
         rw[this hl];rfl
        match vs,h1 with
        |[u],_=>exact⟨u,rfl⟩
        |[],h1=>simp at h1 h2;omega
        |_::_::_,h1=>simp at h1 h2;omega
   obtain⟨u,rfl⟩:=hu;obtain⟨x,fQ,hux⟩:=PZ hv;rw[fQ];split at hc<;>first|(cases hc;done)|skip
   all_goals
        rename_i hk;cases hc;simp only[av.run]at hr;refine aa4 hT b9 ?_ (P0 cv) o.type hW hux hr
   .    exact .inl ⟨rfl,hk⟩
   .    exact .inr (.inl ⟨rfl,_,hk⟩)
   .    exact .inr (.inr ⟨rfl,_,_,hk⟩)
  ·
   (split at hc<;>first|(cases hc;done)|skip);rename_i t t2 _ cv;(split at hc<;>first|(cases hc;done)|skip);rename_i ti EG b9 FL;split at hc<;>first|(cases hc;done)|skip
   .    rename_i e hk kW;(split at hc<;>first|(cases hc;done)|skip);rename_i te eH;(split at hc<;>first|(cases hc;done)|skip);rename_i z hz V0 h8;have h8:=Za1 h8;cases hc;have hv:=dB hl hF hx;rw[fD]at hv;rw[hex (Builtin.append_ c.argTypes o.type (c.args.map a.eval)) (λ_=>rfl)];simp only[av.run]at hr;have hu:∃s u,vs=[s,u]:=by
         unfold qx at hr;(split at hr<;>first|(cases hr;done)|skip);exact⟨_,_,rfl⟩
        obtain⟨s,u,rfl⟩:=hu;obtain⟨x,y,fQ,h1,h2⟩:=Co hv;rw[fQ];exact Sm hT b9 FL hk (λk hk=>by rw[kW]at hk;cases hk) eH hz h8 (P0 cv) (arr1 cv) o.type hW h1 h2 hr
   rename_i e hk kW _;(split at hc<;>first|(cases hc;done)|skip);rename_i te eH;(split at hc<;>first|(cases hc;done)|skip);rename_i z hz;cases hc;have hv:=dB hl hF hx;rw[fD]at hv;rw[hex (Builtin.append_ c.argTypes o.type (c.args.map a.eval)) (λ_=>rfl)];simp only[av.run]at hr;have hu:∃s u,vs=[s,u]:=by
        unfold fk at hr;(split at hr<;>first|(cases hr;done)|skip);exact⟨_,_,rfl⟩
   obtain⟨s,u,rfl⟩:=hu;obtain⟨x,y,fQ,h1,h2⟩:=Co hv;rw[fQ];exact Dv hT b9 FL hk (λk hk=>kW k hk) eH hz (P0 cv) (arr1 cv) o.type hW h1 h2 hr
  ·
   (split at hc<;>first|(cases hc;done)|skip);rename_i t _ cv;(split at hc<;>first|(cases hc;done)|skip);rename_i ti b9;(split at hc<;>first|(cases hc;done)|skip);rename_i e hk;(split at hc<;>first|(cases hc;done)|skip);rename_i te eH;cases hc;have hv:=dB hl hF hx;rw[fD]at hv;rw[hex (Builtin.copy_ c.argTypes o.type (c.args.map a.eval)) (λ_=>rfl)];simp only[av.run]at hr;have hu:∃s u,vs=[s,u]:=by
        unfold vR at hr;(split at hr<;>first|(cases hr;done)|skip);exact⟨_,_,rfl⟩
   obtain⟨s,u,rfl⟩:=hu;obtain⟨x,y,fQ,h1,h2⟩:=Co hv;rw[fQ];exact YY hT b9 hk eH (P0 cv) o.type hW h1 h2 hr
  ·
   (split at hc<;>first|(cases hc;done)|skip);cases hc;have hv:=dB hl hF hx;rw[fD]at hv;rw[hex (Builtin.unsafeSliceData_ c.argTypes o.type (c.args.map a.eval)) (λ_=>rfl)];simp only[av.run]at hr;have hu:∃s,vs=[s]:=by
        unfold pS at hr;(split at hr<;>first|(cases hr;done)|skip);exact⟨_,rfl⟩
   obtain⟨s,rfl⟩:=hu;obtain⟨x,fQ,h1⟩:=PZ hv;rw[fQ];exact OO o.type h1 hW hr
  ·
   (split at hc<;>first|(cases hc;done)|skip);rename_i t t2 cv;(split at hc<;>first|(cases hc;done)|skip);rename_i ti b9;(split at hc<;>first|(cases hc;done)|skip);rename_i e hk;(split at hc<;>first|(cases hc;done)|skip);rename_i te eH;(split at hc<;>first|(cases hc;done)|skip);rename_i V0 h8;have h8:=Za1 h8;cases hc;have hv:=dB hl hF hx;rw[fD]at hv;rw[hex (Builtin.unsafeString_ c.argTypes o.type (c.args.map a.eval)) (λ_=>rfl)];simp only[av.run]at hr;have hu:∃s u,vs=[s,u]:=by
        unfold mS at hr;(split at hr<;>first|(cases hr;done)|skip);exact⟨_,_,rfl⟩
   obtain⟨s,u,rfl⟩:=hu;obtain⟨x,y,fQ,h1,h2⟩:=Co hv;rw[fQ];exact OP hT b9 hk eH h8 cv o.type hW h1 h2 hr
  ·
   (split at hc<;>first|(cases hc;done)|skip);cases hc;have hv:=dB hl hF hx;rw[fD]at hv;rw[hex (Builtin.min_ c.argTypes o.type (c.args.map a.eval)) (λ_=>rfl)];simp only[av.run]at hr;have hu:∃s u r,vs=[s,u]/\res= .val r:=by
        unfold yY at hr;(split at hr<;>first|(cases hr;done)|skip);split at hr<;>first|(cases hr;done)|skip
        all_goals cases hr;exact⟨_,_,_,rfl,rfl⟩
   obtain⟨s,u,r,rfl,rfl⟩:=hu;obtain⟨x,y,fQ,h1,h2⟩:=Co hv;obtain⟨z,hz,hvz⟩:=YS (P:=P) (w:=w) h1 h2 hr;rw[fQ];refine .pure (x:=z) ?_ hvz;simp[Builtin.min_,hz]
  ·
   (split at hc<;>first|(cases hc;done)|skip);cases hc;have hv:=dB hl hF hx;rw[fD]at hv;rw[hex (Builtin.max_ c.argTypes o.type (c.args.map a.eval)) (λ_=>rfl)];simp only[av.run]at hr;have hu:∃s u r,vs=[s,u]/\res= .val r:=by
        unfold yZ at hr;(split at hr<;>first|(cases hr;done)|skip);split at hr<;>first|(cases hr;done)|skip
        all_goals cases hr;exact⟨_,_,_,rfl,rfl⟩
   obtain⟨s,u,r,rfl,rfl⟩:=hu;obtain⟨x,y,fQ,h1,h2⟩:=Co hv;obtain⟨z,hz,hvz⟩:=YT (P:=P) (w:=w) h1 h2 hr;rw[fQ];refine .pure (x:=z) ?_ hvz;simp[Builtin.max_,hz]
  ·
   (split at hc<;>first|(cases hc;done)|skip);rename_i t _ cv;(split at hc<;>first|(cases hc;done)|skip);rename_i ti b9;(split at hc<;>first|(cases hc;done)|skip);rename_i e hk;(split at hc<;>first|(cases hc;done)|skip);rename_i te eH;(split at hc<;>first|(cases hc;done)|skip);rename_i z hz;cases hc;have hv:=dB hl hF hx;rw[fD]at hv;rw[hex (Builtin.clear_ c.argTypes o.type (c.args.map a.eval)) (λ_=>rfl)];simp only[av.run]at hr;have hu:∃u,vs=[u]:=by
        unfold tC at hr;(split at hr<;>first|(cases hr;done)|skip);exact⟨_,rfl⟩
   obtain⟨u,rfl⟩:=hu;obtain⟨x,fQ,hux⟩:=PZ hv;rw[fQ];exact Wn hT b9 hk eH hz (P0 cv) o.type hW hux hr
theorem HM(hT:bH P tt)(op:Op):cr P tt op:=by
 cases op with
 |move x=>exact YN x
 |assign x=>exact Uo x
 |pick c x y=>exact YO c x y
 |alloc t=>exact Wb hT t
 |box t x=>exact aa2 t x
 |build t ps=>exact Wa hT t ps
 |buildSlice t n ps=>exact L8 hT t n ps
 |insert t m k v=>exact Kw hT _ t m k v (.inr rfl)
 |load t x=>exact YQ hT t x
 |store t x y=>exact We hT t x y
 |nilCheck x=>exact PR x
 |binOp op t x y yt=>exact VV hT op t x y yt
 |unOp op t x=>exact YP op t x
 |convert s d x=>
  by_cases h:∃xs cls,fo tt (.convert s d x)=some (.conv .bytes,xs,cls)
  .exact ON hT s d x h
  .exact Sk hT s d x λk xs cls hc e=>h ⟨xs,cls,by rw[hc,e]⟩
 |makeInterface t x=>exact Si hT t x
 |makeFunc f x y=>exact Up f x y
 |makeMap t r=>exact Wc t r hT
 |makeSlice t l c=>exact Sl hT t l c
 |slice t x l h m=>exact VZ hT t x l h m
 |fieldAddr t x f=>exact OK hT t x f
 |field t x f=>exact VW hT t x f
 |indexAddr t x i=>exact OM hT t x i
 |index t x i=>exact VX hT t x i
 |lookup t x i ok=>exact Us hT t x i ok
 |mapUpdate t m k v=>exact Kw hT _ t m k v (.inl rfl)
 |range t x=>exact Uu hT t x
 |next it s=>exact Wi it s
 |extract x i=>exact Sg x i
 |call c=>exact Y0 hT c
 |_=>intro ρ C st w k xs cls fr a o vs res ho hc;simp[fo]at hc
end
end
section
open Go
def Reaches(P:Program)(R:Value->World->Prop):Result Next->Prop
 |.ok (.value x) w'=>R x w'
 |.ok .skip w'=>R undef w'
 |.ok (.enter f args) w'=>Calls P f args w' λ|.returned v,w''=>R v w''|_,_=>False
 |.ok (.row row args) w'=>Rows P row args w' R
 |_=>False
theorem Reaches.mono{P:Program}{R R':Value->World->Prop}(h:∀x w,R x w->R' x w):∀{r:Result Next},Reaches P R r->Reaches P R' r
 |.ok (.value _) _,hr=>h _ _ hr
 |.ok .skip _,hr=>h _ _ hr
 |.ok (.enter _ _) _,hr=>Calls.mono hr λe w he=>by cases e<;>first|exact h _ _ he|exact he
 |.ok (.row _ _) _,hr=>Rows.mono hr h
section
variable(P:Program)(ops:Array Oper)
def Ma(o:Oper)(K:Act->World->Prop)(a:Act)(w:World):Prop:=Reaches P (λx w'=>K (a.put o.dst x) w') ((execOp a.eval o).run P w)
def zx(i:Nat)(K:Act->World->Prop)(a:Act)(w:World):Prop:=
 match ops[i]? with
 |none=>K a w
 |some o=>if Region.wanted o (yielded ops a.tmps)then Ma P o K a w else K (a.put o.dst undef) w
def nP(K:Act->World->Prop):List Nat->Act->World->Prop
 |[],a,w=>K a w
 |i::l,a,w=>zx P ops i (nP K l) a w
def Pd(K:Act->World->Prop):Nat->Array Bool->Act->World->Prop
 |0,listed,a,w=>Region.ready .any ops listed=[]/\K a w
 |fuel+1,listed,a,w=>(Region.ready .any ops listed=[]->K a w)/\∀i∈Region.ready .any ops listed,zx P ops i (Pd K fuel (listed.setIfInBounds i true)) a w
end
section
variable{P:Program}{ops:Array Oper}
theorem Nz{i:Nat}{K K':Act->World->Prop}{a:Act}{w:World}(h:∀a w,K a w->K' a w)(hh:zx P ops i K a w):zx P ops i K' a w:=by
 unfold zx at*
 split
 .rename_i ho;rw[ho]at hh;exact h _ _ hh
 . rename_i o ho;rw[ho]at hh;dsimp only at hh;split
   .rename_i hw;rw[Za7 hw]at hh;exact Reaches.mono (λx w' hk=>h _ _ hk) hh
   .rename_i hw;rw[Za5 hw]at hh;exact h _ _ hh
theorem NA{K:Act->World->Prop}{l2:List Nat}:∀(l1:List Nat)(a:Act)(w:World),nP P ops (nP P ops K l2) l1 a w->nP P ops K (l1++l2) a w
 |[],_,_,h=>h
 |_::l1,_,_,h=>Nz (λa w=>NA l1 a w) h
end
section
variable(P:Program)
def FM(R:(Exit->Act->World->Prop)->Act->World->Prop)(Q:Exit->Act->World->Prop):Nat->Act->World->Prop
 |0,_,_=>False
 |n+1,a,w=>R (Exit.then (FM R Q n) Q) a w
def dZ:Code->(Exit->Act->World->Prop)->Act->World->Prop
 |.skip,Q,a,w=>Q .normal a w
 |  .region _ ops draw,Q,a,w=>match draw with
    |false=>nP P ops (Q .normal) (List.range ops.size) a w
    |true=>P.follows .mixedOrders=true/\Pd P ops (Q .normal) ops.size (Array.replicate ops.size false) a { w with drawn:=w.drawn+1 }
 |.seq x y,Q,a,w=>dZ x (Exit.then (dZ y Q) Q) a w
 |  .cond c x y,Q,a,w=>∃t,a.eval c= .bool t/\match t with
    |true=>dZ x Q a w
    |false=>dZ y Q a w
 |.block id x,Q,a,w=>dZ x (Exit.inBlock id Q) a w
 |.loop x,Q,a,w=>∃n,FM (dZ x) Q n a w
 |.exit id,Q,a,w=>Q (.exit id) a w
 |.ret,Q,a,w=>Q .ret a w
 |_,_,_,_=>False
end
section
variable{P:Program}{Q:Exit->Act->World->Prop}{a:Act}{w:World}
theorem Wo(h:Q .normal a w):dZ P .skip Q a w:=h
theorem Wp{id:Nat}(h:Q (.exit id) a w):dZ P (.exit id) Q a w:=h
theorem zz{x y:Code}(h:dZ P x (Exit.then (dZ P y Q) Q) a w):dZ P (.seq x y) Q a w:=h
theorem KB{id:Nat}{x:Code}(h:dZ P x (Exit.inBlock id Q) a w):dZ P (.block id x) Q a w:=h
theorem BE{id:Nat}{ops:Array Oper}(h:nP P ops (Q .normal) (List.range ops.size) a w):dZ P (.region id ops false) Q a w:=h
theorem Mb{c:Operand}{x y:Code}(hc:a.eval c= .bool true)(h:dZ P x Q a w):dZ P (.cond c x y) Q a w:=⟨true,hc,h⟩
theorem KC{c:Operand}{x y:Code}(hc:a.eval c= .bool false)(h:dZ P y Q a w):dZ P (.cond c x y) Q a w:=⟨false,hc,h⟩
theorem Wq{x:Code}(n:Nat)(h:FM (dZ P x) Q n a w):dZ P (.loop x) Q a w:=⟨n,h⟩
theorem NB{R:(Exit->Act->World->Prop)->Act->World->Prop}{n:Nat}:FM R Q (n+1) a w=R (Exit.then (FM R Q n) Q) a w:=rfl
end
def nQ:Code->List Nat
 |.region _ ops _=>ops.toList.filterMap (·.dst)
 |.seq a b=>nQ a++nQ b
 |.cond _ a b=>nQ a++nQ b
 |.block _ a=>nQ a
 |.loop a=>nQ a
 |_=>[]
abbrev Fc(r:Option Nat):Fence:={ Fence.wide with round:=r }
section
variable{P:Program}{r:Option Nat}{n:Nat}{ts:Nat->Prop}{x:Array Value}{ds D:List Deferred}
def InF(D ds:List Deferred)(ts:Nat->Prop)(x:Array Value)(Q:Exit->Act->World->Prop):Exit->Act->World->Prop:=
 λe a w=>a.defers=D/\(∀t,ts t->a.tmps[t]? =x[t]?)/\Q e ⟨a.tmps,ds⟩ w
theorem aa5{row:String}{args:Array Value}{w:World}{R:Value->World->Prop}(h:Rows P row args w R):RowsIn (Fc r) n P row args w R:=
 λc cs _=>let⟨v,w',hr,hs⟩:=h c cs;⟨v,w',hr,stepsIn_wide.2 hs⟩
theorem Y4{f:FuncId}{args:Array Value}{w:World}{R:Ending->World->Prop}(h:Calls P f args w R):CallsIn (Fc r) n P f args w R:=callsIn_wide.2 h
theorem Cq{T:Array Value}{o:Operand}:(⟨T,ds⟩:Act).eval o=(⟨T,D⟩:Act).eval o:=by cases o<;>rfl
theorem abY{T:Array Value}{d:Option Tmp}{v:Value}:(⟨T,ds⟩:Act).put d v=⟨((⟨T,D⟩:Act).put d v).tmps,ds⟩:=by cases d<;>rfl
theorem aa6{T:Array Value}{d:Option Tmp}{v:Value}:(⟨T,ds⟩:Act).put d v=⟨((⟨T,ds⟩:Act).put d v).tmps,ds⟩:=by cases d<;>rfl
theorem Y5{T:Array Value}{d:Option Tmp}{v:Value}{t:Nat}(h:d≠some t):((⟨T,ds⟩:Act).put d v).tmps[t]? =T[t]? :=by
 cases d with
 |none=>rfl
 |some e=>
  show(T.setIfInBounds e v)[t]? =T[t]?;exact Zd6 λh'=>h (by rw[h'])
theorem aa7{o:Oper}{K:Act->World->Prop}{K':Act->World->Prop}{Q:Exit->Act->World->Prop}{T:Array Value}{w:World}(h:Ma P o K ⟨T,ds⟩ w)
  (hK:∀v w',K ((⟨T,ds⟩:Act).put o.dst v) w'->K' ((⟨T,D⟩:Act).put o.dst v) w'):o.wpIn (Fc r) n P ⟨T,D⟩ w K' Q:=by
 refine⟨λ_ _=>trivial,?_⟩;have he:(⟨T,D⟩:Act).eval=(⟨T,ds⟩:Act).eval:=funext λ_=>Cq
 rw[he];unfold Ma at h;have hs:o.semAt r (⟨T,ds⟩:Act).eval=execOp (⟨T,ds⟩:Act).eval o:=by
  cases r with
  |none=>rfl
  | some l=>
    unfold Oper.semAt;(cases ho:o.op<;>first|rfl|skip);exfalso;unfold execOp at h;rw[ho]at h;simp only[Sem.run_bind,Sem.run_pure]at h;cases hr:(resolve (⟨T,ds⟩:Act).eval _ o.type).run P w<;>rw[hr]at h<;>simp[Result.andThen,Reaches]at h
 show o.uponIn (Fc r) n P _ _ _ ((o.semAt r (⟨T,ds⟩:Act).eval).run P w);rw[hs];generalize (execOp (⟨T,ds⟩:Act).eval o).run P w=z at h;cases z with
 |ok m w'=>
  cases m<;>simp only[Reaches]at h
  .exact hK _ _ h
  .exact hK _ _ h
  .exact⟨λhd=>by simp[Fence.wide]at hd,(Y4 h).mono λe w he=>by cases e<;>first|exact hK _ _ he|exact he.elim⟩
  .exact⟨λhd=>by simp[Fence.wide]at hd,(aa5 h).mono λv w he=>hK _ _ he⟩
 |halt v w'=>simp only[Reaches]at h
theorem SX{ops:Array Oper}{i:Nat}{K K':Act->World->Prop}{Q:Exit->Act->World->Prop}{T:Array Value}{w:World}(h:zx P ops i K ⟨T,ds⟩ w)(cv:∀o,ops[i]? =some o->∀t,o.dst=some t->¬ts t)
   (hx:∀t,ts t->T[t]? =x[t]?) (hK:∀T' w',(∀t,ts t->T'[t]? =x[t]?)->K ⟨T',ds⟩ w'->K' ⟨T',D⟩ w'):wpOpIn (Fc r) n P ops Q i K' ⟨T,D⟩ w:=by
 unfold zx at h;unfold wpOpIn;split at h
 .rename_i ho;rw[ho];exact hK _ _ hx h
 . (rename_i o ho;rw[ho];have UB:∀v t,ts t->((⟨T,D⟩:Act).put o.dst v).tmps[t]? =x[t]? :=λv t ht=>by rw[Y5 (λhd=>cv o ho t hd ht)];exact hx t ht);have lQ:∀v w',K ((⟨T,ds⟩:Act).put o.dst v) w'->K' ((⟨T,D⟩:Act).put o.dst v) w':=λv w' hk=>by rw[abY (D:=D)]at hk;rw[aa6];exact hK _ _ (UB v) hk
   show if Region.wanted o (yielded ops T)=true then _ else _
   dsimp only at h;split at h
   .rename_i hw;rw[Za7 hw];exact aa7 h lQ
   .rename_i hw;rw[Za5 hw];exact⟨λ_ _=>trivial,lQ _ _ h⟩
theorem Wr{ops:Array Oper}(cv:∀t∈ops.toList.filterMap (·.dst),¬ts t){i:Nat}:∀o,ops[i]? =some o->∀t,o.dst=some t->¬ts t:=λo ho t ht=>cv t (by
 rw[Zl5];exact⟨o,by rw[Zk3];exact Zk1 ho,ht⟩)
theorem Dx{ops:Array Oper}{K:Act->World->Prop}{Q:Exit->Act->World->Prop}{l2:List Nat}(hK:∀T' w',(∀t,ts t->T'[t]? =x[t]?)->K ⟨T',ds⟩ w'->wpOpsIn (Fc r) n P ops Q l2 ⟨T',D⟩ w'):
  ∀(l:List Nat)(T:Array Value)(w:World),(∀i∈l,∀o,ops[i]? =some o->∀t,o.dst=some t->¬ts t)->(∀t,ts t->T[t]? =x[t]?)->nP P ops K l ⟨T,ds⟩ w->wpOpsIn (Fc r) n P ops Q (l++l2) ⟨T,D⟩ w
 |[],T,w,_,hx,h=>hK T w hx h
 |i::l,T,w,cv,hx,h=>by rw[Zf1,wpOpsIn_cons];exact SX h (cv i (Zc6 ..)) hx λT' w' lR hk=>Dx hK l T' w' (λj hj=>cv j (Za6 _ hj)) lR hk
theorem P1{ops:Array Oper}{K K':Act->World->Prop}{Q:Exit->Act->World->Prop}(hQ:Q .normal=K')(cv:∀t∈ops.toList.filterMap (·.dst),¬ts t)(hK:∀T' w',(∀t,ts t->T'[t]? =x[t]?)->K ⟨T',ds⟩ w'->K' ⟨T',D⟩ w'):
  ∀(fuel:Nat)(listed:Array Bool)(T:Array Value)(w:World),(∀t,ts t->T[t]? =x[t]?)->Pd P ops K fuel listed ⟨T,ds⟩ w->wpAnyIn (Fc r) n P .any ops Q fuel listed ⟨T,D⟩ w
 |0,listed,T,w,hx,h=>⟨h.1,by rw[hQ];exact hK T w hx h.2⟩
 |fuel+1,listed,T,w,hx,h=>⟨λhr=>by rw[hQ];exact hK T w hx (h.1 hr),λi hi=>SX (h.2 i hi) (Wr cv) hx λT' w' lR hk=>P1 hQ cv hK fuel _ T' w' lR hk⟩
theorem dZ.SY:∀(c:Code)(Q:Exit->Act->World->Prop)(T:Array Value)(w:World),(∀t∈nQ c,¬ts t)->(∀t,ts t->T[t]? =x[t]?)->dZ P c Q ⟨T,ds⟩ w->
  c.wpIn (Fc r) n P (InF D ds ts x Q) ⟨T,D⟩ w:=by
 intro c;induction c with
 |skip=>exact λQ T w _ hx h=>wpIn_skip ⟨rfl,hx,h⟩
 |region i ops d=>
  intro Q T w cv hx h;cases d
  .refine wpIn_region ?_;rw[<-Ze8 (List.range ops.size)];exact Dx (λT' w' lR hk=>by show InF D ds ts x Q .normal _ _;exact⟨rfl,lR,hk⟩) _ T w (λ_ _=>Wr cv) hx h
  .exact wpIn_region_any h.1 (P1 rfl cv (λT' w' lR hk=>⟨rfl,lR,hk⟩) _ _ T _ hx h.2)
 |seq a b P2 P8=>
  intro Q T w cv hx h;refine wpIn_seq (wpIn_mono (P2 _ T w (λt ht=>cv t (Zg4 _ ht)) hx h) ?_);rintro e ⟨T',D'⟩ w' ⟨h1,h2,h3⟩;dsimp only at h1;subst h1;cases e with
  |normal=>exact P8 Q T' w' (λt ht=>cv t (Zi1 _ ht)) h2 h3
  |_=>exact⟨rfl,h2,h3⟩
 |cond c a b P2 P8=>
  intro Q T w cv hx h;obtain⟨t,ht,h⟩:=h;refine wpIn_cond (t:=t) (by rw[<-ht];exact Cq) ?_;cases t
  .exact P8 Q T w (λt ht=>cv t (Zi1 _ ht)) hx h
  .exact P2 Q T w (λt ht=>cv t (Zg4 _ ht)) hx h
 |block id a ih=>
  intro Q T w cv hx h;refine wpIn_block (wpIn_mono (ih _ T w cv hx h) ?_);rintro e a' w' ⟨h1,h2,h3⟩;cases e with
  | exit i=>
    simp only[Exit.inBlock]at h3 ⊢;split<;>(rename_i hi;first|rw[Za7 hi]at h3|rw[Za5 hi]at h3)<;>exact⟨h1,h2,h3⟩
  |_=>exact⟨h1,h2,h3⟩
 |loop a ih=>
  intro Q T w cv hx h;obtain⟨m,h⟩:=h;refine wpIn_loop_rounds m ?_;induction m generalizing T w with
  |zero=>exact h.elim
  | succ m ihm=>
    rw[roundsIn_succ];refine wpIn_mono (ih _ T w cv hx h) ?_;rintro e ⟨T',D'⟩ w' ⟨h1,h2,h3⟩;dsimp only at h1;subst h1;cases e with
    |normal=>exact ihm T' w' h2 h3
    |_=>exact⟨rfl,h2,h3⟩
 |exit id=>exact λQ T w _ hx h=>wpIn_exit ⟨rfl,hx,h⟩
 |ret=>exact λQ T w _ hx h=>wpIn_ret ⟨rfl,hx,h⟩
 |_=>exact λQ T w _ _ h=>h.elim
theorem dZ.wp{c:Code}{Q:Exit->Act->World->Prop}{a:Act}{w:World}(h:dZ P c Q a w):c.wp P Q a w:=by refine wpIn_wide (n:=0) |>.1 (wpIn_mono (dZ.SY (r:=none) (D:=a.defers) (ds:=a.defers) (ts:=λ_=>False) (x:= #[]) c Q a.tmps w (λ_ _ h=>h) (λ_ h=>h.elim) h) ?_);rintro e ⟨T,D⟩ w' ⟨h1,_,h3⟩;dsimp only at h1;subst h1;exact h3
end
end
section
open Go Go.RowKit
def kL(ρ:Pos->Loc)(C:Cells)(st:St)(w:World)(v:AV)(st':St)(x:Value)(w':World):Prop:=
 ∃ρ',aj ρ' st'.next.toNat C v x/\(∀b:Pos,b.toNat<st.next.toNat->ρ' b=ρ b)/\st.next.toNat<=st'.next.toNat/\aU ρ' C st' w'/\iT ρ st w ρ' st' w'
def ew(P:Program)(C:Cells)(call:ai):Prop:=
 ∀  (ρ:Pos->Loc)(st:St)(w:World)(f:FuncId)(args:List AV)(v:AV)(st':St)(bw:List Value),call f args st=some (v,st')->
    aU ρ C st w->aq ρ st.next.toNat C args bw->Reaches P (kL ρ C st w v st') ((callFunc f bw.toArray).run P w)
section
variable{P:Program}{tt:TT}{C:Cells}{call:ai}
theorem St.P9(st:St)(del:Option Pos)(set:Option (Pos×AB))(new:Option AB):st.next.toNat<=(st.aC del set new).next.toNat:=by
 cases new with
 |none=>exact Za4 _
 |some x=>simp only[St.aC,Pos.ax];omega
theorem Iy(hT:bH P tt)(bE:ew P C call){ρ:Pos->Loc}{st st':St}{w:World}{k:av}{xs:List dL}{cls:SL}{fr:Fr}{a:Act}{o:Oper}{vs:List AV}{v:AV}
   (hc:fo tt o.op=some (k,xs,cls)) (hW:aU ρ C st w) (hF:eJ ρ st.next.toNat C fr a.tmps) (hx:dM fr xs=some vs)
   (hs:bS call k vs st=some (v,st')):Reaches P (kL ρ C st w v st') ((execOp a.eval o).run P w):=by
 have H:=HM hT o.op ρ C st w k xs cls fr a o vs;unfold bS at hs;split at hs
 . rename_i u hr;simp only[H0,Zb2]at hs;obtain⟨rfl,rfl⟩:=hs;obtain⟨N,x,he,hy,hv⟩:=H _ rfl hc hW hF hx hr;have hp:kL ρ C st w u st x w:=⟨ρ,hv,λ_ _=>rfl,Za4 _,hW,iT.refl _ _ _⟩
   rw[he];rcases hy with rfl|⟨rfl,rfl⟩<;>exact hp
 . rename_i u del set new hr;simp only[H0,Zb2]at hs;obtain⟨rfl,rfl⟩:=hs;obtain⟨N,x,w',ρ',he,hy,aQ,dY,hv,hE⟩:=H _ rfl hc hW hF hx hr;have hp:kL ρ C st w u (st.aC del set new) x w':=⟨ρ',hv,aQ,St.P9 _ _ _ _,dY,hE⟩
   rw[he];rcases hy with rfl|⟨rfl,rfl⟩<;>exact hp
 .rename_i f args hr;obtain⟨bw,he,hv⟩:=H _ rfl hc hW hF hx hr;rw[he];exact bE ρ st w f args v st' bw hs hW hv
 .cases hs
structure qD(tt:TT)(nt:Nat)(ops:Array Oper)(o:Oper)(ao:bh):Prop where
 dst:ao.dst=o.dst.map key
 lt:∀d,o.dst=some d->d<nt
 guard:Kh ops o.guard=some ao.guard
 op:(fo tt o.op=some (ao.k,ao.xs,ao.cls))\/(ao.k= .bad/\ao.cls= .aC)
theorem mz{nt:Nat}{ops:Array Oper}:∀{os:List Oper}{bs:List Nat}{l:List bh},lO tt nt ops os bs=some l->
  l.length=os.length/\∀(i:Nat)(o:Oper),os[i]? =some o->∃ao,l[i]? =some ao/\qD tt nt ops o ao/\ao.bt=bs.getD i 0
 |[],bs,l,h=>by simp[lO]at h;subst h;exact⟨rfl,λi o ho=>by simp at ho⟩
 |o ::os,bs,l,h=>by
  unfold lO at h;split at h<;>first|(cases h;done)|skip
  rename_i g l' hg hl hd;obtain⟨h1,h2⟩:=mz hl;have aV:∀d,o.dst=some d->d<nt:=λd hdd=>by rw[hdd]at hd;simpa [lO.aaG]using hd
  have hb:∀i,bs.tail.getD i 0=bs.getD (i+1) 0:=λi=>by cases bs<;>simp
  have hb0:bs.headD 0=bs.getD 0 0:=by cases bs<;>simp
  split at h
  . rename_i k xs cls hc;simp only[H0]at h;subst h;refine⟨by simp[h1],λi o' ho=> ?_⟩;cases i with
    |   zero=>
        simp at ho;subst ho;exact⟨_,rfl,⟨rfl,aV,hg,.inl hc⟩,hb0⟩
    |   succ i=>
        simp at ho;obtain⟨ao,h3,h4,h5⟩:=h2 i o' ho;exact⟨ao,by simpa using h3,h4,by rw[h5,hb]⟩
  . simp only[H0]at h;subst h;refine⟨by simp[h1],λi o' ho=> ?_⟩;cases i with
    |   zero=>
        simp at ho;subst ho;exact⟨_,rfl,⟨rfl,aV,hg,.inr ⟨rfl,rfl⟩⟩,hb0⟩
    |   succ i=>
        simp at ho;obtain⟨ao,h3,h4,h5⟩:=h2 i o' ho;exact⟨ao,by simpa using h3,h4,by rw[h5,hb]⟩
theorem zA{ops:Array Oper}{ρ:Pos->Loc}{n:Nat}{fr:Fr}{a:Act}{o:Oper}{g:Option (Pos×Bool)}{b:Bool}(hg:Kh ops o.guard=some g)
   (hF:∀p v,fr.get p=some v->(∃q,g=some (p,q))->∃x,a.tmps[p.toNat - 1]? =some x/\aj ρ n C v x)
   (hw:bF fr g=some b):Region.wanted o (yielded ops a.tmps)=b:=by
 unfold Region.wanted;unfold Kh at hg;split at hg
 .rename_i hn;simp only[H0]at hg;subst hg;simp only[bF,H0]at hw;subst hw;rw[hn]
 . rename_i j want hn;rw[hn];(split at hg<;>first|(cases hg;done)|skip);rename_i oj hj;(split at hg<;>first|(cases hg;done)|skip);rename_i d hd;simp only[H0]at hg;subst hg;simp only[bF]at hw;split at hw
   .rename_i u hu;simp only[H0]at hw;subst hw;obtain⟨x,hx,hv⟩:=hF _ _ hu ⟨_,rfl⟩;rw[ej,Ze9]at hx;have:=hv.fM;subst this;simp[yielded,hj,hd,hx]
   .rename_i l hu;simp only[H0]at hw;subst hw;obtain⟨x,hx,hv⟩:=hF _ _ hu ⟨_,rfl⟩;rw[ej,Ze9]at hx;obtain⟨cs,rfl,_⟩:=hv.Nn;simp[yielded,hj,hd,hx]
   .cases hw
theorem aj.NC{ρ:Pos->Loc}{n:Nat}:aj ρ n C AV.undef undef:= .tuple [] #[] rfl λ_ _ _ h=>by simp at h
theorem Act.gw(a:Act)(d:Option Tmp)(v:Value):(a.put d v).tmps.size=a.tmps.size:=by cases d<;>simp[Act.put]
theorem Act.iz(a:Act)(d:Option Tmp)(v:Value):(a.put d v).defers=a.defers:=by cases d<;>rfl
theorem eJ.put{ρ:Pos->Loc}{n nt:Nat}{fr:Fr}{a:Act}{d:Option Tmp}{v:AV}{x:Value}(hF:eJ ρ n C fr a.tmps)(hs:a.tmps.size=nt)
  (hd:∀e,d=some e->e<nt) (hv:aj ρ n C v x):eJ ρ n C (cG fr (d.map key) v) (a.put d x).tmps:=by
 cases d with
 |none=>exact hF
 |some e=>
  have he:=hd e rfl;intro p u hp;simp only[Ze2,cG]at hp;simp only[Act.put];by_cases KD:key e=p
  .subst KD;rw[T.ee]at hp;simp only[H0]at hp;subst hp;refine⟨x,?_,hv⟩;rw[ej,Ze9,Zj8];simp[hs,he]
  .rw[T.bn _ KD]at hp;obtain⟨y,hy,hr⟩:=hF p u hp;refine⟨y,?_,hr⟩;rw[Zd6,hy];intro h;apply KD;apply Pos.toNat_inj;rw[ej];have:=p.toNat_pos;omega
theorem eJ.mono{ρ ρ':Pos->Loc}{n n':Nat}{fr:Fr}{tmps:Array Value}(hF:eJ ρ n C fr tmps)(aQ:∀b:Pos,b.toNat<n->ρ' b=ρ b)(hn:n<=n'):eJ ρ' n' C fr tmps:=
 λp v hp=>let⟨x,hx,hv⟩:=hF p v hp;⟨x,hx,hv.mono aQ hn⟩
structure lf(nt:Nat)(ρ:Pos->Loc)(C:Cells)(fr:Fr)(st:St)(a:Act)(w:World):Prop where
 W:aU ρ C st w
 F:eJ ρ st.next.toNat C fr a.tmps
 size:a.tmps.size=nt
 defers:a.defers=[]
def eR(nt:Nat)(ρ:Pos->Loc)(C:Cells)(st:St)(w:World)(aW:Fr)(st':St)(a':Act)(w':World):Prop:=
 ∃ρ',lf nt ρ' C aW st' a' w'/\(∀b:Pos,b.toNat<st.next.toNat->ρ' b=ρ b)/\st.next.toNat<=st'.next.toNat/\iT ρ st w ρ' st' w'
theorem eR.refl{nt:Nat}{ρ:Pos->Loc}{fr:Fr}{st:St}{a:Act}{w:World}(h:lf nt ρ C fr st a w):eR nt ρ C st w fr st a w:=
 ⟨ρ,h,λ_ _=>rfl,Za4 _,iT.refl _ _ _⟩
theorem eR.trans{nt:Nat}{ρ dx:Pos->Loc}{qQ:Fr}{st aK ji:St}{a2:Act}{w w1 w2:World}
  (h1:∀b:Pos,b.toNat<st.next.toNat->dx b=ρ b) (h2:st.next.toNat<=aK.next.toNat) (h3:iT ρ st w dx aK w1)
  (h:eR nt dx C aK w1 qQ ji a2 w2):eR nt ρ C st w qQ ji a2 w2:=by
 obtain⟨kH,k1,k2,k3,k4⟩:=h;exact⟨kH,k1,λb hb=>(k2 b (Zc5 hb h2)).trans (h1 b hb),Zc7 h2 k3,h3.trans k4⟩
theorem Reaches.bad{k:av}{vs:List AV}{st:St}{r:AV×St}(hk:k= .bad)(h:bS call k vs st=some r):False:=by subst hk;simp[bS,av.run]at h
theorem nR(hT:bH P tt)(bE:ew P C call){nt:Nat}{ops:Array Oper}{K:Act->World->Prop}:∀(Qa:List bh)(k:Nat)(fr aW:Fr)(st st':St)(ρ:Pos->Loc)(a:Act)(w:World),
  (∀(i:Nat)(ao:bh),Qa[i]? =some ao->∃o,ops[k+i]? =some o/\qD tt nt ops o ao)->
  iq call Qa fr st=some (aW,st')->lf nt ρ C fr st a w->(∀a' w',eR nt ρ C st w aW st' a' w'->K a' w')->nP P ops K (List.range' k Qa.length) a w
 |[],k,fr,aW,st,st',ρ,a,w,_,h,hS,hQ=>by
  simp only[iq,H0,Zb2]at h;obtain⟨rfl,rfl⟩:=h;exact hQ a w (eR.refl hS)
 |ao::Qa,k,fr,aW,st,st',ρ,a,w,ho,h,hS,hQ=>by
  obtain⟨o,eI,hR⟩:=ho 0 ao rfl;rw[Zg7]at eI;have A0:∀(i:Nat)(Ws:bh),Qa[i]? =some Ws->∃o,ops[k+1+i]? =some o/\qD tt nt ops o Ws:=λi Ws hi=>by
    obtain⟨o',h1,h2⟩:=ho (i+1) Ws (by simpa using hi);exact⟨o',by rw[<-h1];congr 1;omega,h2⟩
  simp only[Ze6,Zm4,nP,zx,eI];unfold iq at h;split at h
  . rename_i hw;rw[Za7 (zA hR.guard (λp v hp _=>hS.F p v hp) hw)];(split at h<;>first|(cases h;done)|skip);rename_i vs gI;(split at h<;>first|(cases h;done)|skip);rename_i v aK iU;rcases hR.op with hc|⟨hk,_⟩
    .   have hr:=Iy hT bE hc hS.W hS.F gI iU;(refine hr.mono λx w1 hp=> ?_);obtain⟨dx,hv,h1,h2,Qb,hE⟩:=hp;rw[hR.dst]at h;refine nR hT bE Qa (k+1) _ aW aK st' dx _ w1 A0 h ⟨Qb,eJ.put (hS.F.mono h1 h2) hS.size hR.lt hv,by rw[Act.gw];exact hS.size,by rw[Act.iz];exact hS.defers⟩ λa' w' hp=>hQ a' w' (eR.trans h1 h2 hE hp)
    .   exact(Reaches.bad hk iU).elim
  .rename_i hw;rw[Za5 (by rw[zA hR.guard (λp v hp _=>hS.F p v hp) hw];simp)];rw[hR.dst]at h;exact nR hT bE Qa (k+1) _ aW st st' ρ _ w A0 h ⟨hS.W,eJ.put hS.F hS.size hR.lt .NC,by rw[Act.gw];exact hS.size,by rw[Act.iz];exact hS.defers⟩ hQ
  .cases h
theorem vY{nt:Nat}{ops:Array Oper}{l:List bh}{bs:List Nat}(h:lO tt nt ops ops.toList bs=some l)(i:Nat)(ao:bh)(hi:l[i]? =some ao):
  ∃o,ops[i]? =some o/\qD tt nt ops o ao/\ao.bt=bs.getD i 0:=by
 obtain⟨h1,h2⟩:=mz h;have aV:i<ops.toList.length:=by rw[<-h1];exact(Za0.1 hi).1
 obtain⟨Ws,h3,h4,h5⟩:=h2 i _ (H4 aV);rw[hi]at h3;simp only[H0]at h3;subst h3;exact⟨_,by rw[<-Zg1];exact H4 aV,h4,h5⟩
theorem Qc(hT:bH P tt)(bE:ew P C call){nt id:Nat}{ops:Array Oper}{bs:List Nat}{l:List bh}{Q:Exit->Act->World->Prop}{fr aW:Fr}{st st':St}{ρ:Pos->Loc}{a:Act}{w:World}
  (hl:lO tt nt ops ops.toList bs=some l) (h:iq call l fr st=some (aW,st')) (hS:lf nt ρ C fr st a w)
  (hQ:∀a' w',eR nt ρ C st w aW st' a' w'->Q .normal a' w'):dZ P (Code.region id ops false) Q a w:=by
 show nP P ops (Q .normal) (List.range ops.size) a w;have hlen:l.length=ops.size:=by rw[(mz hl).1,Zf0]
 rw[Zk4, <-hlen];exact nR hT bE l 0 fr aW st st' ρ a w (λi ao hi=>by
  obtain⟨o,h1,h2,_⟩:=vY hl i ao hi;exact⟨o,by rw[Zc3];exact h1,h2⟩) h hS hQ
end
section
variable{P:Program}{tt:TT}{C:Cells}{call:ai}
def oH(P:Program)(tt:TT)(C:Cells)(call:ai):Prop:=
 ∀  (nt id:Nat)(ops:Array Oper)(l:List bh)(Q:Exit->Act->World->Prop)(fr aW:Fr)(st st':St)(ρ:Pos->Loc)(a:Act)(w:World),
    lO tt nt ops ops.toList (PC ops.toList [])=some l->Cc l.length 0 (sF (zj 0 l) [])=true->cF call (sF (zj 0 l) []) [] st.heap fr st=some (aW,st')->lf nt ρ C fr st a w->
    (∀a' w',eR nt ρ C st w aW st' a' w'->Q .normal a' w')->dZ P (Code.region id ops true) Q a w
def lF:iF->Exit
 |.normal=>.normal
 |.exit id=>.exit id
 |.ret=>.ret
def KE(P:Program)(tt:TT)(C:Cells)(call:ai)(nt m:Nat):Prop:=
 ∀  (c:Code)(ac:AC)(fr aW:Fr)(st st':St)(ex:iF)(ρ:Pos->Loc)(a:Act)(w:World)(Q:Exit->Act->World->Prop),
    pH tt nt c=some ac->exec call m ac fr st=some (ex,aW,st')->lf nt ρ C fr st a w->
    (∀a' w',eR nt ρ C st w aW st' a' w'->Q (lF ex) a' w')->dZ P c Q a w
def KF(P:Program)(tt:TT)(C:Cells)(call:ai)(nt m:Nat):Prop:=
 ∀  (c:Code)(ac:AC)(fr aW:Fr)(st st':St)(ex:iF)(ρ:Pos->Loc)(a:Act)(w:World)(Q:Exit->Act->World->Prop),
    pH tt nt c=some ac->exec call m (.loop ac) fr st=some (ex,aW,st')->lf nt ρ C fr st a w->
    (∀a' w',eR nt ρ C st w aW st' a' w'->Q (lF ex) a' w')->FM (dZ P c) Q m a w
theorem ND{nt m:Nat}(zB:KE P tt C call nt m)(ihL:KF P tt C call nt m):KF P tt C call nt (m+1):=by
 intro c ac fr aW st st' ex ρ a w Q hc h hS hQ;simp only[exec,aX]at h;show dZ P c (Exit.then (FM (dZ P c) Q m) Q) a w;split at h
 .rename_i bI aK h1;(refine zB c ac fr bI st aK .normal ρ a w _ hc h1 hS λa1 w1 hp=> ?_);obtain⟨dx,pY,k1,k2,k3⟩:=hp;exact ihL c ac bI aW aK st' ex dx a1 w1 Q hc h pY λa2 w2 hp=>hQ a2 w2 (eR.trans k1 k2 k3 hp)
 . rename_i cj;cases ex with
   |normal=>exact(cj _ _ h).elim
   |exit id=>exact zB c ac fr aW st st' (.exit id) ρ a w _ hc h hS λa1 w1 hp=>hQ a1 w1 hp
   |ret=>exact zB c ac fr aW st st' .ret ρ a w _ hc h hS λa1 w1 hp=>hQ a1 w1 hp
theorem Wt(hT:bH P tt)(bE:ew P C call)(fh:oH P tt C call){nt m:Nat}(zB:KE P tt C call nt m)(ihL:KF P tt C call nt m):KE P tt C call nt (m+1):=by
 intro c ac fr aW st st' ex ρ a w Q hc h hS hQ;have acK:=ND zB ihL;unfold pH at hc;split at hc<;>first|(cases hc;done)|skip
 .simp only[H0]at hc;subst hc;simp only[exec,aX,H0,Zb2]at h;obtain⟨rfl,rfl,rfl⟩:=h;exact hQ _ _ (eR.refl hS)
 . rename_i ix ops draw;(split at hc<;>first|(cases hc;done)|skip);rename_i l hl;split at hc
   .simp only[H0]at hc;subst hc;simp only[exec,aX]at h;(split at h<;>first|(cases h;done)|skip);rename_i bI aK h1;simp only[H0,Zb2]at h;obtain⟨rfl,rfl,rfl⟩:=h;exact Qc hT bE hl h1 hS hQ
   . (split at hc<;>first|(cases hc;done)|skip);rename_i ht;simp only[H0]at hc;subst hc;simp only[exec,aX]at h;(split at h<;>first|(cases h;done)|skip);rename_i bI aK h1;simp only[H0,Zb2]at h;obtain⟨rfl,rfl,rfl⟩:=h;exact fh nt _ ops l Q fr bI st aK ρ a w hl ht h1 hS hQ
 . (split at hc<;>first|(cases hc;done)|skip);rename_i x y h1 h2;simp only[H0]at hc;subst hc;simp only[exec,aX]at h;show dZ P _ (Exit.then (dZ P _ Q) Q) a w;split at h
   .rename_i bI aK h3;(refine zB _ _ fr bI st aK .normal ρ a w _ h1 h3 hS λa1 w1 hp=> ?_);obtain⟨dx,pY,k1,k2,k3⟩:=hp;exact zB _ _ bI aW aK st' ex dx a1 w1 Q h2 h pY λa2 w2 hp=>hQ a2 w2 (eR.trans k1 k2 k3 hp)
   . rename_i cj;cases ex with
     |normal=>exact(cj _ _ h).elim
     |exit id=>exact zB _ _ fr aW st st' (.exit id) ρ a w _ h1 h hS λa1 w1 hp=>hQ a1 w1 hp
     |ret=>exact zB _ _ fr aW st st' .ret ρ a w _ h1 h hS λa1 w1 hp=>hQ a1 w1 hp
 . (split at hc<;>first|(cases hc;done)|skip);rename_i x y z h1 h2 h3;simp only[H0]at hc;subst hc;simp only[exec,aX]at h;split at h
   .rename_i hx;exact⟨true,(nN h1 hS.F hx).fM,(zB _ _ fr aW st st' ex ρ a w Q h2 h hS hQ)⟩
   .rename_i hx;exact⟨false,(nN h1 hS.F hx).fM,(zB _ _ fr aW st st' ex ρ a w Q h3 h hS hQ)⟩
   .cases h
 . (split at hc<;>first|(cases hc;done)|skip);rename_i x h1;simp only[H0]at hc;subst hc;simp only[exec,aX]at h;show dZ P _ (Exit.inBlock _ Q) a w;split at h
   . rename_i pG bI aK h2;split at h
     .  rename_i he;simp only[H0,Zb2]at h;obtain⟨rfl,rfl,rfl⟩:=h;have:=Za1 he;subst this;exact zB _ _ fr bI st aK (.exit pG) ρ a w _ h1 h2 hS λa1 w1 hp=>by simp only[lF,Exit.inBlock,Zg8];exact hQ a1 w1 hp
     .  rename_i he;simp only[H0,Zb2]at h;obtain⟨rfl,rfl,rfl⟩:=h;have:=Zb6 he;exact zB _ _ fr bI st aK (.exit pG) ρ a w _ h1 h2 hS λa1 w1 hp=>by simp only[lF,Exit.inBlock,Za5 this];exact hQ a1 w1 hp
   . rename_i cj;cases ex with
     |normal=>exact zB _ _ fr aW st st' .normal ρ a w _ h1 h hS λa1 w1 hp=>hQ a1 w1 hp
     |exit id=>exact(cj _ _ _ h).elim
     |ret=>exact zB _ _ fr aW st st' .ret ρ a w _ h1 h hS λa1 w1 hp=>hQ a1 w1 hp
 . (split at hc<;>first|(cases hc;done)|skip);rename_i x h1;simp only[H0]at hc;subst hc;exact⟨m+1,acK _ _ fr aW st st' ex ρ a w Q h1 h hS hQ⟩
 .simp only[H0]at hc;subst hc;simp only[exec,aX,H0,Zb2]at h;obtain⟨rfl,rfl,rfl⟩:=h;exact hQ _ _ (eR.refl hS)
 .simp only[H0]at hc;subst hc;simp only[exec,aX,H0,Zb2]at h;obtain⟨rfl,rfl,rfl⟩:=h;exact hQ _ _ (eR.refl hS)
 .simp only[H0]at hc;subst hc;simp[exec,aX,iq,bF,dM,bS,av.run]at h
theorem nS(hT:bH P tt)(bE:ew P C call)(fh:oH P tt C call){nt:Nat}:∀m,KE P tt C call nt m/\KF P tt C call nt m
 |0=>⟨λc ac fr aW st st' ex ρ a w Q hc h=>by simp[exec]at h,λc ac fr aW st st' ex ρ a w Q hc h=>by simp[exec]at h⟩
 |m+1=>let⟨h1,h2⟩:=nS hT bE fh m;⟨Wt hT bE fh h1 h2,ND h1 h2⟩
def HN(tmps:Array Value):ResultVar->Sem Value
 |.tmp t=>pure (tmps.getD t undef)
 |.cell a t=>do loadVar t (<-asAddr (tmps.getD a undef))
theorem UC(hT:bH P tt){ρ:Pos->Loc}{st:St}{w:World}{fr:Fr}{a:Act}{x:Tmp}{t:TypeId}{ti:TI}{q v:AV}(b9:tt.get (key t)=some ti)
  (hW:aU ρ C st w) (hF:eJ ρ st.next.toNat C fr a.tmps) (hq:fr.get (key x)=some q) (hr:(av.load (uh ti)).run (λb=>st.heap.get b) .h [q]=some (.val v)):
  ∃y,(HN a.tmps (.cell x t)).run P w= .ok y w/\aj ρ st.next.toNat C v y:=by
 have hc:fo tt (.load t (.tmp x))=some (.load (uh ti),[.t (key x)],.read):=by simp[fo,b9,jN]
 have hx:dM fr [.t (key x)]=some [q]:=by simp[dM,wU,hq]
 have oG:(av.load (uh ti)).run (λb=>st.heap.get b) st.next [q]=some (.val v):=hr;obtain⟨N,y,he,hy,hv⟩:=HM hT (.load t (.tmp x)) ρ C st w _ _ _ fr a { dst:=none,op:= .load t (.tmp x),type:=t,pos:=default,after:= #[],guard:=none } _ _ rfl hc hW hF hx oG;refine⟨y,?_,hv⟩;simp only[execOp,Instr.loadAt,Act.eval]at he;simp only[HN];obtain⟨z,hz,hzq⟩:=hF _ _ hq;rw[ej,Ze9]at hz;have hzd:a.tmps.getD x undef=z:=by simp[Zh7,hz]
 rw[hzd]at he ⊢;have hp:∃ad,z= .pointer (some ad):=by
  simp only[av.run,qw]at hr;split at hr<;>first|(cases hr;done)|skip
  .obtain⟨_,h⟩:=hzq.ei;exact⟨_,h⟩
  .obtain⟨_,_,_,_,h,_⟩:=hzq.Cf;exact⟨_,h⟩
 obtain⟨ad,rfl⟩:=hp;simp only[Instr.sureAddr,asAddr,Sem.run_bind,Sem.run_pure,Result.andThen]at he ⊢;cases hl:(loadVar t ad).run P w with
 |ok u w1=>
  rw[hl]at he;simp at he;obtain⟨h1,h2⟩:=he;subst h2;rcases hy with hy|⟨hy,_⟩
  .rw[hy]at h1;simp at h1;rw[h1]
  .rw[hy]at h1;simp at h1
 |halt u w1=>rw[hl]at he;simp at he
theorem zC(hT:bH P tt){ρ:Pos->Loc}{st:St}{w:World}{fr:Fr}{a:Act}(hW:aU ρ C st w)(hF:eJ ρ st.next.toNat C fr a.tmps):
   ∀(rs:List ResultVar)(KG:List wT)(vs:List AV),kF tt rs=some KG->bY (λb=>st.heap.get b) fr KG=some vs->
    ∃ys,(rs.mapM (HN a.tmps)).run P w= .ok ys w/\aq ρ st.next.toNat C vs ys
 | [],KG,vs,hc,hr=>by
   simp only[kF,H0]at hc;subst hc;simp only[bY,H0]at hr;subst hr;exact⟨[],by simp,aq.nil⟩
 | .tmp t::rs,KG,vs,hc,hr=>by
   simp only[kF]at hc;(split at hc<;>first|(cases hc;done)|skip);rename_i l hl;simp only[H0]at hc;subst hc;simp only[bY]at hr;(split at hr<;>first|(cases hr;done)|skip);rename_i v hv;(split at hr<;>first|(cases hr;done)|skip);rename_i us VY;simp only[H0]at hr;subst hr;obtain⟨ys,h1,h2⟩:=zC hT hW hF rs l us hl VY;obtain⟨z,hz,hzq⟩:=hF _ _ hv;rw[ej,Ze9]at hz;refine⟨z::ys,?_,aq.cons hzq h2⟩;simp[List.mapM_cons,HN,h1,Zh7,hz]
 | .cell x t::rs,KG,vs,hc,hr=>by
   simp only[kF]at hc;(split at hc<;>first|(cases hc;done)|skip);rename_i ti l V9 hl;simp only[H0]at hc;subst hc;simp only[bY]at hr;(split at hr<;>first|(cases hr;done)|skip);rename_i q hq;(split at hr<;>first|(cases hr;done)|skip);rename_i v hv;(split at hr<;>first|(cases hr;done)|skip);rename_i us VY;simp only[H0]at hr;subst hr;obtain⟨ys,h1,h2⟩:=zC hT hW hF rs l us hl VY;obtain⟨y,h3,h4⟩:=UC hT V9 hW hF hq hv;refine⟨y::ys,?_,aq.cons h4 h2⟩;simp[List.mapM_cons,h1,h3]
theorem oI(hT:bH P tt){ρ:Pos->Loc}{st:St}{w:World}{fr:Fr}{a:Act}{fn:Func}{KG:List wT}{vs:List AV}(hW:aU ρ C st w)(hF:eJ ρ st.next.toNat C fr a.tmps)
  (hc:kF tt fn.results.toList=some KG) (hr:bY (λb=>st.heap.get b) fr KG=some vs):
  ∃y,(results fn a.tmps).run P w= .ok y w/\aj ρ st.next.toNat C (fL vs) y:=by
 obtain⟨ys,h1,h2⟩:=zC hT hW hF _ KG vs hc hr;have h3:(fn.results.mapM (HN a.tmps)).run P w= .ok ys.toArray w:=by
  rw[Array.mapM_eq_mapM_toList];simp[h1]
 have h4:(results fn a.tmps).run P w= .ok (if h:ys.toArray.size=1 then ys.toArray[0]else .tuple ys.toArray) w:=by
  have hfun:results fn a.tmps=(fn.results.mapM (HN a.tmps) >>= λvs=>pure (if h:vs.size=1 then vs[0]else .tuple vs)):=by unfold results;congr 2
  rw[hfun,Sem.run_bind,h3];simp
 refine⟨_,h4,?_⟩;cases vs with
 |nil=>have:=h2.lC;subst this;simp[fL];exact .pT (by simpa using aq.nil)
 |cons v vs=>
  obtain⟨y,ys',rfl,hv,gI⟩:=h2.cons_inv;cases vs with
  |nil=>have:=gI.lC;subst this;simpa [fL]using hv
  |cons v' vs'=>
   obtain⟨y',ys'',rfl,vw,Y3⟩:=gI.cons_inv;simp[fL];exact .pT (by simpa using aq.cons hv (aq.cons vw Y3))
def Ka(P:Program)(tt:TT)(G:T b7):Prop:=
 ∀p F,G.get p=some F->∃fn,P.funcs[p.toNat - 1]? =some fn/\(fn.name== "runtime.NumGoroutine")=false/\Pa tt fn=some F
def nU(P:Program)(C:Cells)(O:dR):Prop:=
 ∀  (f:FuncId)(s:List AV->St->Option (AV×St)),O f=some s->
    ∀(ρ:Pos->Loc)(st:St)(w:World)(args:List AV)(v:AV)(st':St)(bw:List Value),s args st=some (v,st')->
     aU ρ C st w->aq ρ st.next.toNat C args bw->Reaches P (kL ρ C st w v st') ((callFunc f bw.toArray).run P w)
theorem uq{ρ:Pos->Loc}{n:Nat}{tmps:Array Value}:∀(vs:List AV)(xs:List Value)(i:Nat)(fr:Fr),aq ρ n C vs xs->
  (∀(j:Nat)(x:Value),xs[j]? =some x->tmps[i+j]? =some x)->eJ ρ n C fr tmps->eJ ρ n C (params i vs fr) tmps
 |[],_,_,_,_,_,hF=>hF
 |v ::vs,xs,i,fr,h,hx,hF=>by
  obtain⟨x,rE,rfl,hv,gI⟩:=h.cons_inv;unfold params;refine uq vs rE (i+1) _ gI (λj y hy=>by rw[<-hx (j+1) y (by simpa using hy)];congr 1;omega) λp u hp=> ?_
  by_cases KD:key i=p
  .subst KD;rw[T.ee]at hp;simp only[H0]at hp;subst hp;exact⟨x,by rw[ej,Ze9];exact hx 0 x rfl,hv⟩
  .rw[T.bn _ KD]at hp;exact hF p u hp
theorem Iz(hT:bH P tt){O:dR}{G:T b7}(hO:nU P C O)(hG:Ka P tt G)(m:Nat)(fh:∀d,ew P C (nM O G m d)->oH P tt C (nM O G m d)):∀d,ew P C (nM O G m d)
 |0=>λρ st w f args v st' bw h=>by simp[nM]at h
 |d +   1 =>by
  intro ρ st w f args v st' bw h hW nW;have ih:=Iz hT hO hG m fh d;unfold nM at h;split at h
  .rename_i s hs;exact hO f s hs ρ st w args v st' bw h hW nW
  . (split at h<;>first|(cases h;done)|skip);rename_i F hF;(split at h<;>first|(cases h;done)|skip);rename_i hlen;have hlen:=Za1 hlen;obtain⟨fn,yh,iB,zD⟩:=hG _ _ hF;rw[ej,Ze9]at yh;unfold Pa at zD;(split at zD<;>first|(cases zD;done)|skip);rename_i c hb;(split at zD<;>first|(cases zD;done)|skip);rename_i ac rs Qd Wu hle;simp only[H0]at zD;subst zD;simp only at h hlen;have hle:=Za3 hle;have bP:(callFunc f bw.toArray).run P w= .ok (.enter f bw.toArray) w:=by
        have zE:¬fn.name= "runtime.NumGoroutine" :=(by simpa using iB);simp[callFunc,yh,zE,hb]
    rw[bP];simp only[Reaches];refine calls_of_wp yh hb (dZ.wp ?_);have eu:bw.length<=fn.ntmps:=(by rw[<-nW.1,hlen];exact hle);have hS:lf fn.ntmps ρ C (params 0 args .e) st { tmps:=bw.toArray++Array.replicate (fn.ntmps - bw.toArray.size) undef,defers:=[] } w:=by
        refine⟨hW,?_,?_,rfl⟩
        .refine uq args bw 0 .e nW (λj x hx=> ?_) (λp v hp=>by rw[T.cZ]at hp;cases hp);have hj:j<bw.length:=(Za0.1 hx).1;rw[Zc3,Zg5 (by simpa using hj)];simpa using hx
        .simp;omega
    split at h<;>first|(cases h;done)|skip
    .   rename_i bI aK h1;(split at h<;>first|(cases h;done)|skip);rename_i vs gI;simp only[H0,Zb2]at h;obtain⟨rfl,rfl⟩:=h;(refine(nS hT ih (fh _ ih) m).1 c ac _ bI st aK .normal ρ _ w _ Qd h1 hS λa' w' hp=> ?_);obtain⟨dx,pY,k1,k2,k3⟩:=hp;obtain⟨y,yd,zo⟩:=oI hT pY.W pY.F Wu gI;exact⟨pY.defers,y,yd,dx,zo,k1,k2,pY.W,k3⟩
    .   rename_i bI aK h1;(split at h<;>first|(cases h;done)|skip);rename_i vs gI;simp only[H0,Zb2]at h;obtain⟨rfl,rfl⟩:=h;(refine(nS hT ih (fh _ ih) m).1 c ac _ bI st aK .ret ρ _ w _ Qd h1 hS λa' w' hp=> ?_);obtain⟨dx,pY,k1,k2,k3⟩:=hp;obtain⟨y,yd,zo⟩:=oI hT pY.W pY.F Wu gI;exact⟨pY.defers,y,yd,dx,zo,k1,k2,pY.W,k3⟩
end
end
end Go.Ai
