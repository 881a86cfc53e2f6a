/- Its operations, second part; regions. -/
import Derived.Test.YtmldijpopgaaeaaGreatDoorSEvalB
import Derived.Laws.IdiomStrings
import Derived.Laws.RangeString
import Derived.LoopN
set_option linter.all false
namespace Go.Ai
section
open Go Go.RowKit
section
variable{P:Program}{tt:TT}{ρ:Pos->Loc}{C:Cells}{st:St}{w w':World}
theorem SG(del:Option Pos)(h:T AB){b:Pos}{x:AB}(hb:(Mc del h).get b=some x):h.get b=some x/\∀c,del=some c->b≠c:=by
 cases del with
 |none=>exact⟨hb,λ_ h=>by cases h⟩
 |some c=>
  by_cases he:c=b
  .subst he;simp only[Mc]at hb;rw[T.gU]at hb;cases hb
  .simp only[Mc]at hb;rw[T.cC _ he]at hb;exact⟨hb,λd hd=>by cases hd;exact λe=>he e.symm⟩
theorem QU(hW:bZ ρ C st w){o:Obj}{x0:AB}{base size:Nat}(del:Option Pos)(hh:w'.heap=w.heap.push o)(h1:w'.os=w.os)(h2:w'.tape=w.tape)(h3:w'.output=w.output)
   (hB:∀ρ' n',(∀b:Pos,b.toNat<st.next.toNat->ρ' b=ρ b)->st.next.toNat<=n'->uh ρ' n' C ⟨w.heap.size,base,size⟩ w' x0):
   ∃ρ':Pos->Loc,(∀b:Pos,b.toNat<st.next.toNat->ρ' b=ρ b)/\ρ' st.next=⟨w.heap.size,base,size⟩/\bZ ρ' C (st.bk del none (some x0)) w'/\pg ρ st w ρ' (st.bk del none (some x0)) w':=by
 let ρ':Pos->Loc:=λb=>if b=st.next then⟨w.heap.size,base,size⟩else ρ b
 have bF:∀b:Pos,b.toNat<st.next.toNat->ρ' b=ρ b:=λb hb=>Za7 (λe=>by rw[e]at hb;omega)
 have jz:ρ' st.next=⟨w.heap.size,base,size⟩:=Zb6 rfl;have gw:w'.heap.size=w.heap.size+1:=by rw[hh];simp
 have hold:∀k,k<w.heap.size->w'.heap[k]? =w.heap[k]? :=λk hk=>by rw[hh,Zp9,Za7 (by omega)]
 refine⟨ρ',bF,jz,?_,⟨h1,h2,h3,by omega,λk hk _=>hold k hk,λb x hb=> ?_⟩⟩;rotate_left
 . by_cases he:b=st.next
   .right;rw[he,jz];exact Za3 _
   .left;simp only[St.bk,Pt]at hb;rw[T.cC _ (λe=>he e.symm)]at hb;have dY:=(SG del _ hb).1;exact⟨b,x,dY,by rw[bF b (hW.live b x dY).1]⟩
 refine hW.alK (b0:=st.next) (x0:=x0) (by rw[Pos.aF];omega) (by rw[Pos.aF];omega) (by rw[T.gU]) ?_ bF (by rw[jz];exact hB _ _ bF (by rw[Pos.aF];omega)) ?_ (by rw[jz,gw];simp) (by omega) (λk hk _=>hold k hk)
 .intro b x hb hx;rw[T.cC _ (λe=>hb e.symm)]at hx;have hx:=(SG del _ hx).1;refine⟨hx,?_⟩;rw[jz];have:=(hW.live b x hx).2.1;simp only;omega
 .intro a v ha;have:=World.block_lt_of_cell? _ _ (hW.dW a v ha).1;rw[jz];simp only;omega
theorem ahB(hW:bZ ρ C st w){b:Pos}{x x0:AB}(hb:st.heap.get b=some x)(h1:w'.os=w.os)(h2:w'.tape=w.tape)(h3:w'.output=w.output)(gw:w'.heap.size=w.heap.size)
   (DH:∀k,k≠(ρ b).aM->w'.heap[k]? =w.heap[k]?) (hB:uh ρ st.next.toNat C (ρ b) w' x0):
   bZ ρ C (st.bk none (some (b,x0)) none) w'/\pg ρ st w ρ (st.bk none (some (b,x0)) none) w':=by
 obtain⟨aW,ze,_⟩:=hW.live b x hb;refine⟨?_,⟨h1,h2,h3,by omega,λk _ hk=>DH k (λe=>hk b x hb e.symm),λc y hc=> ?_⟩⟩;rotate_left
 . left;by_cases he:c=b
   .exact⟨b,x,hb,by rw[he]⟩
   .simp only[St.bk,Pt,Mc]at hc;rw[T.cC _ (λe=>he e.symm)]at hc;exact⟨c,y,hc,rfl⟩
 refine hW.alK (b0:=b) (x0:=x0) (Za3 _) aW (by simp only[Pt,Mc];rw[T.gU]) ?_ (λ_ _=>rfl) hB ?_ (by omega) (by omega) (λk _ hk=>DH k hk)
 .intro c y hc hy;simp only[Pt,Mc]at hy;rw[T.cC _ (λe=>hc e.symm)]at hy;exact⟨hy,λe=>hc (hW.inj _ _ _ _ hy hb e)⟩
 .exact λa v ha e=>(hW.dW a v ha).2 b x hb e.symm
theorem CL{cs:List AV}{c:Array Value}{e:TypeId}{fr:Nat×Nat}{g:Nat}{n:Nat}(hg:w'.heap[g]? =some (.cells c e fr))(hle:cs.length<=c.size)(hv:aK ρ n C cs (c.toList.take cs.length))
  (hf:∀i,i<c.size->¬(fr.1<=i/\i<fr.2)):uh ρ n C ⟨g,0,c.size⟩ w' (.cells cs 0):=
 ⟨c,e,fr,hg,rfl,by simpa using hle,by simpa using hv,λi _ hi=>by simpa using hf i (by simpa using hi)⟩
theorem anX(hT:dG P tt)(t:TypeId):fC P tt (.alloc t):=by
 intro ρ C st w k xs cls fr a o vs res ho hc hW hF hx hr;simp only[kG]at hc;split at hc<;>first|(cases hc;done)|skip
 rename_i ti fN;split at hc<;>first|(cases hc;done)|skip
 rename_i z hz;cases hc;simp only[gu,H5]at hx;subst hx;simp only[aG.run,Sn,H5]at hr;subst hr;obtain⟨zv,U2,_,FW⟩:=GH hT fN hz (ρ:=ρ) (n:=st.next.toNat) (C:=C) w;have hl:z.length=zv.cells.size:=by simpa using FW.1
 obtain⟨ρ',bF,jz,jD,hE⟩:=QU (w':=w.alloc (.cells zv.cells t)) (o:= .cells zv.cells t) (x0:= .cells z 0) (base:=0) (size:=zv.cells.size) hW none rfl rfl rfl rfl (λρ' n' bF hn=>
   CL (w':=w.alloc (.cells zv.cells t)) (e:=t) (fr:=(0,0)) (by show(w.heap.push _)[w.heap.size]? =_;simp) (by omega) (by rw[hl,Zf1 (by simp)];exact FW.mono bF hn) (λi _=>by simp))
 refine⟨_,.pointer (some ⟨w.heap.size,0,none⟩),_,ρ',?_,Yields.value _,bF,jD,?_,hE⟩
 .simp[execOp,ho,Instr.alloc,U2,newVar,newRow]
 .have:=aC.ptr (ρ:=ρ') (n:=(st.bk none none (some (.cells z 0))).next.toNat) (C:=C) st.next 0 (by simp[St.bk,Pos.aF]);rw[jz]at this;simpa using this
theorem atu(t:TypeId)(x:Operand):fC P tt (.box t x):=by
 intro ρ C st w k xs cls fr a o vs res ho hc hW hF hx hr;simp only[kG]at hc;split at hc<;>first|(cases hc;done)|skip
 rename_i b hb;cases hc;obtain⟨v,rfl,hv⟩:=mg hb hF hx;simp only[aG.run,acI,H5]at hr;subst hr;have FW:=hv.cells;have hl:v.cells.length=(a.eval x).cells.size:=by simpa using FW.1
 obtain⟨ρ',bF,jz,jD,hE⟩:=QU (w':=w.alloc (.cells (a.eval x).cells t)) (o:= .cells (a.eval x).cells t) (x0:= .cells v.cells 0) (base:=0) (size:=(a.eval x).cells.size) hW none rfl rfl rfl rfl (λρ' n' bF hn=>
   CL (w':=w.alloc (.cells (a.eval x).cells t)) (e:=t) (fr:=(0,0)) (by show(w.heap.push _)[w.heap.size]? =_;simp) (by omega) (by rw[hl,Zf1 (by simp)];exact FW.mono bF hn) (λi _=>by simp))
 refine⟨_,.pointer (some ⟨w.heap.size,0,none⟩),_,ρ',?_,Yields.value _,bF,jD,?_,hE⟩
 .simp[execOp,ho,Instr.box,newVar,newRow]
 .have:=aC.ptr (ρ:=ρ') (n:=(st.bk none none (some (.cells v.cells 0))).next.toNat) (C:=C) st.next 0 (by simp[St.bk,Pos.aF]);rw[jz]at this;simpa using this
theorem Pv{n:Nat}{z:List AV}{zs:List Value}(h:aK ρ n C z zs):∀m,aK ρ n C (bW z m) (bW zs m)
 |0=>aK.nil
 |m+1=>h.append (Pv h m)
theorem mh{α:Type}(z:List α):∀m,(bW z m).length=m*z.length
 |0=>by simp[bW]
 |m+1=>by simp[bW,mh z m,Zj7,Zr6]
theorem aaR{α:Type}(z:List α):∀(m i:Nat),i<m*z.length->(bW z m)[i]? =z[i % z.length]?
 |0,i,h=>by simp at h
 |m +1,i,h=>by
  simp only[bW];by_cases hi:i<z.length
  .rw[Zc5 hi,Zl2 hi]
  .have hi:z.length<=i:=(by omega);rw[Zc4 hi,aaR z m _ (by rw[Zj7]at h;omega)];congr 1;rw[<-Zq7 hi]
theorem ahC(z:Array Value)(m:Nat)(hz:0<z.size):((Array.range (m*z.size)).map (z[· % z.size]!)).toList=bW z.toList m:=by
 apply Zi6;intro i;by_cases hi:i<m*z.size
 .rw[aaR _ _ _ (by simpa using hi)];have aW:i % z.size<z.size:=Zj5 _ hz;simp[hi,aW]
 .rw[Zc3 (by simp;omega),Zc3 (by rw[mh];simp;omega)]
theorem Om{ρ':Pos->Loc}{b:Pos}{n g len es br size:Nat}{cap:Option Nat}(hb:b.toNat<n)(bF:ρ' b=⟨g,0,size⟩)(hl:len<=br)(hc:∀c,cap=some c->c=br)(hs:br*es<=size):
  aC ρ' n C (.slice b 0 len cap es) (.slice (some ⟨g,0,none⟩) len br):=
 .slice _ _ _ _ _ _ _ hl hc (λ_=>⟨hb,by rw[bF],by rw[bF];simpa using hs⟩) (λ_=>hb)
theorem acQ{z:List AV}{zv:Value}{n m size:Nat}(FW:aK ρ n C z zv.cells.toList)(hl:z.length=size):
   aK ρ n C (bW z m) ((Array.range (m*size)).map ((if m*size=0 then(#[]:Array Value)else zv.cells)[· % (if m*size=0 then(#[]:Array Value)else zv.cells).size]!)).toList/\
   ((Array.range (m*size)).map ((if m*size=0 then(#[]:Array Value)else zv.cells)[· % (if m*size=0 then(#[]:Array Value)else zv.cells).size]!)).size=m*size:=by
 refine⟨?_,by simp⟩;by_cases h0:m*size=0
 .have:bW z m=[]:=(by apply Zc2;rw[mh,hl];exact h0);rw[this];have:(Array.range (m*size))= #[]:=(by rw[h0];rfl);rw[this];simpa using(aK.nil:aK ρ n C [] [])
 . rw[Za7 h0];have hzs:zv.cells.size=size:=(by have:=FW.1;simp at this;omega);have Xf:0<zv.cells.size:=by
    rw[hzs];rcases Zn4 size with h|h
    .rw[h]at h0;simp at h0
    .exact h
   have:=ahC zv.cells m Xf;rw[hzs]at this ⊢;rw[this];exact Pv FW m
theorem atv{k:IntKind}{i:Int}(h1:loI k<=i)(h2:i<=hiI k):k.wrap i=i:=by
 rw[<-zc];unfold ax;split
 . split
   .rfl
   .exact absurd h2 (by assumption)
 .exact absurd h1 (by assumption)
theorem ahD{j:Nat}(h:j<=9223372036854775807):IntKind.i64.wrap (j:Int)=(j:Int):=atv (by simp only[loI];omega) (by simp only[hiI];omega)
theorem aj9(hT:dG P tt)(t:TypeId)(l c:Operand):fC P tt (.makeSlice t l c):=by
 intro ρ C st w k xs cls fr a o vs res ho hc hW hF hx hr;simp only[kG]at hc;split at hc<;>first|(cases hc;done)|skip
 rename_i ti l0 fN hl;split at hc<;>first|(cases hc;done)|skip
 rename_i e hk;split at hc<;>first|(cases hc;done)|skip
 rename_i te pM;split at hc<;>first|(cases hc;done)|skip
 rename_i z hz;cases hc;obtain⟨d,hd,dP⟩:=(hT.at fN).und;rw[hk]at dP;rw[uj dP]at hd;obtain⟨i0,tG,vR,hib,Ol⟩:=(hT.at pM).info;obtain⟨u,v,rfl,h1,h2⟩:=aei hl hF hx;simp only[aG.run,DD]at hr;split at hr<;>first|(cases hr;done)|skip
 rename_i jl jc hjl hjc;split at hr<;>first|(cases hr;done)|skip
 rename_i e1 e2 e3;have e1:=Zb5 e1;have e2:=Zb5 e2;have e3:=Zb5 e3;simp only[H5]at hr;subst hr;obtain⟨kl,gX⟩:=mY h1 hjl;obtain⟨kc,hkc⟩:=mY h2 hjc;obtain⟨zv0,hzv0,_,hzl,_⟩:=Ol z hz;obtain⟨zv,U2,_,FW⟩:=GH hT pM hz (ρ:=ρ) (n:=st.next.toNat) (C:=C) w;obtain⟨Xg,aej⟩:=acQ (m:=jc) FW hzl;generalize gQ:(Array.range (jc*te.size)).map ((if jc*te.size=0 then(#[]:Array Value)else zv.cells)[· % (if jc*te.size=0 then(#[]:Array Value)else zv.cells).size]!)=row at Xg aej;obtain⟨ρ',bF,jz,jD,hE⟩:=QU (w':=w.alloc (.cells row e)) (o:= .cells row e) (x0:= .cells (bW z jc) 0) (base:=0) (size:=row.size) hW none rfl rfl rfl rfl (λρ' n' bF hn=>
   CL (w':=w.alloc (.cells row e)) (e:=e) (fr:=(0,0)) (by show(w.heap.push _)[w.heap.size]? =_;simp) (by rw[mh,aej,hzl];exact Za3 _)
    (by rw[mh,hzl, <-aej, <-Zi3,Zh9];exact Xg.mono bF hn) (λi _=>by simp))
 refine⟨_,.slice (some ⟨w.heap.size,0,none⟩) jl jc,_,ρ',?_,Yields.value _,bF,jD,?_,hE⟩
 . have cZ:=ahD (Zb2 e1 e3);have tH:=ahD e3;have hb:¬((te.bytes:Int)*(jc:Int)>2 ^ 48):=(by have h:=Int.ofNat_le.2 e2;rw[Int.natCast_mul]at h;exact Int.not_lt.2 h);have dO:(Instr.makeSlice t (.int kl jl) (.int kc jc)).run P w= .ok (.slice (some ⟨w.heap.size,0,none⟩) jl jc) (w.alloc (.cells row e)):=by
    unfold Instr.makeSlice;simp only[Sem.run_bind,bu hd,Result.andThen_ok,asInt,asIntOf,Sem.run_pure,aht tG,cZ,tH,hib];have awf:¬((decide ((jc:Int)<0)||decide ((te.bytes:Int)*(jc:Int)>2 ^ 48)||decide ((jl:Int)<0)||decide ((jl:Int)>(jc:Int)))=true):=by
        simp only[Zj8,Ze1];rintro(((h|h)|h)|h)
        .omega
        .exact hb h
        .omega
        .omega
    rw[Za7 awf];simp only[Sem.run_bind,run_askRoom,Result.andThen_ok,mX tG,vR,Zd4];rw[<-gQ];by_cases h0:jc*te.size=0
    .   simp only[h0,Zh1,Sem.run_bind,Sem.run_pure,Result.andThen_ok,newRow,run_newObj,World.alloc_eq]
    .   simp only[h0,Zg7,Sem.run_bind,Sem.run_pure,Result.andThen_ok,U2,newRow,run_newObj,World.alloc_eq]
   simp[execOp,ho,gX,hkc,dO]
 .exact Om (by simp[St.bk,Pos.aF]) jz e1 (λc hc=>by cases hc;rfl) (by rw[aej];exact Za3 _)
theorem aek(hT:dG P tt)(t:TypeId)(len:Nat)(ps:Array (Nat×Operand)):fC P tt (.buildSlice t len ps):=by
 intro ρ C st w k xs cls fr a o vs res ho hc hW hF hx hr;simp only[kG]at hc;split at hc<;>first|(cases hc;done)|skip
 rename_i ti l0 fN hl;split at hc<;>first|(cases hc;done)|skip
 rename_i e hk;split at hc<;>first|(cases hc;done)|skip
 rename_i te pM;split at hc<;>first|(cases hc;done)|skip
 rename_i z hz hlim;have hlim:=Zb5 hlim;cases hc;obtain⟨d,hd,dP⟩:=(hT.at fN).und;rw[hk]at dP;rw[uj dP]at hd;obtain⟨i0,tG,vR,hib,Ol⟩:=(hT.at pM).info;have hv:=jd hl hF hx;simp only[aG.run,xx]at hr;split at hr<;>first|(cases hr;done)|skip
 rename_i cs DN;simp only[H5]at hr;subst hr;obtain⟨zv0,hzv0,_,hzl,_⟩:=Ol z hz;obtain⟨zv,U2,_,FW⟩:=GH hT pM hz (ρ:=ρ) (n:=st.next.toNat) (C:=C) w;obtain⟨Xg,aej⟩:=acQ (m:=len) FW hzl;generalize gQ:(Array.range (len*te.size)).map ((if len*te.size=0 then(#[]:Array Value)else zv.cells)[· % (if len*te.size=0 then(#[]:Array Value)else zv.cells).size]!)=row at Xg aej;have hps:(ps.map λ(i,x)=>(i,a.eval x)).toList=ps.toList.map λx=>(x.1,a.eval x.2):=by simp
 obtain⟨mZ,e1,e2⟩:=abF (λi=>some (i*te.size,te.size)) DN Xg (ps:=ps.toList.map λx=>(x.1,a.eval x.2)) (by simpa [Zi1,Zl5]using hv) (by simp[Zi1,Zl5]);have hlen:cs.length=mZ.size:=by simpa using e2.1
 have awg:∀{pp:List (Nat×Nat)}{vs cells r:List AV},cK cells pp vs=some r->r.length=cells.length:=by
   intro pp;induction pp with
   |nil=>intro vs cells r h;unfold cK at h;split at h<;>first|(cases h;done)|(simp only[H5]at h;subst h;rfl)|(rename_i hh;cases hh)
   |cons p pp ih=>
    intro vs cells r h;unfold cK at h;(split at h<;>first|(cases h;done)|(rename_i hh;cases hh;done)|skip);rename_i hh;simp only[Zf9]at hh;obtain⟨rfl,rfl⟩:=hh;(split at h<;>first|(cases h;done)|skip);rename_i g1 g2;have g1:=Za6 g1;have g2:=Zb5 g2;rw[ih h];simp[aU];omega
 have hcsl:=awg DN;rw[mh,hzl]at hcsl;obtain⟨ρ',bF,jz,jD,hE⟩:=QU (w':=w.alloc (.cells mZ e)) (o:= .cells mZ e) (x0:= .cells cs 0) (base:=0) (size:=mZ.size) hW none rfl rfl rfl rfl (λρ' n' bF hn=>
   CL (w':=w.alloc (.cells mZ e)) (e:=e) (fr:=(0,0)) (by show(w.heap.push _)[w.heap.size]? =_;simp) (by omega)
    (by rw[hlen, <-Zi3,Zh9];exact e2.mono bF hn) (λi _=>by simp))
 refine⟨_,.slice (some ⟨w.heap.size,0,none⟩) len len,_,ρ',?_,Yields.value _,bF,jD,?_,hE⟩
 . have dO:(Instr.buildSlice t len (ps.map λ(i,x)=>(i,a.eval x))).run P w= .ok (.slice (some ⟨w.heap.size,0,none⟩) len len) (w.alloc (.cells mZ e)):=by
    unfold Instr.buildSlice;simp only[Sem.run_bind,bu hd,Result.andThen_ok,mX tG,vR];rw[Za7 (by omega)];by_cases h0:len*te.size=0
    .   simp only[h0,Zh1,Sem.run_bind,Sem.run_pure,Result.andThen_ok];simp only[h0,Zh1]at gQ;rw[gQ,hps,e1];simp only[newRow,Sem.run_bind,run_newObj,World.alloc_eq,Result.andThen_ok,Sem.run_pure]
    .   simp only[h0,Zg7,Sem.run_bind,Sem.run_pure,Result.andThen_ok,U2];simp only[h0,Zg7]at gQ;rw[gQ,hps,e1];simp only[newRow,Sem.run_bind,run_newObj,World.alloc_eq,Result.andThen_ok,Sem.run_pure]
   simp only[execOp,ho,Sem.run_bind];rw[dO];rfl
 .exact Om (by simp[St.bk,Pos.aF]) jz (Za3 _) (λc hc=>by cases hc;rfl) (by omega)
theorem anY(t:TypeId)(r:Option Operand)(hT:dG P tt):fC P tt (.makeMap t r):=by
 intro ρ C st w k xs cls fr a o vs res ho hc hW hF hx hr;have key:k= .mkMap/\(execOp a.eval o).run P w= .ok (.value (.map (some w.heap.size))) (w.alloc (.map #[] 0)):=by
  simp only[kG]at hc;split at hc<;>first|(cases hc;done)|skip
  rename_i ti fN;obtain⟨d,hd,dP⟩:=(hT.at fN).und;split at hc<;>first|(cases hc;done)|skip
  .cases hc;exact⟨rfl,by simp[execOp,ho,Instr.makeMap]⟩
  .rename_i hk;rw[hk]at dP;rw[W7 dP]at hd;cases hc;exact⟨rfl,by simp[execOp,ho,Instr.makeMap,bu hd,Act.eval,asInt,asIntOf]⟩
 obtain⟨rfl,dO⟩:=key;simp only[aG.run,Ss,H5]at hr;subst hr;obtain⟨ρ',bF,jz,jD,hE⟩:=QU (w':=w.alloc (.map #[] 0)) (o:= .map #[] 0) (x0:= .map [] 0) (base:=0) (size:=0) hW none rfl rfl rfl rfl (λρ' n' bF hn=>
  ⟨#[],by show(w.heap.push _)[w.heap.size]? =_;simp,rfl,λi e e' h=>by simp at h⟩)
 refine⟨_,_,_,ρ',dO,Yields.value _,bF,jD,?_,hE⟩;have:=aC.map (ρ:=ρ') (n:=(st.bk none none (some (.map [] 0))).next.toNat) (C:=C) st.next (by simp[St.bk,Pos.aF]);rw[jz]at this;exact this
end
section
variable{P:Program}{tt:TT}{ρ:Pos->Loc}{C:Cells}{st:St}{w w':World}
theorem SH{n:Nat}:∀{l:List AV}{ys:List Value},aQ l=true->aK ρ n C l ys->∀y∈ys,y.oneCell'=true
 |[],ys,_,h=>by have:=h.kO;subst this;simp
 |v::l,ys,h1,h=>by
  unfold aQ at h1;split at h1<;>first|(cases h1;done)|skip
  rename_i ho;obtain⟨y,ys',rfl,hv,hs⟩:=h.cons_inv;intro z hz;simp at hz;rcases hz with rfl|hz
  .cases hv<;>first|rfl|(simp[AV.one]at ho;done)
  .exact SH h1 hs z hz
theorem DO{α:Type}(l:List α){i:Nat}(vs:List α)(hi:i<=l.length)(k:Nat):(aU l i vs)[k]? =if k<i then l[k]? else if k<i+vs.length then vs[k - i]? else l[k]? :=by
 unfold aU;have hl:(l.take i).length=i:=by simp;omega
 split
 .rename_i h;rw[Zc5 (by omega),Ze4,Zb6 h]
 . rename_i h;rw[Zc4 (by omega),hl];split
   .rename_i h';rw[Zc5 (by omega)]
   .rename_i h';rw[Zc4 (by omega),Ze7];congr 1;omega
theorem Px{α:Type}(l:List α)(b off:Nat)(vs:List α)(h:b+off<=l.length):(aU l (b+off) vs).drop b=aU (l.drop b) off vs:=by
 apply Zi6;intro k;rw[Ze7,DO l vs h,DO (l.drop b) vs (by simp;omega),Ze7];by_cases h1:k<off
 .rw[Zb6 (by omega),Zb6 h1]
 . rw[Za7 (by omega),Za7 h1];by_cases h2:k<off+vs.length
   .rw[Zb6 (by omega),Zb6 h2];congr 1;omega
   .rw[Za7 (by omega),Za7 h2]
theorem aaS{α:Type}(l:List α)(off m:Nat)(vs:List α)(h:off+vs.length<=m)(h':m<=l.length):(aU l off vs).take m=aU (l.take m) off vs:=by
 apply Zi6;intro k;rw[Ze4,DO l vs (by omega),DO (l.take m) vs (by simp;omega),Ze4];by_cases h1:k<off
 .rw[Zb6 (by omega),Zb6 h1,Zb6 h1,Zb6 (by omega)]
 . by_cases h2:k<off+vs.length
   .rw[Zb6 (by omega),Za7 h1,Zb6 h2,Za7 h1,Zb6 h2]
   .rw[Za7 h1,Za7 h2,Za7 h1,Za7 h2]
theorem SJ(hW:bZ ρ C st w){b:Pos}{cs vs:List AV}{fz off:Nat}{ys:List Value}(hb:st.heap.get b=some (.cells cs fz))(hle:off+vs.length<=cs.length)(hfz:fz<=off)
   (h1:aQ vs=true) (hv:aK ρ st.next.toNat C vs ys):
   ∃w',(storeCells ⟨(ρ b).aM,(ρ b).base+off,none⟩ ys).run P w= .ok () w'/\bZ ρ C (st.bk none (some (b,.cells (aU cs off vs) fz)) none) w'/\pg ρ st w ρ (st.bk none (some (b,.cells (aU cs off vs) fz)) none) w':=by
 obtain⟨_,_,c,e,fr,g1,g2,g3,g4,g5⟩:=hW.live b _ hb;have hl:vs.length=ys.length:=hv.1;obtain⟨w',e1,e2,e3,e4,e5,e6,e7⟩:=xW (P:=P) (ρ b).aM e fr ys 0 ((ρ b).base+off) c w g1 (by omega) (SH h1 hv) (λk hk ri=>by
   have:=g5 (k - (ρ b).base) (by omega) (by omega)
   rwa [show(ρ b).base+(k - (ρ b).base)=k from by omega]at this)
 simp only[Zf7]at e1 e2;refine⟨w',e1,?_⟩;have hlen:(aU cs off vs).length=cs.length:=by simp[aU];omega
 refine ahB hW hb e5 e6 e7 e3 e4 ⟨_,e,fr,e2,?_,?_,?_,λi hi QV=>g5 i hi ?_⟩
 .simp[aU];omega
 .rw[hlen];simp[aU];omega
 .rw[hlen];rw[Px _ _ _ _ (by simp;omega),aaS _ _ _ _ (by omega) (by simp;omega)];exact g4.aU hv off
 .simp[aU]at QV;omega
theorem aC.GJ{n:Nat}:aC ρ n C .undef undef:= .tuple [] #[] rfl (λ_ _ _ h=>by simp at h)
theorem anZ(hT:dG P tt)(t:TypeId)(x y:Operand):fC P tt (.store t x y):=by
 intro ρ C st w k xs cls fr a o vs res ho hc hW hF hx hr;simp only[kG]at hc;split at hc<;>first|(cases hc;done)|skip
 rename_i ti l fN hl;cases hc;obtain⟨p,v,rfl,h1,h2⟩:=aei hl hF hx;obtain⟨i0,tG,vR,_⟩:=(hT.at fN).info;simp only[aG.run,Mb]at hr;split at hr<;>first|(cases hr;done)|skip
 rename_i b off;split at hr<;>first|(cases hr;done)|skip
 rename_i cs fz hb;split at hr<;>first|(cases hr;done)|skip
 rename_i e1 e2 e3 e4;have e1:=Za6 e1;have e2:=Zb5 e2;have e3:=Zb5 e3;simp only[H5]at hr;subst hr;obtain⟨_,he⟩:=h1.qU;have hc:=h2.cells;obtain⟨w',dO,jD,hE⟩:=SJ (P:=P) hW hb (by omega) e3 e4 hc;refine⟨.skip,undef,w',ρ,?_,.inr ⟨rfl,rfl⟩,λ_ _=>rfl,jD,aC.GJ,hE⟩;have gw:(a.eval y).cells.size=ti.size:=by have:=hc.1;simp at this;omega
 simp[execOp,ho,he,Instr.storeAt,Instr.sureAddr,storeVar,mX tG,vR,gw,dO]
theorem run_setObj_map{r:Nat}{es:Array MapEntry}{c:Nat}{o:Obj}{w:World}(h:w.heap[r]? =some (.map es c)):(setObj r o).run P w= .ok () { w with heap:=w.heap.setIfInBounds r o }:=by
 simp[setObj,Sem.run,h]
theorem acR(hW:bZ ρ C st w){b:Pos}{es:List (AV×AV×Nat)}{clock:Nat}(hb:st.heap.get b=some (.map es clock)){U4:List (AV×AV×Nat)}{alT:Array MapEntry}{QW:Nat}
  (hE:Oj ρ st.next.toNat C U4 alT.toList):
  bZ ρ C (st.bk none (some (b,.map U4 QW)) none) { w with heap:=w.heap.setIfInBounds (ρ b).aM (.map alT QW) }/\pg ρ st w ρ (st.bk none (some (b,.map U4 QW)) none) { w with heap:=w.heap.setIfInBounds (ρ b).aM (.map alT QW) }:=by
 have aW:=(hW.live b _ hb).2.1;refine ahB hW hb rfl rfl rfl (by simp) (λk hk=>by simp[Zk0 (Ne.symm hk)]) ⟨alT,by simp[aW],by simpa using hE.1,λi e e' h1 h2=>hE.2 i e e' h1 (by simpa using h2)⟩
theorem abG{n:Nat}{pk:PK}{u v:AV}{x y:Value}(h1:aC ρ n C u x)(h2:aC ρ n C v y)(h:yV pk u v=some true)(m:Nat):Instr.sameBits m y x=true:=by
 unfold yV at h;split at h<;>first|(cases h;done)|skip
 .simp only[H5]at h;rw[h1.lH,h2.lH];rename_i p q;have:p=q:=(by simpa using h);subst this;cases m<;>simp[Instr.sameBits]
 . (split at h<;>first|(cases h;done)|skip);rename_i Og;have:=CI Og;subst this;simp only[H5,oM]at h;rw[h1.iI,h2.iI];rename_i p q _;have:p=q:=(by simpa using h);subst this;cases m<;>simp[Instr.sameBits]
 .simp only[H5]at h;obtain⟨bx,rfl,e1⟩:=h1.fB;obtain⟨bz,rfl,e2⟩:=h2.fB;have:bz==bx:=(by rw[beq_toListBytes,QL e2 e1,kZ];exact(kZ.1 h).symm);cases m<;>simpa [Instr.sameBits]using this
theorem afu{pk:PK}{u:AV}:∀{es:List (AV×AV×Nat)}{i j:Nat}{v:AV},ic pk u es i=some (some (j,v))->∃e,i<=j/\es[j - i]? =some e/\yV pk u e.1=some true
 |[],i,j,v,h=>by simp[ic]at h
 |(k',v',born)::es,i,j,v,h=>by
  unfold ic at h;split at h<;>first|(cases h;done)|skip
  .rename_i hq;simp only[H5,Zd2]at h;obtain⟨rfl,_⟩:=h;exact⟨(k',v',born),Za3 _,by simp,hq⟩
  .obtain⟨e,h1,h2,h3⟩:=afu h;refine⟨e,by omega,?_,h3⟩;rw[show j - i=(j - (i+1))+1 from by omega];simpa using h2
theorem Xh(k v:AV):∀(es:List (AV×AV×Nat))(i j:Nat),(uf k v es i)[j]? =if j=i then(es[i]?).map (λe=>(k,v,e.2.2))else es[j]?
 |[],i,j=>by cases i<;>cases j<;>simp[uf]
 |(a,b,born)::es,0,j=>by cases j<;>simp[uf]
 |e::es,i+1,j=>by
  cases j with
  |zero=>simp[uf]
  |succ j=>simp[uf,Xh k v es i j]
theorem acS (hT:dG P tt)(op:Op)(t:TypeId)(m k0 v0:Operand)(hop:op= .mapUpdate t m k0 v0\/op= .insert t m k0 v0):fC P tt op:=by
 intro ρ C st w k xs cls fr a o vs res ho hc hW hF hx hr;have hc:kG.alH tt t m k0 v0=some (k,xs,cls):=by rcases hop with rfl|rfl<;>simpa only[kG]using hc
 have hex:(execOp a.eval o).run P w=((Instr.mapUpdate t (a.eval m) (a.eval k0) (a.eval v0)).run P w).andThen λ_ w=>.ok .skip w:=by
   rcases hop with rfl|rfl<;>simp[execOp,ho]
 unfold kG.alH at hc;split at hc<;>first|(cases hc;done)|skip
 rename_i ti l fN hl;split at hc<;>first|(cases hc;done)|skip
 rename_i kt et hk;split at hc<;>first|(cases hc;done)|skip
 rename_i tk htk;obtain⟨d,hd,dP⟩:=(hT.at fN).und;rw[hk]at dP;rw[W7 dP]at hd;obtain⟨dk,hdk,Og⟩:=(hT.at htk).und;have key:∃pk,k= .mapSet pk/\xs=l/\pk.fits dk=true:=by
   split at hc<;>first|(cases hc;done)|skip
   all_goals
     rename_i h1;cases hc;refine⟨_,rfl,rfl,asV tk.k Og ?_⟩
   .exact .inr (.inl ⟨⟨_,h1⟩,rfl⟩)
   .exact .inr (.inr ⟨h1,rfl⟩)
   .exact .inl ⟨h1,rfl⟩
 obtain⟨pk,rfl,rfl,Pu⟩:=key;obtain⟨mm,kk,vv,rfl,h1,h2,h3⟩:=evs3 hl hF hx;have hck:∀e w,(Instr.checkKey e 10000 kt (a.eval k0)).run P w= .ok () w:=λe w=>QT hdk Pu e 9999 _ w
 simp only[aG.run,yW]at hr;split at hr<;>first|(cases hr;done)|skip
 rename_i b;split at hr<;>first|(cases hr;done)|skip
 rename_i es clock hb;obtain⟨_,he⟩:=h1.CJ;obtain⟨_,_,es',dN,hlen,pX⟩:=hW.live _ _ hb;have hE:Oj ρ st.next.toNat C es es'.toList:=⟨by simpa using hlen,λi e e' h1 h2=>pX i e e' h1 (by simpa using h2)⟩
 split at hr<;>first|(cases hr;done)|skip
 . rename_i i v hpk hf;simp only[H5]at hr;subst hr;obtain⟨r',hf',oe⟩:=HT Pu h2 hE hf;rcases oe with⟨e1,_⟩|⟨j',v',y,e1,e2,e3,_,e5⟩
   .cases e1
   . cases  e1;subst e2;obtain⟨e,_,hei,hek⟩:=afu hf;rw[Zq2]at hei;have hi:i<es'.size:=(by omega);have alU:es'[i]? =some es'[i]:=Zg1 hi;have aqu:=(pX i e es'[i] hei alU).1;have hsb:=abG h2 aqu hek 10000;have hE2:Oj ρ st.next.toNat C (uf kk vv es i) (es'.modify i λe=>{ e with key:=a.eval k0,val:=a.eval v0 }).toList:=by
        refine⟨?_,λj e e' g1 g2=> ?_⟩
        . have hsl:∀(es:List (AV×AV×Nat))(i:Nat),(uf kk vv es i).length=es.length:=by
            intro es;induction es with
            |nil=>intro i;cases i<;>rfl
            | cons e es ih=>intro i;cases i with
              |zero=>obtain⟨a,b,c⟩:=e;rfl
              |succ i=>simp[uf,ih i]
          rw[hsl];simpa using hlen
        . rw[Xh]at g1;simp only[Zi4,Zj1]at g2;by_cases hji:j=i
          .subst hji;rw[Zb6 rfl,hei]at g1;simp[alU]at g1 g2;subst g1;subst g2;exact⟨h2,h3,(pX j e es'[j] hei alU).2.2⟩
          .rw[Za7 hji]at g1;rw[Za7 (λe=>hji e.symm)]at g2;exact pX j e e' g1 g2
     obtain⟨jD,hE'⟩:=acR hW hb (QW:=clock) hE2;refine⟨.skip,undef,_,ρ,?_,.inr ⟨rfl,rfl⟩,λ_ _=>rfl,jD,aC.GJ,hE'⟩;rw[hex];simp only[Instr.mapUpdate,Sem.run_bind,bu hd,Result.andThen_ok,he,run_getObj_map dN,hck,run_findKey hdk hf',alU,Ze0,Ze8,Instr.keyThatStays,hsb,Zh1,Sem.run_pure,run_setObj_map dN]
 . rename_i hpk hf;simp only[H5]at hr;subst hr;obtain⟨r',hf',oe⟩:=HT Pu h2 hE hf;rcases oe with⟨_,e2⟩|⟨j',v',y,e1,_⟩
   . subst  e2;have hE2:Oj ρ st.next.toNat C (es++[(kk,vv,clock)]) (es'.push { key:=a.eval k0,val:=a.eval v0,born:=clock }).toList:=by
        refine⟨by simp[hlen],λj e e' g1 g2=> ?_⟩;simp only[Array.toList_push]at g2;rcases Zj2 j es.length with hj|hj
        .rw[Zc5 hj]at g1;rw[Zc5 (by simp;omega)]at g2;exact pX j e e' g1 (by simpa using g2)
        .rw[Zc4 hj]at g1;rw[Zc4 (by simp;omega)]at g2;have:j - es.length=0:=(by have:=(Za2.1 g1).1;simp at this;omega);rw[this]at g1;have:j - es'.toList.length=0:=(by simp;omega);rw[this]at g2;simp at g1 g2;subst g1;subst g2;exact⟨h2,h3,rfl⟩
     obtain⟨jD,hE'⟩:=acR hW hb (QW:=clock+1) hE2;refine⟨.skip,undef,_,ρ,?_,.inr ⟨rfl,rfl⟩,λ_ _=>rfl,jD,aC.GJ,hE'⟩;rw[hex];simp only[Instr.mapUpdate,Sem.run_bind,bu hd,Result.andThen_ok,he,run_getObj_map dN,hck,run_findKey hdk hf',run_setObj_map dN]
   .cases e1
end
section
variable{P:Program}{tt:TT}{ρ:Pos->Loc}{C:Cells}{st:St}{w w':World}
theorem bZ.of_heap(hW:bZ ρ C st w)(h:w'.heap=w.heap):bZ ρ C st w' where
 live b x hb:=let⟨h1,h2,h3⟩:=hW.live b x hb;⟨h1,by rw[h];exact h2,h3.of_heap (by rw[h])⟩
 inj:=hW.inj
 dW a v ha:=let⟨h1,h2⟩:=hW.dW a v ha;⟨by unfold World.cell? at h1 ⊢; rw[h];exact h1,h2⟩
 whole a v ha o ho:=by have:=hW.whole a v ha o ho;unfold World.cell? at this ⊢; rw[h];exact this
theorem aaT{es:Nat}:∀{xs:List (List AV)}(_h:∀(i:Nat)(cs:List AV),xs[i]? =some cs->cs.length=es)(q:Nat)(v:AV),
  xs.flatten[q]? =some v->∃cs,xs[q / es]? =some cs/\cs[q % es]? =some v
 |[],_,q,v,hv=>by simp at hv
 |c ::xs,h,q,v,hv=>by
  have hc:c.length=es:=h 0 c rfl;have su:∀(i:Nat)(cs:List AV),xs[i]? =some cs->cs.length=es:=λi cs hi=>h (i+1) cs (by simpa using hi)
  rw[Zf8]at hv;rcases Zj2 q c.length with hq|hq
  . rw[Zc5 hq]at hv;refine⟨c,?_,?_⟩
    .   rw[Nat.div_eq_of_lt (by omega)];rfl
    .   rw[Zl2 (by omega)];exact hv
  . rw[   Zc4 hq]at hv;obtain⟨cs,h1,h2⟩:=aaT su (q - c.length) v hv;rw[hc]at hq h1 h2;have Xf:0<es:=by
        rcases Zn4 es with h0|h0
        .subst h0;have hl:=su _ _ h1;have:=(Za2.1 h2).1;omega
        .exact h0
    refine⟨cs,?_,?_⟩
    .   rw[Nat.div_eq_sub_div Xf hq];simpa using h1
    .   rw[Zq7 hq];exact h2
theorem aaU{es:Nat}:∀{xs:List (List AV)}(_h:∀(i:Nat)(cs:List AV),xs[i]? =some cs->cs.length=es),xs.flatten.length=xs.length*es
 |[],_=>by simp
 |c::xs,h=>by have hc:c.length=es:=h 0 c rfl;rw[Zf8,Zd6,aaU (λi cs hi=>h (i+1) cs (by simpa using hi)),hc,Zc6,Zj7];omega
theorem wj(hW:bZ ρ C st w){es m:Nat}{u:AV}{x:Value}{new:List AV}{k:Nat}(hu:aC ρ st.next.toNat C u x)(hk:dV u=some k)(hmk:m<=k)(h:dF es m (λb=>st.heap.get b) u=some new)(w2:World)(tH:w2.heap=w.heap):
   ∃ys:List Value,(Builtin.firstCells es m x).run P w2= .ok ys.toArray w2/\aK ρ st.next.toNat C new ys/\(u= .af\/new.length=m*es):=by
 have hW2:=hW.of_heap (w':=w2) tH;unfold dF at h;split at h
 .simp only[H5]at h;subst h;rw[hu.iJ];exact⟨[],by simp[Builtin.firstCells],aK.nil,.inl rfl⟩
 . rename_i b off len cap es';simp only[dV,H5]at hk;subst hk;obtain⟨aa,br,he,hle,_,ha⟩:=hu.fM;rw[he];split at h
   .rename_i h0;have h0:=Za6 h0;simp only[H5]at h;subst h;exact⟨[],by simp[Builtin.firstCells,h0,loadCells,loadCellsFrom],aK.nil,.inr (by simp[h0])⟩
   .rename_i h0;have h0:=Zf3 h0;(split at h<;>first|(cases h;done)|skip);rename_i cs fz hb;have hm:m≠0:=(by intro e;subst e;simp at h0);obtain⟨_,rfl,_⟩:=ha (by omega);obtain⟨ys,h1,h2⟩:=hW2.loadCells (P:=P) hb h;exact⟨ys,by simp only[Builtin.firstCells];exact h1,h2,.inr (SD h)⟩
 . rename_i xs es';simp only[dV,H5]at hk;subst hk;(split at h<;>first|(cases h;done)|skip);rename_i he1 QX;have he1:=Za6 he1;have QX:=Zb5 QX;subst he1;simp only[H5]at h;subst h;obtain⟨aa,br,cell,he,hle,Bk,g1,g2,g3⟩:=hu.yZ;rw[he];have dN:∀(i:Nat)(cs:List AV),(xs.take m)[i]? =some cs->cs.length=es:=λi cs hi=>by
     rw[Ze4]at hi;split at hi
     .exact g1 i cs hi
     .cases hi
   have hfl:=aaU dN;rw[Zg3,Zk8 QX]at hfl;have asW:∀q v,(xs.take m).flatten[q]? =some v->∃cs,xs[q / es]? =some cs/\cs[q % es]? =some v:=λq v hv=>by
     obtain⟨cs,h1,h2⟩:=aaT dN q v hv;rw[Ze4]at h1;split at h1
     .exact⟨cs,h1,h2⟩
     .cases h1
   refine⟨(List.range (m*es)).map λq=>cell (q / es) (q % es),?_,⟨by simp[hfl],λq v y hv hy=> ?_⟩,.inr hfl⟩
   .simp only[Builtin.firstCells];(refine run_loadCells w2 _ _ _ λq hq=> ?_);have aW:q<(xs.take m).flatten.length:=(by rw[hfl];exact hq);obtain⟨cs,h1,h2⟩:=asW q _ (H0 aW);have Bk:=Bk (by intro e;rw[e]at h1;simp at h1);obtain⟨ab,ao,asp⟩:=aa;simp only at Bk;subst Bk;have:=(hW2.dW _ _ (g2 _ _ _ _ h1 h2)).1;rw[uR];simp only at this;rw[show ao+q=ao+q / es*es+q % es from by rw[Zk4,Nat.mul_comm,Nat.div_add_mod]];exact this
   .obtain⟨cs,h1,h2⟩:=asW q v hv;have hq:q<m*es:=(by rw[<-hfl];exact(Za2.1 hv).1);simp[hq]at hy;subst hy;exact g3 _ _ _ _ h1 h2
 . rename_i s;simp only[dV,H5]at hk;subst hk;(split at h<;>first|(cases h;done)|skip);rename_i he1 QX;have he1:=Za6 he1;have QX:=Zb5 QX;subst he1;simp only[H5]at h;subst h;obtain⟨bs,rfl,hs⟩:=hu.fB;refine⟨(s.take m).map λ(c:Nat)=>Value.int .u8 (.ofNat c),?_,⟨by simp,λq v y hv hy=> ?_⟩,.inr (by simp;omega)⟩
   .simp only[Builtin.firstCells,Sem.run_pure];congr 1;apply Zm4;simp only[Array.toList_map,ByteArray.data_extract,Zp5,List.extract,Ze5,Zq2];rw[<-hs, <-List.map_take,Zi1];rfl
   .simp only[Zb7,Zf6]at hv hy;obtain⟨c,hc,rfl⟩:=hv;obtain⟨c',hc',rfl⟩:=hy;rw[hc]at hc';cases hc';exact .int _ _
 .cases h
theorem ahE{n:Nat}{u:AV}{x:Value}{k:Nat}(hu:aC ρ n C u x)(hk:dV u=some k):(Builtin.lenOf x).run P w= .ok k w:=by
 unfold dV at hk;split at hk<;>first|(cases hk;done)|skip
 all_goals simp only[H5]at hk;subst hk
 .rw[hu.iJ];rfl
 .obtain⟨_,_,he,_⟩:=hu.fM;rw[he];rfl
 .obtain⟨_,_,_,he,_⟩:=hu.yZ;rw[he];rfl
 .obtain⟨bs,rfl,hs⟩:=hu.fB;rw[<-Mg hs];rfl
theorem afv(nl:Nat):∀(r c:Nat),c<=nl+(nl+768) / 4->Builtin.growBy nl r c<=nl+(nl+768) / 4
 |0,c,h=>h
 |r+1,c,h=>by
  unfold Builtin.growBy;split
  .exact h
  .exact afv nl r _ (by omega)
theorem nextslicecap_le{alV gW:Nat}(h:gW<alV):Builtin.nextslicecap alV gW<=2*alV+768:=by
 unfold Builtin.nextslicecap;split
 .omega
 . split
   .omega
   .have:=afv alV 4 gW (by omega);omega
theorem alW(hT:dG P tt){t t2 e:Nat}{ts:Array TypeId}{ti t2i te:TI}(fN:tt.get (key t)=some ti)(ht2:tt.get (key t2)=some t2i)(hk:ti.k= .slice e)(uC:∀k,t2i.k≠ .int k)
  (pM:tt.get (key e)=some te) (h0:ts[0]? =some t) (h1:ts[1]? =some t2) (ty:TypeId) (base:Option Addr) (n cap m:Nat) (x:Value) (w:World)
  (hx:(Builtin.lenOf x).run P w= .ok m w) (hb:(2*(n+m)+768)*te.bytes<=281474976710656) (hi:n+m<=9223372036854775807):
  (Builtin.append_ ts ty #[.slice base n cap,x]).run P w=
    if n+m<=cap then((Builtin.firstCells te.size m x).run P w).andThen λnew w=>((match base with|some a=>storeCells (a.add (n*te.size)) new.toList|none=>pure ()).run P w).andThen λ_ w=>.ok (.slice base (n+m) cap) w
    else((Builtin.firstCells te.size n (.slice base n cap)).run P w.drew).andThen λgW w1=>((Builtin.firstCells te.size m x).run P w1).andThen λnew w2=>((zeroValue e).run P w2).andThen λz w3=>
        .ok (.slice (some ⟨w3.heap.size,0,none⟩) (n+m) (grownCap w (n+m) cap e)) (w3.alloc (.cells (gW++new++Builtin.zeroCells z.cells (grownCap w (n+m) cap e - (n+m))) e)):=by
 obtain⟨d,hd,dP⟩:=(hT.at fN).und;rw[hk]at dP;rw[uj dP]at hd;obtain⟨d2,hd2,aqv⟩:=(hT.at ht2).und;obtain⟨i0,tG,vR,hib,_⟩:=(hT.at pM).info;have awh:∀k,d2≠ .int k:=by
  rintro k rfl;cases Og:t2i.k<;>rw[Og]at aqv<;>first|(simp[cF]at aqv;done)|exact absurd Og (uC _)
 have hmax:¬(((n+m:Nat):Int)>IntKind.i64.max):=by
  have:IntKind.i64.max=9223372036854775807:=by decide
  rw[this];omega
 have awi:¬(n+m<=cap)->¬(Builtin.nextslicecap (n+m) cap*te.bytes>2 ^ 48):=λhc=>by
  have h1:=nextslicecap_le (Nat.lt_of_not_le hc);have h2:=Zh4 te.bytes h1;have:(2:Nat) ^ 48=281474976710656:=by decide
  omega
 have ahz:∀q,(Question.appendCap (n+m) cap e).forced=q->q=false:=by rintro q rfl;rfl
 clear aqv;cases d2<;>first|(exact absurd rfl (awh _))|skip
 all_goals
  unfold Builtin.append_;simp only[h0,h1,List.getElem?_toArray,Za5,Zb4,Sem.run_bind,bu hd,Result.andThen_ok,mX tG,vR,bu hd2,Sem.run_pure,hx,Zf0,Zg7,Zk6,Zh1,Sem.run_ite];by_cases hc:n+m<=cap
  .rw[Zb6 hc,Zb6 hc];cases base<;>simp only[Sem.run_bind,Sem.run_pure,Result.andThen_ok]
  .rw[Za7 hc,Za7 hc];simp only[Sem.run_bind,aht tG,hib,Result.andThen_ok,hmax,false_and,Zg7,awi hc,run_choose,Question.forced,Zf0,World.drew_eq,run_askRoom,Sem.run_pure,newRow,run_newObj,World.alloc_eq];rfl
end
section
variable{P:Program}{tt:TT}{ρ:Pos->Loc}{C:Cells}{st:St}{w w':World}
theorem aqw{L:Loc}{cs:List AV}{n:Nat}(fz:Nat)(h:uh ρ n C L w' (.cells cs 0)):uh ρ n C L w' (.cells cs fz):=
 let⟨c,e,fr,h1,h2,h3,h4,h5⟩:=h
 ⟨c,e,fr,h1,h2,h3,h4,λi _ hi=>h5 i (Zi0 _) hi⟩
theorem alX(hW:bZ ρ C st w)(del:Option Pos)(fz:Nat){gW new rest:List Value}{ol nl:List AV}{e:TypeId}{n m es br:Nat}(h1:aK ρ st.next.toNat C ol gW)(h2:aK ρ st.next.toNat C nl new)
  (On:ol.length=n*es) (hln:nl.length=m*es) (hr:rest.length=(br - (n+m))*es) (hc:n+m<=br) {w2:World} (tH:w2=w.drew.alloc (.cells (gW++new++rest).toArray e)):
  ∃ρ':Pos->Loc,(∀b:Pos,b.toNat<st.next.toNat->ρ' b=ρ b)/\bZ ρ' C (st.bk del none (some (.cells (ol++nl) fz))) w2/\pg ρ st w ρ' (st.bk del none (some (.cells (ol++nl) fz))) w2/\
   aC ρ' (st.bk del none (some (.cells (ol++nl) fz))).next.toNat C (.slice st.next 0 (n+m) none es) (.slice (some ⟨w.heap.size,0,none⟩) (n+m) br):=by
 subst tH;have hl1:gW.length=n*es:=by rw[<-h1.1,On]
 have sx:new.length=m*es:=by rw[<-h2.1,hln]
 have gw:(gW++new++rest).length=br*es:=by simp only[Zd6,hl1,sx,hr];rw[<-Zj7, <-Zj7];congr 1;omega
 obtain ⟨ρ',bF,jz,jD,hE⟩:=QU (w':=w.drew.alloc (.cells (gW++new++rest).toArray e)) (o:= .cells (gW++new++rest).toArray e) (x0:= .cells (ol++nl) fz) (base:=0) (size:=(gW++new++rest).toArray.size) hW del rfl rfl rfl rfl (λρ' n' bF hn=>
  aqw   fz <| CL (e:=e) (fr:=(0,0)) (by show(w.heap.push _)[w.heap.size]? =_;simp) (by simp[On,hln,hl1,sx])
   (by
        have:(gW++new++rest).toArray.toList.take (ol++nl).length=gW++new:=by
         rw[Zs0 (by simp[On,hln,hl1,sx])]
        rw[this];exact(h1.append h2).mono bF hn) (λi _=>by simp))
 refine⟨ρ',bF,jD,hE,Om (by simp[St.bk,Pos.aF]) jz hc (λc hc=>by cases hc) (by simp only[Zo0,gw];exact Za3 _)⟩
theorem agv(z:Array Value)(m:Nat):(Builtin.zeroCells z m).toList.length=m*z.size:=by simp[Builtin.zeroCells]
theorem aqx{m:Nat}(h:Nat.beq m 0=false):m≠0:=Zf3 h
theorem alY (hT:dG P tt){t t2 e:Nat}{ts:Array TypeId}{ti t2i te:TI}{z:List AV}(fN:tt.get (key t)=some ti)(ht2:tt.get (key t2)=some t2i)(hk:ti.k= .slice e)(uC:∀k,t2i.k≠ .int k)
   (pM:tt.get (key e)=some te) (hz:te.zero=some z) (h0:ts[0]? =some t) (h1:ts[1]? =some t2) (ty:TypeId) {s u:AV} {xs xu:Value} {res:eO} (hW:bZ ρ C st w)
   (hs:aC ρ st.next.toNat C s xs) (hu:aC ρ st.next.toNat C u xu) (hr:iE (λb=>st.heap.get b) st.next te.size te.bytes [s,u]=some res):
   HF P ρ C st w (((Builtin.append_ ts ty #[xs,xu]).run P w).andThen λv w=>.ok (.value v) w) res:=by
 simp only[iE]at hr;split at hr<;>first|(cases hr;done)|skip
 rename_i n m hn hm;split at hr<;>first|(cases hr;done)|skip
 rename_i b1 b2;have b1:=Zb5 b1;have b2:=Zb5 b2;have hlen:=ahE (P:=P) (w:=w) hu hm;obtain⟨i0,tG,vR,_,Ol⟩:=(hT.at pM).info;obtain⟨zv0,hzv0,_,hzl,_⟩:=Ol z hz;have hzr:=λw=>GH hT pM hz (ρ:=ρ) (n:=st.next.toNat) (C:=C) w
 have hsl:∃base br,xs= .slice base n br/\n<=br:=by
   unfold dV at hn;split at hn<;>first|(cases hn;done)|skip
   .cases hn;exact⟨none,0,hs.iJ,Za3 _⟩
   .cases hn;obtain⟨a,c,he,hle,_⟩:=hs.fM;exact⟨_,c,he,hle⟩
   .cases hn;obtain⟨a,c,_,he,hle,_⟩:=hs.yZ;exact⟨_,c,he,hle⟩
   .rename_i s';exfalso;cases hbm:Nat.beq m 0<;>simp[hbm]at hr
 obtain⟨base,br,su,hle⟩:=hsl;have dO:=alW hT fN ht2 hk uC pM h0 h1 ty base n br m xu w hlen b1 b2;rw[su,dO];have hg:∀c,n+m<=grownCap w (n+m) c e:=λc=>by unfold grownCap Question.cut;exact Nat.le_add_right _ _
 have abH:∀(del:Option Pos)(fz:Nat)(ol nl:List AV),¬(n+m<=br)->dF te.size n (λb=>st.heap.get b) s=some ol->dF te.size m (λb=>st.heap.get b) u=some nl->ol.length=n*te.size->nl.length=m*te.size->
     HF P ρ C st w ((if n+m<=br then((Builtin.firstCells te.size m xu).run P w).andThen λnew w=>((match base with|some a=>storeCells (a.add (n*te.size)) new.toList|none=>pure ()).run P w).andThen λ_ w=>.ok (.slice base (n+m) br) w
     else((Builtin.firstCells te.size n (.slice base n br)).run P w.drew).andThen λgW w1=>((Builtin.firstCells te.size m xu).run P w1).andThen λnew w2=>((zeroValue e).run P w2).andThen λz w3=>
        .ok (.slice (some ⟨w3.heap.size,0,none⟩) (n+m) (grownCap w (n+m) br e)) (w3.alloc (.cells (gW++new++Builtin.zeroCells z.cells (grownCap w (n+m) br e - (n+m))) e))).andThen λv w=>.ok (.value v) w)
        (.bk (.slice st.next 0 (n+m) none te.size) del none (some (.cells (ol++nl) fz))):=by
   intro del fz ol nl hc ho tI On hln;obtain⟨gW,e1,e2,_⟩:=wj (P:=P) hW hs hn (Za3 _) ho w.drew rfl;obtain⟨new,e3,e4,_⟩:=wj (P:=P) hW hu hm (Za3 _) tI w.drew rfl;obtain⟨zv,U2,_,FW⟩:=hzr w.drew;rw[su]at e1;have ag6:(Builtin.zeroCells zv.cells (grownCap w (n+m) br e - (n+m))).toList.length=(grownCap w (n+m) br e - (n+m))*te.size:=(by rw[agv];congr 1;have:=FW.1;simp at this;omega);obtain⟨ρ',bF,jD,hE,hv⟩:=alX hW del fz e2 e4 On hln ag6 (hg br) (e:=e) rfl;refine⟨_,_,_,ρ',?_,Yields.value _,bF,jD,hv,hE⟩;rw[Za7 hc];simp only[e1,e3,U2,Result.andThen_ok,World.size_drew];congr 2;simp
 have hlu:∀nl,dF te.size m (λb=>st.heap.get b) u=some nl->m≠0->nl.length=m*te.size:=by
   intro nl tI hm0;obtain⟨_,_,_,h⟩:=wj (P:=P) hW hu hm (Za3 _) tI w rfl;rcases h with rfl|h
   .simp[dV]at hm;omega
   .exact h
 have hls:∀ol,dF te.size n (λb=>st.heap.get b) s=some ol->ol.length=n*te.size:=by
   intro ol HV;obtain⟨ys,_,Ao,h⟩:=wj (P:=P) hW hs hn (Za3 _) HV w rfl;rcases h with rfl|h
   .simp[dV]at hn;subst hn;simp[dF]at HV;subst HV;simp
   .exact h
 have hzero:m=0->aC ρ st.next.toNat C s xs->HF P ρ C st w ((if n+m<=br then((Builtin.firstCells te.size m xu).run P w).andThen λnew w=>((match base with|some a=>storeCells (a.add (n*te.size)) new.toList|none=>pure ()).run P w).andThen λ_ w=>.ok (.slice base (n+m) br) w
     else((Builtin.firstCells te.size n (.slice base n br)).run P w.drew).andThen λgW w1=>((Builtin.firstCells te.size m xu).run P w1).andThen λnew w2=>((zeroValue e).run P w2).andThen λz w3=>
        .ok (.slice (some ⟨w3.heap.size,0,none⟩) (n+m) (grownCap w (n+m) br e)) (w3.alloc (.cells (gW++new++Builtin.zeroCells z.cells (grownCap w (n+m) br e - (n+m))) e))).andThen λv w=>.ok (.value v) w) (.val s):=by
   rintro rfl hsx;have hf:(Builtin.firstCells te.size 0 xu).run P w= .ok #[] w:=by
     unfold dV at hm;split at hm<;>first|(cases hm;done)|skip
     .  rw[hu.iJ];simp[Builtin.firstCells]
     .  obtain⟨_,_,he,_⟩:=hu.fM;rw[he];simp[Builtin.firstCells,loadCells,loadCellsFrom]
     .  obtain⟨_,_,_,he,_⟩:=hu.yZ;rw[he];simp[Builtin.firstCells,loadCells,loadCellsFrom]
     .  obtain⟨bs,rfl,_⟩:=hu.fB;simp only[Builtin.firstCells,Sem.run_pure];congr 1;apply Zm4;simp
   rw[su]at hsx;refine .pure (x:= .slice base n br) ?_ hsx;rw[Zb6 (by omega),hf];cases base<;>simp[storeCells]
 split at hr<;>first|(cases hr;done)|skip
 .rename_i DQ;simp only[H5]at hr;subst hr;exact hzero (Za6 DQ) hs
 .rename_i DQ;simp only[H5]at hr;subst hr;exact hzero (Za6 DQ) hs
 .rename_i DQ;simp only[H5]at hr;subst hr;exact hzero (Za6 DQ) hs
 ·
   rename_i DQ;have DQ:=aqx DQ;(split at hr<;>first|(cases hr;done)|skip);rename_i new tI;simp only[H5]at hr;subst hr;have he:=hs.iJ;rw[he]at su;simp only[Value.slice.injEq]at su;obtain⟨rfl,rfl,rfl⟩:=su;have:=abH none 0 [] new (by omega) rfl tI (by simp) (hlu new tI DQ);simpa using this
 ·
   rename_i b off n' c es' DQ;have DQ:=aqx DQ;simp only[dV,H5]at hn;subst hn;obtain⟨aa,cc,he,hlec,hcc,ha⟩:=hs.fM;rw[he]at su;simp only[Value.slice.injEq]at su;obtain⟨rfl,_,rfl⟩:=su;have:=hcc c rfl;subst this;split at hr
   . rename_i uS;have uS:=Zb5 uS;(split at hr<;>first|(cases hr;done)|skip);rename_i cs fz new hb tI;(split at hr<;>first|(cases hr;done)|skip);rename_i c1 c2 c3;have c1:=Zb5 c1;simp only[Zb1]at c2;have c2a:=Zb5 c2.1;have c2b:=Za6 c2.2;subst c2b;simp only[H5]at hr;subst hr;obtain⟨aW,rfl,hbound⟩:=ha (by omega);obtain⟨ys,e1,e2,_⟩:=wj (P:=P) hW hu hm (Za3 _) tI w rfl;have SK:=hlu new tI DQ;obtain⟨w2,e3,jD,hE⟩:=SJ (P:=P) hW hb (by rw[SK];rw[Zj7]at c1;omega) c2a c3 e2;refine⟨_,.slice (some ⟨(ρ b).aM,(ρ b).base+off,none⟩) (n'+m) c,w2,ρ,?_,Yields.value _,λ_ _=>rfl,jD,?_,hE⟩
     .  rw[Zb6 uS,e1];simp only[Result.andThen_ok,uR];rw[Zk4,e3];rfl
     .  exact .slice _ _ _ _ _ _ _ uS (λc hc=>by cases hc;rfl) (λ_=>⟨aW,rfl,hbound⟩) (λh=>by cases h)
   . rename_i uS;have uS:¬(n'+m<=c):=λh=>by rw[Nat.ble_eq_true_of_le h]at uS;cases uS
     (split at hr<;>first|(cases hr;done)|skip);rename_i gW new HV tI;simp only[H5]at hr;subst hr;exact abH none 0 gW new uS HV tI (hls gW HV) (hlu new tI DQ)
 ·
   rename_i b off n' es' DQ;have DQ:=aqx DQ;simp only[dV,H5]at hn;subst hn;(split at hr<;>first|(cases hr;done)|skip);rename_i cs fz gW new hb HV tI;(split at hr<;>first|(cases hr;done)|skip);rename_i c2 c3;simp only[Zb1]at c2;have c2a:=Zb5 c2.1;have c2b:=Za6 c2.2;subst c2b;simp only[H5]at hr;subst hr;by_cases uS:n'+m<=br
   ·
     obtain ⟨aa,cc,he,hlec,hcc,ha⟩:=hs.fM;rw[he]at su;simp only[Value.slice.injEq]at su;obtain⟨rfl,_,rfl⟩:=su;obtain⟨aW,rfl,hbound⟩:=ha (by omega);obtain⟨ys,e1,e2,_⟩:=wj (P:=P) hW hu hm (Za3 _) tI w rfl;have SK:=hlu new tI DQ;have asX:=hls gW HV;obtain⟨ze,HS,c,ce,fr,g1,g2,g3,g4,g5⟩:=hW.live b _ hb;have hmul:(n'+m)*te.size<=cc*te.size:=Zh4 _ uS;have hmul2:(n'+m)*te.size=n'*te.size+m*te.size:=Zj7 _ _ _;have hyl:ys.length=m*te.size:=(by rw[<-e2.1,SK]);have hold:aK ρ st.next.toNat C gW ((c.toList.drop ((ρ b).base+off)).take (n'*te.size)):=by
        simp only[dF]at HV;split at HV
        .rename_i hz0;have hz0:=Za6 hz0;simp only[H5]at HV;subst HV;rw[hz0];simpa using(aK.nil:aK ρ st.next.toNat C [] [])
        . rw[hb]at HV;simp only at HV;obtain⟨ho1,Mj⟩:=acM HV;have h:=(g4.drop off).take (n'*te.size);rw[<-ho1]at h;have:List.take (n'*te.size) (List.drop off (List.take cs.length (List.drop (ρ b).base c.toList)))=(c.toList.drop ((ρ b).base+off)).take (n'*te.size):=by
            rw[Zn9,List.take_take,Zl3,Zk8 (by omega)]
          rw[this]at h;exact h
     obtain⟨w2,s1,s2,s3,s4,s5,s6,s7⟩:=xW (P:=P) (ρ b).aM ce fr ys 0 ((ρ b).base+off+n'*te.size) c w g1 (by omega) (SH c3 e2) (λk hk ri=>by
        have:=g5 (k - (ρ b).base) (by omega) (by omega)
        rwa [show(ρ b).base+(k - (ρ b).base)=k from by omega]at this)
     simp only[Zf7]at s1 s2
     let ρ':Pos->Loc:=λq=>if q=st.next then⟨(ρ b).aM,(ρ b).base+off,(ρ b).size⟩else ρ q
     have bF:∀q:Pos,q.toNat<st.next.toNat->ρ' q=ρ q:=λq hq=>Za7 (λe=>by rw[e]at hq;omega)
     have jz:ρ' st.next=⟨(ρ b).aM,(ρ b).base+off,(ρ b).size⟩:=Zb6 rfl;have hcl:c.toList.length=c.size:=(by simp);have hWn:bZ ρ' C (st.bk (some b) none (some (.cells (gW++new) (fz - off)))) w2:=by
        refine hW.alK (b0:=st.next) (x0:= .cells (gW++new) (fz - off)) (by rw[Pos.aF];omega) (by rw[Pos.aF];omega) (by rw[T.gU]) ?_ bF ?_ ?_ (by rw[jz,s3];exact HS) (by omega) (λk hk ri=>s4 k (by rw[jz]at ri;exact ri))
        .intro q x hq hx;rw[T.cC _ (λe=>hq e.symm)]at hx;obtain⟨h1,h2⟩:=SG (some b) _ hx;refine⟨h1,?_⟩;rw[jz];exact λe=>h2 b rfl (hW.inj _ _ _ _ h1 hb e)
        . rw[jz];refine⟨_,ce,fr,s2,by simp[aU];omega,by simp[aU,asX,SK];omega,?_,λi tG hi=> ?_⟩
          . (simp only;rw[Px _ _ _ _ (by omega)];have htk:(aU (c.toList.drop ((ρ b).base+off)) (n'*te.size) ys).take (gW++new).length=(c.toList.drop ((ρ b).base+off)).take (n'*te.size)++ys:=by unfold aU;rw[<-Zf5,Zs0];simp[asX,SK,hyl];omega);rw[htk];exact(hold.append e2).mono bF (by rw[Pos.aF];omega)
          . have QV:(ρ b).base+off+i<c.size:=(by simp only[Zo0]at hi;have:(aU c.toList ((ρ b).base+off+n'*te.size) ys).length=c.size:=(by simp[aU];omega);omega);have:=g5 (off+i) (by omega) (by omega);simp only
            rwa [<-Zk4]at this
        .intro ad v hv;rw[jz];exact λe=>(hW.dW ad v hv).2 b _ hb e.symm
     refine⟨_,(.slice (some ⟨(ρ b).aM,(ρ b).base+off,none⟩) (n'+m) cc),w2,ρ',?_,Yields.value _,bF,hWn,?_,⟨s5,s6,s7,by omega,λk _ hk=>s4 k (λe=>hk b _ hb e.symm),λq x hx=> ?_⟩⟩;rotate_left;rotate_left
     .  left;by_cases hq:q=st.next
        .exact⟨b,_,hb,by rw[hq,jz]⟩
        .simp only[St.bk,Pt]at hx;rw[T.cC _ (λe=>hq e.symm)]at hx;obtain⟨h1,_⟩:=SG (some b) _ hx;exact⟨q,x,h1,by rw[bF q (hW.live q x h1).1]⟩
     .  rw[Zb6 uS,e1];simp only[Result.andThen_ok,uR];rw[s1];rfl
     .  refine .slice _ _ _ _ _ _ _ uS (λc hc=>by cases hc) (λ_=>⟨by simp[St.bk,Pos.aF],by rw[jz];rfl,?_⟩) (λ_=>by simp[St.bk,Pos.aF]);rw[jz];simp only;omega
   .exact abH (some b) _ gW new uS HV tI (hls gW HV) (hlu new tI DQ)
end
section
variable{P:Program}{tt:TT}{ρ:Pos->Loc}{C:Cells}{st:St}{w w':World}
theorem acT{n:Nat}{xs:Array Value}{u v:AV}(h:aK ρ n C [u,v] xs.toList):∃x y,xs= #[x,y]/\aC ρ n C u x/\aC ρ n C v y:=by
 obtain⟨x,l,h1,h2,h3⟩:=h.cons_inv;obtain⟨y,l',h4,h5,h6⟩:=h3.cons_inv;have:=h6.kO;subst this;exact⟨x,y,by apply Zm4;rw[h1,h4],h2,h5⟩
theorem an0{n:Nat}{xs:Array Value}{u:AV}(h:aK ρ n C [u] xs.toList):∃x,xs= #[x]/\aC ρ n C u x:=by
 obtain⟨x,l,h1,h2,h3⟩:=h.cons_inv;have:=h3.kO;subst this;exact⟨x,by apply Zm4;rw[h1],h2⟩
theorem alZ{ts:Array TypeId}{t:TypeId}{l:List TypeId}(h:ts.toList=t::l):ts[0]? =some t:=by rw[<-Zi4,h];rfl
theorem arr1{ts:Array TypeId}{t t2:TypeId}{l:List TypeId}(h:ts.toList=t::t2::l):ts[1]? =some t2:=by rw[<-Zi4,h];rfl
theorem aqy(hT:dG P tt){t e:Nat}{ts:Array TypeId}{ti te:TI}(fN:tt.get (key t)=some ti)(hk:ti.k= .slice e)
   (pM:tt.get (key e)=some te) (h0:ts[0]? =some t) (ty:TypeId) {d u:AV} {xd xu:Value} {res:eO} (hW:bZ ρ C st w)
   (hd:aC ρ st.next.toNat C d xd) (hu:aC ρ st.next.toNat C u xu) (hr:pW (λb=>st.heap.get b) st.next te.size [d,u]=some res):
   HF P ρ C st w (((Builtin.copy_ ts ty #[xd,xu]).run P w).andThen λv w=>.ok (.value v) w) res:=by
 obtain⟨dd,hdd,dP⟩:=(hT.at fN).und;rw[hk]at dP;rw[uj dP]at hdd;obtain⟨i0,tG,vR,_⟩:=(hT.at pM).info;simp only[pW]at hr;split at hr<;>first|(cases hr;done)|skip
 rename_i n m hn hm;have hlen:=ahE (P:=P) (w:=w) hu hm;have hsl:(∃s,d= .str s)\/∃base br,xd= .slice base n br/\n<=br:=by
   unfold dV at hn;split at hn<;>first|(cases hn;done)|skip
   .cases hn;exact .inr ⟨none,0,hd.iJ,Za3 _⟩
   .cases hn;obtain⟨a,c,he,hle,_⟩:=hd.fM;exact .inr ⟨_,c,he,hle⟩
   .cases hn;obtain⟨a,c,_,he,hle,_⟩:=hd.yZ;exact .inr ⟨_,c,he,hle⟩
   .exact .inl ⟨_,rfl⟩
 have avk:m=0\/n=0->(Builtin.firstCells te.size 0 xu).run P w= .ok #[] w:=by
   intro _;unfold dV at hm;split at hm<;>first|(cases hm;done)|skip
   .rw[hu.iJ];simp[Builtin.firstCells]
   .obtain⟨_,_,he,_⟩:=hu.fM;rw[he];simp[Builtin.firstCells,loadCells,loadCellsFrom]
   .obtain⟨_,_,_,he,_⟩:=hu.yZ;rw[he];simp[Builtin.firstCells,loadCells,loadCellsFrom]
   .obtain⟨bs,rfl,_⟩:=hu.fB;simp only[Builtin.firstCells,Sem.run_pure];congr 1;apply Zm4;simp
 have vQ:∀base br,xd= .slice base n br->(Builtin.copy_ ts ty #[xd,xu]).run P w=((Builtin.firstCells te.size (Nat.min m n) xu).run P w).andThen λcells w=>((match base with|some a=>storeCells a cells.toList|none=>pure ()).run P w).andThen λ_ w=>.ok (goInt (Nat.min m n)) w:=by
   intro base br he;unfold Builtin.copy_;simp only[h0,he,List.getElem?_toArray,Za5,Zb4,Sem.run_bind,bu hdd,Result.andThen_ok,mX tG,vR,hlen];cases base<;>simp only[Sem.run_bind,Sem.run_pure,Result.andThen_ok]
 split at hr
 . rename_i tJ;have tJ:=Za6 tJ;(split at hr<;>first|(cases hr;done)|skip);rename_i hns;simp only[H5]at hr;subst hr;rcases hsl with⟨s,rfl⟩|⟨base,br,he,hle⟩
   .exact absurd rfl (hns s)
   .have hk0':Nat.min m n=0:=tJ;refine .pure (x:=goInt 0) ?_ (.int _ _);rw[vQ base br he,hk0',avk (by have:min m n=0:=tJ;omega)];cases base<;>simp[storeCells]
 . rename_i tJ;have tJ:=Zf3 tJ;(split at hr<;>first|(cases hr;done)|skip);rename_i b off n' cap es';(split at hr<;>first|(cases hr;done)|skip);rename_i cs fz new hb tI;(split at hr<;>first|(cases hr;done)|skip);rename_i c1 c2 c3;have c1:=Zb5 c1;have c2:=Zb5 c2;simp only[H5]at hr;subst hr;simp only[dV,H5]at hn;subst hn;obtain⟨aa,br,he,hle,_,ha⟩:=hd.fM;have al0:min m n'<=m/\min m n'<=n':=⟨Nat.min_le_left _ _,Nat.min_le_right _ _⟩
   obtain⟨aW,rfl,_⟩:=ha (by omega);obtain⟨ys,e1,e2,e3⟩:=wj (P:=P) hW hu hm al0.1 tI w rfl;have SK:new.length=min m n'*te.size:=by
     rcases e3 with rfl|e3
     .simp[dV]at hm;omega
     .exact e3
   obtain⟨w2,f1,jD,hE⟩:=SJ (P:=P) hW hb (by rw[SK];exact c1) c2 c3 e2;refine⟨_,goInt ((min m n':Nat):Int),w2,ρ,?_,Yields.value _,λ_ _=>rfl,jD,.int _ _,hE⟩;rw[vQ _ _ he];have hmm:Nat.min m n'=min m n':=rfl;rw[hmm,e1];simp only[Result.andThen_ok];rw[f1];rfl
theorem atw(hT:dG P tt){t:Nat}{ts:Array TypeId}{ti:TI}(fN:tt.get (key t)=some ti){k:LK}(hk:(k= .s/\ti.k= .string)\/(k= .l/\∃e,ti.k= .slice e)\/(k= .m/\∃a b,ti.k= .map a b))
   (h0:ts[0]? =some t) (ty:TypeId) {u:AV} {xu:Value} {res:eO} (hW:bZ ρ C st w)
   (hu:aC ρ st.next.toNat C u xu) (hr:Qz (λb=>st.heap.get b) st.next k [u]=some res):
   HF P ρ C st w (((Builtin.len_ ts ty #[xu]).run P w).andThen λv w=>.ok (.value v) w) res:=by
 obtain⟨d,hd,dP⟩:=(hT.at fN).und;have vQ:∀x,xu=x->(Builtin.len_ ts ty #[xu]).run P w=(Builtin.len_ ts ty #[x]).run P w:=λx e=>by rw[e]
 simp only[Qz]at hr;rcases hk with⟨rfl,hk⟩|⟨rfl,e,hk⟩|⟨rfl,a,b,hk⟩<;>rw[hk]at dP
 .rw[vP dP]at hd;(cases u<;>simp only[reduceCtorEq]at hr<;>first|(cases hr;done)|skip);simp only[H5]at hr;subst hr;obtain⟨bs,rfl,hs⟩:=hu.fB;exact .pure (x:=goInt bs.size) (by unfold Builtin.len_;simp[h0,bu hd]) (by rw[Mg hs];exact .int _ _)
 . rw[uj dP]at hd;cases u<;>simp only[reduceCtorEq]at hr<;>first|(cases hr;done)|skip
   .simp only[H5]at hr;subst hr;rw[hu.iJ];exact .pure (x:=goInt 0) (by unfold Builtin.len_;simp[h0,bu hd]) (.int _ _)
   .simp only[H5]at hr;subst hr;obtain⟨aa,c,he,_⟩:=hu.fM;rw[he];exact .pure (by unfold Builtin.len_;simp[h0,bu hd];rfl) (.int _ _)
   .simp only[H5]at hr;subst hr;obtain⟨aa,c,_,he,_⟩:=hu.yZ;rw[he];exact .pure (by unfold Builtin.len_;simp[h0,bu hd];rfl) (.int _ _)
 . rw[W7 dP]at hd;cases u<;>simp only[reduceCtorEq]at hr<;>first|(cases hr;done)|skip
   .simp only[H5]at hr;subst hr;rw[hu.GG];exact .pure (x:=goInt 0) (by unfold Builtin.len_;simp[h0,bu hd]) (.int _ _)
   . (split at hr<;>first|(cases hr;done)|skip);rename_i es c hb;simp only[H5]at hr;subst hr;obtain⟨_,he⟩:=hu.CJ;obtain⟨_,_,es',dN,hlen,_⟩:=hW.live _ _ hb;rw[he];exact .pure (x:=goInt es'.size) (by unfold Builtin.len_;simp[h0,bu hd,run_getObj_map dN]) (by rw[<-hlen];exact .int _ _)
theorem ael(z:Array Value)(m:Nat):(Builtin.zeroCells z m).toList=bW z.toList m:=by
 unfold Builtin.zeroCells;by_cases h:0<z.size
 .exact ahC z m h
 .have h0:z.size=0:=(by omega);have:z= #[]:=Zo9 h0;subst this;have h1:bW ([]:List Value) m=[]:=Zc2 (by rw[mh];simp);simp[h1]
theorem an1(hT:dG P tt){t e:Nat}{ts:Array TypeId}{ti te:TI}{z:List AV}(fN:tt.get (key t)=some ti)(hk:ti.k= .slice e)
   (pM:tt.get (key e)=some te) (hz:te.zero=some z) (h0:ts[0]? =some t) (ty:TypeId) {u:AV} {xu:Value} {res:eO} (hW:bZ ρ C st w)
   (hu:aC ρ st.next.toNat C u xu) (hr:tD (λb=>st.heap.get b) st.next te.size z [u]=some res):
   HF P ρ C st w (((Builtin.clear_ ts ty #[xu]).run P w).andThen λv w=>.ok (.value v) w) res:=by
 obtain⟨dd,hdd,dP⟩:=(hT.at fN).und;rw[hk]at dP;rw[uj dP]at hdd;obtain⟨i0,tG,vR,_,Ol⟩:=(hT.at pM).info;obtain⟨zv0,_,_,hzl,_⟩:=Ol z hz;obtain⟨zv,U2,_,FW⟩:=GH hT pM hz (ρ:=ρ) (n:=st.next.toNat) (C:=C) w;simp only[tD]at hr;split at hr<;>first|(cases hr;done)|skip
 .simp only[H5]at hr;subst hr;rw[hu.iJ];exact .pure (x:=undef) (by unfold Builtin.clear_;simp[h0,bu hdd];rfl) aC.GJ
 . rename_i b off n cap es';obtain⟨aa,br,he,hle,_,ha⟩:=hu.fM;rw[he];split at hr
   .rename_i QY;have:=Za6 QY;subst this;simp only[H5]at hr;subst hr;exact .pure (x:=undef) (by unfold Builtin.clear_;simp[h0,bu hdd];rfl) aC.GJ
   . rename_i QY;have QY:=Zf3 QY;(split at hr<;>first|(cases hr;done)|skip);rename_i cs fz hb;(split at hr<;>first|(cases hr;done)|skip);rename_i c1 c2 c3;have c1:=Zb5 c1;have c2:=Zb5 c2;simp only[H5]at hr;subst hr;obtain⟨_,rfl,_⟩:=ha (by omega);obtain⟨w2,f1,jD,hE⟩:=SJ (P:=P) hW hb (vs:=bW z n) (ys:=bW zv.cells.toList n) (by rw[mh,hzl];exact c1) c2 c3 (Pv FW n);refine⟨_,undef,w2,ρ,?_,Yields.value _,λ_ _=>rfl,jD,aC.GJ,hE⟩;unfold Builtin.clear_;cases n with
     |zero=>exact absurd rfl QY
     |succ n=>simp[h0,bu hdd,U2,ael,f1,undef]
theorem QZ(c:Call)(f:Operand)(hc:c.callee= .value f)(a:Act)(o:Oper)(ho:o.op= .call c){g:FuncId}{x y:Array Value}(he:a.eval f= .func (.func g) x y):
  (execOp a.eval o).run P w=(callFunc g (x++c.args.map a.eval++y)).run P w:=by
 simp[execOp,ho,resolve,hc,he,Deferred.ofValue,invoke]
theorem aqz (hT:dG P tt) (c:Call):fC P tt (.call c):=by
 intro ρ C st w k xs cls fr a o vs res ho hc hW hF hx hr;simp only[kG]at hc;split at hc<;>first|(cases hc;done)|skip
 rename_i l hl;split at hc<;>first|(cases hc;done)|skip
 ·
  rename_i g ahF;cases hc;have hv:=jd hl hF hx;simp only[aG.run,abA,H5]at hr;subst hr;refine⟨c.args.toList.map a.eval,?_,hv⟩;rw[QZ c _ ahF a o ho (g:=g) (x:= #[]) (y:= #[]) rfl];congr 2;apply Zm4;simp
 ·
  rename_i f hnf ahF;split at hc<;>first|(cases hc;done)|skip
  rename_i ao hao;cases hc;unfold gu at hx;split at hx<;>first|(cases hx;done)|skip
  rename_i fv hfv;split at hx<;>first|(cases hx;done)|skip
  rename_i vs' aqA;simp only[H5]at hx;subst hx;have h1:=Cc hao hF hfv;have h2:=jd hl hF aqA;simp only[aG.run,abB]at hr;split at hr<;>first|(cases hr;done)|skip
  rename_i g first captured
  simp only[H5]at hr;subst hr;obtain⟨x,y,he,hx,hy⟩:=h1.Sw;refine⟨x.toList++(c.args.toList.map a.eval++y.toList),?_,hx.append (h2.append hy)⟩;rw[QZ c f ahF a o ho he];congr 2;apply Zm4;simp
 ·
  rename_i b ahF;have hex:∀(s:Sem Value),(∀consts,builtin b c.argTypes o.type consts (c.args.map a.eval)=(do pure (.value (<-s))))->(execOp a.eval o).run P w=(s.run P w).andThen λv w=>.ok (.value v) w:=by intro s hs;simp only[execOp,ho,resolve,ahF,pure_bind,invoke];rw[hs];simp
  split at hc<;>first|(cases hc;done)|skip
  ·
   (split at hc<;>first|(cases hc;done)|skip);rename_i t _ _ uT;(split at hc<;>first|(cases hc;done)|skip);rename_i ti fN;have hv:=jd hl hF (vs:=vs) (by
        split at hc<;>first|(cases hc;done)|skip
        all_goals cases hc;exact hx)
   rw[pN] at hv;rw[hex (Builtin.len_ c.argTypes o.type (c.args.map a.eval)) (λ_=>rfl)];have hu:∃u,vs=[u]      :=by
        have h1:=hv.1;have h2:(c.args.toList).length=1:=by
         have: ∀{xs:List   Operand}{os:List iy},mW xs=some os->xs.length=os.length:=by
            intro xs;induction xs with
            |nil=>intro os h;simp[mW]at h;subst h;rfl
            |cons x xs ih=>intro os h;unfold mW at h;split at h<;>first|(cases h;done)|skip
                           rename_i e1 e2;simp only[H5]at h;subst h;simp[ih e2]
         rw[this hl];rfl
        match vs,h1 with
        |[u],_=>exact⟨u,rfl⟩
        |[],h1=>simp at h1 h2;omega
        |_::_::_,h1=>simp at h1 h2;omega
   obtain⟨u,rfl⟩:=hu;obtain⟨x,su,hux⟩:=an0 hv;rw[su];split at hc<;>first|(cases hc;done)|skip
   all_goals
        rename_i hk;cases hc;simp only[aG.run]at hr;refine atw hT fN ?_ (alZ uT) o.type hW hux hr
   .    exact .inl ⟨rfl,hk⟩
   .    exact .inr (.inl ⟨rfl,_,hk⟩)
   .    exact .inr (.inr ⟨rfl,_,_,hk⟩)
  ·
   (split at hc<;>first|(cases hc;done)|skip);rename_i t t2 _ uT;(split at hc<;>first|(cases hc;done)|skip);rename_i ti t2i fN ht2;(split at hc<;>first|(cases hc;done)|skip);rename_i e hk uC _;(split at hc<;>first|(cases hc;done)|skip);rename_i te pM;(split at hc<;>first|(cases hc;done)|skip);rename_i z hz;cases hc;have hv:=jd hl hF hx;rw[pN]at hv;rw[hex (Builtin.append_ c.argTypes o.type (c.args.map a.eval)) (λ_=>rfl)];simp only[aG.run]at hr;have hu:∃s u,vs=[s,u]:=by
        unfold iE at hr;(split at hr<;>first|(cases hr;done)|skip);exact⟨_,_,rfl⟩
   obtain⟨s,u,rfl⟩:=hu;obtain⟨x,y,su,h1,h2⟩:=acT hv;rw[su];exact alY hT fN ht2 hk (λk hk=>uC k hk) pM hz (alZ uT) (arr1 uT) o.type hW h1 h2 hr
  ·
   (split at hc<;>first|(cases hc;done)|skip);rename_i t _ uT;(split at hc<;>first|(cases hc;done)|skip);rename_i ti fN;(split at hc<;>first|(cases hc;done)|skip);rename_i e hk;(split at hc<;>first|(cases hc;done)|skip);rename_i te pM;cases hc;have hv:=jd hl hF hx;rw[pN]at hv;rw[hex (Builtin.copy_ c.argTypes o.type (c.args.map a.eval)) (λ_=>rfl)];simp only[aG.run]at hr;have hu:∃s u,vs=[s,u]:=by
        unfold pW at hr;(split at hr<;>first|(cases hr;done)|skip);exact⟨_,_,rfl⟩
   obtain⟨s,u,rfl⟩:=hu;obtain⟨x,y,su,h1,h2⟩:=acT hv;rw[su];exact aqy hT fN hk pM (alZ uT) o.type hW h1 h2 hr
  ·
   (split at hc<;>first|(cases hc;done)|skip);cases hc;have hv:=jd hl hF hx;rw[pN]at hv;rw[hex (Builtin.min_ c.argTypes o.type (c.args.map a.eval)) (λ_=>rfl)];simp only[aG.run]at hr;have hu:∃s u r,vs=[s,u]/\res= .val r:=by
        unfold LJ at hr;(split at hr<;>first|(cases hr;done)|skip);split at hr<;>first|(cases hr;done)|skip
        all_goals cases hr;exact⟨_,_,_,rfl,rfl⟩
   obtain⟨s,u,r,rfl,rfl⟩:=hu;obtain⟨x,y,su,h1,h2⟩:=acT hv;obtain⟨z,hz,hvz⟩:=aqs (P:=P) (w:=w) h1 h2 hr;rw[su];refine .pure (x:=z) ?_ hvz;simp[Builtin.min_,hz]
  ·
   (split at hc<;>first|(cases hc;done)|skip);cases hc;have hv:=jd hl hF hx;rw[pN]at hv;rw[hex (Builtin.max_ c.argTypes o.type (c.args.map a.eval)) (λ_=>rfl)];simp only[aG.run]at hr;have hu:∃s u r,vs=[s,u]/\res= .val r:=by
        unfold LM at hr;(split at hr<;>first|(cases hr;done)|skip);split at hr<;>first|(cases hr;done)|skip
        all_goals cases hr;exact⟨_,_,_,rfl,rfl⟩
   obtain⟨s,u,r,rfl,rfl⟩:=hu;obtain⟨x,y,su,h1,h2⟩:=acT hv;obtain⟨z,hz,hvz⟩:=aqt (P:=P) (w:=w) h1 h2 hr;rw[su];refine .pure (x:=z) ?_ hvz;simp[Builtin.max_,hz]
  ·
   (split at hc<;>first|(cases hc;done)|skip);rename_i t _ uT;(split at hc<;>first|(cases hc;done)|skip);rename_i ti fN;(split at hc<;>first|(cases hc;done)|skip);rename_i e hk;(split at hc<;>first|(cases hc;done)|skip);rename_i te pM;(split at hc<;>first|(cases hc;done)|skip);rename_i z hz;cases hc;have hv:=jd hl hF hx;rw[pN]at hv;rw[hex (Builtin.clear_ c.argTypes o.type (c.args.map a.eval)) (λ_=>rfl)];simp only[aG.run]at hr;have hu:∃u,vs=[u]:=by
        unfold tD at hr;(split at hr<;>first|(cases hr;done)|skip);exact⟨_,rfl⟩
   obtain⟨u,rfl⟩:=hu;obtain⟨x,su,hux⟩:=an0 hv;rw[su];exact an1 hT fN hk pM hz (alZ uT) o.type hW hux hr
theorem ZF(hT:dG P tt)(op:Op):fC P tt op:=by
 cases op with
 |move x=>exact aqo x
 |assign x=>exact alO x
 |pick c x y=>exact aqp c x y
 |alloc t=>exact anX hT t
 |box t x=>exact atu t x
 |build t ps=>exact anW hT t ps
 |buildSlice t n ps=>exact aek hT t n ps
 |insert t m k v=>exact acS hT _ t m k v (.inr rfl)
 |load t x=>exact aqr hT t x
 |store t x y=>exact anZ hT t x y
 |nilCheck x=>exact ahy x
 |binOp op t x y yt=>exact anS hT op t x y yt
 |unOp op t x=>exact aqq op t x
 |convert s d x=>exact aj8 hT s d x
 |makeInterface t x=>exact aj7 hT t x
 |makeFunc f x y=>exact alP f x y
 |makeMap t r=>exact anY t r hT
 |makeSlice t l c=>exact aj9 hT t l c
 |slice t x l h m=>exact anV hT t x l h m
 |fieldAddr t x f=>exact agt hT t x f
 |field t x f=>exact anT hT t x f
 |indexAddr t x i=>exact agu hT t x i
 |index t x i=>exact anU hT t x i
 |lookup t x i ok=>exact alS hT t x i ok
 |mapUpdate t m k v=>exact acS hT _ t m k v (.inl rfl)
 |extract x i=>exact aj6 x i
 |call c=>exact aqz hT c
 |_=>intro ρ C st w k xs cls fr a o vs res ho hc;simp[kG]at hc
end
def Reaches(P:Program)(R:Value->World->Prop):Result Next->Prop
 |.ok (.value x) w'=>R x w'
 |.ok .skip w'=>R undef w'
 |.ok (.enter f args) w'=>Calls P f args w' λ|.returned v,w''=>R v w''|_,_=>False
 |.ok (.row row args) w'=>Rows P row args w' R
 |_=>False
theorem Reaches.mono{P:Program}{R R':Value->World->Prop}(h:∀x w,R x w->R' x w):∀{r:Result Next},Reaches P R r->Reaches P R' r
 |.ok (.value _) _,hr=>h _ _ hr
 |.ok .skip _,hr=>h _ _ hr
 |.ok (.enter _ _) _,hr=>Calls.mono hr λe w he=>by cases e<;>first|exact h _ _ he|exact he
 |.ok (.row _ _) _,hr=>Rows.mono hr h
theorem Reaches.upon{P:Program}{R:Value->World->Prop}{o:Oper}{a:Act}{K:Act->World->Prop}{Q:Exit->Act->World->Prop}{r:Result Next}
  (hr:Reaches P R r) (h:∀x w,R x w->K (a.put o.dst x) w):o.upon P a K Q r:=by
 cases r with
 |ok n w=>
  cases n<;>simp only[Reaches]at hr
  .exact h _ _ hr
  .exact h _ _ hr
  . exact Calls.mono hr λe w he=>by
        cases e with
        |returned v=>exact h _ _ he
        |panicked c=>exact he.elim
        |outgrown=>exact he.elim
  .exact Rows.mono hr λv w he=>h _ _ he
 |halt x w=>simp only[Reaches]at hr
def lM(ρ:Pos->Loc)(C:Cells)(st:St)(w:World)(v:AV)(st':St)(x:Value)(w':World):Prop:=
 ∃ρ',aC ρ' st'.next.toNat C v x/\(∀b:Pos,b.toNat<st.next.toNat->ρ' b=ρ b)/\st.next.toNat<=st'.next.toNat/\bZ ρ' C st' w'/\pg ρ st w ρ' st' w'
def jt(P:Program)(C:Cells)(call:aj):Prop:=
 ∀  (ρ:Pos->Loc)(st:St)(w:World)(f:FuncId)(args:List AV)(v:AV)(st':St)(cq:List Value),call f args st=some (v,st')->
    bZ ρ C st w->aK ρ st.next.toNat C args cq->Reaches P (lM ρ C st w v st') ((callFunc f cq.toArray).run P w)
section
variable{P:Program}{tt:TT}{C:Cells}{call:aj}
theorem St.SL(st:St)(del:Option Pos)(set:Option (Pos×AB))(new:Option AB):st.next.toNat<=(st.bk del set new).next.toNat:=by
 cases new with
 |none=>exact Za3 _
 |some x=>simp only[St.bk,Pos.aF];omega
theorem aaV(hT:dG P tt)(dI:jt P C call){ρ:Pos->Loc}{st st':St}{w:World}{k:aG}{xs:List iy}{cls:Cls}{fr:Fr}{a:Act}{o:Oper}{vs:List AV}{v:AV}
   (hc:kG tt o.op=some (k,xs,cls)) (hW:bZ ρ C st w) (hF:lF ρ st.next.toNat C fr a.tmps) (hx:gu fr xs=some vs)
   (hs:cJ call k vs st=some (v,st')):Reaches P (lM ρ C st w v st') ((execOp a.eval o).run P w):=by
 have H:=ZF hT o.op ρ C st w k xs cls fr a o vs;unfold cJ at hs;split at hs
 . rename_i u hr;simp only[H5,Zd2]at hs;obtain⟨rfl,rfl⟩:=hs;obtain⟨N,x,he,hy,hv⟩:=H _ rfl hc hW hF hx hr;have hp:lM ρ C st w u st x w:=⟨ρ,hv,λ_ _=>rfl,Za3 _,hW,pg.refl _ _ _⟩
   rw[he];rcases hy with rfl|⟨rfl,rfl⟩<;>exact hp
 . rename_i u del set new hr;simp only[H5,Zd2]at hs;obtain⟨rfl,rfl⟩:=hs;obtain⟨N,x,w',ρ',he,hy,bF,jD,hv,hE⟩:=H _ rfl hc hW hF hx hr;have hp:lM ρ C st w u (st.bk del set new) x w':=⟨ρ',hv,bF,St.SL _ _ _ _,jD,hE⟩
   rw[he];rcases hy with rfl|⟨rfl,rfl⟩<;>exact hp
 .rename_i f args hr;obtain⟨cq,he,hv⟩:=H _ rfl hc hW hF hx hr;rw[he];exact dI ρ st w f args v st' cq hs hW hv
 .cases hs
structure Ac(tt:TT)(nt:Nat)(ops:Array Oper)(o:Oper)(ao:bV):Prop where
 dst:ao.dst=o.dst.map key
 lt:∀d,o.dst=some d->d<nt
 guard:acJ ops o.guard=some ao.guard
 op:(kG tt o.op=some (ao.k,ao.xs,ao.cls))\/(ao.k= .bad/\ao.cls= .bk)
theorem xP{nt:Nat}{ops:Array Oper}:∀{os:List Oper}{bs:List Nat}{l:List bV},uQ tt nt ops os bs=some l->
  l.length=os.length/\∀(i:Nat)(o:Oper),os[i]? =some o->∃ao,l[i]? =some ao/\Ac tt nt ops o ao/\ao.cE=bs.getD i 0
 |[],bs,l,h=>by simp[uQ]at h;subst h;exact⟨rfl,λi o ho=>by simp at ho⟩
 |o ::os,bs,l,h=>by
  unfold uQ at h;split at h<;>first|(cases h;done)|skip
  rename_i g l' hg hl hd;obtain⟨h1,h2⟩:=xP hl;have aW:∀d,o.dst=some d->d<nt:=λd hdd=>by rw[hdd]at hd;simpa [uQ.asT]using hd
  have hb:∀i,bs.tail.getD i 0=bs.getD (i+1) 0:=λi=>by cases bs<;>simp
  have yY:bs.headD 0=bs.getD 0 0:=by cases bs<;>simp
  split at h
  . rename_i k xs cls hc;simp only[H5]at h;subst h;refine⟨by simp[h1],λi o' ho=> ?_⟩;cases i with
    |   zero=>
        simp at ho;subst ho;exact⟨_,rfl,⟨rfl,aW,hg,.inl hc⟩,yY⟩
    |   succ i=>
        simp at ho;obtain⟨ao,h3,h4,h5⟩:=h2 i o' ho;exact⟨ao,by simpa using h3,h4,by rw[h5,hb]⟩
  . simp only[H5]at h;subst h;refine⟨by simp[h1],λi o' ho=> ?_⟩;cases i with
    |   zero=>
        simp at ho;subst ho;exact⟨_,rfl,⟨rfl,aW,hg,.inr ⟨rfl,rfl⟩⟩,yY⟩
    |   succ i=>
        simp at ho;obtain⟨ao,h3,h4,h5⟩:=h2 i o' ho;exact⟨ao,by simpa using h3,h4,by rw[h5,hb]⟩
theorem Ml{ops:Array Oper}{ρ:Pos->Loc}{n:Nat}{fr:Fr}{a:Act}{o:Oper}{g:Option (Pos×Bool)}{b:Bool}(hg:acJ ops o.guard=some g)
   (hF:∀p v,fr.get p=some v->(∃q,g=some (p,q))->∃x,a.tmps[p.toNat - 1]? =some x/\aC ρ n C v x)
   (hw:cN fr g=some b):Region.wanted o (yielded ops a.tmps)=b:=by
 unfold Region.wanted;unfold acJ at hg;split at hg
 .rename_i hn;simp only[H5]at hg;subst hg;simp only[cN,H5]at hw;subst hw;rw[hn]
 . rename_i j want hn;rw[hn];(split at hg<;>first|(cases hg;done)|skip);rename_i oj hj;(split at hg<;>first|(cases hg;done)|skip);rename_i d hd;simp only[H5]at hg;subst hg;simp only[cN]at hw;split at hw
   .rename_i u hu;simp only[H5]at hw;subst hw;obtain⟨x,hx,hv⟩:=hF _ _ hu ⟨_,rfl⟩;rw[ja,Zh6]at hx;have:=hv.lH;subst this;simp[yielded,hj,hd,hx]
   .rename_i l hu;simp only[H5]at hw;subst hw;obtain⟨x,hx,hv⟩:=hF _ _ hu ⟨_,rfl⟩;rw[ja,Zh6]at hx;obtain⟨cs,rfl,_⟩:=hv.W4;simp[yielded,hj,hd,hx]
   .cases hw
theorem aC.afw{ρ:Pos->Loc}{n:Nat}:aC ρ n C AV.undef undef:= .tuple [] #[] rfl λ_ _ _ h=>by simp at h
theorem Act.kB(a:Act)(d:Option Tmp)(v:Value):(a.put d v).tmps.size=a.tmps.size:=by cases d<;>simp[Act.put]
theorem Act.mT(a:Act)(d:Option Tmp)(v:Value):(a.put d v).defers=a.defers:=by cases d<;>rfl
theorem lF.put{ρ:Pos->Loc}{n nt:Nat}{fr:Fr}{a:Act}{d:Option Tmp}{v:AV}{x:Value}(hF:lF ρ n C fr a.tmps)(hs:a.tmps.size=nt)
  (hd:∀e,d=some e->e<nt) (hv:aC ρ n C v x):lF ρ n C (eF fr (d.map key) v) (a.put d x).tmps:=by
 cases d with
 |none=>exact hF
 |some e=>
  have he:=hd e rfl;intro p u hp;simp only[Ze0,eF]at hp;simp only[Act.put];by_cases hpe:key e=p
  .subst hpe;rw[T.gU]at hp;simp only[H5]at hp;subst hp;refine⟨x,?_,hv⟩;rw[ja,Zh6,Zp7];simp[hs,he]
  .rw[T.cC _ hpe]at hp;obtain⟨y,hy,hr⟩:=hF p u hp;refine⟨y,?_,hr⟩;rw[Zk0,hy];intro h;apply hpe;apply Pos.toNat_inj;rw[ja];have:=p.toNat_pos;omega
theorem lF.mono{ρ ρ':Pos->Loc}{n n':Nat}{fr:Fr}{tmps:Array Value}(hF:lF ρ n C fr tmps)(bF:∀b:Pos,b.toNat<n->ρ' b=ρ b)(hn:n<=n'):lF ρ' n' C fr tmps:=
 λp v hp=>let⟨x,hx,hv⟩:=hF p v hp;⟨x,hx,hv.mono bF hn⟩
structure zf(nt:Nat)(ρ:Pos->Loc)(C:Cells)(fr:Fr)(st:St)(a:Act)(w:World):Prop where
 W:bZ ρ C st w
 F:lF ρ st.next.toNat C fr a.tmps
 size:a.tmps.size=nt
 defers:a.defers=[]
def lf(nt:Nat)(ρ:Pos->Loc)(C:Cells)(st:St)(w:World)(bI:Fr)(st':St)(a':Act)(w':World):Prop:=
 ∃ρ',zf nt ρ' C bI st' a' w'/\(∀b:Pos,b.toNat<st.next.toNat->ρ' b=ρ b)/\st.next.toNat<=st'.next.toNat/\pg ρ st w ρ' st' w'
theorem lf.refl{nt:Nat}{ρ:Pos->Loc}{fr:Fr}{st:St}{a:Act}{w:World}(h:zf nt ρ C fr st a w):lf nt ρ C st w fr st a w:=
 ⟨ρ,h,λ_ _=>rfl,Za3 _,pg.refl _ _ _⟩
theorem lf.trans{nt:Nat}{ρ ki:Pos->Loc}{U5:Fr}{st bE Bj:St}{a2:Act}{w w1 w2:World}
  (h1:∀b:Pos,b.toNat<st.next.toNat->ki b=ρ b) (h2:st.next.toNat<=bE.next.toNat) (h3:pg ρ st w ki bE w1)
  (h:lf nt ki C bE w1 U5 Bj a2 w2):lf nt ρ C st w U5 Bj a2 w2:=by
 obtain⟨vM,k1,k2,k3,k4⟩:=h;exact⟨vM,k1,λb hb=>(k2 b (Zd0 hb h2)).trans (h1 b hb),Zb2 h2 k3,h3.trans k4⟩
theorem Reaches.bad{k:aG}{vs:List AV}{st:St}{r:AV×St}(hk:k= .bad)(h:cJ call k vs st=some r):False:=by subst hk;simp[cJ,aG.run]at h
theorem DR(hT:dG P tt)(dI:jt P C call){nt:Nat}{ops:Array Oper}{Q:Exit->Act->World->Prop}:∀(aos:List bV)(k:Nat)(fr bI:Fr)(st st':St)(ρ:Pos->Loc)(a:Act)(w:World),
  (∀(i:Nat)(ao:bV),aos[i]? =some ao->∃o,ops[k+i]? =some o/\Ac tt nt ops o ao)->
  mV call aos fr st=some (bI,st')->zf nt ρ C fr st a w->(∀a' w',lf nt ρ C st w bI st' a' w'->Q .normal a' w')->wpOps P ops Q (List.range' k aos.length) a w
 |[],k,fr,bI,st,st',ρ,a,w,_,h,hS,hQ=>by
  simp only[mV,H5,Zd2]at h;obtain⟨rfl,rfl⟩:=h;exact hQ a w (lf.refl hS)
 |ao::aos,k,fr,bI,st,st',ρ,a,w,ho,h,hS,hQ=>by
  obtain⟨o,cH,hR⟩:=ho 0 ao rfl;rw[Zf7]at cH;have Oo:∀(i:Nat)(ao':bV),aos[i]? =some ao'->∃o,ops[k+1+i]? =some o/\Ac tt nt ops o ao':=λi ao' hi=>by
    obtain⟨o',h1,h2⟩:=ho (i+1) ao' (by simpa using hi);exact⟨o',by rw[<-h1];congr 1;omega,h2⟩
  simp only[Zc6,Zp0,wpOps,cH];unfold mV at h;split at h
  . rename_i hw;rw[Zb6 (Ml hR.guard (λp v hp _=>hS.F p v hp) hw)];(split at h<;>first|(cases h;done)|skip);rename_i vs DI;(split at h<;>first|(cases h;done)|skip);rename_i v bE iQ;rcases hR.op with hc|⟨hk,_⟩
    .   have hr:=aaV hT dI hc hS.W hS.F DI iQ;refine .inl (hr.upon λx w1 hp=> ?_);obtain⟨ki,hv,h1,h2,hW1,hE⟩:=hp;rw[hR.dst]at h;refine DR hT dI aos (k+1) _ bI bE st' ki _ w1 Oo h ⟨hW1,lF.put (hS.F.mono h1 h2) hS.size hR.lt hv,by rw[Act.kB];exact hS.size,by rw[Act.mT];exact hS.defers⟩ λa' w' hp=>hQ a' w' (lf.trans h1 h2 hE hp)
    .   exact(Reaches.bad hk iQ).elim
  .rename_i hw;rw[Za7 (by rw[Ml hR.guard (λp v hp _=>hS.F p v hp) hw];simp)];rw[hR.dst]at h;exact DR hT dI aos (k+1) _ bI st st' ρ _ w Oo h ⟨hS.W,lF.put hS.F hS.size hR.lt .afw,by rw[Act.kB];exact hS.size,by rw[Act.mT];exact hS.defers⟩ hQ
  .cases h
theorem SM{nt:Nat}{ops:Array Oper}{l:List bV}{bs:List Nat}(h:uQ tt nt ops ops.toList bs=some l)(i:Nat)(ao:bV)(hi:l[i]? =some ao):
  ∃o,ops[i]? =some o/\Ac tt nt ops o ao/\ao.cE=bs.getD i 0:=by
 obtain⟨h1,h2⟩:=xP h;have aW:i<ops.toList.length:=by rw[<-h1];exact(Za2.1 hi).1
 obtain⟨ao',h3,h4,h5⟩:=h2 i _ (H0 aW);rw[hi]at h3;simp only[H5]at h3;subst h3;exact⟨_,by rw[<-Zi4];exact H0 aW,h4,h5⟩
theorem ahG(hT:dG P tt)(dI:jt P C call){nt id:Nat}{ops:Array Oper}{bs:List Nat}{l:List bV}{Q:Exit->Act->World->Prop}{fr bI:Fr}{st st':St}{ρ:Pos->Loc}{a:Act}{w:World}
  (hl:uQ tt nt ops ops.toList bs=some l) (h:mV call l fr st=some (bI,st')) (hS:zf nt ρ C fr st a w)
  (hQ:∀a' w',lf nt ρ C st w bI st' a' w'->Q .normal a' w'):(Code.region id ops false).wp P Q a w:=by
 apply wp_region;have hlen:l.length=ops.size:=by rw[(xP hl).1,Zi3]
 rw[Zl6, <-hlen];exact DR hT dI l 0 fr bI st st' ρ a w (λi ao hi=>by
  obtain⟨o,h1,h2,_⟩:=SM hl i ao hi;exact⟨o,by rw[Zb8];exact h1,h2⟩) h hS hQ
end
section
variable{P:Program}{tt:TT}{C:Cells}{call:aj}
def zh(P:Program)(tt:TT)(C:Cells)(call:aj):Prop:=
 ∀  (nt id:Nat)(ops:Array Oper)(l:List bV)(Q:Exit->Act->World->Prop)(fr bI:Fr)(st st':St)(ρ:Pos->Loc)(a:Act)(w:World),
    uQ tt nt ops ops.toList (ahp ops.toList [])=some l->QF l.length 0 (BS (Md 0 l) [])=true->eD call (BS (Md 0 l) []) [] st.heap fr st=some (bI,st')->zf nt ρ C fr st a w->
    (∀a' w',lf nt ρ C st w bI st' a' w'->Q .normal a' w')->(Code.region id ops true).wp P Q a w
def Q0:o6->Exit
 |.normal=>.normal
 |.exit id=>.exit id
 |.ret=>.ret
def acU(P:Program)(tt:TT)(C:Cells)(call:aj)(nt m:Nat):Prop:=
 ∀  (c:Code)(ac:AC)(fr bI:Fr)(st st':St)(ex:o6)(ρ:Pos->Loc)(a:Act)(w:World)(Q:Exit->Act->World->Prop),
    v8 tt nt c=some ac->exec call m ac fr st=some (ex,bI,st')->zf nt ρ C fr st a w->
    (∀a' w',lf nt ρ C st w bI st' a' w'->Q (Q0 ex) a' w')->c.wp P Q a w
def acV(P:Program)(tt:TT)(C:Cells)(call:aj)(nt m:Nat):Prop:=
 ∀  (c:Code)(ac:AC)(fr bI:Fr)(st st':St)(ex:o6)(ρ:Pos->Loc)(a:Act)(w:World)(Q:Exit->Act->World->Prop),
    v8 tt nt c=some ac->exec call m (.loop ac) fr st=some (ex,bI,st')->zf nt ρ C fr st a w->
    (∀a' w',lf nt ρ C st w bI st' a' w'->Q (Q0 ex) a' w')->Code.rounds P c Q m a w
theorem afx{nt m:Nat}(Mm:acU P tt C call nt m)(ihL:acV P tt C call nt m):acV P tt C call nt (m+1):=by
 intro c ac fr bI st st' ex ρ a w Q hc h hS hQ;simp only[exec,bD]at h;rw[rounds_succ];split at h
 .rename_i fh bE h1;(refine Mm c ac fr fh st bE .normal ρ a w _ hc h1 hS λa1 w1 hp=> ?_);obtain⟨ki,Aq,k1,k2,k3⟩:=hp;exact ihL c ac fh bI bE st' ex ki a1 w1 Q hc h Aq λa2 w2 hp=>hQ a2 w2 (lf.trans k1 k2 k3 hp)
 . rename_i cY;cases ex with
   |normal=>exact(cY _ _ h).elim
   |exit id=>exact Mm c ac fr bI st st' (.exit id) ρ a w _ hc h hS λa1 w1 hp=>hQ a1 w1 hp
   |ret=>exact Mm c ac fr bI st st' .ret ρ a w _ hc h hS λa1 w1 hp=>hQ a1 w1 hp
theorem an2(hT:dG P tt)(dI:jt P C call)(mI:zh P tt C call){nt m:Nat}(Mm:acU P tt C call nt m)(ihL:acV P tt C call nt m):acU P tt C call nt (m+1):=by
 intro c ac fr bI st st' ex ρ a w Q hc h hS hQ;have awj:=afx Mm ihL;unfold v8 at hc;split at hc<;>first|(cases hc;done)|skip
 .simp only[H5]at hc;subst hc;simp only[exec,bD,H5,Zd2]at h;obtain⟨rfl,rfl,rfl⟩:=h;exact wp_skip (hQ _ _ (lf.refl hS))
 . rename_i ix ops draw;(split at hc<;>first|(cases hc;done)|skip);rename_i l hl;split at hc
   .simp only[H5]at hc;subst hc;simp only[exec,bD]at h;(split at h<;>first|(cases h;done)|skip);rename_i fh bE h1;simp only[H5,Zd2]at h;obtain⟨rfl,rfl,rfl⟩:=h;exact ahG hT dI hl h1 hS hQ
   . (split at hc<;>first|(cases hc;done)|skip);rename_i ht;simp only[H5]at hc;subst hc;simp only[exec,bD]at h;(split at h<;>first|(cases h;done)|skip);rename_i fh bE h1;simp only[H5,Zd2]at h;obtain⟨rfl,rfl,rfl⟩:=h;exact mI nt _ ops l Q fr fh st bE ρ a w hl ht h1 hS hQ
 . (split at hc<;>first|(cases hc;done)|skip);rename_i x y h1 h2;simp only[H5]at hc;subst hc;simp only[exec,bD]at h;apply wp_seq;split at h
   .rename_i fh bE h3;(refine Mm _ _ fr fh st bE .normal ρ a w _ h1 h3 hS λa1 w1 hp=> ?_);obtain⟨ki,Aq,k1,k2,k3⟩:=hp;exact Mm _ _ fh bI bE st' ex ki a1 w1 Q h2 h Aq λa2 w2 hp=>hQ a2 w2 (lf.trans k1 k2 k3 hp)
   . rename_i cY;cases ex with
     |normal=>exact(cY _ _ h).elim
     |exit id=>exact Mm _ _ fr bI st st' (.exit id) ρ a w _ h1 h hS λa1 w1 hp=>hQ a1 w1 hp
     |ret=>exact Mm _ _ fr bI st st' .ret ρ a w _ h1 h hS λa1 w1 hp=>hQ a1 w1 hp
 . (split at hc<;>first|(cases hc;done)|skip);rename_i x y z h1 h2 h3;simp only[H5]at hc;subst hc;simp only[exec,bD]at h;split at h
   .rename_i hx;exact wp_cond_true ((Cc h1 hS.F hx).lH) (Mm _ _ fr bI st st' ex ρ a w Q h2 h hS hQ)
   .rename_i hx;exact wp_cond_false ((Cc h1 hS.F hx).lH) (Mm _ _ fr bI st st' ex ρ a w Q h3 h hS hQ)
   .cases h
 . (split at hc<;>first|(cases hc;done)|skip);rename_i x h1;simp only[H5]at hc;subst hc;simp only[exec,bD]at h;apply wp_block;split at h
   . rename_i yx fh bE h2;split at h
     .  rename_i he;simp only[H5,Zd2]at h;obtain⟨rfl,rfl,rfl⟩:=h;have:=Za6 he;subst this;exact Mm _ _ fr fh st bE (.exit yx) ρ a w _ h1 h2 hS λa1 w1 hp=>by simp only[Q0,Exit.inBlock,Zh1];exact hQ a1 w1 hp
     .  rename_i he;simp only[H5,Zd2]at h;obtain⟨rfl,rfl,rfl⟩:=h;have:=Zf3 he;exact Mm _ _ fr fh st bE (.exit yx) ρ a w _ h1 h2 hS λa1 w1 hp=>by simp only[Q0,Exit.inBlock,Za7 this];exact hQ a1 w1 hp
   . rename_i cY;cases ex with
     |normal=>exact Mm _ _ fr bI st st' .normal ρ a w _ h1 h hS λa1 w1 hp=>hQ a1 w1 hp
     |exit id=>exact(cY _ _ _ h).elim
     |ret=>exact Mm _ _ fr bI st st' .ret ρ a w _ h1 h hS λa1 w1 hp=>hQ a1 w1 hp
 . (split at hc<;>first|(cases hc;done)|skip);rename_i x h1;simp only[H5]at hc;subst hc;exact wp_loop_rounds (m+1) (awj _ _ fr bI st st' ex ρ a w Q h1 h hS hQ)
 .simp only[H5]at hc;subst hc;simp only[exec,bD,H5,Zd2]at h;obtain⟨rfl,rfl,rfl⟩:=h;exact wp_exit (hQ _ _ (lf.refl hS))
 .simp only[H5]at hc;subst hc;simp only[exec,bD,H5,Zd2]at h;obtain⟨rfl,rfl,rfl⟩:=h;exact wp_ret (hQ _ _ (lf.refl hS))
 .simp only[H5]at hc;subst hc;simp[exec,bD,mV,cN,gu,cJ,aG.run]at h
theorem DS(hT:dG P tt)(dI:jt P C call)(mI:zh P tt C call){nt:Nat}:∀m,acU P tt C call nt m/\acV P tt C call nt m
 |0=>⟨λc ac fr bI st st' ex ρ a w Q hc h=>by simp[exec]at h,λc ac fr bI st st' ex ρ a w Q hc h=>by simp[exec]at h⟩
 |m+1=>let⟨h1,h2⟩:=DS hT dI mI m;⟨an2 hT dI mI h1 h2,afx h1 h2⟩
def ZG(tmps:Array Value):ResultVar->Sem Value
 |.tmp t=>pure (tmps.getD t undef)
 |.cell a t=>do loadVar t (<-asAddr (tmps.getD a undef))
theorem al3(hT:dG P tt){ρ:Pos->Loc}{st:St}{w:World}{fr:Fr}{a:Act}{x:Tmp}{t:TypeId}{ti:TI}{q v:AV}(fN:tt.get (key t)=some ti)
  (hW:bZ ρ C st w) (hF:lF ρ st.next.toNat C fr a.tmps) (hq:fr.get (key x)=some q) (hr:(aG.load (DF ti)).run (λb=>st.heap.get b) .h [q]=some (.val v)):
  ∃y,(ZG a.tmps (.cell x t)).run P w= .ok y w/\aC ρ st.next.toNat C v y:=by
 have hc:kG tt (.load t (.tmp x))=some (.load (DF ti),[.t (key x)],.read):=by simp[kG,fN,uP]
 have hx:gu fr [.t (key x)]=some [q]:=by simp[gu,HQ,hq]
 have oe:(aG.load (DF ti)).run (λb=>st.heap.get b) st.next [q]=some (.val v):=hr;obtain⟨N,y,he,hy,hv⟩:=ZF hT (.load t (.tmp x)) ρ C st w _ _ _ fr a { dst:=none,op:= .load t (.tmp x),type:=t,pos:=default,after:= #[],guard:=none } _ _ rfl hc hW hF hx oe;refine⟨y,?_,hv⟩;simp only[execOp,Instr.loadAt,Act.eval]at he;simp only[ZG];obtain⟨z,hz,hzq⟩:=hF _ _ hq;rw[ja,Zh6]at hz;have hzd:a.tmps.getD x undef=z:=by simp[Zm2,hz]
 rw[hzd]at he ⊢;have hp:∃ad,z= .pointer (some ad):=by
  simp only[aG.run,Aa]at hr;split at hr<;>first|(cases hr;done)|skip
  .obtain⟨_,h⟩:=hzq.qU;exact⟨_,h⟩
  .obtain⟨_,_,_,_,h,_⟩:=hzq.QJ;exact⟨_,h⟩
 obtain⟨ad,rfl⟩:=hp;simp only[Instr.sureAddr,asAddr,Sem.run_bind,Sem.run_pure,Result.andThen]at he ⊢;cases hl:(loadVar t ad).run P w with
 |ok u w1=>
  rw[hl]at he;simp at he;obtain⟨h1,h2⟩:=he;subst h2;rcases hy with hy|⟨hy,_⟩
  .rw[hy]at h1;simp at h1;rw[h1]
  .rw[hy]at h1;simp at h1
 |halt u w1=>rw[hl]at he;simp at he
theorem Mo(hT:dG P tt){ρ:Pos->Loc}{st:St}{w:World}{fr:Fr}{a:Act}(hW:bZ ρ C st w)(hF:lF ρ st.next.toNat C fr a.tmps):
   ∀(rs:List ResultVar)(ars:List QC)(vs:List AV),qY tt rs=some ars->ij (λb=>st.heap.get b) fr ars=some vs->
    ∃ys,(rs.mapM (ZG a.tmps)).run P w= .ok ys w/\aK ρ st.next.toNat C vs ys
 | [],ars,vs,hc,hr=>by
   simp only[qY,H5]at hc;subst hc;simp only[ij,H5]at hr;subst hr;exact⟨[],by simp,aK.nil⟩
 | .tmp t::rs,ars,vs,hc,hr=>by
   simp only[qY]at hc;(split at hc<;>first|(cases hc;done)|skip);rename_i l hl;simp only[H5]at hc;subst hc;simp only[ij]at hr;(split at hr<;>first|(cases hr;done)|skip);rename_i v hv;(split at hr<;>first|(cases hr;done)|skip);rename_i us hus;simp only[H5]at hr;subst hr;obtain⟨ys,h1,h2⟩:=Mo hT hW hF rs l us hl hus;obtain⟨z,hz,hzq⟩:=hF _ _ hv;rw[ja,Zh6]at hz;refine⟨z::ys,?_,aK.cons hzq h2⟩;simp[List.mapM_cons,ZG,h1,Zm2,hz]
 | .cell x t::rs,ars,vs,hc,hr=>by
   simp only[qY]at hc;(split at hc<;>first|(cases hc;done)|skip);rename_i ti l hti hl;simp only[H5]at hc;subst hc;simp only[ij]at hr;(split at hr<;>first|(cases hr;done)|skip);rename_i q hq;(split at hr<;>first|(cases hr;done)|skip);rename_i v hv;(split at hr<;>first|(cases hr;done)|skip);rename_i us hus;simp only[H5]at hr;subst hr;obtain⟨ys,h1,h2⟩:=Mo hT hW hF rs l us hl hus;obtain⟨y,h3,h4⟩:=al3 hT hti hW hF hq hv;refine⟨y::ys,?_,aK.cons h4 h2⟩;simp[List.mapM_cons,h1,h3]
theorem Ju(hT:dG P tt){ρ:Pos->Loc}{st:St}{w:World}{fr:Fr}{a:Act}{fn:Func}{ars:List QC}{vs:List AV}(hW:bZ ρ C st w)(hF:lF ρ st.next.toNat C fr a.tmps)
  (hc:qY tt fn.results.toList=some ars) (hr:ij (λb=>st.heap.get b) fr ars=some vs):
  ∃y,(results fn a.tmps).run P w= .ok y w/\aC ρ st.next.toNat C (Ab vs) y:=by
 obtain⟨ys,h1,h2⟩:=Mo hT hW hF _ ars vs hc hr;have h3:(fn.results.mapM (ZG a.tmps)).run P w= .ok ys.toArray w:=by
  rw[Array.mapM_eq_mapM_toList];simp[h1]
 have h4:(results fn a.tmps).run P w= .ok (if h:ys.toArray.size=1 then ys.toArray[0]else .tuple ys.toArray) w:=by
  have hfun:results fn a.tmps=(fn.results.mapM (ZG a.tmps) >>= λvs=>pure (if h:vs.size=1 then vs[0]else .tuple vs)):=by unfold results;congr 2
  rw[hfun,Sem.run_bind,h3];simp
 refine⟨_,h4,?_⟩;cases vs with
 |nil=>have:=h2.kO;subst this;simp[Ab];exact .qZ (by simpa using aK.nil)
 |cons v vs=>
  obtain⟨y,ys',rfl,hv,DI⟩:=h2.cons_inv;cases vs with
  |nil=>have:=DI.kO;subst this;simpa [Ab]using hv
  |cons v' vs'=>
   obtain⟨y',ys'',rfl,QM,aqA⟩:=DI.cons_inv;simp[Ab];exact .qZ (by simpa using aK.cons hv (aK.cons QM aqA))
def GOk(P:Program)(tt:TT)(G:T dR):Prop:=
 ∀p F,G.get p=some F->∃fn,P.funcs[p.toNat - 1]? =some fn/\(fn.name== "runtime.NumGoroutine")=false/\alI tt fn=some F
def wm(P:Program)(C:Cells)(O:fc):Prop:=
 ∀  (f:FuncId)(s:List AV->St->Option (AV×St)),O f=some s->
    ∀(ρ:Pos->Loc)(st:St)(w:World)(args:List AV)(v:AV)(st':St)(cq:List Value),s args st=some (v,st')->
     bZ ρ C st w->aK ρ st.next.toNat C args cq->Reaches P (lM ρ C st w v st') ((callFunc f cq.toArray).run P w)
theorem SN{ρ:Pos->Loc}{n:Nat}{tmps:Array Value}:∀(vs:List AV)(xs:List Value)(i:Nat)(fr:Fr),aK ρ n C vs xs->
  (∀(j:Nat)(x:Value),xs[j]? =some x->tmps[i+j]? =some x)->lF ρ n C fr tmps->lF ρ n C (params i vs fr) tmps
 |[],_,_,_,_,_,hF=>hF
 |v ::vs,xs,i,fr,h,hx,hF=>by
  obtain⟨x,Bi,rfl,hv,DI⟩:=h.cons_inv;unfold params;refine SN vs Bi (i+1) _ DI (λj y hy=>by rw[<-hx (j+1) y (by simpa using hy)];congr 1;omega) λp u hp=> ?_
  by_cases hpe:key i=p
  .subst hpe;rw[T.gU]at hp;simp only[H5]at hp;subst hp;exact⟨x,by rw[ja,Zh6];exact hx 0 x rfl,hv⟩
  .rw[T.cC _ hpe]at hp;exact hF p u hp
def yA(call:aj)(m:Nat)(F:dR)(args:List AV)(st:St):Option (AV×St):=
 match Nat.beq args.length F.nparams with
 |  true=>match exec call m F.code (params 0 args .e) st with
    |some (.normal,fr,st')=>match ij (λb=>st'.heap.get b) fr F.results with
     |some vs=>some (Ab vs,st')
     |none=>none
    |some (.ret,fr,st')=>match ij (λb=>st'.heap.get b) fr F.results with
     |some vs=>some (Ab vs,st')
     |none=>none
    |_=>none
 |false=>none
theorem acW(hT:dG P tt){G:T dR}(hG:GOk P tt G){call:aj}(dI:jt P C call)(mI:zh P tt C call)(m:Nat){f:FuncId}{F:dR}(hF:G.get (key f)=some F)
   {ρ:Pos->Loc} {st:St} {w:World} {args:List AV} {v:AV} {st':St} {cq:List Value} (h:yA call m F args st=some (v,st')) (hW:bZ ρ C st w) (yB:aK ρ st.next.toNat C args cq):
   Reaches P (lM ρ C st w v st') ((callFunc f cq.toArray).run P w):=by
 unfold yA at h;split at h<;>first|(cases h;done)|skip
 rename_i hlen;have hlen:=Za6 hlen;obtain⟨fn,HW,o7,hcf⟩:=hG _ _ hF;rw[ja,Zh6]at HW;unfold alI at hcf;split at hcf<;>first|(cases hcf;done)|skip
 rename_i c hb;split at hcf<;>first|(cases hcf;done)|skip
 rename_i ac rs hac hrs hle;simp only[H5]at hcf;subst hcf;simp only at h hlen;have hle:=Zb5 hle;have dO:(callFunc f cq.toArray).run P w= .ok (.enter f cq.toArray) w:=by
   have ahH:¬fn.name= "runtime.NumGoroutine" :=(by simpa using o7);simp[callFunc,HW,ahH,hb]
 rw[dO];simp only[Reaches];refine calls_of_wp HW hb ?_;have gw:cq.length<=fn.ntmps:=by rw[<-yB.1,hlen];exact hle
 have hS:zf fn.ntmps ρ C (params 0 args .e) st { tmps:=cq.toArray++Array.replicate (fn.ntmps - cq.toArray.size) undef,defers:=[] } w:=by
   refine⟨hW,?_,?_,rfl⟩
   .refine SN args cq 0 .e yB (λj x hx=> ?_) (λp v hp=>by rw[T.dS]at hp;cases hp);have hj:j<cq.length:=(Za2.1 hx).1;rw[Zb8,Zq8 (by simpa using hj)];simpa using hx
   .simp;omega
 split at h<;>first|(cases h;done)|skip
 .rename_i fh bE h1;(split at h<;>first|(cases h;done)|skip);rename_i vs DI;simp only[H5,Zd2]at h;obtain⟨rfl,rfl⟩:=h;(refine(DS hT dI mI m).1 c ac _ fh st bE .normal ρ _ w _ hac h1 hS λa' w' hp=> ?_);obtain⟨ki,Aq,k1,k2,k3⟩:=hp;obtain⟨y,Xc,hy2⟩:=Ju hT Aq.W Aq.F hrs DI;exact⟨Aq.defers,y,Xc,ki,hy2,k1,k2,Aq.W,k3⟩
 .rename_i fh bE h1;(split at h<;>first|(cases h;done)|skip);rename_i vs DI;simp only[H5,Zd2]at h;obtain⟨rfl,rfl⟩:=h;(refine(DS hT dI mI m).1 c ac _ fh st bE .ret ρ _ w _ hac h1 hS λa' w' hp=> ?_);obtain⟨ki,Aq,k1,k2,k3⟩:=hp;obtain⟨y,Xc,hy2⟩:=Ju hT Aq.W Aq.F hrs DI;exact⟨Aq.defers,y,Xc,ki,hy2,k1,k2,Aq.W,k3⟩
theorem aaW(hT:dG P tt){O:fc}{G:T dR}(hO:wm P C O)(hG:GOk P tt G)(m:Nat)(mI:∀d,jt P C (uJ O G m d)->zh P tt C (uJ O G m d)):∀d,jt P C (uJ O G m d)
 |0=>λρ st w f args v st' cq h=>by simp[uJ]at h
 |d +1=>by
  intro ρ st w f args v st' cq h hW yB;have ih:=aaW hT hO hG m mI d;unfold uJ at h;split at h
  .rename_i s hs;exact hO f s hs ρ st w args v st' cq h hW yB
  . (split at h<;>first|(cases h;done)|skip);rename_i F hF;exact acW hT hG ih (mI _ ih) m hF h hW yB
end
end
end Go.Ai
