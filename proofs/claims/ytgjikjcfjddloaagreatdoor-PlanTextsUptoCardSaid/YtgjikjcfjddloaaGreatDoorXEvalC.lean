/- Its operations, second part; regions. -/
import Derived.Test.YtgjikjcfjddloaaGreatDoorXEvalB
import Derived.Laws.IdiomStrings
import Derived.Laws.RangeString
import Derived.Lib.UnsafeStr
import Derived.LoopN
import Derived.LoopNIn
import Derived.OrdersIn
set_option linter.all false
namespace Go.Ai
section
open Go Go.RowKit
section
variable{P:Program}{tt:TT}{ρ:Pos->Loc}{C:Cells}{st:St}{w w':World}
theorem yZ(del:Option Pos)(h:T AB){b:Pos}{x:AB}(hb:(IG del h).get b=some x):h.get b=some x/\∀c,del=some c->b≠c:=by
 cases del with
 |none=>exact⟨hb,λ_ h=>by cases h⟩
 |some c=>
  by_cases he:c=b
  .subst he;simp only[IG]at hb;rw[T.eB]at hb;cases hb
  .simp only[IG]at hb;rw[T.bH _ he]at hb;exact⟨hb,λd hd=>by cases hd;exact λe=>he e.symm⟩
theorem xR(hW:bn ρ C st w){o:Obj}{x0:AB}{base size:Nat}(del:Option Pos)(hh:w'.heap=w.heap.push o)(h1:w'.os=w.os)(h2:w'.tape=w.tape)(h3:w'.output=w.output)
   (hB:∀ρ' n',(∀b:Pos,b.toNat<st.next.toNat->ρ' b=ρ b)->st.next.toNat<=n'->mQ ρ' n' C ⟨w.heap.size,base,size⟩ w' x0):
   ∃ρ':Pos->Loc,(∀b:Pos,b.toNat<st.next.toNat->ρ' b=ρ b)/\ρ' st.next=⟨w.heap.size,base,size⟩/\bn ρ' C (st.aI del none (some x0)) w'/\jW ρ st w ρ' (st.aI del none (some x0)) w':=by
 let ρ':Pos->Loc:=λb=>if b=st.next then⟨w.heap.size,base,size⟩else ρ b
 have aY:∀b:Pos,b.toNat<st.next.toNat->ρ' b=ρ b:=λb hb=>Za2 (λe=>by rw[e]at hb;omega)
 have fh:ρ' st.next=⟨w.heap.size,base,size⟩:=Za4 rfl;have ew:w'.heap.size=w.heap.size+1:=by rw[hh];simp
 have hold:∀k,k<w.heap.size->w'.heap[k]? =w.heap[k]? :=λk hk=>by rw[hh,Array.getElem?_push,Za2 (by omega)]
 refine⟨ρ',aY,fh,?_,⟨h1,h2,h3,by omega,λk hk _=>hold k hk,λb x hb=> ?_⟩⟩;rotate_left
 . by_cases he:b=st.next
   .right;rw[he,fh];exact Za3 _
   .left;simp only[St.aI,KX]at hb;rw[T.bH _ (λe=>he e.symm)]at hb;have jw:=(yZ del _ hb).1;exact⟨b,x,jw,by rw[aY b (hW.live b x jw).1]⟩
 refine hW.acA (b0:=st.next) (x0:=x0) (by rw[Pos.aB];omega) (by rw[Pos.aB];omega) (by rw[T.eB]) ?_ aY (by rw[fh];exact hB _ _ aY (by rw[Pos.aB];omega)) ?_ (by rw[fh,ew];simp) (by omega) (λk hk _=>hold k hk)
 .intro b x hb hx;rw[T.bH _ (λe=>hb e.symm)]at hx;have hx:=(yZ del _ hx).1;refine⟨hx,?_⟩;rw[fh];have:=(hW.live b x hx).2.1;simp only;omega
 .intro a v ha;have:=World.block_lt_of_cell? _ _ (hW.ek a v ha).1;rw[fh];simp only;omega
theorem Tv(hW:bn ρ C st w){b:Pos}{x x0:AB}(hb:st.heap.get b=some x)(h1:w'.os=w.os)(h2:w'.tape=w.tape)(h3:w'.output=w.output)(ew:w'.heap.size=w.heap.size)
   (xC:∀k,k≠(ρ b).aA->w'.heap[k]? =w.heap[k]?) (hB:mQ ρ st.next.toNat C (ρ b) w' x0):
   bn ρ C (st.aI none (some (b,x0)) none) w'/\jW ρ st w ρ (st.aI none (some (b,x0)) none) w':=by
 obtain⟨bw,HJ,_⟩:=hW.live b x hb;refine⟨?_,⟨h1,h2,h3,by omega,λk _ hk=>xC k (λe=>hk b x hb e.symm),λc y hc=> ?_⟩⟩;rotate_left
 . left;by_cases he:c=b
   .exact⟨b,x,hb,by rw[he]⟩
   .simp only[St.aI,KX,IG]at hc;rw[T.bH _ (λe=>he e.symm)]at hc;exact⟨c,y,hc,rfl⟩
 refine hW.acA (b0:=b) (x0:=x0) (Za3 _) bw (by simp only[KX,IG];rw[T.eB]) ?_ (λ_ _=>rfl) hB ?_ (by omega) (by omega) (λk _ hk=>xC k hk)
 .intro c y hc hy;simp only[KX,IG]at hy;rw[T.bH _ (λe=>hc e.symm)]at hy;exact⟨hy,λe=>hc (hW.inj _ _ _ _ hy hb e)⟩
 .exact λa v ha e=>(hW.ek a v ha).2 b x hb e.symm
theorem zC{cs:List AV}{c:Array Value}{e:TypeId}{fr:Nat×Nat}{g:Nat}{n:Nat}(hg:w'.heap[g]? =some (.cells c e fr))(hle:cs.length<=c.size)(hv:az ρ n C cs (c.toList.take cs.length))
  (hf:∀i,i<c.size->¬(fr.1<=i/\i<fr.2)):mQ ρ n C ⟨g,0,c.size⟩ w' (.cells cs 0):=
 ⟨c,e,fr,hg,rfl,by simpa using hle,by simpa using hv,λi _ hi=>by simpa using hf i (by simpa using hi)⟩
theorem aea(hT:cB P tt)(t:TypeId):dK P tt (.alloc t):=by
 intro ρ C st w k xs cls fr a o vs res ho hc hW hF hx hr;simp only[gI]at hc;split at hc<;>first|(cases hc;done)|skip
 rename_i ti dc;split at hc<;>first|(cases hc;done)|skip
 rename_i z hz;split at hc
 . cases hc;simp only[e8,H0]at hx;subst hx;simp only[ax.run,HA,H0]at hr;subst hr;obtain⟨zv,Ca,_,uY⟩:=uX hT dc hz (ρ:=ρ) (n:=st.next.toNat) (C:=C) w;have hl:z.length=zv.cells.size:=(by simpa using uY.1);obtain⟨ρ',aY,fh,fA,hE⟩:=xR (w':=w.alloc (.cells zv.cells t)) (o:= .cells zv.cells t) (x0:= .typed t z) (base:=0) (size:=zv.cells.size) hW none rfl rfl rfl rfl (λρ' n' aY hn=>
     ⟨zv.cells,(0,0),by show(w.heap.push _)[w.heap.size]? =_;simp,rfl,by simp only[Zc7];omega,by rw[hl,Zb7,Zg0 (by simp)];exact uY.mono aY hn,λi _=>by simp,rfl⟩)
   refine⟨_,.pointer (some ⟨w.heap.size,0,none⟩),_,ρ',?_,Yields.value _,aY,fA,?_,hE⟩
   .simp[execOp,ho,Instr.alloc,Ca,newVar,newRow]
   .have:=aq.ptr (ρ:=ρ') (n:=(st.aI none none (some (.typed t z))).next.toNat) (C:=C) st.next 0 (by simp[St.aI,Pos.aB]);rw[fh]at this;simpa using this
 cases hc;simp only[e8,H0]at hx;subst hx;simp only[ax.run,KS,H0]at hr;subst hr;obtain⟨zv,Ca,_,uY⟩:=uX hT dc hz (ρ:=ρ) (n:=st.next.toNat) (C:=C) w;have hl:z.length=zv.cells.size:=by simpa using uY.1
 obtain⟨ρ',aY,fh,fA,hE⟩:=xR (w':=w.alloc (.cells zv.cells t)) (o:= .cells zv.cells t) (x0:= .cells z 0) (base:=0) (size:=zv.cells.size) hW none rfl rfl rfl rfl (λρ' n' aY hn=>
   zC (w':=w.alloc (.cells zv.cells t)) (e:=t) (fr:=(0,0)) (by show(w.heap.push _)[w.heap.size]? =_;simp) (by omega) (by rw[hl,Zg0 (by simp)];exact uY.mono aY hn) (λi _=>by simp))
 refine⟨_,.pointer (some ⟨w.heap.size,0,none⟩),_,ρ',?_,Yields.value _,aY,fA,?_,hE⟩
 .simp[execOp,ho,Instr.alloc,Ca,newVar,newRow]
 .have:=aq.ptr (ρ:=ρ') (n:=(st.aI none none (some (.cells z 0))).next.toNat) (C:=C) st.next 0 (by simp[St.aI,Pos.aB]);rw[fh]at this;simpa using this
theorem aiq(t:TypeId)(x:Operand):dK P tt (.box t x):=by
 intro ρ C st w k xs cls fr a o vs res ho hc hW hF hx hr;simp only[gI]at hc;split at hc<;>first|(cases hc;done)|skip
 rename_i b hb;cases hc;obtain⟨v,rfl,hv⟩:=fE hb hF hx;simp only[ax.run,Tk,H0]at hr;subst hr;have uY:=hv.cells;have hl:v.cells.length=(a.eval x).cells.size:=by simpa using uY.1
 obtain⟨ρ',aY,fh,fA,hE⟩:=xR (w':=w.alloc (.cells (a.eval x).cells t)) (o:= .cells (a.eval x).cells t) (x0:= .cells v.cells 0) (base:=0) (size:=(a.eval x).cells.size) hW none rfl rfl rfl rfl (λρ' n' aY hn=>
   zC (w':=w.alloc (.cells (a.eval x).cells t)) (e:=t) (fr:=(0,0)) (by show(w.heap.push _)[w.heap.size]? =_;simp) (by omega) (by rw[hl,Zg0 (by simp)];exact uY.mono aY hn) (λi _=>by simp))
 refine⟨_,.pointer (some ⟨w.heap.size,0,none⟩),_,ρ',?_,Yields.value _,aY,fA,?_,hE⟩
 .simp[execOp,ho,Instr.box,newVar,newRow]
 .have:=aq.ptr (ρ:=ρ') (n:=(st.aI none none (some (.cells v.cells 0))).next.toNat) (C:=C) st.next 0 (by simp[St.aI,Pos.aB]);rw[fh]at this;simpa using this
theorem IK{n:Nat}{z:List AV}{zs:List Value}(h:az ρ n C z zs):∀m,az ρ n C (bZ z m) (bZ zs m)
 |0=>az.nil
 |m+1=>h.append (IK h m)
theorem jx{α:Type}(z:List α):∀m,(bZ z m).length=m*z.length
 |0=>by simp[bZ]
 |m+1=>by simp[bZ,jx z m,Zj7,Nat.add_comm]
theorem Rg{α:Type}(z:List α):∀(m i:Nat),i<m*z.length->(bZ z m)[i]? =z[i % z.length]?
 |0,i,h=>by simp at h
 |m +1,i,h=>by
  simp only[bZ];by_cases hi:i<z.length
  .rw[Zd9 hi,Zg5 hi]
  .have hi:z.length<=i:=(by omega);rw[Zd1 hi,Rg z m _ (by rw[Zj7]at h;omega)];congr 1;rw[<-Zp4 hi]
theorem Y4(z:Array Value)(m:Nat)(hz:0<z.size):((Array.range (m*z.size)).map (z[· % z.size]!)).toList=bZ z.toList m:=by
 apply Zi4;intro i;by_cases hi:i<m*z.size
 .rw[Rg _ _ _ (by simpa using hi)];have bw:i % z.size<z.size:=Nat.mod_lt _ hz;simp[hi,bw]
 .rw[Zc4 (by simp;omega),Zc4 (by rw[jx];simp;omega)]
theorem C9{ρ':Pos->Loc}{b:Pos}{n g len es aS size:Nat}{cap:Option Nat}(hb:b.toNat<n)(aY:ρ' b=⟨g,0,size⟩)(hl:len<=aS)(hc:∀c,cap=some c->c=aS)(hs:aS*es<=size):
  aq ρ' n C (.slice b 0 len cap es) (.slice (some ⟨g,0,none⟩) len aS):=
 .slice _ _ _ _ _ _ _ hl hc (λ_=>⟨hb,by rw[aY],by rw[aY];simpa using hs⟩) (λ_=>hb)
theorem Tw{z:List AV}{zv:Value}{n m size:Nat}(uY:az ρ n C z zv.cells.toList)(hl:z.length=size):
   az ρ n C (bZ z m) ((Array.range (m*size)).map ((if m*size=0 then(#[]:Array Value)else zv.cells)[· % (if m*size=0 then(#[]:Array Value)else zv.cells).size]!)).toList/\
   ((Array.range (m*size)).map ((if m*size=0 then(#[]:Array Value)else zv.cells)[· % (if m*size=0 then(#[]:Array Value)else zv.cells).size]!)).size=m*size:=by
 refine⟨?_,by simp⟩;by_cases h0:m*size=0
 .have:bZ z m=[]:=(by apply Zb0;rw[jx,hl];exact h0);rw[this];have:(Array.range (m*size))= #[]:=(by rw[h0];rfl);rw[this];simpa using(az.nil:az ρ n C [] [])
 . rw[Za2 h0];have hzs:zv.cells.size=size:=(by have:=uY.1;simp at this;omega);have acH:0<zv.cells.size:=by
    rw[hzs];rcases Zm8 size with h|h
    .rw[h]at h0;simp at h0
    .exact h
   have:=Y4 zv.cells m acH;rw[hzs]at this ⊢;rw[this];exact IK uY m
theorem air{k:IntKind}{i:Int}(h1:Wr k<=i)(h2:i<=Ws k):k.wrap i=i:=by
 rw[<-rH];unfold au;split
 . split
   .rfl
   .exact absurd h2 (by assumption)
 .exact absurd h1 (by assumption)
theorem Y5{j:Nat}(h:j<=9223372036854775807):IntKind.i64.wrap (j:Int)=(j:Int):=air (by simp only[Wr];omega) (by simp only[Ws];omega)
theorem abd(hT:cB P tt)(t:TypeId)(l c:Operand):dK P tt (.makeSlice t l c):=by
 intro ρ C st w k xs cls fr a o vs res ho hc hW hF hx hr;simp only[gI]at hc;split at hc<;>first|(cases hc;done)|skip
 rename_i ti l0 dc hl;split at hc<;>first|(cases hc;done)|skip
 rename_i e hk;split at hc<;>first|(cases hc;done)|skip
 rename_i te fK;split at hc<;>first|(cases hc;done)|skip
 rename_i z hz;cases hc;obtain⟨d,hd,cH⟩:=(hT.at dc).und;rw[hk]at cH;rw[mT cH]at hd;obtain⟨i0,mF,kZ,hib,B9⟩:=(hT.at fK).info;obtain⟨u,v,rfl,h1,h2⟩:=Vc hl hF hx;simp only[ax.run,Au]at hr;split at hr<;>first|(cases hr;done)|skip
 rename_i jl jc Tz hjc;split at hr<;>first|(cases hr;done)|skip
 rename_i e1 e2 e3;have e1:=Za1 e1;have e2:=Za1 e2;have e3:=Za1 e3;simp only[H0]at hr;subst hr;obtain⟨kl,cK⟩:=jY h1 Tz;obtain⟨kc,Og⟩:=jY h2 hjc;obtain⟨zv0,hzv0,_,TA,_⟩:=B9 z hz;obtain⟨zv,Ca,_,uY⟩:=uX hT fK hz (ρ:=ρ) (n:=st.next.toNat) (C:=C) w;obtain⟨Oh,Ve⟩:=Tw (m:=jc) uY TA;generalize AD:(Array.range (jc*te.size)).map ((if jc*te.size=0 then(#[]:Array Value)else zv.cells)[· % (if jc*te.size=0 then(#[]:Array Value)else zv.cells).size]!)=row at Oh Ve;obtain⟨ρ',aY,fh,fA,hE⟩:=xR (w':=w.alloc (.cells row e)) (o:= .cells row e) (x0:= .cells (bZ z jc) 0) (base:=0) (size:=row.size) hW none rfl rfl rfl rfl (λρ' n' aY hn=>
   zC (w':=w.alloc (.cells row e)) (e:=e) (fr:=(0,0)) (by show(w.heap.push _)[w.heap.size]? =_;simp) (by rw[jx,Ve,TA];exact Za3 _)
    (by rw[jx,TA, <-Ve, <-Zg4,Zk1];exact Oh.mono aY hn) (λi _=>by simp))
 refine⟨_,.slice (some ⟨w.heap.size,0,none⟩) jl jc,_,ρ',?_,Yields.value _,aY,fA,?_,hE⟩
 . have cw:=Y5 (Zd6 e1 e3);have cZ:=Y5 e3;have hb:¬((te.bytes:Int)*(jc:Int)>2 ^ 48):=(by have h:=Int.ofNat_le.2 e2;rw[Int.natCast_mul]at h;exact Int.not_lt.2 h);have cC:(Instr.makeSlice t (.int kl jl) (.int kc jc)).run P w= .ok (.slice (some ⟨w.heap.size,0,none⟩) jl jc) (w.alloc (.cells row e)):=by
    unfold Instr.makeSlice;simp only[Sem.run_bind,aV hd,Result.andThen_ok,asInt,asIntOf,Sem.run_pure,YU mF,cw,cZ,hib];have acu:¬((decide ((jc:Int)<0)||decide ((te.bytes:Int)*(jc:Int)>2 ^ 48)||decide ((jl:Int)<0)||decide ((jl:Int)>(jc:Int)))=true):=by
        simp only[Zi0,Zd3];rintro(((h|h)|h)|h)
        .omega
        .exact hb h
        .omega
        .omega
    rw[Za2 acu];simp only[Sem.run_bind,run_askRoom,Result.andThen_ok,iO mF,kZ,Zj1];rw[<-AD];by_cases h0:jc*te.size=0
    .   simp only[h0,Zf9,Sem.run_bind,Sem.run_pure,Result.andThen_ok,newRow,run_newObj,World.alloc_eq]
    .   simp only[h0,Ze1,Sem.run_bind,Sem.run_pure,Result.andThen_ok,Ca,newRow,run_newObj,World.alloc_eq]
   simp[execOp,ho,cK,Og,cC]
 .exact C9 (by simp[St.aI,Pos.aB]) fh e1 (λc hc=>by cases hc;rfl) (by rw[Ve];exact Za3 _)
theorem Vf(hT:cB P tt)(t:TypeId)(len:Nat)(ps:Array (Nat×Operand)):dK P tt (.buildSlice t len ps):=by
 intro ρ C st w k xs cls fr a o vs res ho hc hW hF hx hr;simp only[gI]at hc;split at hc<;>first|(cases hc;done)|skip
 rename_i ti l0 dc hl;split at hc<;>first|(cases hc;done)|skip
 rename_i e hk;split at hc<;>first|(cases hc;done)|skip
 rename_i te fK;split at hc<;>first|(cases hc;done)|skip
 rename_i z hz hlim;have hlim:=Za1 hlim;cases hc;obtain⟨d,hd,cH⟩:=(hT.at dc).und;rw[hk]at cH;rw[mT cH]at hd;obtain⟨i0,mF,kZ,hib,B9⟩:=(hT.at fK).info;have hv:=eT hl hF hx;simp only[ax.run,sZ]at hr;split at hr<;>first|(cases hr;done)|skip
 rename_i cs AA;simp only[H0]at hr;subst hr;obtain⟨zv0,hzv0,_,TA,_⟩:=B9 z hz;obtain⟨zv,Ca,_,uY⟩:=uX hT fK hz (ρ:=ρ) (n:=st.next.toNat) (C:=C) w;obtain⟨Oh,Ve⟩:=Tw (m:=len) uY TA;generalize AD:(Array.range (len*te.size)).map ((if len*te.size=0 then(#[]:Array Value)else zv.cells)[· % (if len*te.size=0 then(#[]:Array Value)else zv.cells).size]!)=row at Oh Ve;have hps:(ps.map λ(i,x)=>(i,a.eval x)).toList=ps.toList.map λx=>(x.1,a.eval x.2):=by simp
 obtain⟨mG,e1,e2⟩:=Sk (λi=>some (i*te.size,te.size)) AA Oh (ps:=ps.toList.map λx=>(x.1,a.eval x.2)) (by simpa [Zh1,Zk6]using hv) (by simp[Zh1,Zk6]);have hlen:cs.length=mG.size:=by simpa using e2.1
 have akh:∀{pp:List (Nat×Nat)}{vs cells r:List AV},cI cells pp vs=some r->r.length=cells.length:=by
   intro pp;induction pp with
   |nil=>intro vs cells r h;unfold cI at h;split at h<;>first|(cases h;done)|(simp only[H0]at h;subst h;rfl)|(rename_i hh;cases hh)
   |cons p pp ih=>
    intro vs cells r h;unfold cI at h;(split at h<;>first|(cases h;done)|(rename_i hh;cases hh;done)|skip);rename_i hh;simp only[Zj3]at hh;obtain⟨rfl,rfl⟩:=hh;(split at h<;>first|(cases h;done)|skip);rename_i g1 g2;have g1:=H4 g1;have g2:=Za1 g2;rw[ih h];simp[aL];omega
 have hcsl:=akh AA;rw[jx,TA]at hcsl;obtain⟨ρ',aY,fh,fA,hE⟩:=xR (w':=w.alloc (.cells mG e)) (o:= .cells mG e) (x0:= .cells cs 0) (base:=0) (size:=mG.size) hW none rfl rfl rfl rfl (λρ' n' aY hn=>
   zC (w':=w.alloc (.cells mG e)) (e:=e) (fr:=(0,0)) (by show(w.heap.push _)[w.heap.size]? =_;simp) (by omega)
    (by rw[hlen, <-Zg4,Zk1];exact e2.mono aY hn) (λi _=>by simp))
 refine⟨_,.slice (some ⟨w.heap.size,0,none⟩) len len,_,ρ',?_,Yields.value _,aY,fA,?_,hE⟩
 . have cC:(Instr.buildSlice t len (ps.map λ(i,x)=>(i,a.eval x))).run P w= .ok (.slice (some ⟨w.heap.size,0,none⟩) len len) (w.alloc (.cells mG e)):=by
    unfold Instr.buildSlice;simp only[Sem.run_bind,aV hd,Result.andThen_ok,iO mF,kZ];rw[Za2 (by omega)];by_cases h0:len*te.size=0
    .   simp only[h0,Zf9,Sem.run_bind,Sem.run_pure,Result.andThen_ok];simp only[h0,Zf9]at AD;rw[AD,hps,e1];simp only[newRow,Sem.run_bind,run_newObj,World.alloc_eq,Result.andThen_ok,Sem.run_pure]
    .   simp only[h0,Ze1,Sem.run_bind,Sem.run_pure,Result.andThen_ok,Ca];simp only[h0,Ze1]at AD;rw[AD,hps,e1];simp only[newRow,Sem.run_bind,run_newObj,World.alloc_eq,Result.andThen_ok,Sem.run_pure]
   simp only[execOp,ho,Sem.run_bind];rw[cC];rfl
 .exact C9 (by simp[St.aI,Pos.aB]) fh (Za3 _) (λc hc=>by cases hc;rfl) (by omega)
theorem aeb(t:TypeId)(r:Option Operand)(hT:cB P tt):dK P tt (.makeMap t r):=by
 intro ρ C st w k xs cls fr a o vs res ho hc hW hF hx hr;have key:k= .mkMap/\(execOp a.eval o).run P w= .ok (.value (.map (some w.heap.size))) (w.alloc (.map #[] 0)):=by
  simp only[gI]at hc;split at hc<;>first|(cases hc;done)|skip
  rename_i ti dc;obtain⟨d,hd,cH⟩:=(hT.at dc).und;split at hc<;>first|(cases hc;done)|skip
  .cases hc;exact⟨rfl,by simp[execOp,ho,Instr.makeMap]⟩
  .rename_i hk;rw[hk]at cH;rw[Od cH]at hd;cases hc;exact⟨rfl,by simp[execOp,ho,Instr.makeMap,aV hd,Act.eval,asInt,asIntOf]⟩
 obtain⟨rfl,cC⟩:=key;simp only[ax.run,KV,H0]at hr;subst hr;obtain⟨ρ',aY,fh,fA,hE⟩:=xR (w':=w.alloc (.map #[] 0)) (o:= .map #[] 0) (x0:= .map [] 0) (base:=0) (size:=0) hW none rfl rfl rfl rfl (λρ' n' aY hn=>
  ⟨#[],by show(w.heap.push _)[w.heap.size]? =_;simp,rfl,λi e e' h=>by simp at h⟩)
 refine⟨_,_,_,ρ',cC,Yields.value _,aY,fA,?_,hE⟩;have:=aq.map (ρ:=ρ') (n:=(st.aI none none (some (.map [] 0))).next.toNat) (C:=C) st.next (by simp[St.aI,Pos.aB]);rw[fh]at this;exact this
theorem acI(hT:cB P tt)(t:TypeId)(x:Operand):dK P tt (.range t x):=by
 intro ρ C st w k xs cls fr a o vs res ho hc hW hF hx hr;simp only[gI]at hc;split at hc<;>first|(cases hc;done)|skip
 rename_i ti b dc hb;split at hc<;>first|(cases hc;done)|skip
 rename_i hk;cases hc;obtain⟨d,hd,cH⟩:=(hT.at dc).und;rw[hk]at cH;rw[mE cH]at hd;obtain⟨v,rfl,hv⟩:=fE hb hF hx;simp only[ax.run,Hz]at hr;split at hr<;>first|(cases hr;done)|skip
 rename_i s;simp only[H0]at hr;subst hr;obtain⟨bs,he,hs⟩:=hv.eU;obtain⟨ρ',aY,fh,fA,hE⟩:=xR (w':=w.alloc (.stringIter bs 0)) (o:= .stringIter bs 0) (x0:= .jS s 0) (base:=0) (size:=0) hW none rfl rfl rfl rfl (λρ' n' aY hn=>
   ⟨bs,by show(w.heap.push _)[w.heap.size]? =_;simp,hs,rfl⟩)
 refine⟨_,.pointer (some ⟨w.heap.size,0,none⟩),_,ρ',?_,Yields.value _,aY,fA,?_,hE⟩
 .simp[execOp,ho,he,Instr.range,aV hd]
 .have:=aq.ptr (ρ:=ρ') (n:=(st.aI none none (some (.jS s 0))).next.toNat) (C:=C) st.next 0 (by simp[St.aI,Pos.aB]);rw[fh]at this;simpa using this
theorem XM(hT:cB P tt)(src dst:TypeId)(x:Operand)(hb:∃xs cls,gI tt (.convert src dst x)=some (.conv .bytes,xs,cls)):dK P tt (.convert src dst x):=by
 intro ρ C st w k xs cls fr a o vs res ho hc hW hF hx hr;obtain⟨_,_,jw⟩:=hb;rw[hc]at jw;simp only[H0,Zb6]at jw;obtain⟨rfl,_⟩:=jw;simp only[gI]at hc;split at hc<;>first|(cases hc;done)|skip
 rename_i s d b hs hd hb;obtain⟨ds,wM,El⟩:=(hT.at hs).und;obtain⟨dd,hdd,cH⟩:=(hT.at hd).und;split at hc<;>first|(cases hc;done)|skip
 . rename_i e h1 h2;(split at hc<;>first|(cases hc;done)|skip);rename_i te fK;(split at hc<;>first|(cases hc;done)|skip);rename_i hk8;cases hc;rw[h1]at El;rw[h2]at cH;rw[mE El]at wM;rw[mT cH]at hdd;obtain⟨de,hde,hke⟩:=(hT.at fK).und;rw[hk8]at hke;rw[JG hke]at hde;obtain⟨v,rfl,hv⟩:=fE hb hF hx;simp only[ax.run,wD]at hr;split at hr<;>first|(cases hr;done)|(rename_i heq;cases heq;done)|(rename_i heq;cases heq)
   (rename_i u;simp only[H0]at hr;subst hr;obtain⟨bs,he,hs⟩:=hv.eU;have cC:=run_bytes_of_string (P:=P) w src dst e bs wM hdd hde;have Vd:bs.size<=grownCap w bs.size 0 e:=(by unfold grownCap Question.cut;exact Zo1 _ _);generalize grownCap w bs.size 0 e=cap at cC Vd;have ew:(bytesRow bs cap).size=cap:=by have:bs.data.size=bs.size:=rfl;simp[bytesRow,this];omega);have WD:u.length=bs.size:=(yY hs).symm;have hrel:∀ρ' n',az ρ' n' C (u.map λc=>AV.int .u8 (.ofNat c)) ((bytesRow bs cap).toList.take (u.map λc=>AV.int .u8 (.ofNat c)).length):=by
     (intro ρ' n';have h1:(bytesRow bs cap).toList.take (u.map λc=>AV.int .u8 (.ofNat c)).length=u.map λc=>Value.int .u8 (.ofNat c):=by have hdl:bs.data.toList.length=bs.size:=(by simp);rw[Zb3,WD];simp only[bytesRow,Array.toList_append,Zp9];rw[Zl6 (by simp), <-hs,Zh1];rfl);rw[h1];refine⟨by simp,λi v x hv hx=> ?_⟩;simp only[Zb5,Zf7]at hv hx;obtain⟨c,hc,rfl⟩:=hv;obtain⟨c',xS,rfl⟩:=hx;rw[hc]at xS;cases xS;exact .int _ _
   obtain⟨ρ',aY,fh,fA,hE⟩:=xR (w':=w.drew.alloc (.cells (bytesRow bs cap) e ((bytesRow bs cap).size,(bytesRow bs cap).size+1))) (o:= .cells (bytesRow bs cap) e ((bytesRow bs cap).size,(bytesRow bs cap).size+1))
     (x0:= .cells (u.map λc=>AV.int .u8 (.ofNat c)) 0) (base:=0) (size:=(bytesRow bs cap).size) hW none rfl rfl rfl rfl (λρ' n' aY hn=>
     zC (e:=e) (fr:=((bytesRow bs cap).size,(bytesRow bs cap).size+1)) (by show(w.heap.push _)[w.heap.size]? =_;simp) (by rw[Zb3,WD,ew];exact Vd) (hrel _ _) (λi hi=>by simp;omega))
   refine⟨_,.slice (some ⟨w.heap.size,0,none⟩) u.length cap,_,ρ',?_,Yields.value _,aY,fA,?_,hE⟩
   .simp only[execOp,ho,he,Sem.run_bind];rw[cC,WD];rfl
   .exact C9 (by simp[St.aI,Pos.aB]) fh (by omega) (λc hc=>by cases hc) (by omega)
 all_goals
   repeat' split at hc
   all_goals (cases hc;done)
end
section
variable{P:Program}{tt:TT}{ρ:Pos->Loc}{C:Cells}{st:St}{w w':World}
theorem AE{n:Nat}:∀{l:List AV}{ys:List Value},bg l=true->az ρ n C l ys->∀y∈ys,y.oneCell'=true
 |[],ys,_,h=>by have:=h.mL;subst this;simp
 |v::l,ys,h1,h=>by
  unfold bg at h1;split at h1<;>first|(cases h1;done)|skip
  rename_i ho;obtain⟨y,ys',rfl,hv,hs⟩:=h.cons_inv;intro z hz;simp at hz;rcases hz with rfl|hz
  .cases hv<;>first|rfl|(simp[AV.one]at ho;done)
  .exact AE h1 hs z hz
theorem ER{α:Type}(l:List α){i:Nat}(vs:List α)(hi:i<=l.length)(k:Nat):(aL l i vs)[k]? =if k<i then l[k]? else if k<i+vs.length then vs[k - i]? else l[k]? :=by
 unfold aL;have hl:(l.take i).length=i:=by simp;omega
 split
 .rename_i h;rw[Zd9 (by omega),Zb8,Za4 h]
 . rename_i h;rw[Zd1 (by omega),hl];split
   .rename_i h';rw[Zd9 (by omega)]
   .rename_i h';rw[Zd1 (by omega),Zd7];congr 1;omega
theorem IL{α:Type}(l:List α)(b off:Nat)(vs:List α)(h:b+off<=l.length):(aL l (b+off) vs).drop b=aL (l.drop b) off vs:=by
 apply Zi4;intro k;rw[Zd7,ER l vs h,ER (l.drop b) vs (by simp;omega),Zd7];by_cases h1:k<off
 .rw[Za4 (by omega),Za4 h1]
 . rw[Za2 (by omega),Za2 h1];by_cases h2:k<off+vs.length
   .rw[Za4 (by omega),Za4 h2];congr 1;omega
   .rw[Za2 (by omega),Za2 h2]
theorem Rh{α:Type}(l:List α)(off m:Nat)(vs:List α)(h:off+vs.length<=m)(h':m<=l.length):(aL l off vs).take m=aL (l.take m) off vs:=by
 apply Zi4;intro k;rw[Zb8,ER l vs (by omega),ER (l.take m) vs (by simp;omega),Zb8];by_cases h1:k<off
 .rw[Za4 (by omega),Za4 h1,Za4 h1,Za4 (by omega)]
 . by_cases h2:k<off+vs.length
   .rw[Za4 (by omega),Za2 h1,Za4 h2,Za2 h1,Za4 h2]
   .rw[Za2 h1,Za2 h2,Za2 h1,Za2 h2]
theorem La(hW:bn ρ C st w){b:Pos}{cs vs:List AV}{fz off:Nat}{ys:List Value}(hb:st.heap.get b=some (.cells cs fz))(hle:off+vs.length<=cs.length)(hfz:fz<=off)
   (h1:bg vs=true) (hv:az ρ st.next.toNat C vs ys):
   ∃w',(storeCells ⟨(ρ b).aA,(ρ b).base+off,none⟩ ys).run P w= .ok () w'/\bn ρ C (st.aI none (some (b,.cells (aL cs off vs) fz)) none) w'/\jW ρ st w ρ (st.aI none (some (b,.cells (aL cs off vs) fz)) none) w':=by
 obtain⟨_,_,c,e,fr,g1,g2,g3,g4,g5⟩:=hW.live b _ hb;have hl:vs.length=ys.length:=hv.1;obtain⟨w',e1,e2,e3,e4,e5,e6,e7⟩:=kG (P:=P) (ρ b).aA e fr ys 0 ((ρ b).base+off) c w g1 (by omega) (AE h1 hv) (λk hk lB=>by
   have:=g5 (k - (ρ b).base) (by omega) (by omega)
   rwa [show(ρ b).base+(k - (ρ b).base)=k from by omega]at this)
 simp only[Zf8]at e1 e2;refine⟨w',e1,?_⟩;have hlen:(aL cs off vs).length=cs.length:=by simp[aL];omega
 refine Tv hW hb e5 e6 e7 e3 e4 ⟨_,e,fr,e2,?_,?_,?_,λi hi TB=>g5 i hi ?_⟩
 .simp[aL];omega
 .rw[hlen];simp[aL];omega
 .rw[hlen];rw[IL _ _ _ _ (by simp;omega),Rh _ _ _ _ (by omega) (by simp;omega)];exact g4.aL hv off
 .simp[aL]at TB;omega
theorem aec(hW:bn ρ C st w){b:Pos}{cs vs:List AV}{t:TypeId}{off:Nat}{ys:List Value}(hb:st.heap.get b=some (.typed t cs))(hle:off+vs.length<=cs.length)
   (h1:bg vs=true) (hv:az ρ st.next.toNat C vs ys):
   ∃w',(storeCells ⟨(ρ b).aA,(ρ b).base+off,none⟩ ys).run P w= .ok () w'/\bn ρ C (st.aI none (some (b,.typed t (aL cs off vs))) none) w'/\jW ρ st w ρ (st.aI none (some (b,.typed t (aL cs off vs))) none) w':=by
 obtain⟨_,_,c,fr,g1,g2,g3,g4,g5,g6⟩:=hW.live b _ hb;have hl:vs.length=ys.length:=hv.1;obtain⟨w',e1,e2,e3,e4,e5,e6,e7⟩:=kG (P:=P) (ρ b).aA t fr ys 0 ((ρ b).base+off) c w g1 (by omega) (AE h1 hv) (λk hk lB=>by
   have:=g5 (k - (ρ b).base) (by omega) (by omega)
   rwa [show(ρ b).base+(k - (ρ b).base)=k from by omega]at this)
 simp only[Zf8]at e1 e2;refine⟨w',e1,?_⟩;have hlen:(aL cs off vs).length=cs.length:=by simp[aL];omega
 refine Tv hW hb e5 e6 e7 e3 e4 ⟨_,fr,e2,?_,?_,?_,λi hi TB=>g5 i hi ?_,g6⟩
 .simp[aL];omega
 .rw[hlen];simp[aL];omega
 .rw[hlen];rw[IL _ _ _ _ (by simp;omega),Rh _ _ _ _ (by omega) (by simp;omega)];exact g4.aL hv off
 .simp[aL]at TB;omega
theorem aq.y6{n:Nat}:aq ρ n C .undef undef:= .tuple [] #[] rfl (λ_ _ _ h=>by simp at h)
theorem aed(hT:cB P tt)(t:TypeId)(x y:Operand):dK P tt (.store t x y):=by
 intro ρ C st w k xs cls fr a o vs res ho hc hW hF hx hr;simp only[gI]at hc;split at hc<;>first|(cases hc;done)|skip
 rename_i ti l dc hl;cases hc;obtain⟨p,v,rfl,h1,h2⟩:=Vc hl hF hx;obtain⟨i0,mF,kZ,_⟩:=(hT.at dc).info;simp only[ax.run,Cs]at hr;split at hr<;>first|(cases hr;done)|skip
 rename_i b off;split at hr<;>first|(cases hr;done)|skip
 rotate_left
 .rename_i t0 cs hb;(split at hr<;>first|(cases hr;done)|skip);rename_i e1 e2 e4;have e1:=H4 e1;have e2:=Za1 e2;simp only[H0]at hr;subst hr;obtain⟨_,he⟩:=h1.fJ;have hc:=h2.cells;obtain⟨w',cC,fA,hE⟩:=aec (P:=P) (vs:=v.cells) (off:=off) hW hb (by omega) e4 hc;refine⟨.skip,undef,w',ρ,?_,.inr ⟨rfl,rfl⟩,λ_ _=>rfl,fA,aq.y6,hE⟩;have ew:(a.eval y).cells.size=ti.size:=(by have:=hc.1;simp at this;omega);simp[execOp,ho,he,Instr.storeAt,Instr.sureAddr,storeVar,iO mF,kZ,ew,cC]
 rename_i cs fz hb;split at hr<;>first|(cases hr;done)|skip
 rename_i e1 e2 e3 e4;have e1:=H4 e1;have e2:=Za1 e2;have e3:=Za1 e3;simp only[H0]at hr;subst hr;obtain⟨_,he⟩:=h1.fJ;have hc:=h2.cells;obtain⟨w',cC,fA,hE⟩:=La (P:=P) hW hb (by omega) e3 e4 hc;refine⟨.skip,undef,w',ρ,?_,.inr ⟨rfl,rfl⟩,λ_ _=>rfl,fA,aq.y6,hE⟩;have ew:(a.eval y).cells.size=ti.size:=by have:=hc.1;simp at this;omega
 simp[execOp,ho,he,Instr.storeAt,Instr.sureAddr,storeVar,iO mF,kZ,ew,cC]
theorem run_setObj_map{r:Nat}{es:Array MapEntry}{c:Nat}{o:Obj}{w:World}(h:w.heap[r]? =some (.map es c)):(setObj r o).run P w= .ok () { w with heap:=w.heap.setIfInBounds r o }:=by
 simp[setObj,Sem.run,h]
theorem TC(hW:bn ρ C st w){b:Pos}{es:List (AV×AV×Nat)}{clock:Nat}(hb:st.heap.get b=some (.map es clock)){Nb:List (AV×AV×Nat)}{acJ:Array MapEntry}{JN:Nat}
  (hE:HI ρ st.next.toNat C Nb acJ.toList):
  bn ρ C (st.aI none (some (b,.map Nb JN)) none) { w with heap:=w.heap.setIfInBounds (ρ b).aA (.map acJ JN) }/\jW ρ st w ρ (st.aI none (some (b,.map Nb JN)) none) { w with heap:=w.heap.setIfInBounds (ρ b).aA (.map acJ JN) }:=by
 have bw:=(hW.live b _ hb).2.1;refine Tv hW hb rfl rfl rfl (by simp) (λk hk=>by simp[Ze2 (Ne.symm hk)]) ⟨acJ,by simp[bw],by simpa using hE.1,λi e e' h1 h2=>hE.2 i e e' h1 (by simpa using h2)⟩
theorem Sl{n:Nat}{pk:PK}{u v:AV}{x y:Value}(h1:aq ρ n C u x)(h2:aq ρ n C v y)(h:yW pk u v=some true)(m:Nat):Instr.sameBits m y x=true:=by
 unfold yW at h;split at h<;>first|(cases h;done)|skip
 .simp only[H0]at h;rw[h1.ir,h2.ir];rename_i p q;have:p=q:=(by simpa using h);subst this;cases m<;>simp[Instr.sameBits]
 . (split at h<;>first|(cases h;done)|skip);rename_i Ek;have:=zA Ek;subst this;simp only[H0,mU]at h;rw[h1.iF,h2.iF];rename_i p q _;have:p=q:=(by simpa using h);subst this;cases m<;>simp[Instr.sameBits]
 .simp only[H0]at h;obtain⟨bx,rfl,e1⟩:=h1.eU;obtain⟨bz,rfl,e2⟩:=h2.eU;have:bz==bx:=(by rw[beq_toListBytes,JJ e2 e1,jX];exact(jX.1 h).symm);cases m<;>simpa [Instr.sameBits]using this
theorem WE{pk:PK}{u:AV}:∀{es:List (AV×AV×Nat)}{i j:Nat}{v:AV},jU pk u es i=some (some (j,v))->∃e,i<=j/\es[j - i]? =some e/\yW pk u e.1=some true
 |[],i,j,v,h=>by simp[jU]at h
 |(k',v',born)::es,i,j,v,h=>by
  unfold jU at h;split at h<;>first|(cases h;done)|skip
  .rename_i hq;simp only[H0,Zb6]at h;obtain⟨rfl,_⟩:=h;exact⟨(k',v',born),Za3 _,by simp,hq⟩
  .obtain⟨e,h1,h2,h3⟩:=WE h;refine⟨e,by omega,?_,h3⟩;rw[show j - i=(j - (i+1))+1 from by omega];simpa using h2
theorem Oi(k v:AV):∀(es:List (AV×AV×Nat))(i j:Nat),(oR k v es i)[j]? =if j=i then(es[i]?).map (λe=>(k,v,e.2.2))else es[j]?
 |[],i,j=>by cases i<;>cases j<;>simp[oR]
 |(a,b,born)::es,0,j=>by cases j<;>simp[oR]
 |e::es,i+1,j=>by
  cases j with
  |zero=>simp[oR]
  |succ j=>simp[oR,Oi k v es i j]
theorem TD (hT:cB P tt)(op:Op)(t:TypeId)(m k0 v0:Operand)(hop:op= .mapUpdate t m k0 v0\/op= .insert t m k0 v0):dK P tt op:=by
 intro ρ C st w k xs cls fr a o vs res ho hc hW hF hx hr;have hc:gI.acy tt t m k0 v0=some (k,xs,cls):=by rcases hop with rfl|rfl<;>simpa only[gI]using hc
 have hex:(execOp a.eval o).run P w=((Instr.mapUpdate t (a.eval m) (a.eval k0) (a.eval v0)).run P w).andThen λ_ w=>.ok .skip w:=by
   rcases hop with rfl|rfl<;>simp[execOp,ho]
 unfold gI.acy at hc;split at hc<;>first|(cases hc;done)|skip
 rename_i ti l dc hl;split at hc<;>first|(cases hc;done)|skip
 rename_i kt et hk;split at hc<;>first|(cases hc;done)|skip
 rename_i tk pX;obtain⟨d,hd,cH⟩:=(hT.at dc).und;rw[hk]at cH;rw[Od cH]at hd;obtain⟨dk,WB,Ek⟩:=(hT.at pX).und;have key:∃pk,k= .mapSet pk/\xs=l/\pk.fits dk=true:=by
   split at hc<;>first|(cases hc;done)|skip
   all_goals
     rename_i h1;cases hc;refine⟨_,rfl,rfl,ah3 tk.k Ek ?_⟩
   .exact .inr (.inl ⟨⟨_,h1⟩,rfl⟩)
   .exact .inr (.inr ⟨h1,rfl⟩)
   .exact .inl ⟨h1,rfl⟩
 obtain⟨pk,rfl,rfl,II⟩:=key;obtain⟨mm,kk,vv,rfl,h1,h2,h3⟩:=evs3 hl hF hx;have qg:∀e w,(Instr.checkKey e 10000 kt (a.eval k0)).run P w= .ok () w:=λe w=>JL WB II e 9999 _ w
 simp only[ax.run,zw]at hr;split at hr<;>first|(cases hr;done)|skip
 rename_i b;split at hr<;>first|(cases hr;done)|skip
 rename_i es clock hb;obtain⟨_,he⟩:=h1.zB;obtain⟨_,_,es',eF,hlen,iu⟩:=hW.live _ _ hb;have hE:HI ρ st.next.toNat C es es'.toList:=⟨by simpa using hlen,λi e e' h1 h2=>iu i e e' h1 (by simpa using h2)⟩
 split at hr<;>first|(cases hr;done)|skip
 . rename_i i v hpk hf;simp only[H0]at hr;subst hr;obtain⟨r',hf',th⟩:=C7 II h2 hE hf;rcases th with⟨e1,_⟩|⟨j',v',y,e1,e2,e3,_,e5⟩
   .cases e1
   . cases  e1;subst e2;obtain⟨e,_,hei,hek⟩:=WE hf;rw[Zl5]at hei;have hi:i<es'.size:=(by omega);have acK:es'[i]? =some es'[i]:=Zf5 hi;have hkey:=(iu i e es'[i] hei acK).1;have hsb:=Sl h2 hkey hek 10000;have hE2:HI ρ st.next.toNat C (oR kk vv es i) (es'.modify i λe=>{ e with key:=a.eval k0,val:=a.eval v0 }).toList:=by
        refine⟨?_,λj e e' g1 g2=> ?_⟩
        . have Ri:∀(es:List (AV×AV×Nat))(i:Nat),(oR kk vv es i).length=es.length:=by
            intro es;induction es with
            |nil=>intro i;cases i<;>rfl
            | cons e es ih=>intro i;cases i with
              |zero=>obtain⟨a,b,c⟩:=e;rfl
              |succ i=>simp[oR,ih i]
          rw[Ri];simpa using hlen
        . rw[Oi]at g1;simp only[Zg6,Zn9]at g2;by_cases hji:j=i
          .subst hji;rw[Za4 rfl,hei]at g1;simp[acK]at g1 g2;subst g1;subst g2;exact⟨h2,h3,(iu j e es'[j] hei acK).2.2⟩
          .rw[Za2 hji]at g1;rw[Za2 (λe=>hji e.symm)]at g2;exact iu j e e' g1 g2
     obtain⟨fA,hE'⟩:=TC hW hb (JN:=clock) hE2;refine⟨.skip,undef,_,ρ,?_,.inr ⟨rfl,rfl⟩,λ_ _=>rfl,fA,aq.y6,hE'⟩;rw[hex];simp only[Instr.mapUpdate,Sem.run_bind,aV hd,Result.andThen_ok,he,run_getObj_map eF,qg,run_findKey WB hf',acK,Ze3,Zf1,Instr.keyThatStays,hsb,Zf9,Sem.run_pure,run_setObj_map eF]
 . rename_i hpk hf;simp only[H0]at hr;subst hr;obtain⟨r',hf',th⟩:=C7 II h2 hE hf;rcases th with⟨_,e2⟩|⟨j',v',y,e1,_⟩
   . subst  e2;have hE2:HI ρ st.next.toNat C (es++[(kk,vv,clock)]) (es'.push { key:=a.eval k0,val:=a.eval v0,born:=clock }).toList:=by
        refine⟨by simp[hlen],λj e e' g1 g2=> ?_⟩;simp only[Array.toList_push]at g2;rcases Zj6 j es.length with hj|hj
        .rw[Zd9 hj]at g1;rw[Zd9 (by simp;omega)]at g2;exact iu j e e' g1 (by simpa using g2)
        .rw[Zd1 hj]at g1;rw[Zd1 (by simp;omega)]at g2;have:j - es.length=0:=(by have:=(H5.1 g1).1;simp at this;omega);rw[this]at g1;have:j - es'.toList.length=0:=(by simp;omega);rw[this]at g2;simp at g1 g2;subst g1;subst g2;exact⟨h2,h3,rfl⟩
     obtain⟨fA,hE'⟩:=TC hW hb (JN:=clock+1) hE2;refine⟨.skip,undef,_,ρ,?_,.inr ⟨rfl,rfl⟩,λ_ _=>rfl,fA,aq.y6,hE'⟩;rw[hex];simp only[Instr.mapUpdate,Sem.run_bind,aV hd,Result.andThen_ok,he,run_getObj_map eF,qg,run_findKey WB hf',run_setObj_map eF]
   .cases e1
theorem aee(it:Operand)(isS:Bool):dK P tt (.next it isS):=by
 intro ρ C st w k xs cls fr a o vs res ho hc hW hF hx hr;simp only[gI]at hc;split at hc<;>first|(cases hc;done)|skip
 rename_i b hb;cases hc;obtain⟨v,rfl,hv⟩:=fE hb hF hx;simp only[ax.run,KW]at hr;split at hr<;>first|(cases hr;done)|skip
 rename_i bb;split at hr<;>first|(cases hr;done)|skip
 rename_i s pos kI;obtain⟨_,he⟩:=hv.fJ;obtain⟨_,_,bs,B8,hs,Ys⟩:=hW.live _ _ kI;have ew:=yY hs;have nG:(getObj (ρ bb).aA).run P w= .ok (.stringIter bs pos) w:=by simp[getObj,Sem.run,B8]
 rw[Ys]at he;split at hr
 . (rename_i bw;have bw:pos<s.length:=(by simpa using bw);(split at hr<;>first|(cases hr;done)|skip);rename_i c wd Sm;simp only[H0]at hr;subst hr;have K8:pos<bs.size:=(by omega);unfold abE at Sm;(split at Sm<;>first|(cases Sm;done)|skip);rename_i c' xS;(split at Sm<;>first|(cases Sm;done)|skip);rename_i af3;simp only[H0,Zb6]at Sm;obtain⟨rfl,rfl⟩:=Sm;have af3:c'<128:=(by simpa using af3);have hcb:(bs[pos]'K8).toNat=c':=by rw[lY, <-hs,Zb5]at xS;obtain⟨b',nD,l6⟩:=Zf7.1 xS;obtain⟨hl,hbb'⟩:=H5.1 nD;rw[<-l6, <-hbb'];rfl);have abG:=decode_ascii bs pos K8 (by rw[hcb];exact af3);rw[hcb]at abG;have Lb:(setObj (ρ bb).aA (.stringIter bs (pos+1))).run P w= .ok () { w with heap:=w.heap.setIfInBounds (ρ bb).aA (.stringIter bs (pos+1)) }:=(by simp[setObj,Sem.run,B8]);have hltb:=(hW.live _ _ kI).2.1
   obtain⟨fA,hE'⟩:=Tv (w':={ w with heap:=w.heap.setIfInBounds (ρ bb).aA (.stringIter bs (pos+1)) }) (x0:= .jS s (pos+1)) hW kI rfl rfl rfl (by simp)
     (λk hk=>by simp[Ze2 (Ne.symm hk)]) ⟨bs,by simp[hltb],hs,Ys⟩
   refine⟨.value (.tuple #[.bool true,goInt pos,.int .i32 (c':Int)]),_,_,ρ,?_,Yields.value _,λ_ _=>rfl,fA,?_,hE'⟩
   .simp only[execOp,ho,he,Instr.next,Sem.run_bind,nG,Result.andThen_ok,K8,Zf9,abG,Lb,Sem.run_pure]
   .exact .uV (az.cons (.bool true) (az.cons (.int _ _) (az.cons (.int _ _) az.nil)))
 . (rename_i bw;have bw:¬pos<s.length:=λh=>by have:Nat.blt pos s.length=true:=(by simpa using h);rw[this]at bw;cases bw);simp only[H0]at hr;subst hr;have K8:¬pos<bs.size:=(by omega);refine .pure (x:= .tuple #[.bool false]) ?_ (.uV (az.cons (.bool false) az.nil));simp only[execOp,ho,he,Instr.next,Sem.run_bind,nG,Result.andThen_ok,K8,Ze1,Sem.run_pure]
end
section
variable{P:Program}{tt:TT}{ρ:Pos->Loc}{C:Cells}{st:St}{w w':World}
theorem bn.of_heap(hW:bn ρ C st w)(h:w'.heap=w.heap):bn ρ C st w' where
 live b x hb:=let⟨h1,h2,h3⟩:=hW.live b x hb;⟨h1,by rw[h];exact h2,h3.of_heap (by rw[h])⟩
 inj:=hW.inj
 ek a v ha:=let⟨h1,h2⟩:=hW.ek a v ha;⟨by unfold World.cell? at h1 ⊢; rw[h];exact h1,h2⟩
 whole a v ha o ho:=by have:=hW.whole a v ha o ho;unfold World.cell? at this ⊢; rw[h];exact this
theorem Rj{es:Nat}:∀{xs:List (List AV)}(_h:∀(i:Nat)(cs:List AV),xs[i]? =some cs->cs.length=es)(q:Nat)(v:AV),
  xs.flatten[q]? =some v->∃cs,xs[q / es]? =some cs/\cs[q % es]? =some v
 |[],_,q,v,hv=>by simp at hv
 |c ::xs,h,q,v,hv=>by
  have hc:c.length=es:=h 0 c rfl;have iD:∀(i:Nat)(cs:List AV),xs[i]? =some cs->cs.length=es:=λi cs hi=>h (i+1) cs (by simpa using hi)
  rw[Zf3]at hv;rcases Zj6 q c.length with hq|hq
  . rw[Zd9 hq]at hv;refine⟨c,?_,?_⟩
    .   rw[Nat.div_eq_of_lt (by omega)];rfl
    .   rw[Zg5 (by omega)];exact hv
  . rw[   Zd1 hq]at hv;obtain⟨cs,h1,h2⟩:=Rj iD (q - c.length) v hv;rw[hc]at hq h1 h2;have acH:0<es:=by
        rcases Zm8 es with h0|h0
        .subst h0;have hl:=iD _ _ h1;have:=(H5.1 h2).1;omega
        .exact h0
    refine⟨cs,?_,?_⟩
    .   rw[Nat.div_eq_sub_div acH hq];simpa using h1
    .   rw[Zp4 hq];exact h2
theorem Rk{es:Nat}:∀{xs:List (List AV)}(_h:∀(i:Nat)(cs:List AV),xs[i]? =some cs->cs.length=es),xs.flatten.length=xs.length*es
 |[],_=>by simp
 |c::xs,h=>by have hc:c.length=es:=h 0 c rfl;rw[Zf3,Zb1,Rk (λi cs hi=>h (i+1) cs (by simpa using hi)),hc,Zb2,Zj7];omega
theorem k9(hW:bn ρ C st w){es m:Nat}{u:AV}{x:Value}{new:List AV}{k:Nat}(hu:aq ρ st.next.toNat C u x)(hk:dH u=some k)(hmk:m<=k)(h:cJ es m (λb=>st.heap.get b) u=some new)(w2:World)(cZ:w2.heap=w.heap):
   ∃ys:List Value,(Builtin.firstCells es m x).run P w2= .ok ys.toArray w2/\az ρ st.next.toNat C new ys/\(u= .av\/new.length=m*es):=by
 have JO:=hW.of_heap (w':=w2) cZ;unfold cJ at h;split at h
 .simp only[H0]at h;subst h;rw[hu.fZ];exact⟨[],by simp[Builtin.firstCells],az.nil,.inl rfl⟩
 . rename_i b off len cap es';simp only[dH,H0]at hk;subst hk;obtain⟨aa,aS,he,hle,_,ha⟩:=hu.ee;rw[he];split at h
   .rename_i h0;have h0:=H4 h0;simp only[H0]at h;subst h;exact⟨[],by simp[Builtin.firstCells,h0,loadCells,loadCellsFrom],az.nil,.inr (by simp[h0])⟩
   .rename_i h0;have h0:=Zc0 h0;(split at h<;>first|(cases h;done)|skip);rename_i cs fz hb;have hm:m≠0:=(by intro e;subst e;simp at h0);obtain⟨_,rfl,_⟩:=ha (by omega);obtain⟨ys,h1,h2⟩:=JO.loadCells (P:=P) hb h;exact⟨ys,by simp only[Builtin.firstCells];exact h1,h2,.inr (wF h)⟩
 . rename_i xs es';simp only[dH,H0]at hk;subst hk;(split at h<;>first|(cases h;done)|skip);rename_i Y6 Rm;have Y6:=H4 Y6;have Rm:=Za1 Rm;subst Y6;simp only[H0]at h;subst h;obtain⟨aa,aS,cell,he,hle,Az,g1,g2,g3⟩:=hu.uW;rw[he];have eF:∀(i:Nat)(cs:List AV),(xs.take m)[i]? =some cs->cs.length=es:=λi cs hi=>by
     rw[Zb8]at hi;split at hi
     .exact g1 i cs hi
     .cases hi
   have Y7:=Rk eF;rw[Zl2,Zk4 Rm]at Y7;have ah4:∀q v,(xs.take m).flatten[q]? =some v->∃cs,xs[q / es]? =some cs/\cs[q % es]? =some v:=λq v hv=>by
     obtain⟨cs,h1,h2⟩:=Rj eF q v hv;rw[Zb8]at h1;split at h1
     .exact⟨cs,h1,h2⟩
     .cases h1
   refine⟨(List.range (m*es)).map λq=>cell (q / es) (q % es),?_,⟨by simp[Y7],λq v y hv hy=> ?_⟩,.inr Y7⟩
   .simp only[Builtin.firstCells];(refine run_loadCells w2 _ _ _ λq hq=> ?_);have bw:q<(xs.take m).flatten.length:=(by rw[Y7];exact hq);obtain⟨cs,h1,h2⟩:=ah4 q _ (H1 bw);have Az:=Az (by intro e;rw[e]at h1;simp at h1);obtain⟨ab,ao,asp⟩:=aa;simp only at Az;subst Az;have:=(JO.ek _ _ (g2 _ _ _ _ h1 h2)).1;rw[lZ];simp only at this;rw[show ao+q=ao+q / es*es+q % es from by rw[Zh4,Nat.mul_comm,Nat.div_add_mod]];exact this
   .obtain⟨cs,h1,h2⟩:=ah4 q v hv;have hq:q<m*es:=(by rw[<-Y7];exact(H5.1 hv).1);simp[hq]at hy;subst hy;exact g3 _ _ _ _ h1 h2
 . rename_i s;simp only[dH,H0]at hk;subst hk;(split at h<;>first|(cases h;done)|skip);rename_i Y6 Rm;have Y6:=H4 Y6;have Rm:=Za1 Rm;subst Y6;simp only[H0]at h;subst h;obtain⟨bs,rfl,hs⟩:=hu.eU;refine⟨(s.take m).map λ(c:Nat)=>Value.int .u8 (.ofNat c),?_,⟨by simp,λq v y hv hy=> ?_⟩,.inr (by simp;omega)⟩
   .simp only[Builtin.firstCells,Sem.run_pure];congr 1;apply Zm9;simp only[Zp9,ByteArray.data_extract,Zo5,List.extract,Zb7,Zl5];rw[<-hs, <-Zk8,Zh1];rfl
   .simp only[Zb5,Zf7]at hv hy;obtain⟨c,hc,rfl⟩:=hv;obtain⟨c',xS,rfl⟩:=hy;rw[hc]at xS;cases xS;exact .int _ _
 .cases h
theorem Sn{n:Nat}{u:AV}{x:Value}{k:Nat}(hu:aq ρ n C u x)(hk:dH u=some k):(Builtin.lenOf x).run P w= .ok k w:=by
 unfold dH at hk;split at hk<;>first|(cases hk;done)|skip
 all_goals simp only[H0]at hk;subst hk
 .rw[hu.fZ];rfl
 .obtain⟨_,_,he,_⟩:=hu.ee;rw[he];rfl
 .obtain⟨_,_,_,he,_⟩:=hu.uW;rw[he];rfl
 .obtain⟨bs,rfl,hs⟩:=hu.eU;rw[<-yY hs];rfl
theorem WG(nl:Nat):∀(r c:Nat),c<=nl+(nl+768) / 4->Builtin.growBy nl r c<=nl+(nl+768) / 4
 |0,c,h=>h
 |r+1,c,h=>by
  unfold Builtin.growBy;split
  .exact h
  .exact WG nl r _ (by omega)
theorem nextslicecap_le{acL c9:Nat}(h:c9<acL):Builtin.nextslicecap acL c9<=2*acL+768:=by
 unfold Builtin.nextslicecap;split
 .omega
 . split
   .omega
   .have:=WG acL 4 c9 (by omega);omega
theorem Lc(hT:cB P tt){t t2 e:Nat}{ts:Array TypeId}{ti M8 te:TI}(dc:tt.get (key t)=some ti)(Oj:tt.get (key t2)=some M8)(hk:ti.k= .slice e)(qh:∀k,M8.k≠ .int k)
  (fK:tt.get (key e)=some te) (h0:ts[0]? =some t) (h1:ts[1]? =some t2) (ty:TypeId) (base:Option Addr) (n cap m:Nat) (x:Value) (w:World)
  (hx:(Builtin.lenOf x).run P w= .ok m w) (hb:(2*(n+m)+768)*te.bytes<=281474976710656) (hi:n+m<=9223372036854775807):
  (Builtin.append_ ts ty #[.slice base n cap,x]).run P w=
    if n+m<=cap then((Builtin.firstCells te.size m x).run P w).andThen λnew w=>((match base with|some a=>storeCells (a.add (n*te.size)) new.toList|none=>pure ()).run P w).andThen λ_ w=>.ok (.slice base (n+m) cap) w
    else((Builtin.firstCells te.size n (.slice base n cap)).run P w.drew).andThen λc9 w1=>((Builtin.firstCells te.size m x).run P w1).andThen λnew w2=>((zeroValue e).run P w2).andThen λz w3=>
        .ok (.slice (some ⟨w3.heap.size,0,none⟩) (n+m) (grownCap w (n+m) cap e)) (w3.alloc (.cells (c9++new++Builtin.zeroCells z.cells (grownCap w (n+m) cap e - (n+m))) e)):=by
 obtain⟨d,hd,cH⟩:=(hT.at dc).und;rw[hk]at cH;rw[mT cH]at hd;obtain⟨d2,hd2,af4⟩:=(hT.at Oj).und;obtain⟨i0,mF,kZ,hib,_⟩:=(hT.at fK).info;have aki:∀k,d2≠ .int k:=by
  rintro k rfl;cases Ek:M8.k<;>rw[Ek]at af4<;>first|(simp[bU]at af4;done)|exact absurd Ek (qh _)
 have acM:¬(((n+m:Nat):Int)>IntKind.i64.max):=by
  have:IntKind.i64.max=9223372036854775807:=by decide
  rw[this];omega
 have akj:¬(n+m<=cap)->¬(Builtin.nextslicecap (n+m) cap*te.bytes>2 ^ 48):=λhc=>by
  have h1:=nextslicecap_le (Nat.lt_of_not_le hc);have h2:=Zh8 te.bytes h1;have:(2:Nat) ^ 48=281474976710656:=by decide
  omega
 have Vd:∀q,(Question.appendCap (n+m) cap e).forced=q->q=false:=by rintro q rfl;rfl
 clear af4;cases d2<;>first|(exact absurd rfl (aki _))|skip
 all_goals
  unfold Builtin.append_;simp only[h0,h1,List.getElem?_toArray,Za5,Za6,Sem.run_bind,aV hd,Result.andThen_ok,iO mF,kZ,aV hd2,Sem.run_pure,hx,Zd4,Ze1,Ze7,Zf9,Sem.run_ite];by_cases hc:n+m<=cap
  .rw[Za4 hc,Za4 hc];cases base<;>simp only[Sem.run_bind,Sem.run_pure,Result.andThen_ok]
  .rw[Za2 hc,Za2 hc];simp only[Sem.run_bind,YU mF,hib,Result.andThen_ok,acM,false_and,Ze1,akj hc,run_choose,Question.forced,Zd4,World.drew_eq,run_askRoom,Sem.run_pure,newRow,run_newObj,World.alloc_eq];rfl
end
section
variable{P:Program}{tt:TT}{ρ:Pos->Loc}{C:Cells}{st:St}{w w':World}
theorem af5{L:Loc}{cs:List AV}{n:Nat}(fz:Nat)(h:mQ ρ n C L w' (.cells cs 0)):mQ ρ n C L w' (.cells cs fz):=
 let⟨c,e,fr,h1,h2,h3,h4,h5⟩:=h
 ⟨c,e,fr,h1,h2,h3,h4,λi _ hi=>h5 i (Zi5 _) hi⟩
theorem acN(hW:bn ρ C st w)(del:Option Pos)(fz:Nat){c9 new rest:List Value}{ol nl:List AV}{e:TypeId}{n m es aS:Nat}(h1:az ρ st.next.toNat C ol c9)(h2:az ρ st.next.toNat C nl new)
  (xT:ol.length=n*es) (Nc:nl.length=m*es) (hr:rest.length=(aS - (n+m))*es) (hc:n+m<=aS) {w2:World} (cZ:w2=w.drew.alloc (.cells (c9++new++rest).toArray e)):
  ∃ρ':Pos->Loc,(∀b:Pos,b.toNat<st.next.toNat->ρ' b=ρ b)/\bn ρ' C (st.aI del none (some (.cells (ol++nl) fz))) w2/\jW ρ st w ρ' (st.aI del none (some (.cells (ol++nl) fz))) w2/\
   aq ρ' (st.aI del none (some (.cells (ol++nl) fz))).next.toNat C (.slice st.next 0 (n+m) none es) (.slice (some ⟨w.heap.size,0,none⟩) (n+m) aS):=by
 subst cZ;have xU:c9.length=n*es:=by rw[<-h1.1,xT]
 have kF:new.length=m*es:=by rw[<-h2.1,Nc]
 have ew:(c9++new++rest).length=aS*es:=by simp only[Zb1,xU,kF,hr];rw[<-Zj7, <-Zj7];congr 1;omega
 obtain ⟨ρ',aY,fh,fA,hE⟩:=xR (w':=w.drew.alloc (.cells (c9++new++rest).toArray e)) (o:= .cells (c9++new++rest).toArray e) (x0:= .cells (ol++nl) fz) (base:=0) (size:=(c9++new++rest).toArray.size) hW del rfl rfl rfl rfl (λρ' n' aY hn=>
  af5   fz <| zC (e:=e) (fr:=(0,0)) (by show(w.heap.push _)[w.heap.size]? =_;simp) (by simp[xT,Nc,xU,kF])
   (by
        have:(c9++new++rest).toArray.toList.take (ol++nl).length=c9++new:=by
         rw[Zl6 (by simp[xT,Nc,xU,kF])]
        rw[this];exact(h1.append h2).mono aY hn) (λi _=>by simp))
 refine⟨ρ',aY,fA,hE,C9 (by simp[St.aI,Pos.aB]) fh hc (λc hc=>by cases hc) (by simp only[Zn4,ew];exact Za3 _)⟩
theorem DM(z:Array Value)(m:Nat):(Builtin.zeroCells z m).toList.length=m*z.size:=by simp[Builtin.zeroCells]
theorem af6{m:Nat}(h:Nat.beq m 0=false):m≠0:=Zc0 h
theorem Ld (hT:cB P tt){t t2 e:Nat}{ts:Array TypeId}{ti M8 te:TI}{z:List AV}(dc:tt.get (key t)=some ti)(Oj:tt.get (key t2)=some M8)(hk:ti.k= .slice e)(qh:∀k,M8.k≠ .int k)
   (fK:tt.get (key e)=some te) (hz:te.zero=some z) (h0:ts[0]? =some t) (h1:ts[1]? =some t2) (ty:TypeId) {s u:AV} {xs xu:Value} {res:cL} (hW:bn ρ C st w)
   (hs:aq ρ st.next.toNat C s xs) (hu:aq ρ st.next.toNat C u xu) (hr:gH (λb=>st.heap.get b) st.next te.size te.bytes [s,u]=some res):
   wE P ρ C st w (((Builtin.append_ ts ty #[xs,xu]).run P w).andThen λv w=>.ok (.value v) w) res:=by
 simp only[gH]at hr;split at hr<;>first|(cases hr;done)|skip
 rename_i n m hn hm;split at hr<;>first|(cases hr;done)|skip
 rename_i b1 b2;have b1:=Za1 b1;have b2:=Za1 b2;have hlen:=Sn (P:=P) (w:=w) hu hm;obtain⟨i0,mF,kZ,_,B9⟩:=(hT.at fK).info;obtain⟨zv0,hzv0,_,TA,_⟩:=B9 z hz;have Tt:=λw=>uX hT fK hz (ρ:=ρ) (n:=st.next.toNat) (C:=C) w
 have Ri:∃base aS,xs= .slice base n aS/\n<=aS:=by
   unfold dH at hn;split at hn<;>first|(cases hn;done)|skip
   .cases hn;exact⟨none,0,hs.fZ,Za3 _⟩
   .cases hn;obtain⟨a,c,he,hle,_⟩:=hs.ee;exact⟨_,c,he,hle⟩
   .cases hn;obtain⟨a,c,_,he,hle,_⟩:=hs.uW;exact⟨_,c,he,hle⟩
   .rename_i s';exfalso;cases hbm:Nat.beq m 0<;>simp[hbm]at hr
 obtain⟨base,aS,iD,hle⟩:=Ri;have cC:=Lc hT dc Oj hk qh fK h0 h1 ty base n aS m xu w hlen b1 b2;rw[iD,cC];have hg:∀c,n+m<=grownCap w (n+m) c e:=λc=>by unfold grownCap Question.cut;exact Zo1 _ _
 have Le:∀(del:Option Pos)(fz:Nat)(ol nl:List AV),¬(n+m<=aS)->cJ te.size n (λb=>st.heap.get b) s=some ol->cJ te.size m (λb=>st.heap.get b) u=some nl->ol.length=n*te.size->nl.length=m*te.size->
     wE P ρ C st w ((if n+m<=aS then((Builtin.firstCells te.size m xu).run P w).andThen λnew w=>((match base with|some a=>storeCells (a.add (n*te.size)) new.toList|none=>pure ()).run P w).andThen λ_ w=>.ok (.slice base (n+m) aS) w
     else((Builtin.firstCells te.size n (.slice base n aS)).run P w.drew).andThen λc9 w1=>((Builtin.firstCells te.size m xu).run P w1).andThen λnew w2=>((zeroValue e).run P w2).andThen λz w3=>
        .ok (.slice (some ⟨w3.heap.size,0,none⟩) (n+m) (grownCap w (n+m) aS e)) (w3.alloc (.cells (c9++new++Builtin.zeroCells z.cells (grownCap w (n+m) aS e - (n+m))) e))).andThen λv w=>.ok (.value v) w)
        (.aI (.slice st.next 0 (n+m) none te.size) del none (some (.cells (ol++nl) fz))):=by
   intro del fz ol nl hc ho uZ xT Nc;obtain⟨c9,e1,e2,_⟩:=k9 (P:=P) hW hs hn (Za3 _) ho w.drew rfl;obtain⟨new,e3,e4,_⟩:=k9 (P:=P) hW hu hm (Za3 _) uZ w.drew rfl;obtain⟨zv,Ca,_,uY⟩:=Tt w.drew;rw[iD]at e1;have HF:(Builtin.zeroCells zv.cells (grownCap w (n+m) aS e - (n+m))).toList.length=(grownCap w (n+m) aS e - (n+m))*te.size:=(by rw[DM];congr 1;have:=uY.1;simp at this;omega);obtain⟨ρ',aY,fA,hE,hv⟩:=acN hW del fz e2 e4 xT Nc HF (hg aS) (e:=e) rfl;refine⟨_,_,_,ρ',?_,Yields.value _,aY,fA,hv,hE⟩;rw[Za2 hc];simp only[e1,e3,Ca,Result.andThen_ok,World.size_drew];congr 2;simp
 have hlu:∀nl,cJ te.size m (λb=>st.heap.get b) u=some nl->m≠0->nl.length=m*te.size:=by
   intro nl uZ hm0;obtain⟨_,_,_,h⟩:=k9 (P:=P) hW hu hm (Za3 _) uZ w rfl;rcases h with rfl|h
   .simp[dH]at hm;omega
   .exact h
 have hls:∀ol,cJ te.size n (λb=>st.heap.get b) s=some ol->ol.length=n*te.size:=by
   intro ol xV;obtain⟨ys,_,Fu,h⟩:=k9 (P:=P) hW hs hn (Za3 _) xV w rfl;rcases h with rfl|h
   .simp[dH]at hn;subst hn;simp[cJ]at xV;subst xV;simp
   .exact h
 have hzero:m=0->aq ρ st.next.toNat C s xs->wE P ρ C st w ((if n+m<=aS then((Builtin.firstCells te.size m xu).run P w).andThen λnew w=>((match base with|some a=>storeCells (a.add (n*te.size)) new.toList|none=>pure ()).run P w).andThen λ_ w=>.ok (.slice base (n+m) aS) w
     else((Builtin.firstCells te.size n (.slice base n aS)).run P w.drew).andThen λc9 w1=>((Builtin.firstCells te.size m xu).run P w1).andThen λnew w2=>((zeroValue e).run P w2).andThen λz w3=>
        .ok (.slice (some ⟨w3.heap.size,0,none⟩) (n+m) (grownCap w (n+m) aS e)) (w3.alloc (.cells (c9++new++Builtin.zeroCells z.cells (grownCap w (n+m) aS e - (n+m))) e))).andThen λv w=>.ok (.value v) w) (.val s):=by
   rintro rfl hsx;have hf:(Builtin.firstCells te.size 0 xu).run P w= .ok #[] w:=by
     unfold dH at hm;split at hm<;>first|(cases hm;done)|skip
     .  rw[hu.fZ];simp[Builtin.firstCells]
     .  obtain⟨_,_,he,_⟩:=hu.ee;rw[he];simp[Builtin.firstCells,loadCells,loadCellsFrom]
     .  obtain⟨_,_,_,he,_⟩:=hu.uW;rw[he];simp[Builtin.firstCells,loadCells,loadCellsFrom]
     .  obtain⟨bs,rfl,_⟩:=hu.eU;simp only[Builtin.firstCells,Sem.run_pure];congr 1;apply Zm9;simp
   rw[iD]at hsx;refine .pure (x:= .slice base n aS) ?_ hsx;rw[Za4 (by omega),hf];cases base<;>simp[storeCells]
 split at hr<;>first|(cases hr;done)|skip
 .rename_i AG;simp only[H0]at hr;subst hr;exact hzero (H4 AG) hs
 .rename_i AG;simp only[H0]at hr;subst hr;exact hzero (H4 AG) hs
 .rename_i AG;simp only[H0]at hr;subst hr;exact hzero (H4 AG) hs
 ·
   rename_i AG;have AG:=af6 AG;(split at hr<;>first|(cases hr;done)|skip);rename_i new uZ;simp only[H0]at hr;subst hr;have he:=hs.fZ;rw[he]at iD;simp only[Value.slice.injEq]at iD;obtain⟨rfl,rfl,rfl⟩:=iD;have:=Le none 0 [] new (by omega) rfl uZ (by simp) (hlu new uZ AG);simpa using this
 ·
   rename_i b off n' c es' AG;have AG:=af6 AG;simp only[dH,H0]at hn;subst hn;obtain⟨aa,cc,he,hlec,Y8,ha⟩:=hs.ee;rw[he]at iD;simp only[Value.slice.injEq]at iD;obtain⟨rfl,_,rfl⟩:=iD;have:=Y8 c rfl;subst this;split at hr
   . rename_i uA;have uA:=Za1 uA;(split at hr<;>first|(cases hr;done)|skip);rename_i cs fz new hb uZ;(split at hr<;>first|(cases hr;done)|skip);rename_i c1 c2 c3;have c1:=Za1 c1;simp only[Za9]at c2;have c2a:=Za1 c2.1;have c2b:=H4 c2.2;subst c2b;simp only[H0]at hr;subst hr;obtain⟨bw,rfl,hbound⟩:=ha (by omega);obtain⟨ys,e1,e2,_⟩:=k9 (P:=P) hW hu hm (Za3 _) uZ w rfl;have Lf:=hlu new uZ AG;obtain⟨w2,e3,fA,hE⟩:=La (P:=P) hW hb (by rw[Lf];rw[Zj7]at c1;omega) c2a c3 e2;refine⟨_,.slice (some ⟨(ρ b).aA,(ρ b).base+off,none⟩) (n'+m) c,w2,ρ,?_,Yields.value _,λ_ _=>rfl,fA,?_,hE⟩
     .  rw[Za4 uA,e1];simp only[Result.andThen_ok,lZ];rw[Zh4,e3];rfl
     .  exact .slice _ _ _ _ _ _ _ uA (λc hc=>by cases hc;rfl) (λ_=>⟨bw,rfl,hbound⟩) (λh=>by cases h)
   . rename_i uA;have uA:¬(n'+m<=c):=λh=>by rw[Nat.ble_eq_true_of_le h]at uA;cases uA
     (split at hr<;>first|(cases hr;done)|skip);rename_i c9 new xV uZ;simp only[H0]at hr;subst hr;exact Le none 0 c9 new uA xV uZ (hls c9 xV) (hlu new uZ AG)
 ·
   rename_i b off n' es' AG;have AG:=af6 AG;simp only[dH,H0]at hn;subst hn;(split at hr<;>first|(cases hr;done)|skip);rename_i cs fz c9 new hb xV uZ;(split at hr<;>first|(cases hr;done)|skip);rename_i c2 c3;simp only[Za9]at c2;have c2a:=Za1 c2.1;have c2b:=H4 c2.2;subst c2b;simp only[H0]at hr;subst hr;by_cases uA:n'+m<=aS
   ·
     obtain ⟨aa,cc,he,hlec,Y8,ha⟩:=hs.ee;rw[he]at iD;simp only[Value.slice.injEq]at iD;obtain⟨rfl,_,rfl⟩:=iD;obtain⟨bw,rfl,hbound⟩:=ha (by omega);obtain⟨ys,e1,e2,_⟩:=k9 (P:=P) hW hu hm (Za3 _) uZ w rfl;have Lf:=hlu new uZ AG;have ah5:=hls c9 xV;obtain⟨HJ,B8,c,ce,fr,g1,g2,g3,g4,g5⟩:=hW.live b _ hb;have hmul:(n'+m)*te.size<=cc*te.size:=Zh8 _ uA;have hmul2:(n'+m)*te.size=n'*te.size+m*te.size:=Zj7 _ _ _;have hyl:ys.length=m*te.size:=(by rw[<-e2.1,Lf]);have hold:az ρ st.next.toNat C c9 ((c.toList.drop ((ρ b).base+off)).take (n'*te.size)):=by
        simp only[cJ]at xV;split at xV
        .rename_i hz0;have hz0:=H4 hz0;simp only[H0]at xV;subst xV;rw[hz0];simpa using(az.nil:az ρ st.next.toNat C [] [])
        . rw[hb]at xV;simp only at xV;obtain⟨ho1,FG⟩:=Fz xV;have h:=(g4.drop off).take (n'*te.size);rw[<-ho1]at h;have:List.take (n'*te.size) (List.drop off (List.take cs.length (List.drop (ρ b).base c.toList)))=(c.toList.drop ((ρ b).base+off)).take (n'*te.size):=by
            rw[List.drop_take,Zp5,Zl3,Zk4 (by omega)]
          rw[this]at h;exact h
     obtain⟨w2,s1,s2,s3,s4,s5,s6,s7⟩:=kG (P:=P) (ρ b).aA ce fr ys 0 ((ρ b).base+off+n'*te.size) c w g1 (by omega) (AE c3 e2) (λk hk lB=>by
        have:=g5 (k - (ρ b).base) (by omega) (by omega)
        rwa [show(ρ b).base+(k - (ρ b).base)=k from by omega]at this)
     simp only[Zf8]at s1 s2
     let ρ':Pos->Loc:=λq=>if q=st.next then⟨(ρ b).aA,(ρ b).base+off,(ρ b).size⟩else ρ q
     have aY:∀q:Pos,q.toNat<st.next.toNat->ρ' q=ρ q:=λq hq=>Za2 (λe=>by rw[e]at hq;omega)
     have fh:ρ' st.next=⟨(ρ b).aA,(ρ b).base+off,(ρ b).size⟩:=Za4 rfl;have WA:c.toList.length=c.size:=(by simp);have hWn:bn ρ' C (st.aI (some b) none (some (.cells (c9++new) (fz - off)))) w2:=by
        refine hW.acA (b0:=st.next) (x0:= .cells (c9++new) (fz - off)) (by rw[Pos.aB];omega) (by rw[Pos.aB];omega) (by rw[T.eB]) ?_ aY ?_ ?_ (by rw[fh,s3];exact B8) (by omega) (λk hk lB=>s4 k (by rw[fh]at lB;exact lB))
        .intro q x hq hx;rw[T.bH _ (λe=>hq e.symm)]at hx;obtain⟨h1,h2⟩:=yZ (some b) _ hx;refine⟨h1,?_⟩;rw[fh];exact λe=>h2 b rfl (hW.inj _ _ _ _ h1 hb e)
        . rw[fh];refine⟨_,ce,fr,s2,by simp[aL];omega,by simp[aL,ah5,Lf];omega,?_,λi mF hi=> ?_⟩
          . (simp only;rw[IL _ _ _ _ (by omega)];have pX:(aL (c.toList.drop ((ρ b).base+off)) (n'*te.size) ys).take (c9++new).length=(c.toList.drop ((ρ b).base+off)).take (n'*te.size)++ys:=by unfold aL;rw[<-Zg8,Zl6];simp[ah5,Lf,hyl];omega);rw[pX];exact(hold.append e2).mono aY (by rw[Pos.aB];omega)
          . have TB:(ρ b).base+off+i<c.size:=(by simp only[Zn4]at hi;have:(aL c.toList ((ρ b).base+off+n'*te.size) ys).length=c.size:=(by simp[aL];omega);omega);have:=g5 (off+i) (by omega) (by omega);simp only
            rwa [<-Zh4]at this
        .intro ad v hv;rw[fh];exact λe=>(hW.ek ad v hv).2 b _ hb e.symm
     refine⟨_,(.slice (some ⟨(ρ b).aA,(ρ b).base+off,none⟩) (n'+m) cc),w2,ρ',?_,Yields.value _,aY,hWn,?_,⟨s5,s6,s7,by omega,λk _ hk=>s4 k (λe=>hk b _ hb e.symm),λq x hx=> ?_⟩⟩;rotate_left;rotate_left
     .  left;by_cases hq:q=st.next
        .exact⟨b,_,hb,by rw[hq,fh]⟩
        .simp only[St.aI,KX]at hx;rw[T.bH _ (λe=>hq e.symm)]at hx;obtain⟨h1,_⟩:=yZ (some b) _ hx;exact⟨q,x,h1,by rw[aY q (hW.live q x h1).1]⟩
     .  rw[Za4 uA,e1];simp only[Result.andThen_ok,lZ];rw[s1];rfl
     .  refine .slice _ _ _ _ _ _ _ uA (λc hc=>by cases hc) (λ_=>⟨by simp[St.aI,Pos.aB],by rw[fh];rfl,?_⟩) (λ_=>by simp[St.aI,Pos.aB]);rw[fh];simp only;omega
   .exact Le (some b) _ c9 new uA xV uZ (hls c9 xV) (hlu new uZ AG)
end
section
variable{P:Program}{tt:TT}{ρ:Pos->Loc}{C:Cells}{st:St}{w w':World}
theorem WH:∀l:List Nat,bg (l.map λc=>AV.int .u8 (.ofNat c))=true
 |[]=>rfl
 |a::l=>by simpa [bg,AV.one]using WH l
theorem Rn(hW:bn ρ C st w)(del:Option Pos){c9 new rest:List Value}{ol nl:List AV}{e:TypeId}{n m aS:Nat}(h1:az ρ st.next.toNat C ol c9)(h2:az ρ st.next.toNat C nl new)
  (xT:ol.length=n) (Nc:nl.length=m) (hr:rest.length=aS - (n+m)) (hc:n+m<=aS) {w2:World} (cZ:w2=w.drew.alloc (.cells (c9++new++rest).toArray e)):
  ∃ρ':Pos->Loc,(∀b:Pos,b.toNat<st.next.toNat->ρ' b=ρ b)/\bn ρ' C (st.aI del none (some (.typed e (ol++nl)))) w2/\jW ρ st w ρ' (st.aI del none (some (.typed e (ol++nl)))) w2/\
   aq ρ' (st.aI del none (some (.typed e (ol++nl)))).next.toNat C (.slice st.next 0 (n+m) none 1) (.slice (some ⟨w.heap.size,0,none⟩) (n+m) aS):=by
 subst cZ;have xU:c9.length=n:=by rw[<-h1.1,xT]
 have kF:new.length=m:=by rw[<-h2.1,Nc]
 have ew:(c9++new++rest).length=aS:=by simp only[Zb1,xU,kF,hr];omega
 obtain ⟨ ρ',aY,fh,fA,hE⟩:=xR (w':=w.drew.alloc (.cells (c9++new++rest).toArray e)) (o:= .cells (c9++new++rest).toArray e) (x0:= .typed e (ol++nl)) (base:=0) (size:=(c9++new++rest).toArray.size) hW del rfl rfl rfl rfl (λρ' n' aY hn=>
  ⟨_,   (0,0),by show(w.heap.push _)[w.heap.size]? =_;simp,rfl,by simp[xT,Nc,xU,kF],by
        have:(c9++new++rest).toArray.toList.take (ol++nl).length=c9++new:=by
          rw[Zl6 (by simp[xT,Nc,xU,kF])]
        rw[Zb7,this];exact(h1.append h2).mono aY hn,λi _=>by simp,rfl⟩)
 refine⟨ρ',aY,fA,hE,C9 (by simp[St.aI,Pos.aB]) fh hc (λc hc=>by cases hc) (by simp only[Zn4,ew,Zk7];exact Za3 _)⟩
theorem abe (hT:cB P tt){t t2 e:Nat}{ts:Array TypeId}{ti M8 te:TI}{z:List AV}(dc:tt.get (key t)=some ti)(Oj:tt.get (key t2)=some M8)(hk:ti.k= .slice e)(qh:∀k,M8.k≠ .int k)
  (fK:tt.get (key e)=some te) (hz:te.zero=some z) (h8:te.size=1) (h0:ts[0]? =some t) (h1:ts[1]? =some t2) (ty:TypeId) {s u:AV} {xs xu:Value} {res:cL} (hW:bn ρ C st w)
  (hs:aq ρ st.next.toNat C s xs) (hu:aq ρ st.next.toNat C u xu) (hr:oG (λb=>st.heap.get b) st.next e te.bytes [s,u]=some res):
  wE P ρ C st w (((Builtin.append_ ts ty #[xs,xu]).run P w).andThen λv w=>.ok (.value v) w) res:=by
 have Tt:=λw=>uX hT fK hz (ρ:=ρ) (n:=st.next.toNat) (C:=C) w
 simp only[oG]at hr;split at hr<;>first|(cases hr;done)|skip
 rename_i us;obtain⟨bs,rfl,B8⟩:=hu.eU;have hm:dH (AV.str us)=some us.length:=rfl;have hlen:=Sn (P:=P) (w:=w) hu hm
 have aef:∀{n:Nat}{s:AV},dH s=some n->Nat.ble ((2*(n+us.length)+768)*te.bytes) 281474976710656=true->Nat.ble (n+us.length) 9223372036854775807=true->us.length=0->(s= .av\/∃b,s= .slice b 0 n none 1)->
    gH (λb=>st.heap.get b) st.next te.size te.bytes [s,.str us]=some (.val s):=by
  intro n s h1 h2 h3 h4 h5;rw[h4]at h2 h3;rcases h5 with rfl|⟨b,rfl⟩
  .simp only[gH,h1,hm,h2,h3,h4];try rfl
  .simp only[gH,h1,hm,h2,h3,h4];try rfl
 have uZ:cJ te.size us.length (λb=>st.heap.get b) (.str us)=some (us.map λc=>AV.int .u8 (.ofNat c)):=by
  have e1:Nat.beq te.size 1=true:=by rw[h8];rfl
  have e2:Nat.ble us.length us.length=true:=Nat.ble_self_eq_true _;simp only[cJ,e1,e2,Zk1]
 split at hr<;>first|(cases hr;done)|skip
 ·
  split at hr<;>first|(cases hr;done)|skip
  rename_i b1 b2;split at hr
  .rename_i hb;simp only[H0]at hr;subst hr;exact Ld hT dc Oj hk qh fK hz h0 h1 ty hW hs hu (aef rfl b1 b2 (H4 hb) (.inl rfl))
  . rename_i hb;have hb:=Zc0 hb;simp only[H0]at hr;subst hr;have iD:=hs.fZ;subst iD;have cC:=Lc hT dc Oj hk qh fK h0 h1 ty none 0 0 us.length (.string bs) w hlen (Za1 b1) (Za1 b2);rw[cC,Za2 (by omega)];have hg:0+us.length<=grownCap w (0+us.length) 0 e:=(by unfold grownCap Question.cut;exact Zo1 _ _);obtain⟨new,e3,e4,_⟩:=k9 (P:=P) hW hu hm (Za3 _) uZ w.drew rfl;obtain⟨zv,Ca,_,uY⟩:=Tt w.drew;have hzs:zv.cells.size=1:=(by have:=uY.1;have h2:=(hT.at fK).info;obtain⟨i0,mF,kZ,_,B9⟩:=h2;obtain⟨v0,JM,_,WI,_⟩:=B9 z hz;simp at this;omega);have HF:(Builtin.zeroCells zv.cells (grownCap w (0+us.length) 0 e - (0+us.length))).toList.length=grownCap w (0+us.length) 0 e - (0+us.length):=by
        rw[DM,hzs,Zk7]
    obtain⟨ρ',aY,fA,hE,hv⟩:=Rn hW none (az.nil (ρ:=ρ)) e4 (by simp) (by simp) HF hg (e:=e) rfl;refine⟨_,_,_,ρ',?_,Yields.value _,aY,fA,hv,hE⟩;have e0:(Builtin.firstCells te.size 0 (.slice none 0 0)).run P w.drew= .ok #[] w.drew:=(by simp[Builtin.firstCells]);simp only[e0,e3,Ca,Result.andThen_ok,World.size_drew];congr 2;simp
 ·
  rename_i b n;split at hr<;>first|(cases hr;done)|skip
  rename_i b1 b2;split at hr
  .rename_i hb;simp only[H0]at hr;subst hr;exact Ld hT dc Oj hk qh fK hz h0 h1 ty hW hs hu (aef rfl b1 b2 (H4 hb) (.inr ⟨_,rfl⟩))
  . rename_i hbm;have hbm:=Zc0 hbm;(split at hr<;>first|(cases hr;done)|skip);rename_i e' cs hb;(split at hr<;>first|(cases hr;done)|skip);rename_i c9 kX xV;have kX:=H4 kX;subst kX;simp only[H0]at hr;subst hr;obtain⟨aa,aS,iD,hle,Y8,ha⟩:=hs.ee;subst iD;have cC:=Lc hT dc Oj hk qh fK h0 h1 ty (some aa) n aS us.length (.string bs) w hlen (Za1 b1) (Za1 b2);rw[cC];obtain⟨ho1,FG⟩:=Fz xV;have acO:=wF xV;obtain⟨HJ,hbs2,c,fr,g1,g2,g3,g4,g5,g6⟩:=hW.live b _ hb;by_cases uA:n+us.length<=aS
    ·
        obtain⟨bw,rfl,hbound⟩:=ha (by omega);rw[Zk7,g6,Zf8,Zc7]at hbound;rw[g6]at g3 g4 g5;simp only[Zc7,Zb7]at g3 g4 g5;obtain⟨ys,e1,e2,_⟩:=k9 (P:=P) hW hu hm (Za3 _) uZ w rfl;have hyl:ys.length=us.length:=(by rw[<-e2.1];simp);have hold:az ρ st.next.toNat C c9 (c.toList.take n):=(by have h:=(g4.drop 0).take n;rw[<-ho1,Zb7,Zp5,Zk4 (by omega)]at h;exact h);obtain⟨w2,s1,s2,s3,s4,s5,s6,s7⟩:=kG (P:=P) (ρ b).aA e fr ys 0 n c w g1 (by omega) (AE (WH us) e2) (λk hk lB=>g5 k (Zi5 _) lB);simp only[Zf8]at s1 s2
        let ρ':Pos->Loc:=λq=>if q=st.next then⟨(ρ b).aA,0,(ρ b).size⟩else ρ q
        have aY:∀q:Pos,q.toNat<st.next.toNat->ρ' q=ρ q:=λq hq=>Za2 (λe=>by rw[e]at hq;omega)
        have fh:ρ' st.next=⟨(ρ b).aA,0,(ρ b).size⟩:=Za4 rfl;have WA:c.toList.length=c.size:=(by simp);have hWn:bn ρ' C (st.aI (some b) none (some (.typed e (c9++us.map λc=>AV.int .u8 (.ofNat c))))) w2:=by
          refine hW.acA (b0:=st.next) (x0:= .typed e (c9++us.map λc=>AV.int .u8 (.ofNat c))) (by rw[Pos.aB];omega) (by rw[Pos.aB];omega) (by rw[T.eB]) ?_ aY ?_ ?_ (by rw[fh,s3];exact hbs2) (by omega) (λk hk lB=>s4 k (by rw[fh]at lB;exact lB))
          .intro q x hq hx;rw[T.bH _ (λe=>hq e.symm)]at hx;obtain⟨h1,h2⟩:=yZ (some b) _ hx;refine⟨h1,?_⟩;rw[fh];exact λe=>h2 b rfl (hW.inj _ _ _ _ h1 hb e)
          . rw[fh];refine⟨_,fr,s2,by simp[aL];omega,by simp[aL,acO];omega,?_,λi mF hi=> ?_,rfl⟩
            . (simp only[Zb7];have pX:(aL c.toList n ys).take (c9++us.map λc=>AV.int .u8 (.ofNat c)).length=c.toList.take n++ys:=by unfold aL;rw[<-Zg8,Zl6];simp[acO,hyl];omega);rw[pX];exact(hold.append e2).mono aY (by rw[Pos.aB];omega)
            .have TB:i<c.size:=(by simp only[Zn4,Zc7]at hi;have:(aL c.toList n ys).length=c.size:=(by simp[aL];omega);omega);simpa using g5 i (Zi5 _) TB
          .intro ad v hv;rw[fh];exact λe=>(hW.ek ad v hv).2 b _ hb e.symm
        refine⟨_,(.slice (some ⟨(ρ b).aA,(ρ b).base+0,none⟩) (n+us.length) aS),w2,ρ',?_,Yields.value _,aY,hWn,?_,⟨s5,s6,s7,by omega,λk _ hk=>s4 k (λe=>hk b _ hb e.symm),λq x hx=> ?_⟩⟩;rotate_left;rotate_left
        . left;by_cases hq:q=st.next
          .exact⟨b,_,hb,by rw[hq,fh]⟩
          .simp only[St.aI,KX]at hx;rw[T.bH _ (λe=>hq e.symm)]at hx;obtain⟨h1,_⟩:=yZ (some b) _ hx;exact⟨q,x,h1,by rw[aY q (hW.live q x h1).1]⟩
        .rw[Za4 uA,e1];simp only[Result.andThen_ok,lZ,h8,Zk7,g6,Zc7];rw[s1];rfl
        .refine .slice _ _ _ _ _ _ _ uA (λc hc=>by cases hc) (λ_=>⟨by simp[St.aI,Pos.aB],by rw[fh,g6],?_⟩) (λ_=>by simp[St.aI,Pos.aB]);rw[fh];simp only;omega
    .   rw[ Za2 uA];have hg:n+us.length<=grownCap w (n+us.length) aS e:=(by unfold grownCap Question.cut;exact Zo1 _ _);obtain⟨new,e3,e4,_⟩:=k9 (P:=P) hW hu hm (Za3 _) uZ w.drew rfl;obtain⟨zv,Ca,_,uY⟩:=Tt w.drew;have hzs:zv.cells.size=1:=(by have:=uY.1;have h2:=(hT.at fK).info;obtain⟨i0,mF,kZ,_,B9⟩:=h2;obtain⟨v0,JM,_,WI,_⟩:=B9 z hz;simp at this;omega);have HF:(Builtin.zeroCells zv.cells (grownCap w (n+us.length) aS e - (n+us.length))).toList.length=grownCap w (n+us.length) aS e - (n+us.length):=by
          rw[DM,hzs,Zk7]
        have hold:∃os:List Value,(Builtin.firstCells te.size n (.slice (some aa) n aS)).run P w.drew= .ok os.toArray w.drew/\az ρ st.next.toNat C c9 os:=by
          by_cases Ro:n=0
          .subst Ro;have:c9=[]:=Zb0 acO;subst this;exact⟨[],by simp[Builtin.firstCells,loadCells,loadCellsFrom],az.nil⟩
          .obtain⟨bw,rfl,hbound⟩:=ha (by omega);obtain⟨ys,Fu,jf⟩:=(show bn ρ C st w.drew from⟨λb x hb=>hW.live b x hb,hW.inj,hW.ek,hW.whole⟩).Tp (P:=P) hb xV;exact⟨ys,by simpa [Builtin.firstCells,h8]using Fu,jf⟩
        obtain⟨os,e5,e6⟩:=hold;obtain⟨ρ',aY,fA,hE,hv⟩:=Rn hW (some b) e6 e4 acO (by simp) HF hg (e:=e) rfl;refine⟨_,_,_,ρ',?_,Yields.value _,aY,fA,hv,hE⟩;simp only[e5,e3,Ca,Result.andThen_ok,World.size_drew];congr 2;simp
theorem XN{ts:Array TypeId}(ty:TypeId){s:AV}{xs:Value}{res:cL}(hs:aq ρ st.next.toNat C s xs)(hW:bn ρ C st w)(hr:qf (λb=>st.heap.get b) st.next [s]=some res):
   wE P ρ C st w (((Builtin.unsafeSliceData_ ts ty #[xs]).run P w).andThen λv w=>.ok (.value v) w) res:=by
 simp only[qf]at hr;split at hr<;>first|(cases hr;done)|skip
 .simp only[H0]at hr;subst hr;have:=hs.fZ;subst this;exact .pure (x:= .pointer none) rfl .fH
 .rename_i b off n cap es;(split at hr<;>first|(cases hr;done)|skip);rename_i h0;have h0:=Zc0 h0;simp only[H0]at hr;subst hr;obtain⟨aa,aS,iD,hle,_,ha⟩:=hs.ee;subst iD;have hc:aS≠0:=(by omega);obtain⟨h1,h2,_⟩:=ha hc;refine .pure (x:= .pointer (some aa)) (by rw[Lib.run_unsafeSliceData_row w ts ty aa n aS hc];rfl) ?_;rw[h2];exact .ptr b off h1
theorem ajx(hW:bn ρ C st w){b:Pos}{x:AB}(hb:st.heap.get b=some x)(h1:w'.os=w.os)(h2:w'.tape=w.tape)(h3:w'.output=w.output)(ew:w'.heap.size=w.heap.size)
   (xC:∀k,k≠(ρ b).aA->w'.heap[k]? =w.heap[k]?):
   bn ρ C (st.aI (some b) none none) w'/\jW ρ st w ρ (st.aI (some b) none none) w':=by
 have nG:∀c y,(st.aI (some b) none none).heap.get c=some y->st.heap.get c=some y/\c≠b:=λc y hc=>by
   obtain⟨g1,g2⟩:=yZ (some b) _ (show(IG (some b) st.heap).get c=some y from hc);exact⟨g1,λe=>g2 b rfl e⟩
 refine⟨⟨λc y hc=> ?_,λc c' y y' hc xS e=>hW.inj c c' y y' (nG c y hc).1 (nG c' y' xS).1 e,λa v ha=> ?_,λa v ha o ho=> ?_⟩,⟨h1,h2,h3,by omega,λk _ hk=>xC k (λe=>hk b x hb e.symm),λc y hc=>.inl ⟨c,y,(nG c y hc).1,rfl⟩⟩⟩
 .obtain⟨g1,g2⟩:=nG c y hc;obtain⟨k1,k2,k3⟩:=hW.live c y g1;exact⟨k1,by omega,k3.of_heap (xC _ λe=>g2 (hW.inj _ _ _ _ g1 hb e))⟩
 .obtain⟨g1,g2⟩:=hW.ek a v ha;refine⟨?_,λc y hc=>g2 c y (nG c y hc).1⟩;have:=xC a.block (λe=>g2 b x hb e.symm);rw[<-g1];simp only[World.cell?,this]
 .have:=xC a.block (λe=>(hW.ek a v ha).2 b x hb e.symm);rw[<-hW.whole a v ha o ho];simp only[World.cell?,this]
theorem XP(hT:cB P tt){t t2 e:Nat}{ts:Array TypeId}{ti te:TI}(dc:tt.get (key t)=some ti)(hk:ti.k= .ptr e)(fK:tt.get (key e)=some te)(h8:te.size=1)(dF:ts.toList=[t,t2])
   (ty:TypeId) {s u:AV} {xs xu:Value} {res:cL} (hW:bn ρ C st w)
   (hs:aq ρ st.next.toNat C s xs) (hu:aq ρ st.next.toNat C u xu) (hr:lz (λb=>st.heap.get b) st.next e [s,u]=some res):
   wE P ρ C st w (((Builtin.unsafeString_ ts ty #[xs,xu]).run P w).andThen λv w=>.ok (.value v) w) res:=by
 obtain rfl:ts= #[t,t2]:=by apply Zm9;rw[dF]
 simp only[lz]at hr;split at hr<;>first|(cases hr;done)|skip
 rename_i n;have:=hu.iF;subst this;split at hr
 . rename_i h0;have:=H4 h0;subst this;split at hr<;>first|(cases hr;done)|skip
   .simp only[H0]at hr;subst hr;have:=hs.rG;subst this;exact .pure (x:= .string .empty) (by rw[show(Int.ofNat 0)=(0:Int)from rfl,Lib.run_unsafeString_none];rfl) (.str _ _ rfl)
   .simp only[H0]at hr;subst hr;obtain⟨_,he⟩:=hs.fJ;subst he;exact .pure (x:= .string .empty) (by rw[show(Int.ofNat 0)=(0:Int)from rfl,Lib.run_unsafeString_none];rfl) (.str _ _ rfl)
 . (rename_i h0;have h0:=Zc0 h0;(split at hr<;>first|(cases hr;done)|skip);rename_i b;(split at hr<;>first|(cases hr;done)|skip);rename_i e' cs hb;(split at hr<;>first|(cases hr;done)|skip);rename_i l he hcut acM;have he:=H4 he;have acM:=Za1 acM;subst he;(split at hr<;>first|(cases hr;done)|skip);rename_i s' Y0;simp only[H0]at hr;subst hr;obtain⟨_,iD⟩:=hs.fJ;subst iD;obtain⟨d,hd,cH⟩:=(hT.at dc).und;rw[hk]at cH;rw[To cH]at hd;obtain⟨i0,mF,kZ,_⟩:=(hT.at fK).info;have HE:P.cellsOf e=1:=(by simp[Program.cellsOf,mF,kZ,h8]);obtain⟨HJ,hbs2,c,fr,g1,g2,g3,g4,g5,g6⟩:=hW.live b _ hb;rw[g6]at g3 g4 ⊢;simp only[Zc7,Zb7]at g3 g4;have Th:w.shape? (ρ b).aA=some (e,c.size):=(by simp[World.shape?,g1]);obtain⟨xU,kF⟩:=Fz hcut;have Nc:=wF hcut;have jf:az ρ st.next.toNat C l (c.toList.take n):=by have h:=(g4.drop 0).take n;rw[<-xU,Zb7,Zp5,Zk4 (by omega)]at h;exact h);obtain⟨e1,e2⟩:=IJ Y0 jf;have Ri:s'.length=n:=(by have:=congrArg List.length e1;simp at this;omega);have cC:=Lib.run_unsafeString_row (P:=P) w t t2 ty e hd HE (ρ b).aA c.size Th (s'.map UInt8.ofNat) (by intro h;simp at h;rw[h]at Ri;simp at Ri;omega) (by simp;omega) (by simp;omega) (λj x hj=>by simp only[Zb5,Zf7]at hj;obtain⟨k,hk,rfl⟩:=hj;have hjn:j<n:=(by rw[<-Ri];exact(H5.1 hk).1);have h2:(c.toList.take n)[j]? =some (.int .u8 (k:Int)):=(by rw[e1];simp[hk]);rw[Zb8,Za4 hjn]at h2;have hk256:=e2 k (Zc5 hk);rw[lZ];simp only[World.cell?,g1,Zc7];rw[<-Zg6,h2];congr 2;simp;omega);have hlen:(s'.map UInt8.ofNat).length=n:=(by simp[Ri]);rw[hlen]at cC;obtain⟨q1,q2⟩:=ajx (w':=w.freeze ⟨(ρ b).aA,0,none⟩ n) hW hb (by unfold World.freeze;split<;>rfl) (by unfold World.freeze;split<;>rfl) (by unfold World.freeze;split<;>rfl) (by unfold World.freeze;split<;>simp) (λk hk=>by
     unfold World.freeze;split
     .  rfl
     .  simp only[Zn9];rw[Za2 (λe=>hk e.symm)])
   refine⟨_,.string ⟨(s'.map UInt8.ofNat).toArray⟩,_,ρ,?_,Yields.value _,λ_ _=>rfl,q1,.str _ _ ?_,q2⟩
   .show((Builtin.unsafeString_ #[t,t2] ty #[.pointer (some ⟨(ρ b).aA,0,none⟩),.int .i64 (n:Int)]).run P w).andThen _=_;rw[cC];rfl
   . (simp only[Zh1];have e3:s'.map (UInt8.toNat∘UInt8.ofNat)=s'.map id:=Zj9 λc hc=>by have:=e2 c hc;simp only[Function.comp,id,UInt8.toNat_ofNat'];omega);rw[e3,Zq7]
end
section
variable{P:Program}{tt:TT}{ρ:Pos->Loc}{C:Cells}{st:St}{w w':World}
theorem JP{n:Nat}{xs:Array Value}{u v:AV}(h:az ρ n C [u,v] xs.toList):∃x y,xs= #[x,y]/\aq ρ n C u x/\aq ρ n C v y:=by
 obtain⟨x,l,h1,h2,h3⟩:=h.cons_inv;obtain⟨y,l',h4,h5,h6⟩:=h3.cons_inv;have:=h6.mL;subst this;exact⟨x,y,by apply Zm9;rw[h1,h4],h2,h5⟩
theorem Y9{n:Nat}{xs:Array Value}{u:AV}(h:az ρ n C [u] xs.toList):∃x,xs= #[x]/\aq ρ n C u x:=by
 obtain⟨x,l,h1,h2,h3⟩:=h.cons_inv;have:=h3.mL;subst this;exact⟨x,by apply Zm9;rw[h1],h2⟩
theorem Za{ts:Array TypeId}{t:TypeId}{l:List TypeId}(h:ts.toList=t::l):ts[0]? =some t:=by rw[<-Zg6,h];rfl
theorem arr1{ts:Array TypeId}{t t2:TypeId}{l:List TypeId}(h:ts.toList=t::t2::l):ts[1]? =some t2:=by rw[<-Zg6,h];rfl
theorem af7(hT:cB P tt){t e:Nat}{ts:Array TypeId}{ti te:TI}(dc:tt.get (key t)=some ti)(hk:ti.k= .slice e)
   (fK:tt.get (key e)=some te) (h0:ts[0]? =some t) (ty:TypeId) {d u:AV} {xd xu:Value} {res:cL} (hW:bn ρ C st w)
   (hd:aq ρ st.next.toNat C d xd) (hu:aq ρ st.next.toNat C u xu) (hr:lQ (λb=>st.heap.get b) st.next te.size [d,u]=some res):
   wE P ρ C st w (((Builtin.copy_ ts ty #[xd,xu]).run P w).andThen λv w=>.ok (.value v) w) res:=by
 obtain⟨dd,hdd,cH⟩:=(hT.at dc).und;rw[hk]at cH;rw[mT cH]at hdd;obtain⟨i0,mF,kZ,_⟩:=(hT.at fK).info;simp only[lQ]at hr;split at hr<;>first|(cases hr;done)|skip
 rename_i n m hn hm;have hlen:=Sn (P:=P) (w:=w) hu hm;have Ri:(∃s,d= .str s)\/∃base aS,xd= .slice base n aS/\n<=aS:=by
   unfold dH at hn;split at hn<;>first|(cases hn;done)|skip
   .cases hn;exact .inr ⟨none,0,hd.fZ,Za3 _⟩
   .cases hn;obtain⟨a,c,he,hle,_⟩:=hd.ee;exact .inr ⟨_,c,he,hle⟩
   .cases hn;obtain⟨a,c,_,he,hle,_⟩:=hd.uW;exact .inr ⟨_,c,he,hle⟩
   .exact .inl ⟨_,rfl⟩
 have ajy:m=0\/n=0->(Builtin.firstCells te.size 0 xu).run P w= .ok #[] w:=by
   intro _;unfold dH at hm;split at hm<;>first|(cases hm;done)|skip
   .rw[hu.fZ];simp[Builtin.firstCells]
   .obtain⟨_,_,he,_⟩:=hu.ee;rw[he];simp[Builtin.firstCells,loadCells,loadCellsFrom]
   .obtain⟨_,_,_,he,_⟩:=hu.uW;rw[he];simp[Builtin.firstCells,loadCells,loadCellsFrom]
   .obtain⟨bs,rfl,_⟩:=hu.eU;simp only[Builtin.firstCells,Sem.run_pure];congr 1;apply Zm9;simp
 have oJ:∀base aS,xd= .slice base n aS->(Builtin.copy_ ts ty #[xd,xu]).run P w=((Builtin.firstCells te.size (Nat.min m n) xu).run P w).andThen λcells w=>((match base with|some a=>storeCells a cells.toList|none=>pure ()).run P w).andThen λ_ w=>.ok (goInt (Nat.min m n)) w:=by
   intro base aS he;unfold Builtin.copy_;simp only[h0,he,List.getElem?_toArray,Za5,Za6,Sem.run_bind,aV hdd,Result.andThen_ok,iO mF,kZ,hlen];cases base<;>simp only[Sem.run_bind,Sem.run_pure,Result.andThen_ok]
 split at hr
 . rename_i zD;have zD:=H4 zD;(split at hr<;>first|(cases hr;done)|skip);rename_i hns;simp only[H0]at hr;subst hr;rcases Ri with⟨s,rfl⟩|⟨base,aS,he,hle⟩
   .exact absurd rfl (hns s)
   .have hk0':Nat.min m n=0:=zD;refine .pure (x:=goInt 0) ?_ (.int _ _);rw[oJ base aS he,hk0',ajy (by have:min m n=0:=zD;omega)];cases base<;>simp[storeCells]
 . rename_i zD;have zD:=Zc0 zD;(split at hr<;>first|(cases hr;done)|skip);rename_i b off n' cap es';(split at hr<;>first|(cases hr;done)|skip);rename_i cs fz new hb uZ;(split at hr<;>first|(cases hr;done)|skip);rename_i c1 c2 c3;have c1:=Za1 c1;have c2:=Za1 c2;simp only[H0]at hr;subst hr;simp only[dH,H0]at hn;subst hn;obtain⟨aa,aS,he,hle,_,ha⟩:=hd.ee;have hmin:min m n'<=m/\min m n'<=n':=⟨Nat.min_le_left _ _,Nat.min_le_right _ _⟩
   obtain⟨bw,rfl,_⟩:=ha (by omega);obtain⟨ys,e1,e2,e3⟩:=k9 (P:=P) hW hu hm hmin.1 uZ w rfl;have Lf:new.length=min m n'*te.size:=by
     rcases e3 with rfl|e3
     .simp[dH]at hm;omega
     .exact e3
   obtain⟨w2,f1,fA,hE⟩:=La (P:=P) hW hb (by rw[Lf];exact c1) c2 c3 e2;refine⟨_,goInt ((min m n':Nat):Int),w2,ρ,?_,Yields.value _,λ_ _=>rfl,fA,.int _ _,hE⟩;rw[oJ _ _ he];have hmm:Nat.min m n'=min m n':=rfl;rw[hmm,e1];simp only[Result.andThen_ok];rw[f1];rfl
theorem ais(hT:cB P tt){t:Nat}{ts:Array TypeId}{ti:TI}(dc:tt.get (key t)=some ti){k:LK}(hk:(k= .s/\ti.k= .string)\/(k= .l/\∃e,ti.k= .slice e)\/(k= .m/\∃a b,ti.k= .map a b))
   (h0:ts[0]? =some t) (ty:TypeId) {u:AV} {xu:Value} {res:cL} (hW:bn ρ C st w)
   (hu:aq ρ st.next.toNat C u xu) (hr:JC (λb=>st.heap.get b) st.next k [u]=some res):
   wE P ρ C st w (((Builtin.len_ ts ty #[xu]).run P w).andThen λv w=>.ok (.value v) w) res:=by
 obtain⟨d,hd,cH⟩:=(hT.at dc).und;have oJ:∀x,xu=x->(Builtin.len_ ts ty #[xu]).run P w=(Builtin.len_ ts ty #[x]).run P w:=λx e=>by rw[e]
 simp only[JC]at hr;rcases hk with⟨rfl,hk⟩|⟨rfl,e,hk⟩|⟨rfl,a,b,hk⟩<;>rw[hk]at cH
 .rw[mE cH]at hd;(cases u<;>simp only[reduceCtorEq]at hr<;>first|(cases hr;done)|skip);simp only[H0]at hr;subst hr;obtain⟨bs,rfl,hs⟩:=hu.eU;exact .pure (x:=goInt bs.size) (by unfold Builtin.len_;simp[h0,aV hd]) (by rw[yY hs];exact .int _ _)
 . rw[mT cH]at hd;cases u<;>simp only[reduceCtorEq]at hr<;>first|(cases hr;done)|skip
   .simp only[H0]at hr;subst hr;rw[hu.fZ];exact .pure (x:=goInt 0) (by unfold Builtin.len_;simp[h0,aV hd]) (.int _ _)
   .simp only[H0]at hr;subst hr;obtain⟨aa,c,he,_⟩:=hu.ee;rw[he];exact .pure (by unfold Builtin.len_;simp[h0,aV hd];rfl) (.int _ _)
   .simp only[H0]at hr;subst hr;obtain⟨aa,c,_,he,_⟩:=hu.uW;rw[he];exact .pure (by unfold Builtin.len_;simp[h0,aV hd];rfl) (.int _ _)
 . rw[Od cH]at hd;cases u<;>simp only[reduceCtorEq]at hr<;>first|(cases hr;done)|skip
   .simp only[H0]at hr;subst hr;rw[hu.Cw];exact .pure (x:=goInt 0) (by unfold Builtin.len_;simp[h0,aV hd]) (.int _ _)
   . (split at hr<;>first|(cases hr;done)|skip);rename_i es c hb;simp only[H0]at hr;subst hr;obtain⟨_,he⟩:=hu.zB;obtain⟨_,_,es',eF,hlen,_⟩:=hW.live _ _ hb;rw[he];exact .pure (x:=goInt es'.size) (by unfold Builtin.len_;simp[h0,aV hd,run_getObj_map eF]) (by rw[<-hlen];exact .int _ _)
theorem Vg(z:Array Value)(m:Nat):(Builtin.zeroCells z m).toList=bZ z.toList m:=by
 unfold Builtin.zeroCells;by_cases h:0<z.size
 .exact Y4 z m h
 .have h0:z.size=0:=(by omega);have:z= #[]:=Zo2 h0;subst this;have h1:bZ ([]:List Value) m=[]:=Zb0 (by rw[jx];simp);simp[h1]
theorem aeg(hT:cB P tt){t e:Nat}{ts:Array TypeId}{ti te:TI}{z:List AV}(dc:tt.get (key t)=some ti)(hk:ti.k= .slice e)
   (fK:tt.get (key e)=some te) (hz:te.zero=some z) (h0:ts[0]? =some t) (ty:TypeId) {u:AV} {xu:Value} {res:cL} (hW:bn ρ C st w)
   (hu:aq ρ st.next.toNat C u xu) (hr:zx (λb=>st.heap.get b) st.next te.size z [u]=some res):
   wE P ρ C st w (((Builtin.clear_ ts ty #[xu]).run P w).andThen λv w=>.ok (.value v) w) res:=by
 obtain⟨dd,hdd,cH⟩:=(hT.at dc).und;rw[hk]at cH;rw[mT cH]at hdd;obtain⟨i0,mF,kZ,_,B9⟩:=(hT.at fK).info;obtain⟨zv0,_,_,TA,_⟩:=B9 z hz;obtain⟨zv,Ca,_,uY⟩:=uX hT fK hz (ρ:=ρ) (n:=st.next.toNat) (C:=C) w;simp only[zx]at hr;split at hr<;>first|(cases hr;done)|skip
 .simp only[H0]at hr;subst hr;rw[hu.fZ];exact .pure (x:=undef) (by unfold Builtin.clear_;simp[h0,aV hdd];rfl) aq.y6
 . rename_i b off n cap es';obtain⟨aa,aS,he,hle,_,ha⟩:=hu.ee;rw[he];split at hr
   .rename_i Ro;have:=H4 Ro;subst this;simp only[H0]at hr;subst hr;exact .pure (x:=undef) (by unfold Builtin.clear_;simp[h0,aV hdd];rfl) aq.y6
   . rename_i Ro;have Ro:=Zc0 Ro;(split at hr<;>first|(cases hr;done)|skip);rename_i cs fz hb;(split at hr<;>first|(cases hr;done)|skip);rename_i c1 c2 c3;have c1:=Za1 c1;have c2:=Za1 c2;simp only[H0]at hr;subst hr;obtain⟨_,rfl,_⟩:=ha (by omega);obtain⟨w2,f1,fA,hE⟩:=La (P:=P) hW hb (vs:=bZ z n) (ys:=bZ zv.cells.toList n) (by rw[jx,TA];exact c1) c2 c3 (IK uY n);refine⟨_,undef,w2,ρ,?_,Yields.value _,λ_ _=>rfl,fA,aq.y6,hE⟩;unfold Builtin.clear_;cases n with
     |zero=>exact absurd rfl Ro
     |succ n=>simp[h0,aV hdd,Ca,Vg,f1,undef]
theorem JQ(c:Call)(f:Operand)(hc:c.callee= .value f)(a:Act)(o:Oper)(ho:o.op= .call c){g:FuncId}{x y:Array Value}(he:a.eval f= .func (.func g) x y):
  (execOp a.eval o).run P w=(callFunc g (x++c.args.map a.eval++y)).run P w:=by
 simp[execOp,ho,resolve,hc,he,Deferred.ofValue,invoke]
theorem af8 (hT:cB P tt) (c:Call):dK P tt (.call c):=by
 intro ρ C st w k xs cls fr a o vs res ho hc hW hF hx hr;simp only[gI]at hc;split at hc<;>first|(cases hc;done)|skip
 rename_i l hl;split at hc<;>first|(cases hc;done)|skip
 ·
  rename_i g So;cases hc;have hv:=eT hl hF hx;simp only[ax.run,Sc,H0]at hr;subst hr;refine⟨c.args.toList.map a.eval,?_,hv⟩;rw[JQ c _ So a o ho (g:=g) (x:= #[]) (y:= #[]) rfl];congr 2;apply Zm9;simp
 ·
  rename_i f hnf So;split at hc<;>first|(cases hc;done)|skip
  rename_i ao hao;cases hc;unfold e8 at hx;split at hx<;>first|(cases hx;done)|skip
  rename_i fv hfv;split at hx<;>first|(cases hx;done)|skip
  rename_i vs' af9;simp only[H0]at hx;subst hx;have h1:=rF hao hF hfv;have h2:=eT hl hF af9;simp only[ax.run,Sd]at hr;split at hr<;>first|(cases hr;done)|skip
  rename_i g first captured
  simp only[H0]at hr;subst hr;obtain⟨x,y,he,hx,hy⟩:=h1.Fw;refine⟨x.toList++(c.args.toList.map a.eval++y.toList),?_,hx.append (h2.append hy)⟩;rw[JQ c f So a o ho he];congr 2;apply Zm9;simp
 ·
  rename_i b So;have hex:∀(s:Sem Value),(∀consts,builtin b c.argTypes o.type consts (c.args.map a.eval)=(do pure (.value (<-s))))->(execOp a.eval o).run P w=(s.run P w).andThen λv w=>.ok (.value v) w:=by intro s hs;simp only[execOp,ho,resolve,So,pure_bind,invoke];rw[hs];simp
  split at hc<;>first|(cases hc;done)|skip
  ·
   (split at hc<;>first|(cases hc;done)|skip);rename_i t _ _ dF;(split at hc<;>first|(cases hc;done)|skip);rename_i ti dc;have hv:=eT hl hF (vs:=vs) (by
        split at hc<;>first|(cases hc;done)|skip
        all_goals cases hc;exact hx)
   rw[gO] at hv;rw[hex (Builtin.len_ c.argTypes o.type (c.args.map a.eval)) (λ_=>rfl)];have hu:∃u,vs=[u]      :=by
        have h1:=hv.1;have h2:(c.args.toList).length=1:=by
         have: ∀{xs:List   Operand}{os:List eZ},jJ xs=some os->xs.length=os.length:=by
            intro xs;induction xs with
            |nil=>intro os h;simp[jJ]at h;subst h;rfl
            |cons x xs ih=>intro os h;unfold jJ at h;split at h<;>first|(cases h;done)|skip
                           rename_i e1 e2;simp only[H0]at h;subst h;simp[ih e2]
         rw[this hl];rfl
        match vs,h1 with
        |[u],_=>exact⟨u,rfl⟩
        |[],h1=>simp at h1 h2;omega
        |_::_::_,h1=>simp at h1 h2;omega
   obtain⟨u,rfl⟩:=hu;obtain⟨x,iD,hux⟩:=Y9 hv;rw[iD];split at hc<;>first|(cases hc;done)|skip
   all_goals
        rename_i hk;cases hc;simp only[ax.run]at hr;refine ais hT dc ?_ (Za dF) o.type hW hux hr
   .    exact .inl ⟨rfl,hk⟩
   .    exact .inr (.inl ⟨rfl,_,hk⟩)
   .    exact .inr (.inr ⟨rfl,_,_,hk⟩)
  ·
   (split at hc<;>first|(cases hc;done)|skip);rename_i t t2 _ dF;(split at hc<;>first|(cases hc;done)|skip);rename_i ti M8 dc Oj;split at hc<;>first|(cases hc;done)|skip
   .    rename_i e hk qh;(split at hc<;>first|(cases hc;done)|skip);rename_i te fK;(split at hc<;>first|(cases hc;done)|skip);rename_i z hz hk8 h8;have h8:=H4 h8;cases hc;have hv:=eT hl hF hx;rw[gO]at hv;rw[hex (Builtin.append_ c.argTypes o.type (c.args.map a.eval)) (λ_=>rfl)];simp only[ax.run]at hr;have hu:∃s u,vs=[s,u]:=by
         unfold oG at hr;(split at hr<;>first|(cases hr;done)|skip);exact⟨_,_,rfl⟩
        obtain⟨s,u,rfl⟩:=hu;obtain⟨x,y,iD,h1,h2⟩:=JP hv;rw[iD];exact abe hT dc Oj hk (λk hk=>by rw[qh]at hk;cases hk) fK hz h8 (Za dF) (arr1 dF) o.type hW h1 h2 hr
   rename_i e hk qh _;(split at hc<;>first|(cases hc;done)|skip);rename_i te fK;(split at hc<;>first|(cases hc;done)|skip);rename_i z hz;cases hc;have hv:=eT hl hF hx;rw[gO]at hv;rw[hex (Builtin.append_ c.argTypes o.type (c.args.map a.eval)) (λ_=>rfl)];simp only[ax.run]at hr;have hu:∃s u,vs=[s,u]:=by
        unfold gH at hr;(split at hr<;>first|(cases hr;done)|skip);exact⟨_,_,rfl⟩
   obtain⟨s,u,rfl⟩:=hu;obtain⟨x,y,iD,h1,h2⟩:=JP hv;rw[iD];exact Ld hT dc Oj hk (λk hk=>qh k hk) fK hz (Za dF) (arr1 dF) o.type hW h1 h2 hr
  ·
   (split at hc<;>first|(cases hc;done)|skip);rename_i t _ dF;(split at hc<;>first|(cases hc;done)|skip);rename_i ti dc;(split at hc<;>first|(cases hc;done)|skip);rename_i e hk;(split at hc<;>first|(cases hc;done)|skip);rename_i te fK;cases hc;have hv:=eT hl hF hx;rw[gO]at hv;rw[hex (Builtin.copy_ c.argTypes o.type (c.args.map a.eval)) (λ_=>rfl)];simp only[ax.run]at hr;have hu:∃s u,vs=[s,u]:=by
        unfold lQ at hr;(split at hr<;>first|(cases hr;done)|skip);exact⟨_,_,rfl⟩
   obtain⟨s,u,rfl⟩:=hu;obtain⟨x,y,iD,h1,h2⟩:=JP hv;rw[iD];exact af7 hT dc hk fK (Za dF) o.type hW h1 h2 hr
  ·
   (split at hc<;>first|(cases hc;done)|skip);cases hc;have hv:=eT hl hF hx;rw[gO]at hv;rw[hex (Builtin.unsafeSliceData_ c.argTypes o.type (c.args.map a.eval)) (λ_=>rfl)];simp only[ax.run]at hr;have hu:∃s,vs=[s]:=by
        unfold qf at hr;(split at hr<;>first|(cases hr;done)|skip);exact⟨_,rfl⟩
   obtain⟨s,rfl⟩:=hu;obtain⟨x,iD,h1⟩:=Y9 hv;rw[iD];exact XN o.type h1 hW hr
  ·
   (split at hc<;>first|(cases hc;done)|skip);rename_i t t2 dF;(split at hc<;>first|(cases hc;done)|skip);rename_i ti dc;(split at hc<;>first|(cases hc;done)|skip);rename_i e hk;(split at hc<;>first|(cases hc;done)|skip);rename_i te fK;(split at hc<;>first|(cases hc;done)|skip);rename_i hk8 h8;have h8:=H4 h8;cases hc;have hv:=eT hl hF hx;rw[gO]at hv;rw[hex (Builtin.unsafeString_ c.argTypes o.type (c.args.map a.eval)) (λ_=>rfl)];simp only[ax.run]at hr;have hu:∃s u,vs=[s,u]:=by
        unfold lz at hr;(split at hr<;>first|(cases hr;done)|skip);exact⟨_,_,rfl⟩
   obtain⟨s,u,rfl⟩:=hu;obtain⟨x,y,iD,h1,h2⟩:=JP hv;rw[iD];exact XP hT dc hk fK h8 dF o.type hW h1 h2 hr
  ·
   (split at hc<;>first|(cases hc;done)|skip);cases hc;have hv:=eT hl hF hx;rw[gO]at hv;rw[hex (Builtin.min_ c.argTypes o.type (c.args.map a.eval)) (λ_=>rfl)];simp only[ax.run]at hr;have hu:∃s u r,vs=[s,u]/\res= .val r:=by
        unfold Fh at hr;(split at hr<;>first|(cases hr;done)|skip);split at hr<;>first|(cases hr;done)|skip
        all_goals cases hr;exact⟨_,_,_,rfl,rfl⟩
   obtain⟨s,u,r,rfl,rfl⟩:=hu;obtain⟨x,y,iD,h1,h2⟩:=JP hv;obtain⟨z,hz,hvz⟩:=af0 (P:=P) (w:=w) h1 h2 hr;rw[iD];refine .pure (x:=z) ?_ hvz;simp[Builtin.min_,hz]
  ·
   (split at hc<;>first|(cases hc;done)|skip);cases hc;have hv:=eT hl hF hx;rw[gO]at hv;rw[hex (Builtin.max_ c.argTypes o.type (c.args.map a.eval)) (λ_=>rfl)];simp only[ax.run]at hr;have hu:∃s u r,vs=[s,u]/\res= .val r:=by
        unfold Fi at hr;(split at hr<;>first|(cases hr;done)|skip);split at hr<;>first|(cases hr;done)|skip
        all_goals cases hr;exact⟨_,_,_,rfl,rfl⟩
   obtain⟨s,u,r,rfl,rfl⟩:=hu;obtain⟨x,y,iD,h1,h2⟩:=JP hv;obtain⟨z,hz,hvz⟩:=af1 (P:=P) (w:=w) h1 h2 hr;rw[iD];refine .pure (x:=z) ?_ hvz;simp[Builtin.max_,hz]
  ·
   (split at hc<;>first|(cases hc;done)|skip);rename_i t _ dF;(split at hc<;>first|(cases hc;done)|skip);rename_i ti dc;(split at hc<;>first|(cases hc;done)|skip);rename_i e hk;(split at hc<;>first|(cases hc;done)|skip);rename_i te fK;(split at hc<;>first|(cases hc;done)|skip);rename_i z hz;cases hc;have hv:=eT hl hF hx;rw[gO]at hv;rw[hex (Builtin.clear_ c.argTypes o.type (c.args.map a.eval)) (λ_=>rfl)];simp only[ax.run]at hr;have hu:∃u,vs=[u]:=by
        unfold zx at hr;(split at hr<;>first|(cases hr;done)|skip);exact⟨_,rfl⟩
   obtain⟨u,rfl⟩:=hu;obtain⟨x,iD,hux⟩:=Y9 hv;rw[iD];exact aeg hT dc hk fK hz (Za dF) o.type hW hux hr
theorem Qv(hT:cB P tt)(op:Op):dK P tt op:=by
 cases op with
 |move x=>exact afW x
 |assign x=>exact acD x
 |pick c x y=>exact afX c x y
 |alloc t=>exact aea hT t
 |box t x=>exact aiq t x
 |build t ps=>exact ad9 hT t ps
 |buildSlice t n ps=>exact Vf hT t n ps
 |insert t m k v=>exact TD hT _ t m k v (.inr rfl)
 |load t x=>exact afZ hT t x
 |store t x y=>exact aed hT t x y
 |nilCheck x=>exact YZ x
 |binOp op t x y yt=>exact ad5 hT op t x y yt
 |unOp op t x=>exact afY op t x
 |convert s d x=>
  by_cases h:∃xs cls,gI tt (.convert s d x)=some (.conv .bytes,xs,cls)
  .exact XM hT s d x h
  .exact abc hT s d x λk xs cls hc e=>h ⟨xs,cls,by rw[hc,e]⟩
 |makeInterface t x=>exact aba hT t x
 |makeFunc f x y=>exact acE f x y
 |makeMap t r=>exact aeb t r hT
 |makeSlice t l c=>exact abd hT t l c
 |slice t x l h m=>exact ad8 hT t x l h m
 |fieldAddr t x f=>exact XK hT t x f
 |field t x f=>exact ad6 hT t x f
 |indexAddr t x i=>exact XL hT t x i
 |index t x i=>exact ad7 hT t x i
 |lookup t x i ok=>exact acG hT t x i ok
 |mapUpdate t m k v=>exact TD hT _ t m k v (.inl rfl)
 |range t x=>exact acI hT t x
 |next it s=>exact aee it s
 |extract x i=>exact aa9 x i
 |call c=>exact af8 hT c
 |_=>intro ρ C st w k xs cls fr a o vs res ho hc;simp[gI]at hc
end
end
section
open Go
def Reaches(P:Program)(R:Value->World->Prop):Result Next->Prop
 |.ok (.value x) w'=>R x w'
 |.ok .skip w'=>R undef w'
 |.ok (.enter f args) w'=>Calls P f args w' λ|.returned v,w''=>R v w''|_,_=>False
 |.ok (.row row args) w'=>Rows P row args w' R
 |_=>False
theorem Reaches.mono{P:Program}{R R':Value->World->Prop}(h:∀x w,R x w->R' x w):∀{r:Result Next},Reaches P R r->Reaches P R' r
 |.ok (.value _) _,hr=>h _ _ hr
 |.ok .skip _,hr=>h _ _ hr
 |.ok (.enter _ _) _,hr=>Calls.mono hr λe w he=>by cases e<;>first|exact h _ _ he|exact he
 |.ok (.row _ _) _,hr=>Rows.mono hr h
section
variable(P:Program)(ops:Array Oper)
def Vh(o:Oper)(K:Act->World->Prop)(a:Act)(w:World):Prop:=Reaches P (λx w'=>K (a.put o.dst x) w') ((execOp a.eval o).run P w)
def FH(i:Nat)(K:Act->World->Prop)(a:Act)(w:World):Prop:=
 match ops[i]? with
 |none=>K a w
 |some o=>if Region.wanted o (yielded ops a.tmps)then Vh P o K a w else K (a.put o.dst undef) w
def rI(K:Act->World->Prop):List Nat->Act->World->Prop
 |[],a,w=>K a w
 |i::l,a,w=>FH P ops i (rI K l) a w
def Yt(K:Act->World->Prop):Nat->Array Bool->Act->World->Prop
 |0,listed,a,w=>Region.ready .any ops listed=[]/\K a w
 |fuel+1,listed,a,w=>(Region.ready .any ops listed=[]->K a w)/\∀i∈Region.ready .any ops listed,FH P ops i (Yt K fuel (listed.setIfInBounds i true)) a w
end
section
variable{P:Program}{ops:Array Oper}
theorem WJ{i:Nat}{K K':Act->World->Prop}{a:Act}{w:World}(h:∀a w,K a w->K' a w)(hh:FH P ops i K a w):FH P ops i K' a w:=by
 unfold FH at*
 split
 .rename_i ho;rw[ho]at hh;exact h _ _ hh
 . rename_i o ho;rw[ho]at hh;dsimp only at hh;split
   .rename_i hw;rw[Za4 hw]at hh;exact Reaches.mono (λx w' hk=>h _ _ hk) hh
   .rename_i hw;rw[Za2 hw]at hh;exact h _ _ hh
theorem WL{K:Act->World->Prop}{l2:List Nat}:∀(l1:List Nat)(a:Act)(w:World),rI P ops (rI P ops K l2) l1 a w->rI P ops K (l1++l2) a w
 |[],_,_,h=>h
 |_::l1,_,_,h=>WJ (λa w=>WL l1 a w) h
end
section
variable(P:Program)
def Ol(R:(Exit->Act->World->Prop)->Act->World->Prop)(Q:Exit->Act->World->Prop):Nat->Act->World->Prop
 |0,_,_=>False
 |n+1,a,w=>R (Exit.then (Ol R Q n) Q) a w
def fB:Code->(Exit->Act->World->Prop)->Act->World->Prop
 |.skip,Q,a,w=>Q .normal a w
 |  .region _ ops draw,Q,a,w=>match draw with
    |false=>rI P ops (Q .normal) (List.range ops.size) a w
    |true=>P.follows .mixedOrders=true/\Yt P ops (Q .normal) ops.size (Array.replicate ops.size false) a { w with drawn:=w.drawn+1 }
 |.seq x y,Q,a,w=>fB x (Exit.then (fB y Q) Q) a w
 |  .cond c x y,Q,a,w=>∃t,a.eval c= .bool t/\match t with
    |true=>fB x Q a w
    |false=>fB y Q a w
 |.block id x,Q,a,w=>fB x (Exit.inBlock id Q) a w
 |.loop x,Q,a,w=>∃n,Ol (fB x) Q n a w
 |.exit id,Q,a,w=>Q (.exit id) a w
 |.ret,Q,a,w=>Q .ret a w
 |_,_,_,_=>False
end
section
variable{P:Program}{Q:Exit->Act->World->Prop}{a:Act}{w:World}
theorem aeh(h:Q .normal a w):fB P .skip Q a w:=h
theorem aei{id:Nat}(h:Q (.exit id) a w):fB P (.exit id) Q a w:=h
theorem FI{x y:Code}(h:fB P x (Exit.then (fB P y Q) Q) a w):fB P (.seq x y) Q a w:=h
theorem TE{id:Nat}{x:Code}(h:fB P x (Exit.inBlock id Q) a w):fB P (.block id x) Q a w:=h
theorem IM{id:Nat}{ops:Array Oper}(h:rI P ops (Q .normal) (List.range ops.size) a w):fB P (.region id ops false) Q a w:=h
theorem Vi{c:Operand}{x y:Code}(hc:a.eval c= .bool true)(h:fB P x Q a w):fB P (.cond c x y) Q a w:=⟨true,hc,h⟩
theorem TF{c:Operand}{x y:Code}(hc:a.eval c= .bool false)(h:fB P y Q a w):fB P (.cond c x y) Q a w:=⟨false,hc,h⟩
theorem aej{x:Code}(n:Nat)(h:Ol (fB P x) Q n a w):fB P (.loop x) Q a w:=⟨n,h⟩
theorem WM{R:(Exit->Act->World->Prop)->Act->World->Prop}{n:Nat}:Ol R Q (n+1) a w=R (Exit.then (Ol R Q n) Q) a w:=rfl
end
def rJ:Code->List Nat
 |.region _ ops _=>ops.toList.filterMap (·.dst)
 |.seq a b=>rJ a++rJ b
 |.cond _ a b=>rJ a++rJ b
 |.block _ a=>rJ a
 |.loop a=>rJ a
 |_=>[]
abbrev Fc(r:Option Nat):Fence:={ Fence.wide with round:=r }
section
variable{P:Program}{r:Option Nat}{n:Nat}{ts:Nat->Prop}{x:Array Value}{ds D:List Deferred}
def InF(D ds:List Deferred)(ts:Nat->Prop)(x:Array Value)(Q:Exit->Act->World->Prop):Exit->Act->World->Prop:=
 λe a w=>a.defers=D/\(∀t,ts t->a.tmps[t]? =x[t]?)/\Q e ⟨a.tmps,ds⟩ w
theorem ait{row:String}{args:Array Value}{w:World}{R:Value->World->Prop}(h:Rows P row args w R):RowsIn (Fc r) n P row args w R:=
 λc cs _=>let⟨v,w',hr,hs⟩:=h c cs;⟨v,w',hr,stepsIn_wide.2 hs⟩
theorem aga{f:FuncId}{args:Array Value}{w:World}{R:Ending->World->Prop}(h:Calls P f args w R):CallsIn (Fc r) n P f args w R:=callsIn_wide.2 h
theorem JR{T:Array Value}{o:Operand}:(⟨T,ds⟩:Act).eval o=(⟨T,D⟩:Act).eval o:=by cases o<;>rfl
theorem ajz{T:Array Value}{d:Option Tmp}{v:Value}:(⟨T,ds⟩:Act).put d v=⟨((⟨T,D⟩:Act).put d v).tmps,ds⟩:=by cases d<;>rfl
theorem aiu{T:Array Value}{d:Option Tmp}{v:Value}:(⟨T,ds⟩:Act).put d v=⟨((⟨T,ds⟩:Act).put d v).tmps,ds⟩:=by cases d<;>rfl
theorem agb{T:Array Value}{d:Option Tmp}{v:Value}{t:Nat}(h:d≠some t):((⟨T,ds⟩:Act).put d v).tmps[t]? =T[t]? :=by
 cases d with
 |none=>rfl
 |some e=>
  show(T.setIfInBounds e v)[t]? =T[t]?;exact Ze2 λh'=>h (by rw[h'])
theorem aiv{o:Oper}{K:Act->World->Prop}{K':Act->World->Prop}{Q:Exit->Act->World->Prop}{T:Array Value}{w:World}(h:Vh P o K ⟨T,ds⟩ w)
  (hK:∀v w',K ((⟨T,ds⟩:Act).put o.dst v) w'->K' ((⟨T,D⟩:Act).put o.dst v) w'):o.wpIn (Fc r) n P ⟨T,D⟩ w K' Q:=by
 refine⟨λ_ _=>trivial,?_⟩;have he:(⟨T,D⟩:Act).eval=(⟨T,ds⟩:Act).eval:=funext λ_=>JR
 rw[he];unfold Vh at h;have hs:o.semAt r (⟨T,ds⟩:Act).eval=execOp (⟨T,ds⟩:Act).eval o:=by
  cases r with
  |none=>rfl
  | some l=>
    unfold Oper.semAt;(cases ho:o.op<;>first|rfl|skip);exfalso;unfold execOp at h;rw[ho]at h;simp only[Sem.run_bind,Sem.run_pure]at h;cases hr:(resolve (⟨T,ds⟩:Act).eval _ o.type).run P w<;>rw[hr]at h<;>simp[Result.andThen,Reaches]at h
 show o.uponIn (Fc r) n P _ _ _ ((o.semAt r (⟨T,ds⟩:Act).eval).run P w);rw[hs];generalize (execOp (⟨T,ds⟩:Act).eval o).run P w=z at h;cases z with
 |ok m w'=>
  cases m<;>simp only[Reaches]at h
  .exact hK _ _ h
  .exact hK _ _ h
  .exact⟨λhd=>by simp[Fence.wide]at hd,(aga h).mono λe w he=>by cases e<;>first|exact hK _ _ he|exact he.elim⟩
  .exact⟨λhd=>by simp[Fence.wide]at hd,(ait h).mono λv w he=>hK _ _ he⟩
 |halt v w'=>simp only[Reaches]at h
theorem abH{ops:Array Oper}{i:Nat}{K K':Act->World->Prop}{Q:Exit->Act->World->Prop}{T:Array Value}{w:World}(h:FH P ops i K ⟨T,ds⟩ w)(dF:∀o,ops[i]? =some o->∀t,o.dst=some t->¬ts t)
   (hx:∀t,ts t->T[t]? =x[t]?) (hK:∀T' w',(∀t,ts t->T'[t]? =x[t]?)->K ⟨T',ds⟩ w'->K' ⟨T',D⟩ w'):wpOpIn (Fc r) n P ops Q i K' ⟨T,D⟩ w:=by
 unfold FH at h;unfold wpOpIn;split at h
 .rename_i ho;rw[ho];exact hK _ _ hx h
 . (rename_i o ho;rw[ho];have acP:∀v t,ts t->((⟨T,D⟩:Act).put o.dst v).tmps[t]? =x[t]? :=λv t ht=>by rw[agb (λhd=>dF o ho t hd ht)];exact hx t ht);have oJ:∀v w',K ((⟨T,ds⟩:Act).put o.dst v) w'->K' ((⟨T,D⟩:Act).put o.dst v) w':=λv w' hk=>by rw[ajz (D:=D)]at hk;rw[aiu];exact hK _ _ (acP v) hk
   show if Region.wanted o (yielded ops T)=true then _ else _
   dsimp only at h;split at h
   .rename_i hw;rw[Za4 hw];exact aiv h oJ
   .rename_i hw;rw[Za2 hw];exact⟨λ_ _=>trivial,oJ _ _ h⟩
theorem aek{ops:Array Oper}(dF:∀t∈ops.toList.filterMap (·.dst),¬ts t){i:Nat}:∀o,ops[i]? =some o->∀t,o.dst=some t->¬ts t:=λo ho t ht=>dF t (by
 rw[Zn0];exact⟨o,by rw[Zm2];exact Zl8 ho,ht⟩)
theorem Lg{ops:Array Oper}{K:Act->World->Prop}{Q:Exit->Act->World->Prop}{l2:List Nat}(hK:∀T' w',(∀t,ts t->T'[t]? =x[t]?)->K ⟨T',ds⟩ w'->wpOpsIn (Fc r) n P ops Q l2 ⟨T',D⟩ w'):
  ∀(l:List Nat)(T:Array Value)(w:World),(∀i∈l,∀o,ops[i]? =some o->∀t,o.dst=some t->¬ts t)->(∀t,ts t->T[t]? =x[t]?)->rI P ops K l ⟨T,ds⟩ w->wpOpsIn (Fc r) n P ops Q (l++l2) ⟨T,D⟩ w
 |[],T,w,_,hx,h=>hK T w hx h
 |i::l,T,w,dF,hx,h=>by rw[Ze8,wpOpsIn_cons];exact abH h (dF i (Zd8 ..)) hx λT' w' kg hk=>Lg hK l T' w' (λj hj=>dF j (Za0 _ hj)) kg hk
theorem Zb{ops:Array Oper}{K K':Act->World->Prop}{Q:Exit->Act->World->Prop}(hQ:Q .normal=K')(dF:∀t∈ops.toList.filterMap (·.dst),¬ts t)(hK:∀T' w',(∀t,ts t->T'[t]? =x[t]?)->K ⟨T',ds⟩ w'->K' ⟨T',D⟩ w'):
  ∀(fuel:Nat)(listed:Array Bool)(T:Array Value)(w:World),(∀t,ts t->T[t]? =x[t]?)->Yt P ops K fuel listed ⟨T,ds⟩ w->wpAnyIn (Fc r) n P .any ops Q fuel listed ⟨T,D⟩ w
 |0,listed,T,w,hx,h=>⟨h.1,by rw[hQ];exact hK T w hx h.2⟩
 |fuel+1,listed,T,w,hx,h=>⟨λhr=>by rw[hQ];exact hK T w hx (h.1 hr),λi hi=>abH (h.2 i hi) (aek dF) hx λT' w' kg hk=>Zb hQ dF hK fuel _ T' w' kg hk⟩
theorem fB.abI:∀(c:Code)(Q:Exit->Act->World->Prop)(T:Array Value)(w:World),(∀t∈rJ c,¬ts t)->(∀t,ts t->T[t]? =x[t]?)->fB P c Q ⟨T,ds⟩ w->
  c.wpIn (Fc r) n P (InF D ds ts x Q) ⟨T,D⟩ w:=by
 intro c;induction c with
 |skip=>exact λQ T w _ hx h=>wpIn_skip ⟨rfl,hx,h⟩
 |region i ops d=>
  intro Q T w dF hx h;cases d
  .refine wpIn_region ?_;rw[<-Ze9 (List.range ops.size)];exact Lg (λT' w' kg hk=>by show InF D ds ts x Q .normal _ _;exact⟨rfl,kg,hk⟩) _ T w (λ_ _=>aek dF) hx h
  .exact wpIn_region_any h.1 (Zb rfl dF (λT' w' kg hk=>⟨rfl,kg,hk⟩) _ _ T _ hx h.2)
 |seq a b Zc Zd=>
  intro Q T w dF hx h;refine wpIn_seq (wpIn_mono (Zc _ T w (λt ht=>dF t (Zg1 _ ht)) hx h) ?_);rintro e ⟨T',D'⟩ w' ⟨h1,h2,h3⟩;dsimp only at h1;subst h1;cases e with
  |normal=>exact Zd Q T' w' (λt ht=>dF t (Zh5 _ ht)) h2 h3
  |_=>exact⟨rfl,h2,h3⟩
 |cond c a b Zc Zd=>
  intro Q T w dF hx h;obtain⟨t,ht,h⟩:=h;refine wpIn_cond (t:=t) (by rw[<-ht];exact JR) ?_;cases t
  .exact Zd Q T w (λt ht=>dF t (Zh5 _ ht)) hx h
  .exact Zc Q T w (λt ht=>dF t (Zg1 _ ht)) hx h
 |block id a ih=>
  intro Q T w dF hx h;refine wpIn_block (wpIn_mono (ih _ T w dF hx h) ?_);rintro e a' w' ⟨h1,h2,h3⟩;cases e with
  | exit i=>
    simp only[Exit.inBlock]at h3 ⊢;split<;>(rename_i hi;first|rw[Za4 hi]at h3|rw[Za2 hi]at h3)<;>exact⟨h1,h2,h3⟩
  |_=>exact⟨h1,h2,h3⟩
 |loop a ih=>
  intro Q T w dF hx h;obtain⟨m,h⟩:=h;refine wpIn_loop_rounds m ?_;induction m generalizing T w with
  |zero=>exact h.elim
  | succ m ihm=>
    rw[roundsIn_succ];refine wpIn_mono (ih _ T w dF hx h) ?_;rintro e ⟨T',D'⟩ w' ⟨h1,h2,h3⟩;dsimp only at h1;subst h1;cases e with
    |normal=>exact ihm T' w' h2 h3
    |_=>exact⟨rfl,h2,h3⟩
 |exit id=>exact λQ T w _ hx h=>wpIn_exit ⟨rfl,hx,h⟩
 |ret=>exact λQ T w _ hx h=>wpIn_ret ⟨rfl,hx,h⟩
 |_=>exact λQ T w _ _ h=>h.elim
theorem fB.wp{c:Code}{Q:Exit->Act->World->Prop}{a:Act}{w:World}(h:fB P c Q a w):c.wp P Q a w:=by refine wpIn_wide (n:=0) |>.1 (wpIn_mono (fB.abI (r:=none) (D:=a.defers) (ds:=a.defers) (ts:=λ_=>False) (x:= #[]) c Q a.tmps w (λ_ _ h=>h) (λ_ h=>h.elim) h) ?_);rintro e ⟨T,D⟩ w' ⟨h1,_,h3⟩;dsimp only at h1;subst h1;exact h3
end
end
section
open Go Go.RowKit
def mW(ρ:Pos->Loc)(C:Cells)(st:St)(w:World)(v:AV)(st':St)(x:Value)(w':World):Prop:=
 ∃ρ',aq ρ' st'.next.toNat C v x/\(∀b:Pos,b.toNat<st.next.toNat->ρ' b=ρ b)/\st.next.toNat<=st'.next.toNat/\bn ρ' C st' w'/\jW ρ st w ρ' st' w'
def fG(P:Program)(C:Cells)(call:ah):Prop:=
 ∀  (ρ:Pos->Loc)(st:St)(w:World)(f:FuncId)(args:List AV)(v:AV)(st':St)(bQ:List Value),call f args st=some (v,st')->
    bn ρ C st w->az ρ st.next.toNat C args bQ->Reaches P (mW ρ C st w v st') ((callFunc f bQ.toArray).run P w)
section
variable{P:Program}{tt:TT}{C:Cells}{call:ah}
theorem St.Ze(st:St)(del:Option Pos)(set:Option (Pos×AB))(new:Option AB):st.next.toNat<=(st.aI del set new).next.toNat:=by
 cases new with
 |none=>exact Za3 _
 |some x=>simp only[St.aI,Pos.aB];omega
theorem Rp(hT:cB P tt)(cg:fG P C call){ρ:Pos->Loc}{st st':St}{w:World}{k:ax}{xs:List eZ}{cls:Cls}{fr:Fr}{a:Act}{o:Oper}{vs:List AV}{v:AV}
   (hc:gI tt o.op=some (k,xs,cls)) (hW:bn ρ C st w) (hF:fS ρ st.next.toNat C fr a.tmps) (hx:e8 fr xs=some vs)
   (hs:bY call k vs st=some (v,st')):Reaches P (mW ρ C st w v st') ((execOp a.eval o).run P w):=by
 have H:=Qv hT o.op ρ C st w k xs cls fr a o vs;unfold bY at hs;split at hs
 . rename_i u hr;simp only[H0,Zb6]at hs;obtain⟨rfl,rfl⟩:=hs;obtain⟨N,x,he,hy,hv⟩:=H _ rfl hc hW hF hx hr;have hp:mW ρ C st w u st x w:=⟨ρ,hv,λ_ _=>rfl,Za3 _,hW,jW.refl _ _ _⟩
   rw[he];rcases hy with rfl|⟨rfl,rfl⟩<;>exact hp
 . rename_i u del set new hr;simp only[H0,Zb6]at hs;obtain⟨rfl,rfl⟩:=hs;obtain⟨N,x,w',ρ',he,hy,aY,fA,hv,hE⟩:=H _ rfl hc hW hF hx hr;have hp:mW ρ C st w u (st.aI del set new) x w':=⟨ρ',hv,aY,St.Ze _ _ _ _,fA,hE⟩
   rw[he];rcases hy with rfl|⟨rfl,rfl⟩<;>exact hp
 .rename_i f args hr;obtain⟨bQ,he,hv⟩:=H _ rfl hc hW hF hx hr;rw[he];exact cg ρ st w f args v st' bQ hs hW hv
 .cases hs
structure wG(tt:TT)(nt:Nat)(ops:Array Oper)(o:Oper)(ao:bD):Prop where
 dst:ao.dst=o.dst.map key
 lt:∀d,o.dst=some d->d<nt
 guard:Tl ops o.guard=some ao.guard
 op:(gI tt o.op=some (ao.k,ao.xs,ao.cls))\/(ao.k= .bad/\ao.cls= .aI)
theorem oX{nt:Nat}{ops:Array Oper}:∀{os:List Oper}{bs:List Nat}{l:List bD},oI tt nt ops os bs=some l->
  l.length=os.length/\∀(i:Nat)(o:Oper),os[i]? =some o->∃ao,l[i]? =some ao/\wG tt nt ops o ao/\ao.bT=bs.getD i 0
 |[],bs,l,h=>by simp[oI]at h;subst h;exact⟨rfl,λi o ho=>by simp at ho⟩
 |o ::os,bs,l,h=>by
  unfold oI at h;split at h<;>first|(cases h;done)|skip
  rename_i g l' hg hl hd;obtain⟨h1,h2⟩:=oX hl;have bw:∀d,o.dst=some d->d<nt:=λd hdd=>by rw[hdd]at hd;simpa [oI.ah1]using hd
  have hb:∀i,bs.tail.getD i 0=bs.getD (i+1) 0:=λi=>by cases bs<;>simp
  have hb0:bs.headD 0=bs.getD 0 0:=by cases bs<;>simp
  split at h
  . rename_i k xs cls hc;simp only[H0]at h;subst h;refine⟨by simp[h1],λi o' ho=> ?_⟩;cases i with
    |   zero=>
        simp at ho;subst ho;exact⟨_,rfl,⟨rfl,bw,hg,.inl hc⟩,hb0⟩
    |   succ i=>
        simp at ho;obtain⟨ao,h3,h4,h5⟩:=h2 i o' ho;exact⟨ao,by simpa using h3,h4,by rw[h5,hb]⟩
  . simp only[H0]at h;subst h;refine⟨by simp[h1],λi o' ho=> ?_⟩;cases i with
    |   zero=>
        simp at ho;subst ho;exact⟨_,rfl,⟨rfl,bw,hg,.inr ⟨rfl,rfl⟩⟩,hb0⟩
    |   succ i=>
        simp at ho;obtain⟨ao,h3,h4,h5⟩:=h2 i o' ho;exact⟨ao,by simpa using h3,h4,by rw[h5,hb]⟩
theorem FJ{ops:Array Oper}{ρ:Pos->Loc}{n:Nat}{fr:Fr}{a:Act}{o:Oper}{g:Option (Pos×Bool)}{b:Bool}(hg:Tl ops o.guard=some g)
   (hF:∀p v,fr.get p=some v->(∃q,g=some (p,q))->∃x,a.tmps[p.toNat - 1]? =some x/\aq ρ n C v x)
   (hw:cj fr g=some b):Region.wanted o (yielded ops a.tmps)=b:=by
 unfold Region.wanted;unfold Tl at hg;split at hg
 .rename_i hn;simp only[H0]at hg;subst hg;simp only[cj,H0]at hw;subst hw;rw[hn]
 . rename_i j want hn;rw[hn];(split at hg<;>first|(cases hg;done)|skip);rename_i oj hj;(split at hg<;>first|(cases hg;done)|skip);rename_i d hd;simp only[H0]at hg;subst hg;simp only[cj]at hw;split at hw
   .rename_i u hu;simp only[H0]at hw;subst hw;obtain⟨x,hx,hv⟩:=hF _ _ hu ⟨_,rfl⟩;rw[fD,Zf0]at hx;have:=hv.ir;subst this;simp[yielded,hj,hd,hx]
   .rename_i l hu;simp only[H0]at hw;subst hw;obtain⟨x,hx,hv⟩:=hF _ _ hu ⟨_,rfl⟩;rw[fD,Zf0]at hx;obtain⟨cs,rfl,_⟩:=hv.Wu;simp[yielded,hj,hd,hx]
   .cases hw
theorem aq.WN{ρ:Pos->Loc}{n:Nat}:aq ρ n C AV.undef undef:= .tuple [] #[] rfl λ_ _ _ h=>by simp at h
theorem Act.iQ(a:Act)(d:Option Tmp)(v:Value):(a.put d v).tmps.size=a.tmps.size:=by cases d<;>simp[Act.put]
theorem Act.jQ(a:Act)(d:Option Tmp)(v:Value):(a.put d v).defers=a.defers:=by cases d<;>rfl
theorem fS.put{ρ:Pos->Loc}{n nt:Nat}{fr:Fr}{a:Act}{d:Option Tmp}{v:AV}{x:Value}(hF:fS ρ n C fr a.tmps)(hs:a.tmps.size=nt)
  (hd:∀e,d=some e->e<nt) (hv:aq ρ n C v x):fS ρ n C (dP fr (d.map key) v) (a.put d x).tmps:=by
 cases d with
 |none=>exact hF
 |some e=>
  have he:=hd e rfl;intro p u hp;simp only[Ze3,dP]at hp;simp only[Act.put];by_cases TG:key e=p
  .subst TG;rw[T.eB]at hp;simp only[H0]at hp;subst hp;refine⟨x,?_,hv⟩;rw[fD,Zf0,Zl7];simp[hs,he]
  .rw[T.bH _ TG]at hp;obtain⟨y,hy,hr⟩:=hF p u hp;refine⟨y,?_,hr⟩;rw[Ze2,hy];intro h;apply TG;apply Pos.toNat_inj;rw[fD];have:=p.toNat_pos;omega
theorem fS.mono{ρ ρ':Pos->Loc}{n n':Nat}{fr:Fr}{tmps:Array Value}(hF:fS ρ n C fr tmps)(aY:∀b:Pos,b.toNat<n->ρ' b=ρ b)(hn:n<=n'):fS ρ' n' C fr tmps:=
 λp v hp=>let⟨x,hx,hv⟩:=hF p v hp;⟨x,hx,hv.mono aY hn⟩
structure nH(nt:Nat)(ρ:Pos->Loc)(C:Cells)(fr:Fr)(st:St)(a:Act)(w:World):Prop where
 W:bn ρ C st w
 F:fS ρ st.next.toNat C fr a.tmps
 size:a.tmps.size=nt
 defers:a.defers=[]
def gh(nt:Nat)(ρ:Pos->Loc)(C:Cells)(st:St)(w:World)(br:Fr)(st':St)(a':Act)(w':World):Prop:=
 ∃ρ',nH nt ρ' C br st' a' w'/\(∀b:Pos,b.toNat<st.next.toNat->ρ' b=ρ b)/\st.next.toNat<=st'.next.toNat/\jW ρ st w ρ' st' w'
theorem gh.refl{nt:Nat}{ρ:Pos->Loc}{fr:Fr}{st:St}{a:Act}{w:World}(h:nH nt ρ C fr st a w):gh nt ρ C st w fr st a w:=
 ⟨ρ,h,λ_ _=>rfl,Za3 _,jW.refl _ _ _⟩
theorem gh.trans{nt:Nat}{ρ eI:Pos->Loc}{wN:Fr}{st aW kY:St}{a2:Act}{w w1 w2:World}
  (h1:∀b:Pos,b.toNat<st.next.toNat->eI b=ρ b) (h2:st.next.toNat<=aW.next.toNat) (h3:jW ρ st w eI aW w1)
  (h:gh nt eI C aW w1 wN kY a2 w2):gh nt ρ C st w wN kY a2 w2:=by
 obtain⟨mR,k1,k2,k3,k4⟩:=h;exact⟨mR,k1,λb hb=>(k2 b (Zc8 hb h2)).trans (h1 b hb),Zd6 h2 k3,h3.trans k4⟩
theorem Reaches.bad{k:ax}{vs:List AV}{st:St}{r:AV×St}(hk:k= .bad)(h:bY call k vs st=some r):False:=by subst hk;simp[bY,ax.run]at h
theorem rK(hT:cB P tt)(cg:fG P C call){nt:Nat}{ops:Array Oper}{K:Act->World->Prop}:∀(Zf:List bD)(k:Nat)(fr br:Fr)(st st':St)(ρ:Pos->Loc)(a:Act)(w:World),
  (∀(i:Nat)(ao:bD),Zf[i]? =some ao->∃o,ops[k+i]? =some o/\wG tt nt ops o ao)->
  jM call Zf fr st=some (br,st')->nH nt ρ C fr st a w->(∀a' w',gh nt ρ C st w br st' a' w'->K a' w')->rI P ops K (List.range' k Zf.length) a w
 |[],k,fr,br,st,st',ρ,a,w,_,h,hS,hQ=>by
  simp only[jM,H0,Zb6]at h;obtain⟨rfl,rfl⟩:=h;exact hQ a w (gh.refl hS)
 |ao::Zf,k,fr,br,st,st',ρ,a,w,ho,h,hS,hQ=>by
  obtain⟨o,cQ,hR⟩:=ho 0 ao rfl;rw[Zf8]at cQ;have HK:∀(i:Nat)(ao':bD),Zf[i]? =some ao'->∃o,ops[k+1+i]? =some o/\wG tt nt ops o ao':=λi ao' hi=>by
    obtain⟨o',h1,h2⟩:=ho (i+1) ao' (by simpa using hi);exact⟨o',by rw[<-h1];congr 1;omega,h2⟩
  simp only[Zb2,Zo3,rI,FH,cQ];unfold jM at h;split at h
  . rename_i hw;rw[Za4 (FJ hR.guard (λp v hp _=>hS.F p v hp) hw)];(split at h<;>first|(cases h;done)|skip);rename_i vs jf;(split at h<;>first|(cases h;done)|skip);rename_i v aW q8;rcases hR.op with hc|⟨hk,_⟩
    .   have hr:=Rp hT cg hc hS.W hS.F jf q8;(refine hr.mono λx w1 hp=> ?_);obtain⟨eI,hv,h1,h2,Zg,hE⟩:=hp;rw[hR.dst]at h;refine rK hT cg Zf (k+1) _ br aW st' eI _ w1 HK h ⟨Zg,fS.put (hS.F.mono h1 h2) hS.size hR.lt hv,by rw[Act.iQ];exact hS.size,by rw[Act.jQ];exact hS.defers⟩ λa' w' hp=>hQ a' w' (gh.trans h1 h2 hE hp)
    .   exact(Reaches.bad hk q8).elim
  .rename_i hw;rw[Za2 (by rw[FJ hR.guard (λp v hp _=>hS.F p v hp) hw];simp)];rw[hR.dst]at h;exact rK hT cg Zf (k+1) _ br st st' ρ _ w HK h ⟨hS.W,fS.put hS.F hS.size hR.lt .WN,by rw[Act.iQ];exact hS.size,by rw[Act.jQ];exact hS.defers⟩ hQ
  .cases h
theorem Cx{nt:Nat}{ops:Array Oper}{l:List bD}{bs:List Nat}(h:oI tt nt ops ops.toList bs=some l)(i:Nat)(ao:bD)(hi:l[i]? =some ao):
  ∃o,ops[i]? =some o/\wG tt nt ops o ao/\ao.bT=bs.getD i 0:=by
 obtain⟨h1,h2⟩:=oX h;have bw:i<ops.toList.length:=by rw[<-h1];exact(H5.1 hi).1
 obtain⟨ao',h3,h4,h5⟩:=h2 i _ (H1 bw);rw[hi]at h3;simp only[H0]at h3;subst h3;exact⟨_,by rw[<-Zg6];exact H1 bw,h4,h5⟩
theorem Zh(hT:cB P tt)(cg:fG P C call){nt id:Nat}{ops:Array Oper}{bs:List Nat}{l:List bD}{Q:Exit->Act->World->Prop}{fr br:Fr}{st st':St}{ρ:Pos->Loc}{a:Act}{w:World}
  (hl:oI tt nt ops ops.toList bs=some l) (h:jM call l fr st=some (br,st')) (hS:nH nt ρ C fr st a w)
  (hQ:∀a' w',gh nt ρ C st w br st' a' w'->Q .normal a' w'):fB P (Code.region id ops false) Q a w:=by
 show rI P ops (Q .normal) (List.range ops.size) a w;have hlen:l.length=ops.size:=by rw[(oX hl).1,Zg4]
 rw[Zm3, <-hlen];exact rK hT cg l 0 fr br st st' ρ a w (λi ao hi=>by
  obtain⟨o,h1,h2,_⟩:=Cx hl i ao hi;exact⟨o,by rw[Zc7];exact h1,h2⟩) h hS hQ
end
section
variable{P:Program}{tt:TT}{C:Cells}{call:ah}
def tj(P:Program)(tt:TT)(C:Cells)(call:ah):Prop:=
 ∀  (nt id:Nat)(ops:Array Oper)(l:List bD)(Q:Exit->Act->World->Prop)(fr br:Fr)(st st':St)(ρ:Pos->Loc)(a:Act)(w:World),
    oI tt nt ops ops.toList (YP ops.toList [])=some l->JF l.length 0 (yM (Ft 0 l) [])=true->dO call (yM (Ft 0 l) []) [] st.heap fr st=some (br,st')->nH nt ρ C fr st a w->
    (∀a' w',gh nt ρ C st w br st' a' w'->Q .normal a' w')->fB P (Code.region id ops true) Q a w
def n9:jV->Exit
 |.normal=>.normal
 |.exit id=>.exit id
 |.ret=>.ret
def TH(P:Program)(tt:TT)(C:Cells)(call:ah)(nt m:Nat):Prop:=
 ∀  (c:Code)(ac:AC)(fr br:Fr)(st st':St)(ex:jV)(ρ:Pos->Loc)(a:Act)(w:World)(Q:Exit->Act->World->Prop),
    uz tt nt c=some ac->exec call m ac fr st=some (ex,br,st')->nH nt ρ C fr st a w->
    (∀a' w',gh nt ρ C st w br st' a' w'->Q (n9 ex) a' w')->fB P c Q a w
def TJ(P:Program)(tt:TT)(C:Cells)(call:ah)(nt m:Nat):Prop:=
 ∀  (c:Code)(ac:AC)(fr br:Fr)(st st':St)(ex:jV)(ρ:Pos->Loc)(a:Act)(w:World)(Q:Exit->Act->World->Prop),
    uz tt nt c=some ac->exec call m (.loop ac) fr st=some (ex,br,st')->nH nt ρ C fr st a w->
    (∀a' w',gh nt ρ C st w br st' a' w'->Q (n9 ex) a' w')->Ol (fB P c) Q m a w
theorem WO{nt m:Nat}(FK:TH P tt C call nt m)(ihL:TJ P tt C call nt m):TJ P tt C call nt (m+1):=by
 intro c ac fr br st st' ex ρ a w Q hc h hS hQ;simp only[exec,bt]at h;show fB P c (Exit.then (Ol (fB P c) Q m) Q) a w;split at h
 .rename_i cD aW h1;(refine FK c ac fr cD st aW .normal ρ a w _ hc h1 hS λa1 w1 hp=> ?_);obtain⟨eI,u0,k1,k2,k3⟩:=hp;exact ihL c ac cD br aW st' ex eI a1 w1 Q hc h u0 λa2 w2 hp=>hQ a2 w2 (gh.trans k1 k2 k3 hp)
 . rename_i cU;cases ex with
   |normal=>exact(cU _ _ h).elim
   |exit id=>exact FK c ac fr br st st' (.exit id) ρ a w _ hc h hS λa1 w1 hp=>hQ a1 w1 hp
   |ret=>exact FK c ac fr br st st' .ret ρ a w _ hc h hS λa1 w1 hp=>hQ a1 w1 hp
theorem ael(hT:cB P tt)(cg:fG P C call)(gy:tj P tt C call){nt m:Nat}(FK:TH P tt C call nt m)(ihL:TJ P tt C call nt m):TH P tt C call nt (m+1):=by
 intro c ac fr br st st' ex ρ a w Q hc h hS hQ;have akk:=WO FK ihL;unfold uz at hc;split at hc<;>first|(cases hc;done)|skip
 .simp only[H0]at hc;subst hc;simp only[exec,bt,H0,Zb6]at h;obtain⟨rfl,rfl,rfl⟩:=h;exact hQ _ _ (gh.refl hS)
 . rename_i ix ops draw;(split at hc<;>first|(cases hc;done)|skip);rename_i l hl;split at hc
   .simp only[H0]at hc;subst hc;simp only[exec,bt]at h;(split at h<;>first|(cases h;done)|skip);rename_i cD aW h1;simp only[H0,Zb6]at h;obtain⟨rfl,rfl,rfl⟩:=h;exact Zh hT cg hl h1 hS hQ
   . (split at hc<;>first|(cases hc;done)|skip);rename_i ht;simp only[H0]at hc;subst hc;simp only[exec,bt]at h;(split at h<;>first|(cases h;done)|skip);rename_i cD aW h1;simp only[H0,Zb6]at h;obtain⟨rfl,rfl,rfl⟩:=h;exact gy nt _ ops l Q fr cD st aW ρ a w hl ht h1 hS hQ
 . (split at hc<;>first|(cases hc;done)|skip);rename_i x y h1 h2;simp only[H0]at hc;subst hc;simp only[exec,bt]at h;show fB P _ (Exit.then (fB P _ Q) Q) a w;split at h
   .rename_i cD aW h3;(refine FK _ _ fr cD st aW .normal ρ a w _ h1 h3 hS λa1 w1 hp=> ?_);obtain⟨eI,u0,k1,k2,k3⟩:=hp;exact FK _ _ cD br aW st' ex eI a1 w1 Q h2 h u0 λa2 w2 hp=>hQ a2 w2 (gh.trans k1 k2 k3 hp)
   . rename_i cU;cases ex with
     |normal=>exact(cU _ _ h).elim
     |exit id=>exact FK _ _ fr br st st' (.exit id) ρ a w _ h1 h hS λa1 w1 hp=>hQ a1 w1 hp
     |ret=>exact FK _ _ fr br st st' .ret ρ a w _ h1 h hS λa1 w1 hp=>hQ a1 w1 hp
 . (split at hc<;>first|(cases hc;done)|skip);rename_i x y z h1 h2 h3;simp only[H0]at hc;subst hc;simp only[exec,bt]at h;split at h
   .rename_i hx;exact⟨true,(rF h1 hS.F hx).ir,(FK _ _ fr br st st' ex ρ a w Q h2 h hS hQ)⟩
   .rename_i hx;exact⟨false,(rF h1 hS.F hx).ir,(FK _ _ fr br st st' ex ρ a w Q h3 h hS hQ)⟩
   .cases h
 . (split at hc<;>first|(cases hc;done)|skip);rename_i x h1;simp only[H0]at hc;subst hc;simp only[exec,bt]at h;show fB P _ (Exit.inBlock _ Q) a w;split at h
   . rename_i uy cD aW h2;split at h
     .  rename_i he;simp only[H0,Zb6]at h;obtain⟨rfl,rfl,rfl⟩:=h;have:=H4 he;subst this;exact FK _ _ fr cD st aW (.exit uy) ρ a w _ h1 h2 hS λa1 w1 hp=>by simp only[n9,Exit.inBlock,Zf9];exact hQ a1 w1 hp
     .  rename_i he;simp only[H0,Zb6]at h;obtain⟨rfl,rfl,rfl⟩:=h;have:=Zc0 he;exact FK _ _ fr cD st aW (.exit uy) ρ a w _ h1 h2 hS λa1 w1 hp=>by simp only[n9,Exit.inBlock,Za2 this];exact hQ a1 w1 hp
   . rename_i cU;cases ex with
     |normal=>exact FK _ _ fr br st st' .normal ρ a w _ h1 h hS λa1 w1 hp=>hQ a1 w1 hp
     |exit id=>exact(cU _ _ _ h).elim
     |ret=>exact FK _ _ fr br st st' .ret ρ a w _ h1 h hS λa1 w1 hp=>hQ a1 w1 hp
 . (split at hc<;>first|(cases hc;done)|skip);rename_i x h1;simp only[H0]at hc;subst hc;exact⟨m+1,akk _ _ fr br st st' ex ρ a w Q h1 h hS hQ⟩
 .simp only[H0]at hc;subst hc;simp only[exec,bt,H0,Zb6]at h;obtain⟨rfl,rfl,rfl⟩:=h;exact hQ _ _ (gh.refl hS)
 .simp only[H0]at hc;subst hc;simp only[exec,bt,H0,Zb6]at h;obtain⟨rfl,rfl,rfl⟩:=h;exact hQ _ _ (gh.refl hS)
 .simp only[H0]at hc;subst hc;simp[exec,bt,jM,cj,e8,bY,ax.run]at h
theorem rL(hT:cB P tt)(cg:fG P C call)(gy:tj P tt C call){nt:Nat}:∀m,TH P tt C call nt m/\TJ P tt C call nt m
 |0=>⟨λc ac fr br st st' ex ρ a w Q hc h=>by simp[exec]at h,λc ac fr br st st' ex ρ a w Q hc h=>by simp[exec]at h⟩
 |m+1=>let⟨h1,h2⟩:=rL hT cg gy m;⟨ael hT cg gy h1 h2,WO h1 h2⟩
def Qw(tmps:Array Value):ResultVar->Sem Value
 |.tmp t=>pure (tmps.getD t undef)
 |.cell a t=>do loadVar t (<-asAddr (tmps.getD a undef))
theorem acQ(hT:cB P tt){ρ:Pos->Loc}{st:St}{w:World}{fr:Fr}{a:Act}{x:Tmp}{t:TypeId}{ti:TI}{q v:AV}(dc:tt.get (key t)=some ti)
  (hW:bn ρ C st w) (hF:fS ρ st.next.toNat C fr a.tmps) (hq:fr.get (key x)=some q) (hr:(ax.load (Aw ti)).run (λb=>st.heap.get b) .h [q]=some (.val v)):
  ∃y,(Qw a.tmps (.cell x t)).run P w= .ok y w/\aq ρ st.next.toNat C v y:=by
 have hc:gI tt (.load t (.tmp x))=some (.load (Aw ti),[.t (key x)],.read):=by simp[gI,dc,lA]
 have hx:e8 fr [.t (key x)]=some [q]:=by simp[e8,C6,hq]
 have th:(ax.load (Aw ti)).run (λb=>st.heap.get b) st.next [q]=some (.val v):=hr;obtain⟨N,y,he,hy,hv⟩:=Qv hT (.load t (.tmp x)) ρ C st w _ _ _ fr a { dst:=none,op:= .load t (.tmp x),type:=t,pos:=default,after:= #[],guard:=none } _ _ rfl hc hW hF hx th;refine⟨y,?_,hv⟩;simp only[execOp,Instr.loadAt,Act.eval]at he;simp only[Qw];obtain⟨z,hz,hzq⟩:=hF _ _ hq;rw[fD,Zf0]at hz;have hzd:a.tmps.getD x undef=z:=by simp[Zi9,hz]
 rw[hzd]at he ⊢;have hp:∃ad,z= .pointer (some ad):=by
  simp only[ax.run,wC]at hr;split at hr<;>first|(cases hr;done)|skip
  .obtain⟨_,h⟩:=hzq.fJ;exact⟨_,h⟩
  .obtain⟨_,_,_,_,h,_⟩:=hzq.JH;exact⟨_,h⟩
 obtain⟨ad,rfl⟩:=hp;simp only[Instr.sureAddr,asAddr,Sem.run_bind,Sem.run_pure,Result.andThen]at he ⊢;cases hl:(loadVar t ad).run P w with
 |ok u w1=>
  rw[hl]at he;simp at he;obtain⟨h1,h2⟩:=he;subst h2;rcases hy with hy|⟨hy,_⟩
  .rw[hy]at h1;simp at h1;rw[h1]
  .rw[hy]at h1;simp at h1
 |halt u w1=>rw[hl]at he;simp at he
theorem FL(hT:cB P tt){ρ:Pos->Loc}{st:St}{w:World}{fr:Fr}{a:Act}(hW:bn ρ C st w)(hF:fS ρ st.next.toNat C fr a.tmps):
   ∀(rs:List ResultVar)(TL:List C0)(vs:List AV),mP tt rs=some TL->dA (λb=>st.heap.get b) fr TL=some vs->
    ∃ys,(rs.mapM (Qw a.tmps)).run P w= .ok ys w/\az ρ st.next.toNat C vs ys
 | [],TL,vs,hc,hr=>by
   simp only[mP,H0]at hc;subst hc;simp only[dA,H0]at hr;subst hr;exact⟨[],by simp,az.nil⟩
 | .tmp t::rs,TL,vs,hc,hr=>by
   simp only[mP]at hc;(split at hc<;>first|(cases hc;done)|skip);rename_i l hl;simp only[H0]at hc;subst hc;simp only[dA]at hr;(split at hr<;>first|(cases hr;done)|skip);rename_i v hv;(split at hr<;>first|(cases hr;done)|skip);rename_i us hus;simp only[H0]at hr;subst hr;obtain⟨ys,h1,h2⟩:=FL hT hW hF rs l us hl hus;obtain⟨z,hz,hzq⟩:=hF _ _ hv;rw[fD,Zf0]at hz;refine⟨z::ys,?_,az.cons hzq h2⟩;simp[List.mapM_cons,Qw,h1,Zi9,hz]
 | .cell x t::rs,TL,vs,hc,hr=>by
   simp only[mP]at hc;(split at hc<;>first|(cases hc;done)|skip);rename_i ti l WC hl;simp only[H0]at hc;subst hc;simp only[dA]at hr;(split at hr<;>first|(cases hr;done)|skip);rename_i q hq;(split at hr<;>first|(cases hr;done)|skip);rename_i v hv;(split at hr<;>first|(cases hr;done)|skip);rename_i us hus;simp only[H0]at hr;subst hr;obtain⟨ys,h1,h2⟩:=FL hT hW hF rs l us hl hus;obtain⟨y,h3,h4⟩:=acQ hT WC hW hF hq hv;refine⟨y::ys,?_,az.cons h4 h2⟩;simp[List.mapM_cons,h1,h3]
theorem tq(hT:cB P tt){ρ:Pos->Loc}{st:St}{w:World}{fr:Fr}{a:Act}{fn:Func}{TL:List C0}{vs:List AV}(hW:bn ρ C st w)(hF:fS ρ st.next.toNat C fr a.tmps)
  (hc:mP tt fn.results.toList=some TL) (hr:dA (λb=>st.heap.get b) fr TL=some vs):
  ∃y,(results fn a.tmps).run P w= .ok y w/\aq ρ st.next.toNat C (iq vs) y:=by
 obtain⟨ys,h1,h2⟩:=FL hT hW hF _ TL vs hc hr;have h3:(fn.results.mapM (Qw a.tmps)).run P w= .ok ys.toArray w:=by
  rw[Array.mapM_eq_mapM_toList];simp[h1]
 have h4:(results fn a.tmps).run P w= .ok (if h:ys.toArray.size=1 then ys.toArray[0]else .tuple ys.toArray) w:=by
  have hfun:results fn a.tmps=(fn.results.mapM (Qw a.tmps) >>= λvs=>pure (if h:vs.size=1 then vs[0]else .tuple vs)):=by unfold results;congr 2
  rw[hfun,Sem.run_bind,h3];simp
 refine⟨_,h4,?_⟩;cases vs with
 |nil=>have:=h2.mL;subst this;simp[iq];exact .uV (by simpa using az.nil)
 |cons v vs=>
  obtain⟨y,ys',rfl,hv,jf⟩:=h2.cons_inv;cases vs with
  |nil=>have:=jf.mL;subst this;simpa [iq]using hv
  |cons v' vs'=>
   obtain⟨y',ys'',rfl,FD,af9⟩:=jf.cons_inv;simp[iq];exact .uV (by simpa using az.cons hv (az.cons FD af9))
def Te(P:Program)(tt:TT)(G:T dB):Prop:=
 ∀p F,G.get p=some F->∃fn,P.funcs[p.toNat - 1]? =some fn/\(fn.name== "runtime.NumGoroutine")=false/\Yq tt fn=some F
def rC(P:Program)(C:Cells)(O:ff):Prop:=
 ∀  (f:FuncId)(s:List AV->St->Option (AV×St)),O f=some s->
    ∀(ρ:Pos->Loc)(st:St)(w:World)(args:List AV)(v:AV)(st':St)(bQ:List Value),s args st=some (v,st')->
     bn ρ C st w->az ρ st.next.toNat C args bQ->Reaches P (mW ρ C st w v st') ((callFunc f bQ.toArray).run P w)
theorem AH{ρ:Pos->Loc}{n:Nat}{tmps:Array Value}:∀(vs:List AV)(xs:List Value)(i:Nat)(fr:Fr),az ρ n C vs xs->
  (∀(j:Nat)(x:Value),xs[j]? =some x->tmps[i+j]? =some x)->fS ρ n C fr tmps->fS ρ n C (params i vs fr) tmps
 |[],_,_,_,_,_,hF=>hF
 |v ::vs,xs,i,fr,h,hx,hF=>by
  obtain⟨x,xQ,rfl,hv,jf⟩:=h.cons_inv;unfold params;refine AH vs xQ (i+1) _ jf (λj y hy=>by rw[<-hx (j+1) y (by simpa using hy)];congr 1;omega) λp u hp=> ?_
  by_cases TG:key i=p
  .subst TG;rw[T.eB]at hp;simp only[H0]at hp;subst hp;exact⟨x,by rw[fD,Zf0];exact hx 0 x rfl,hv⟩
  .rw[T.bH _ TG]at hp;exact hF p u hp
theorem Rq(hT:cB P tt){O:ff}{G:T dB}(hO:rC P C O)(hG:Te P tt G)(m:Nat)(gy:∀d,fG P C (rE O G m d)->tj P tt C (rE O G m d)):∀d,fG P C (rE O G m d)
 |0=>λρ st w f args v st' bQ h=>by simp[rE]at h
 |d +   1 =>by
  intro ρ st w f args v st' bQ h hW rD;have ih:=Rq hT hO hG m gy d;unfold rE at h;split at h
  .rename_i s hs;exact hO f s hs ρ st w args v st' bQ h hW rD
  . (split at h<;>first|(cases h;done)|skip);rename_i F hF;(split at h<;>first|(cases h;done)|skip);rename_i hlen;have hlen:=H4 hlen;obtain⟨fn,Eh,fY,FM⟩:=hG _ _ hF;rw[fD,Zf0]at Eh;unfold Yq at FM;(split at FM<;>first|(cases FM;done)|skip);rename_i c hb;(split at FM<;>first|(cases FM;done)|skip);rename_i ac rs Zi hrs hle;simp only[H0]at FM;subst FM;simp only at h hlen;have hle:=Za1 hle;have cC:(callFunc f bQ.toArray).run P w= .ok (.enter f bQ.toArray) w:=by
        have FN:¬fn.name= "runtime.NumGoroutine" :=(by simpa using fY);simp[callFunc,Eh,FN,hb]
    rw[cC];simp only[Reaches];refine calls_of_wp Eh hb (fB.wp ?_);have ew:bQ.length<=fn.ntmps:=(by rw[<-rD.1,hlen];exact hle);have hS:nH fn.ntmps ρ C (params 0 args .e) st { tmps:=bQ.toArray++Array.replicate (fn.ntmps - bQ.toArray.size) undef,defers:=[] } w:=by
        refine⟨hW,?_,?_,rfl⟩
        .refine AH args bQ 0 .e rD (λj x hx=> ?_) (λp v hp=>by rw[T.ej]at hp;cases hp);have hj:j<bQ.length:=(H5.1 hx).1;rw[Zc7,Zh9 (by simpa using hj)];simpa using hx
        .simp;omega
    split at h<;>first|(cases h;done)|skip
    .   rename_i cD aW h1;(split at h<;>first|(cases h;done)|skip);rename_i vs jf;simp only[H0,Zb6]at h;obtain⟨rfl,rfl⟩:=h;(refine(rL hT ih (gy _ ih) m).1 c ac _ cD st aW .normal ρ _ w _ Zi h1 hS λa' w' hp=> ?_);obtain⟨eI,u0,k1,k2,k3⟩:=hp;obtain⟨y,Ej,FA⟩:=tq hT u0.W u0.F hrs jf;exact⟨u0.defers,y,Ej,eI,FA,k1,k2,u0.W,k3⟩
    .   rename_i cD aW h1;(split at h<;>first|(cases h;done)|skip);rename_i vs jf;simp only[H0,Zb6]at h;obtain⟨rfl,rfl⟩:=h;(refine(rL hT ih (gy _ ih) m).1 c ac _ cD st aW .ret ρ _ w _ Zi h1 hS λa' w' hp=> ?_);obtain⟨eI,u0,k1,k2,k3⟩:=hp;obtain⟨y,Ej,FA⟩:=tq hT u0.W u0.F hrs jf;exact⟨u0.defers,y,Ej,eI,FA,k1,k2,u0.W,k3⟩
end
end
end Go.Ai
