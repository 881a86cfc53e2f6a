/- Its operations, second part; regions. -/
import Derived.Test.YtlkadmkojjceiaaGreatDoorKEvalB
import Derived.Laws.IdiomStrings
import Derived.Laws.RangeString
import Derived.Lib.UnsafeStr
import Derived.LoopN
import Derived.LoopNIn
import Derived.OrdersIn
set_option linter.all false
namespace Go.Ai
section
open Go Go.RowKit
section
variable{P:Program}{tt:TT}{ρ:Pos->Loc}{C:Cells}{st:St}{w w':World}
theorem tI(del:Option Pos)(h:T AB){b:Pos}{x:AB}(hb:(Cq del h).get b=some x):h.get b=some x/\∀c,del=some c->b≠c:=by
 cases del with
 |none=>exact⟨hb,λ_ h=>by cases h⟩
 |some c=>
  by_cases he:c=b
  .subst he;simp only[Cq]at hb;rw[T.dJ]at hb;cases hb
  .simp only[Cq]at hb;rw[T.bk _ he]at hb;exact⟨hb,λd hd=>by cases hd;exact λe=>he e.symm⟩
theorem su(hW:aM ρ C st w){o:Obj}{x0:AB}{base size:Nat}(del:Option Pos)(hh:w'.heap=w.heap.push o)(h1:w'.os=w.os)(h2:w'.tape=w.tape)(h3:w'.output=w.output)
   (hB:∀ρ' n',(∀b:Pos,b.toNat<st.next.toNat->ρ' b=ρ b)->st.next.toNat<=n'->jQ ρ' n' C ⟨w.heap.size,base,size⟩ w' x0):
   ∃ρ':Pos->Loc,(∀b:Pos,b.toNat<st.next.toNat->ρ' b=ρ b)/\ρ' st.next=⟨w.heap.size,base,size⟩/\aM ρ' C (st.aC del none (some x0)) w'/\iy ρ st w ρ' (st.aC del none (some x0)) w':=by
 let ρ':Pos->Loc:=λb=>if b=st.next then⟨w.heap.size,base,size⟩else ρ b
 have aL:∀b:Pos,b.toNat<st.next.toNat->ρ' b=ρ b:=λb hb=>Za4 (λe=>by rw[e]at hb;omega)
 have dx:ρ' st.next=⟨w.heap.size,base,size⟩:=Za7 rfl;have dV:w'.heap.size=w.heap.size+1:=by rw[hh];simp
 have hold:∀k,k<w.heap.size->w'.heap[k]? =w.heap[k]? :=λk hk=>by rw[hh,Array.getElem?_push,Za4 (by omega)]
 refine⟨ρ',aL,dx,?_,⟨h1,h2,h3,by omega,λk hk _=>hold k hk,λb x hb=> ?_⟩⟩;rotate_left
 . by_cases he:b=st.next
   .right;rw[he,dx];exact H5 _
   .left;simp only[St.aC,EF]at hb;rw[T.bk _ (λe=>he e.symm)]at hb;have gZ:=(tI del _ hb).1;exact⟨b,x,gZ,by rw[aL b (hW.live b x gZ).1]⟩
 refine hW.UP (b0:=st.next) (x0:=x0) (by rw[Pos.ay];omega) (by rw[Pos.ay];omega) (by rw[T.dJ]) ?_ aL (by rw[dx];exact hB _ _ aL (by rw[Pos.ay];omega)) ?_ (by rw[dx,dV];simp) (by omega) (λk hk _=>hold k hk)
 .intro b x hb hx;rw[T.bk _ (λe=>hb e.symm)]at hx;have hx:=(tI del _ hx).1;refine⟨hx,?_⟩;rw[dx];have:=(hW.live b x hx).2.1;simp only;omega
 .intro a v ha;have:=World.block_lt_of_cell? _ _ (hW.cL a v ha).1;rw[dx];simp only;omega
theorem Lx(hW:aM ρ C st w){b:Pos}{x x0:AB}(hb:st.heap.get b=some x)(h1:w'.os=w.os)(h2:w'.tape=w.tape)(h3:w'.output=w.output)(dV:w'.heap.size=w.heap.size)
   (rU:∀k,k≠(ρ b).aq->w'.heap[k]? =w.heap[k]?) (hB:jQ ρ st.next.toNat C (ρ b) w' x0):
   aM ρ C (st.aC none (some (b,x0)) none) w'/\iy ρ st w ρ (st.aC none (some (b,x0)) none) w':=by
 obtain⟨aW,Ly,_⟩:=hW.live b x hb;refine⟨?_,⟨h1,h2,h3,by omega,λk _ hk=>rU k (λe=>hk b x hb e.symm),λc y hc=> ?_⟩⟩;rotate_left
 . left;by_cases he:c=b
   .exact⟨b,x,hb,by rw[he]⟩
   .simp only[St.aC,EF,Cq]at hc;rw[T.bk _ (λe=>he e.symm)]at hc;exact⟨c,y,hc,rfl⟩
 refine hW.UP (b0:=b) (x0:=x0) (H5 _) aW (by simp only[EF,Cq];rw[T.dJ]) ?_ (λ_ _=>rfl) hB ?_ (by omega) (by omega) (λk _ hk=>rU k hk)
 .intro c y hc hy;simp only[EF,Cq]at hy;rw[T.bk _ (λe=>hc e.symm)]at hy;exact⟨hy,λe=>hc (hW.inj _ _ _ _ hy hb e)⟩
 .exact λa v ha e=>(hW.cL a v ha).2 b x hb e.symm
theorem ug{cs:List AV}{c:Array Value}{e:TypeId}{fr:Nat×Nat}{g:Nat}{n:Nat}(hg:w'.heap[g]? =some (.cells c e fr))(hle:cs.length<=c.size)(hv:ak ρ n C cs (c.toList.take cs.length))
  (hf:∀i,i<c.size->¬(fr.1<=i/\i<fr.2)):jQ ρ n C ⟨g,0,c.size⟩ w' (.cells cs 0):=
 ⟨c,e,fr,hg,rfl,by simpa using hle,by simpa using hv,λi _ hi=>by simpa using hf i (by simpa using hi)⟩
theorem Wm(hT:bE P tt)(t:TypeId):cm P tt (.alloc t):=by
 intro ρ C st w k xs cls fr a o vs res ho hc hW hF hx hr;simp only[eJ]at hc;split at hc<;>first|(cases hc;done)|skip
 rename_i ti ct;split at hc<;>first|(cases hc;done)|skip
 rename_i z hz;split at hc
 . cases hc;simp only[di,H0]at hx;subst hx;simp only[au.run,BD,H0]at hr;subst hr;obtain⟨zv,wR,_,qe⟩:=qd hT ct hz (ρ:=ρ) (n:=st.next.toNat) (C:=C) w;have hl:z.length=zv.cells.size:=(by simpa using qe.1);obtain⟨ρ',aL,dx,dG,hE⟩:=su (w':=w.alloc (.cells zv.cells t)) (o:= .cells zv.cells t) (x0:= .typed t z) (base:=0) (size:=zv.cells.size) hW none rfl rfl rfl rfl (λρ' n' aL hn=>
     ⟨zv.cells,(0,0),by show(w.heap.push _)[w.heap.size]? =_;simp,rfl,by simp only[Zc8];omega,by rw[hl,Zc9,Zf3 (by simp)];exact qe.mono aL hn,λi _=>by simp,rfl⟩)
   refine⟨_,.pointer (some ⟨w.heap.size,0,none⟩),_,ρ',?_,Yields.value _,aL,dG,?_,hE⟩
   .simp[execOp,ho,Instr.alloc,wR,newVar,newRow]
   .have:=aj.ptr (ρ:=ρ') (n:=(st.aC none none (some (.typed t z))).next.toNat) (C:=C) st.next 0 (by simp[St.aC,Pos.ay]);rw[dx]at this;simpa using this
 cases hc;simp only[di,H0]at hx;subst hx;simp only[au.run,Ez,H0]at hr;subst hr;obtain⟨zv,wR,_,qe⟩:=qd hT ct hz (ρ:=ρ) (n:=st.next.toNat) (C:=C) w;have hl:z.length=zv.cells.size:=by simpa using qe.1
 obtain⟨ρ',aL,dx,dG,hE⟩:=su (w':=w.alloc (.cells zv.cells t)) (o:= .cells zv.cells t) (x0:= .cells z 0) (base:=0) (size:=zv.cells.size) hW none rfl rfl rfl rfl (λρ' n' aL hn=>
   ug (w':=w.alloc (.cells zv.cells t)) (e:=t) (fr:=(0,0)) (by show(w.heap.push _)[w.heap.size]? =_;simp) (by omega) (by rw[hl,Zf3 (by simp)];exact qe.mono aL hn) (λi _=>by simp))
 refine⟨_,.pointer (some ⟨w.heap.size,0,none⟩),_,ρ',?_,Yields.value _,aL,dG,?_,hE⟩
 .simp[execOp,ho,Instr.alloc,wR,newVar,newRow]
 .have:=aj.ptr (ρ:=ρ') (n:=(st.aC none none (some (.cells z 0))).next.toNat) (C:=C) st.next 0 (by simp[St.aC,Pos.ay]);rw[dx]at this;simpa using this
theorem aaq(t:TypeId)(x:Operand):cm P tt (.box t x):=by
 intro ρ C st w k xs cls fr a o vs res ho hc hW hF hx hr;simp only[eJ]at hc;split at hc<;>first|(cases hc;done)|skip
 rename_i b hb;cases hc;obtain⟨v,rfl,hv⟩:=dN hb hF hx;simp only[au.run,Lj,H0]at hr;subst hr;have qe:=hv.cells;have hl:v.cells.length=(a.eval x).cells.size:=by simpa using qe.1
 obtain⟨ρ',aL,dx,dG,hE⟩:=su (w':=w.alloc (.cells (a.eval x).cells t)) (o:= .cells (a.eval x).cells t) (x0:= .cells v.cells 0) (base:=0) (size:=(a.eval x).cells.size) hW none rfl rfl rfl rfl (λρ' n' aL hn=>
   ug (w':=w.alloc (.cells (a.eval x).cells t)) (e:=t) (fr:=(0,0)) (by show(w.heap.push _)[w.heap.size]? =_;simp) (by omega) (by rw[hl,Zf3 (by simp)];exact qe.mono aL hn) (λi _=>by simp))
 refine⟨_,.pointer (some ⟨w.heap.size,0,none⟩),_,ρ',?_,Yields.value _,aL,dG,?_,hE⟩
 .simp[execOp,ho,Instr.box,newVar,newRow]
 .have:=aj.ptr (ρ:=ρ') (n:=(st.aC none none (some (.cells v.cells 0))).next.toNat) (C:=C) st.next 0 (by simp[St.aC,Pos.ay]);rw[dx]at this;simpa using this
theorem Ct{n:Nat}{z:List AV}{zs:List Value}(h:ak ρ n C z zs):∀m,ak ρ n C (bD z m) (bD zs m)
 |0=>ak.nil
 |m+1=>h.append (Ct h m)
theorem gy{α:Type}(z:List α):∀m,(bD z m).length=m*z.length
 |0=>by simp[bD]
 |m+1=>by simp[bD,gy z m,Zh7,Nat.add_comm]
theorem JG{α:Type}(z:List α):∀(m i:Nat),i<m*z.length->(bD z m)[i]? =z[i % z.length]?
 |0,i,h=>by simp at h
 |m +1,i,h=>by
  simp only[bD];by_cases hi:i<z.length
  .rw[Zc3 hi,Zj2 hi]
  .have hi:z.length<=i:=(by omega);rw[Zc5 hi,JG z m _ (by rw[Zh7]at h;omega)];congr 1;rw[<-Zn0 hi]
theorem QC(z:Array Value)(m:Nat)(hz:0<z.size):((Array.range (m*z.size)).map (z[· % z.size]!)).toList=bD z.toList m:=by
 apply Zi5;intro i;by_cases hi:i<m*z.size
 .rw[JG _ _ _ (by simpa using hi)];have aW:i % z.size<z.size:=Nat.mod_lt _ hz;simp[hi,aW]
 .rw[Zb1 (by simp;omega),Zb1 (by rw[gy];simp;omega)]
theorem xP{ρ':Pos->Loc}{b:Pos}{n g len es aF size:Nat}{cap:Option Nat}(hb:b.toNat<n)(aL:ρ' b=⟨g,0,size⟩)(hl:len<=aF)(hc:∀c,cap=some c->c=aF)(hs:aF*es<=size):
  aj ρ' n C (.slice b 0 len cap es) (.slice (some ⟨g,0,none⟩) len aF):=
 .slice _ _ _ _ _ _ _ hl hc (λ_=>⟨hb,by rw[aL],by rw[aL];simpa using hs⟩) (λ_=>hb)
theorem Lz{z:List AV}{zv:Value}{n m size:Nat}(qe:ak ρ n C z zv.cells.toList)(hl:z.length=size):
   ak ρ n C (bD z m) ((Array.range (m*size)).map ((if m*size=0 then(#[]:Array Value)else zv.cells)[· % (if m*size=0 then(#[]:Array Value)else zv.cells).size]!)).toList/\
   ((Array.range (m*size)).map ((if m*size=0 then(#[]:Array Value)else zv.cells)[· % (if m*size=0 then(#[]:Array Value)else zv.cells).size]!)).size=m*size:=by
 refine⟨?_,by simp⟩;by_cases h0:m*size=0
 .have:bD z m=[]:=(by apply Za6;rw[gy,hl];exact h0);rw[this];have:(Array.range (m*size))= #[]:=(by rw[h0];rfl);rw[this];simpa using(ak.nil:ak ρ n C [] [])
 . rw[Za4 h0];have TG:zv.cells.size=size:=(by have:=qe.1;simp at this;omega);have UX:0<zv.cells.size:=by
    rw[TG];rcases Zn1 size with h|h
    .rw[h]at h0;simp at h0
    .exact h
   have:=QC zv.cells m UX;rw[TG]at this ⊢;rw[this];exact Ct qe m
theorem aar{k:IntKind}{i:Int}(h1:Qn k<=i)(h2:i<=Qo k):k.wrap i=i:=by
 rw[<-qc];unfold aB;split
 . split
   .rfl
   .exact absurd h2 (by assumption)
 .exact absurd h1 (by assumption)
theorem QD{j:Nat}(h:j<=9223372036854775807):IntKind.i64.wrap (j:Int)=(j:Int):=aar (by simp only[Qn];omega) (by simp only[Qo];omega)
theorem S7(hT:bE P tt)(t:TypeId)(l c:Operand):cm P tt (.makeSlice t l c):=by
 intro ρ C st w k xs cls fr a o vs res ho hc hW hF hx hr;simp only[eJ]at hc;split at hc<;>first|(cases hc;done)|skip
 rename_i ti l0 ct hl;split at hc<;>first|(cases hc;done)|skip
 rename_i e hk;split at hc<;>first|(cases hc;done)|skip
 rename_i te dY;split at hc<;>first|(cases hc;done)|skip
 rename_i z hz;cases hc;obtain⟨d,hd,bJ⟩:=(hT.at ct).und;rw[hk]at bJ;rw[jT bJ]at hd;obtain⟨i0,jJ,iV,ZV,wQ⟩:=(hT.at dY).info;obtain⟨u,v,rfl,h1,h2⟩:=MY hl hF hx;simp only[au.run,u0]at hr;split at hr<;>first|(cases hr;done)|skip
 rename_i jl jc hjl hjc;split at hr<;>first|(cases hr;done)|skip
 rename_i e1 e2 e3;have e1:=H4 e1;have e2:=H4 e2;have e3:=H4 e3;simp only[H0]at hr;subst hr;obtain⟨kl,iW⟩:=g7 h1 hjl;obtain⟨kc,Hp⟩:=g7 h2 hjc;obtain⟨zv0,hzv0,_,LA,_⟩:=wQ z hz;obtain⟨zv,wR,_,qe⟩:=qd hT dY hz (ρ:=ρ) (n:=st.next.toNat) (C:=C) w;obtain⟨Hq,M6⟩:=Lz (m:=jc) qe LA;generalize Cu:(Array.range (jc*te.size)).map ((if jc*te.size=0 then(#[]:Array Value)else zv.cells)[· % (if jc*te.size=0 then(#[]:Array Value)else zv.cells).size]!)=row at Hq M6;obtain⟨ρ',aL,dx,dG,hE⟩:=su (w':=w.alloc (.cells row e)) (o:= .cells row e) (x0:= .cells (bD z jc) 0) (base:=0) (size:=row.size) hW none rfl rfl rfl rfl (λρ' n' aL hn=>
   ug (w':=w.alloc (.cells row e)) (e:=e) (fr:=(0,0)) (by show(w.heap.push _)[w.heap.size]? =_;simp) (by rw[gy,M6,LA];exact H5 _)
    (by rw[gy,LA, <-M6, <-Ze4,Zk3];exact Hq.mono aL hn) (λi _=>by simp))
 refine⟨_,.slice (some ⟨w.heap.size,0,none⟩) jl jc,_,ρ',?_,Yields.value _,aL,dG,?_,hE⟩
 . have bM:=QD (Zc1 e1 e3);have eB:=QD e3;have hb:¬((te.bytes:Int)*(jc:Int)>2 ^ 48):=(by have h:=Int.ofNat_le.2 e2;rw[Int.natCast_mul]at h;exact Int.not_lt.2 h);have bL:(Instr.makeSlice t (.int kl jl) (.int kc jc)).run P w= .ok (.slice (some ⟨w.heap.size,0,none⟩) jl jc) (w.alloc (.cells row e)):=by
    unfold Instr.makeSlice;simp only[Sem.run_bind,aH hd,Result.andThen_ok,asInt,asIntOf,Sem.run_pure,Qu jJ,bM,eB,ZV];have UJ:¬((decide ((jc:Int)<0)||decide ((te.bytes:Int)*(jc:Int)>2 ^ 48)||decide ((jl:Int)<0)||decide ((jl:Int)>(jc:Int)))=true):=by
        simp only[Zg0,Zc2];rintro(((h|h)|h)|h)
        .omega
        .exact hb h
        .omega
        .omega
    rw[Za4 UJ];simp only[Sem.run_bind,run_askRoom,Result.andThen_ok,fN jJ,iV,Int.toNat_natCast];rw[<-Cu];by_cases h0:jc*te.size=0
    .   simp only[h0,Ze5,Sem.run_bind,Sem.run_pure,Result.andThen_ok,newRow,run_newObj,World.alloc_eq]
    .   simp only[h0,Zd5,Sem.run_bind,Sem.run_pure,Result.andThen_ok,wR,newRow,run_newObj,World.alloc_eq]
   simp[execOp,ho,iW,Hp,bL]
 .exact xP (by simp[St.aC,Pos.ay]) dx e1 (λc hc=>by cases hc;rfl) (by rw[M6];exact H5 _)
theorem M7(hT:bE P tt)(t:TypeId)(len:Nat)(ps:Array (Nat×Operand)):cm P tt (.buildSlice t len ps):=by
 intro ρ C st w k xs cls fr a o vs res ho hc hW hF hx hr;simp only[eJ]at hc;split at hc<;>first|(cases hc;done)|skip
 rename_i ti l0 ct hl;split at hc<;>first|(cases hc;done)|skip
 rename_i e hk;split at hc<;>first|(cases hc;done)|skip
 rename_i te dY;split at hc<;>first|(cases hc;done)|skip
 rename_i z hz hlim;have hlim:=H4 hlim;cases hc;obtain⟨d,hd,bJ⟩:=(hT.at ct).und;rw[hk]at bJ;rw[jT bJ]at hd;obtain⟨i0,jJ,iV,ZV,wQ⟩:=(hT.at dY).info;have hv:=cZ hl hF hx;simp only[au.run,ow]at hr;split at hr<;>first|(cases hr;done)|skip
 rename_i cs vh;simp only[H0]at hr;subst hr;obtain⟨zv0,hzv0,_,LA,_⟩:=wQ z hz;obtain⟨zv,wR,_,qe⟩:=qd hT dY hz (ρ:=ρ) (n:=st.next.toNat) (C:=C) w;obtain⟨Hq,M6⟩:=Lz (m:=len) qe LA;generalize Cu:(Array.range (len*te.size)).map ((if len*te.size=0 then(#[]:Array Value)else zv.cells)[· % (if len*te.size=0 then(#[]:Array Value)else zv.cells).size]!)=row at Hq M6;have TF:(ps.map λ(i,x)=>(i,a.eval x)).toList=ps.toList.map λx=>(x.1,a.eval x.2):=by simp
 obtain⟨jK,e1,e2⟩:=Ku (λi=>some (i*te.size,te.size)) vh Hq (ps:=ps.toList.map λx=>(x.1,a.eval x.2)) (by simpa [Zf5,Zi4]using hv) (by simp[Zf5,Zi4]);have hlen:cs.length=jK.size:=by simpa using e2.1
 have abZ:∀{pp:List (Nat×Nat)}{vs cells r:List AV},bP cells pp vs=some r->r.length=cells.length:=by
   intro pp;induction pp with
   |nil=>intro vs cells r h;unfold bP at h;split at h<;>first|(cases h;done)|(simp only[H0]at h;subst h;rfl)|(rename_i hh;cases hh)
   |cons p pp ih=>
    intro vs cells r h;unfold bP at h;(split at h<;>first|(cases h;done)|(rename_i hh;cases hh;done)|skip);rename_i hh;simp only[Zh2]at hh;obtain⟨rfl,rfl⟩:=hh;(split at h<;>first|(cases h;done)|skip);rename_i g1 g2;have g1:=H2 g1;have g2:=H4 g2;rw[ih h];simp[aI];omega
 have hcsl:=abZ vh;rw[gy,LA]at hcsl;obtain⟨ρ',aL,dx,dG,hE⟩:=su (w':=w.alloc (.cells jK e)) (o:= .cells jK e) (x0:= .cells cs 0) (base:=0) (size:=jK.size) hW none rfl rfl rfl rfl (λρ' n' aL hn=>
   ug (w':=w.alloc (.cells jK e)) (e:=e) (fr:=(0,0)) (by show(w.heap.push _)[w.heap.size]? =_;simp) (by omega)
    (by rw[hlen, <-Ze4,Zk3];exact e2.mono aL hn) (λi _=>by simp))
 refine⟨_,.slice (some ⟨w.heap.size,0,none⟩) len len,_,ρ',?_,Yields.value _,aL,dG,?_,hE⟩
 . have bL:(Instr.buildSlice t len (ps.map λ(i,x)=>(i,a.eval x))).run P w= .ok (.slice (some ⟨w.heap.size,0,none⟩) len len) (w.alloc (.cells jK e)):=by
    unfold Instr.buildSlice;simp only[Sem.run_bind,aH hd,Result.andThen_ok,fN jJ,iV];rw[Za4 (by omega)];by_cases h0:len*te.size=0
    .   simp only[h0,Ze5,Sem.run_bind,Sem.run_pure,Result.andThen_ok];simp only[h0,Ze5]at Cu;rw[Cu,TF,e1];simp only[newRow,Sem.run_bind,run_newObj,World.alloc_eq,Result.andThen_ok,Sem.run_pure]
    .   simp only[h0,Zd5,Sem.run_bind,Sem.run_pure,Result.andThen_ok,wR];simp only[h0,Zd5]at Cu;rw[Cu,TF,e1];simp only[newRow,Sem.run_bind,run_newObj,World.alloc_eq,Result.andThen_ok,Sem.run_pure]
   simp only[execOp,ho,Sem.run_bind];rw[bL];rfl
 .exact xP (by simp[St.aC,Pos.ay]) dx (H5 _) (λc hc=>by cases hc;rfl) (by omega)
theorem Wn(t:TypeId)(r:Option Operand)(hT:bE P tt):cm P tt (.makeMap t r):=by
 intro ρ C st w k xs cls fr a o vs res ho hc hW hF hx hr;have key:k= .mkMap/\(execOp a.eval o).run P w= .ok (.value (.map (some w.heap.size))) (w.alloc (.map #[] 0)):=by
  simp only[eJ]at hc;split at hc<;>first|(cases hc;done)|skip
  rename_i ti ct;obtain⟨d,hd,bJ⟩:=(hT.at ct).und;split at hc<;>first|(cases hc;done)|skip
  .cases hc;exact⟨rfl,by simp[execOp,ho,Instr.makeMap]⟩
  .rename_i hk;rw[hk]at bJ;rw[Hi bJ]at hd;cases hc;exact⟨rfl,by simp[execOp,ho,Instr.makeMap,aH hd,Act.eval,asInt,asIntOf]⟩
 obtain⟨rfl,bL⟩:=key;simp only[au.run,EC,H0]at hr;subst hr;obtain⟨ρ',aL,dx,dG,hE⟩:=su (w':=w.alloc (.map #[] 0)) (o:= .map #[] 0) (x0:= .map [] 0) (base:=0) (size:=0) hW none rfl rfl rfl rfl (λρ' n' aL hn=>
  ⟨#[],by show(w.heap.push _)[w.heap.size]? =_;simp,rfl,λi e e' h=>by simp at h⟩)
 refine⟨_,_,_,ρ',bL,Yields.value _,aL,dG,?_,hE⟩;have:=aj.map (ρ:=ρ') (n:=(st.aC none none (some (.map [] 0))).next.toNat) (C:=C) st.next (by simp[St.aC,Pos.ay]);rw[dx]at this;exact this
theorem UY(hT:bE P tt)(t:TypeId)(x:Operand):cm P tt (.range t x):=by
 intro ρ C st w k xs cls fr a o vs res ho hc hW hF hx hr;simp only[eJ]at hc;split at hc<;>first|(cases hc;done)|skip
 rename_i ti b ct hb;split at hc<;>first|(cases hc;done)|skip
 rename_i hk;cases hc;obtain⟨d,hd,bJ⟩:=(hT.at ct).und;rw[hk]at bJ;rw[jI bJ]at hd;obtain⟨v,rfl,hv⟩:=dN hb hF hx;simp only[au.run,BC]at hr;split at hr<;>first|(cases hr;done)|skip
 rename_i s;simp only[H0]at hr;subst hr;obtain⟨bs,he,hs⟩:=hv.dm;obtain⟨ρ',aL,dx,dG,hE⟩:=su (w':=w.alloc (.stringIter bs 0)) (o:= .stringIter bs 0) (x0:= .gW s 0) (base:=0) (size:=0) hW none rfl rfl rfl rfl (λρ' n' aL hn=>
   ⟨bs,by show(w.heap.push _)[w.heap.size]? =_;simp,hs,rfl⟩)
 refine⟨_,.pointer (some ⟨w.heap.size,0,none⟩),_,ρ',?_,Yields.value _,aL,dG,?_,hE⟩
 .simp[execOp,ho,he,Instr.range,aH hd]
 .have:=aj.ptr (ρ:=ρ') (n:=(st.aC none none (some (.gW s 0))).next.toNat) (C:=C) st.next 0 (by simp[St.aC,Pos.ay]);rw[dx]at this;simpa using this
theorem Pj(hT:bE P tt)(src dst:TypeId)(x:Operand)(hb:∃xs cls,eJ tt (.convert src dst x)=some (.conv .bytes,xs,cls)):cm P tt (.convert src dst x):=by
 intro ρ C st w k xs cls fr a o vs res ho hc hW hF hx hr;obtain⟨_,_,gZ⟩:=hb;rw[hc]at gZ;simp only[H0,Za8]at gZ;obtain⟨rfl,_⟩:=gZ;simp only[eJ]at hc;split at hc<;>first|(cases hc;done)|skip
 rename_i s d b hs hd hb;obtain⟨ds,rq,yV⟩:=(hT.at hs).und;obtain⟨dd,hdd,bJ⟩:=(hT.at hd).und;split at hc<;>first|(cases hc;done)|skip
 . rename_i e h1 h2;(split at hc<;>first|(cases hc;done)|skip);rename_i te dY;(split at hc<;>first|(cases hc;done)|skip);rename_i Wi;cases hc;rw[h1]at yV;rw[h2]at bJ;rw[jI yV]at rq;rw[jT bJ]at hdd;obtain⟨de,Wj,Wk⟩:=(hT.at dY).und;rw[Wi]at Wk;rw[Dk Wk]at Wj;obtain⟨v,rfl,hv⟩:=dN hb hF hx;simp only[au.run,wZ]at hr;split at hr<;>first|(cases hr;done)|(rename_i heq;cases heq;done)|(rename_i heq;cases heq)
   (rename_i u;simp only[H0]at hr;subst hr;obtain⟨bs,he,hs⟩:=hv.dm;have bL:=run_bytes_of_string (P:=P) w src dst e bs rq hdd Wj;have MZ:bs.size<=grownCap w bs.size 0 e:=(by unfold grownCap Question.cut;exact Zl7 _ _);generalize grownCap w bs.size 0 e=cap at bL MZ;have dV:(bytesRow bs cap).size=cap:=by have:bs.data.size=bs.size:=rfl;simp[bytesRow,this];omega);have hul:u.length=bs.size:=(tH hs).symm;have hrel:∀ρ' n',ak ρ' n' C (u.map λc=>AV.int .u8 (.ofNat c)) ((bytesRow bs cap).toList.take (u.map λc=>AV.int .u8 (.ofNat c)).length):=by
     (intro ρ' n';have h1:(bytesRow bs cap).toList.take (u.map λc=>AV.int .u8 (.ofNat c)).length=u.map λc=>Value.int .u8 (.ofNat c):=by have hdl:bs.data.toList.length=bs.size:=(by simp);rw[Zd1,hul];simp only[bytesRow,Array.toList_append,Zn4];rw[Zj4 (by simp), <-hs,Zf5];rfl);rw[h1];refine⟨by simp,λi v x hv hx=> ?_⟩;simp only[Zb7,Ze8]at hv hx;obtain⟨c,hc,rfl⟩:=hv;obtain⟨c',sv,rfl⟩:=hx;rw[hc]at sv;cases sv;exact .int _ _
   obtain⟨ρ',aL,dx,dG,hE⟩:=su (w':=w.drew.alloc (.cells (bytesRow bs cap) e ((bytesRow bs cap).size,(bytesRow bs cap).size+1))) (o:= .cells (bytesRow bs cap) e ((bytesRow bs cap).size,(bytesRow bs cap).size+1))
     (x0:= .cells (u.map λc=>AV.int .u8 (.ofNat c)) 0) (base:=0) (size:=(bytesRow bs cap).size) hW none rfl rfl rfl rfl (λρ' n' aL hn=>
     ug (e:=e) (fr:=((bytesRow bs cap).size,(bytesRow bs cap).size+1)) (by show(w.heap.push _)[w.heap.size]? =_;simp) (by rw[Zd1,hul,dV];exact MZ) (hrel _ _) (λi hi=>by simp;omega))
   refine⟨_,.slice (some ⟨w.heap.size,0,none⟩) u.length cap,_,ρ',?_,Yields.value _,aL,dG,?_,hE⟩
   .simp only[execOp,ho,he,Sem.run_bind];rw[bL,hul];rfl
   .exact xP (by simp[St.aC,Pos.ay]) dx (by omega) (λc hc=>by cases hc) (by omega)
 all_goals
   repeat' split at hc
   all_goals (cases hc;done)
end
section
variable{P:Program}{tt:TT}{ρ:Pos->Loc}{C:Cells}{st:St}{w w':World}
theorem vk{n:Nat}:∀{l:List AV}{ys:List Value},aQ l=true->ak ρ n C l ys->∀y∈ys,y.oneCell'=true
 |[],ys,_,h=>by have:=h.kK;subst this;simp
 |v::l,ys,h1,h=>by
  unfold aQ at h1;split at h1<;>first|(cases h1;done)|skip
  rename_i ho;obtain⟨y,ys',rfl,hv,hs⟩:=h.cons_inv;intro z hz;simp at hz;rcases hz with rfl|hz
  .cases hv<;>first|rfl|(simp[AV.one]at ho;done)
  .exact vk h1 hs z hz
theorem zn{α:Type}(l:List α){i:Nat}(vs:List α)(hi:i<=l.length)(k:Nat):(aI l i vs)[k]? =if k<i then l[k]? else if k<i+vs.length then vs[k - i]? else l[k]? :=by
 unfold aI;have hl:(l.take i).length=i:=by simp;omega
 split
 .rename_i h;rw[Zc3 (by omega),Zb0,Za7 h]
 . rename_i h;rw[Zc5 (by omega),hl];split
   .rename_i h';rw[Zc3 (by omega)]
   .rename_i h';rw[Zc5 (by omega),Zc6];congr 1;omega
theorem Cw{α:Type}(l:List α)(b off:Nat)(vs:List α)(h:b+off<=l.length):(aI l (b+off) vs).drop b=aI (l.drop b) off vs:=by
 apply Zi5;intro k;rw[Zc6,zn l vs h,zn (l.drop b) vs (by simp;omega),Zc6];by_cases h1:k<off
 .rw[Za7 (by omega),Za7 h1]
 . rw[Za4 (by omega),Za4 h1];by_cases h2:k<off+vs.length
   .rw[Za7 (by omega),Za7 h2];congr 1;omega
   .rw[Za4 (by omega),Za4 h2]
theorem JH{α:Type}(l:List α)(off m:Nat)(vs:List α)(h:off+vs.length<=m)(h':m<=l.length):(aI l off vs).take m=aI (l.take m) off vs:=by
 apply Zi5;intro k;rw[Zb0,zn l vs (by omega),zn (l.take m) vs (by simp;omega),Zb0];by_cases h1:k<off
 .rw[Za7 (by omega),Za7 h1,Za7 h1,Za7 (by omega)]
 . by_cases h2:k<off+vs.length
   .rw[Za7 (by omega),Za4 h1,Za7 h2,Za4 h1,Za7 h2]
   .rw[Za4 h1,Za4 h2,Za4 h1,Za4 h2]
theorem EO(hW:aM ρ C st w){b:Pos}{cs vs:List AV}{fz off:Nat}{ys:List Value}(hb:st.heap.get b=some (.cells cs fz))(hle:off+vs.length<=cs.length)(VQ:fz<=off)
   (h1:aQ vs=true) (hv:ak ρ st.next.toNat C vs ys):
   ∃w',(storeCells ⟨(ρ b).aq,(ρ b).base+off,none⟩ ys).run P w= .ok () w'/\aM ρ C (st.aC none (some (b,.cells (aI cs off vs) fz)) none) w'/\iy ρ st w ρ (st.aC none (some (b,.cells (aI cs off vs) fz)) none) w':=by
 obtain⟨_,_,c,e,fr,g1,g2,g3,g4,g5⟩:=hW.live b _ hb;have hl:vs.length=ys.length:=hv.1;obtain⟨w',e1,e2,e3,e4,e5,e6,e7⟩:=iI (P:=P) (ρ b).aq e fr ys 0 ((ρ b).base+off) c w g1 (by omega) (vk h1 hv) (λk hk je=>by
   have:=g5 (k - (ρ b).base) (by omega) (by omega)
   rwa [show(ρ b).base+(k - (ρ b).base)=k from by omega]at this)
 simp only[Zh6]at e1 e2;refine⟨w',e1,?_⟩;have hlen:(aI cs off vs).length=cs.length:=by simp[aI];omega
 refine Lx hW hb e5 e6 e7 e3 e4 ⟨_,e,fr,e2,?_,?_,?_,λi hi LB=>g5 i hi ?_⟩
 .simp[aI];omega
 .rw[hlen];simp[aI];omega
 .rw[hlen];rw[Cw _ _ _ _ (by simp;omega),JH _ _ _ _ (by omega) (by simp;omega)];exact g4.aI hv off
 .simp[aI]at LB;omega
theorem Wo(hW:aM ρ C st w){b:Pos}{cs vs:List AV}{t:TypeId}{off:Nat}{ys:List Value}(hb:st.heap.get b=some (.typed t cs))(hle:off+vs.length<=cs.length)
   (h1:aQ vs=true) (hv:ak ρ st.next.toNat C vs ys):
   ∃w',(storeCells ⟨(ρ b).aq,(ρ b).base+off,none⟩ ys).run P w= .ok () w'/\aM ρ C (st.aC none (some (b,.typed t (aI cs off vs))) none) w'/\iy ρ st w ρ (st.aC none (some (b,.typed t (aI cs off vs))) none) w':=by
 obtain⟨_,_,c,fr,g1,g2,g3,g4,g5,g6⟩:=hW.live b _ hb;have hl:vs.length=ys.length:=hv.1;obtain⟨w',e1,e2,e3,e4,e5,e6,e7⟩:=iI (P:=P) (ρ b).aq t fr ys 0 ((ρ b).base+off) c w g1 (by omega) (vk h1 hv) (λk hk je=>by
   have:=g5 (k - (ρ b).base) (by omega) (by omega)
   rwa [show(ρ b).base+(k - (ρ b).base)=k from by omega]at this)
 simp only[Zh6]at e1 e2;refine⟨w',e1,?_⟩;have hlen:(aI cs off vs).length=cs.length:=by simp[aI];omega
 refine Lx hW hb e5 e6 e7 e3 e4 ⟨_,fr,e2,?_,?_,?_,λi hi LB=>g5 i hi ?_,g6⟩
 .simp[aI];omega
 .rw[hlen];simp[aI];omega
 .rw[hlen];rw[Cw _ _ _ _ (by simp;omega),JH _ _ _ _ (by omega) (by simp;omega)];exact g4.aI hv off
 .simp[aI]at LB;omega
theorem aj.tJ{n:Nat}:aj ρ n C .undef undef:= .tuple [] #[] rfl (λ_ _ _ h=>by simp at h)
theorem Wp(hT:bE P tt)(t:TypeId)(x y:Operand):cm P tt (.store t x y):=by
 intro ρ C st w k xs cls fr a o vs res ho hc hW hF hx hr;simp only[eJ]at hc;split at hc<;>first|(cases hc;done)|skip
 rename_i ti l ct hl;cases hc;obtain⟨p,v,rfl,h1,h2⟩:=MY hl hF hx;obtain⟨i0,jJ,iV,_⟩:=(hT.at ct).info;simp only[au.run,zQ]at hr;split at hr<;>first|(cases hr;done)|skip
 rename_i b off;split at hr<;>first|(cases hr;done)|skip
 rotate_left
 .rename_i t0 cs hb;(split at hr<;>first|(cases hr;done)|skip);rename_i e1 e2 e4;have e1:=H2 e1;have e2:=H4 e2;simp only[H0]at hr;subst hr;obtain⟨_,he⟩:=h1.dU;have hc:=h2.cells;obtain⟨w',bL,dG,hE⟩:=Wo (P:=P) (vs:=v.cells) (off:=off) hW hb (by omega) e4 hc;refine⟨.skip,undef,w',ρ,?_,.inr ⟨rfl,rfl⟩,λ_ _=>rfl,dG,aj.tJ,hE⟩;have dV:(a.eval y).cells.size=ti.size:=(by have:=hc.1;simp at this;omega);simp[execOp,ho,he,Instr.storeAt,Instr.sureAddr,storeVar,fN jJ,iV,dV,bL]
 rename_i cs fz hb;split at hr<;>first|(cases hr;done)|skip
 rename_i e1 e2 e3 e4;have e1:=H2 e1;have e2:=H4 e2;have e3:=H4 e3;simp only[H0]at hr;subst hr;obtain⟨_,he⟩:=h1.dU;have hc:=h2.cells;obtain⟨w',bL,dG,hE⟩:=EO (P:=P) hW hb (by omega) e3 e4 hc;refine⟨.skip,undef,w',ρ,?_,.inr ⟨rfl,rfl⟩,λ_ _=>rfl,dG,aj.tJ,hE⟩;have dV:(a.eval y).cells.size=ti.size:=by have:=hc.1;simp at this;omega
 simp[execOp,ho,he,Instr.storeAt,Instr.sureAddr,storeVar,fN jJ,iV,dV,bL]
theorem run_setObj_map{r:Nat}{es:Array MapEntry}{c:Nat}{o:Obj}{w:World}(h:w.heap[r]? =some (.map es c)):(setObj r o).run P w= .ok () { w with heap:=w.heap.setIfInBounds r o }:=by
 simp[setObj,Sem.run,h]
theorem LC(hW:aM ρ C st w){b:Pos}{es:List (AV×AV×Nat)}{clock:Nat}(hb:st.heap.get b=some (.map es clock)){Gq:List (AV×AV×Nat)}{UZ:Array MapEntry}{Dt:Nat}
  (hE:BL ρ st.next.toNat C Gq UZ.toList):
  aM ρ C (st.aC none (some (b,.map Gq Dt)) none) { w with heap:=w.heap.setIfInBounds (ρ b).aq (.map UZ Dt) }/\iy ρ st w ρ (st.aC none (some (b,.map Gq Dt)) none) { w with heap:=w.heap.setIfInBounds (ρ b).aq (.map UZ Dt) }:=by
 have aW:=(hW.live b _ hb).2.1;refine Lx hW hb rfl rfl rfl (by simp) (λk hk=>by simp[Zd0 (Ne.symm hk)]) ⟨UZ,by simp[aW],by simpa using hE.1,λi e e' h1 h2=>hE.2 i e e' h1 (by simpa using h2)⟩
theorem Kv{n:Nat}{pk:PK}{u v:AV}{x y:Value}(h1:aj ρ n C u x)(h2:aj ρ n C v y)(h:tF pk u v=some true)(m:Nat):Instr.sameBits m y x=true:=by
 unfold tF at h;split at h<;>first|(cases h;done)|skip
 .simp only[H0]at h;rw[h1.fo,h2.fo];rename_i p q;have:p=q:=(by simpa using h);subst this;cases m<;>simp[Instr.sameBits]
 . (split at h<;>first|(cases h;done)|skip);rename_i yU;have:=ue yU;subst this;simp only[H0,jU]at h;rw[h1.fS,h2.fS];rename_i p q _;have:p=q:=(by simpa using h);subst this;cases m<;>simp[Instr.sameBits]
 .simp only[H0]at h;obtain⟨bx,rfl,e1⟩:=h1.dm;obtain⟨bz,rfl,e2⟩:=h2.dm;have:bz==bx:=(by rw[beq_toListBytes,Dn e2 e1,kS];exact(kS.1 h).symm);cases m<;>simpa [Instr.sameBits]using this
theorem Of{pk:PK}{u:AV}:∀{es:List (AV×AV×Nat)}{i j:Nat}{v:AV},gX pk u es i=some (some (j,v))->∃e,i<=j/\es[j - i]? =some e/\tF pk u e.1=some true
 |[],i,j,v,h=>by simp[gX]at h
 |(k',v',born)::es,i,j,v,h=>by
  unfold gX at h;split at h<;>first|(cases h;done)|skip
  .rename_i hq;simp only[H0,Za8]at h;obtain⟨rfl,_⟩:=h;exact⟨(k',v',born),H5 _,by simp,hq⟩
  .obtain⟨e,h1,h2,h3⟩:=Of h;refine⟨e,by omega,?_,h3⟩;rw[show j - i=(j - (i+1))+1 from by omega];simpa using h2
theorem Hr(k v:AV):∀(es:List (AV×AV×Nat))(i j:Nat),(kY k v es i)[j]? =if j=i then(es[i]?).map (λe=>(k,v,e.2.2))else es[j]?
 |[],i,j=>by cases i<;>cases j<;>simp[kY]
 |(a,b,born)::es,0,j=>by cases j<;>simp[kY]
 |e::es,i+1,j=>by
  cases j with
  |zero=>simp[kY]
  |succ j=>simp[kY,Hr k v es i j]
theorem LD (hT:bE P tt)(op:Op)(t:TypeId)(m k0 v0:Operand)(ZW:op= .mapUpdate t m k0 v0\/op= .insert t m k0 v0):cm P tt op:=by
 intro ρ C st w k xs cls fr a o vs res ho hc hW hF hx hr;have hc:eJ.UN tt t m k0 v0=some (k,xs,cls):=by rcases ZW with rfl|rfl<;>simpa only[eJ]using hc
 have hex:(execOp a.eval o).run P w=((Instr.mapUpdate t (a.eval m) (a.eval k0) (a.eval v0)).run P w).andThen λ_ w=>.ok .skip w:=by
   rcases ZW with rfl|rfl<;>simp[execOp,ho]
 unfold eJ.UN at hc;split at hc<;>first|(cases hc;done)|skip
 rename_i ti l ct hl;split at hc<;>first|(cases hc;done)|skip
 rename_i kt et hk;split at hc<;>first|(cases hc;done)|skip
 rename_i tk Dr;obtain⟨d,hd,bJ⟩:=(hT.at ct).und;rw[hk]at bJ;rw[Hi bJ]at hd;obtain⟨dk,Od,yU⟩:=(hT.at Dr).und;have key:∃pk,k= .mapSet pk/\xs=l/\pk.fits dk=true:=by
   split at hc<;>first|(cases hc;done)|skip
   all_goals
     rename_i h1;cases hc;refine⟨_,rfl,rfl,ZU tk.k yU ?_⟩
   .exact .inr (.inl ⟨⟨_,h1⟩,rfl⟩)
   .exact .inr (.inr ⟨h1,rfl⟩)
   .exact .inl ⟨h1,rfl⟩
 obtain⟨pk,rfl,rfl,Cr⟩:=key;obtain⟨mm,kk,vv,rfl,h1,h2,h3⟩:=evs3 hl hF hx;have Gm:∀e w,(Instr.checkKey e 10000 kt (a.eval k0)).run P w= .ok () w:=λe w=>Dq Od Cr e 9999 _ w
 simp only[au.run,tZ]at hr;split at hr<;>first|(cases hr;done)|skip
 rename_i b;split at hr<;>first|(cases hr;done)|skip
 rename_i es clock hb;obtain⟨_,he⟩:=h1.uf;obtain⟨_,_,es',cU,hlen,fq⟩:=hW.live _ _ hb;have hE:BL ρ st.next.toNat C es es'.toList:=⟨by simpa using hlen,λi e e' h1 h2=>fq i e e' h1 (by simpa using h2)⟩
 split at hr<;>first|(cases hr;done)|skip
 . rename_i i v hpk hf;simp only[H0]at hr;subst hr;obtain⟨r',hf',oC⟩:=xN Cr h2 hE hf;rcases oC with⟨e1,_⟩|⟨j',v',y,e1,e2,e3,_,e5⟩
   .cases e1
   . cases  e1;subst e2;obtain⟨e,_,ZX,hek⟩:=Of hf;rw[Zk9]at ZX;have hi:i<es'.size:=(by omega);have U0:es'[i]? =some es'[i]:=Ze0 hi;have hkey:=(fq i e es'[i] ZX U0).1;have hsb:=Kv h2 hkey hek 10000;have Wq  :BL ρ st.next.toNat C (kY kk vv es i) (es'.modify i λe=>{ e with key:=a.eval k0,val:=a.eval v0 }).toList:=by
        refine⟨?_,λj e e' g1 g2=> ?_⟩
        . have JI:∀(es:List (AV×AV×Nat))(i:Nat),(kY kk vv es i).length=es.length:=by
            intro es;induction es with
            |nil=>intro i;cases i<;>rfl
            | cons e es ih=>intro i;cases i with
              |zero=>obtain⟨a,b,c⟩:=e;rfl
              |succ i=>simp[kY,ih i]
          rw[JI];simpa using hlen
        . rw[Hr]at g1;simp only[Ze9,Zl5]at g2;by_cases hji:j=i
          .subst hji;rw[Za7 rfl,ZX]at g1;simp[U0]at g1 g2;subst g1;subst g2;exact⟨h2,h3,(fq j e es'[j] ZX U0).2.2⟩
          .rw[Za4 hji]at g1;rw[Za4 (λe=>hji e.symm)]at g2;exact fq j e e' g1 g2
     obtain⟨dG,Wr⟩:=LC hW hb (Dt:=clock) Wq;refine⟨.skip,undef,_,ρ,?_,.inr ⟨rfl,rfl⟩,λ_ _=>rfl,dG,aj.tJ,Wr⟩;rw[hex];simp only[Instr.mapUpdate,Sem.run_bind,aH hd,Result.andThen_ok,he,run_getObj_map cU,Gm,run_findKey Od hf',U0,Zd6,Zj0,Instr.keyThatStays,hsb,Ze5,Sem.run_pure,run_setObj_map cU]
 . rename_i hpk hf;simp only[H0]at hr;subst hr;obtain⟨r',hf',oC⟩:=xN Cr h2 hE hf;rcases oC with⟨_,e2⟩|⟨j',v',y,e1,_⟩
   . subst  e2;have Wq:BL ρ st.next.toNat C (es++[(kk,vv,clock)]) (es'.push { key:=a.eval k0,val:=a.eval v0,born:=clock }).toList:=by
        refine⟨by simp[hlen],λj e e' g1 g2=> ?_⟩;simp only[Array.toList_push]at g2;rcases Zh5 j es.length with hj|hj
        .rw[Zc3 hj]at g1;rw[Zc3 (by simp;omega)]at g2;exact fq j e e' g1 (by simpa using g2)
        .rw[Zc5 hj]at g1;rw[Zc5 (by simp;omega)]at g2;have:j - es.length=0:=(by have:=(H3.1 g1).1;simp at this;omega);rw[this]at g1;have:j - es'.toList.length=0:=(by simp;omega);rw[this]at g2;simp at g1 g2;subst g1;subst g2;exact⟨h2,h3,rfl⟩
     obtain⟨dG,Wr⟩:=LC hW hb (Dt:=clock+1) Wq;refine⟨.skip,undef,_,ρ,?_,.inr ⟨rfl,rfl⟩,λ_ _=>rfl,dG,aj.tJ,Wr⟩;rw[hex];simp only[Instr.mapUpdate,Sem.run_bind,aH hd,Result.andThen_ok,he,run_getObj_map cU,Gm,run_findKey Od hf',run_setObj_map cU]
   .cases e1
theorem Ws(it:Operand)(isS:Bool):cm P tt (.next it isS):=by
 intro ρ C st w k xs cls fr a o vs res ho hc hW hF hx hr;simp only[eJ]at hc;split at hc<;>first|(cases hc;done)|skip
 rename_i b hb;cases hc;obtain⟨v,rfl,hv⟩:=dN hb hF hx;simp only[au.run,ED]at hr;split at hr<;>first|(cases hr;done)|skip
 rename_i bb;split at hr<;>first|(cases hr;done)|skip
 rename_i s pos iJ;obtain⟨_,he⟩:=hv.dU;obtain⟨_,_,bs,Gl,hs,P3⟩:=hW.live _ _ iJ;have dV:=tH hs;have oU:(getObj (ρ bb).aq).run P w= .ok (.stringIter bs pos) w:=by simp[getObj,Sem.run,Gl]
 rw[P3]at he;split at hr
 . (rename_i aW;have aW:pos<s.length:=(by simpa using aW);(split at hr<;>first|(cases hr;done)|skip);rename_i c wd Kw;simp only[H0]at hr;subst hr;have EM:pos<bs.size:=(by omega);unfold Tz at Kw;(split at Kw<;>first|(cases Kw;done)|skip);rename_i c' sv;(split at Kw<;>first|(cases Kw;done)|skip);rename_i Yi;simp only[H0,Za8]at Kw;obtain⟨rfl,rfl⟩:=Kw;have Yi:c'<128:=(by simpa using Yi);have hcb:(bs[pos]'EM).toNat=c':=by rw[jx, <-hs,Zb7]at sv;obtain⟨b',tX,Du⟩:=Ze8.1 sv;obtain⟨hl,hbb'⟩:=H3.1 tX;rw[<-Du, <-hbb'];rfl);have TH:=decode_ascii bs pos EM (by rw[hcb];exact Yi);rw[hcb]at TH;have EP:(setObj (ρ bb).aq (.stringIter bs (pos+1))).run P w= .ok () { w with heap:=w.heap.setIfInBounds (ρ bb).aq (.stringIter bs (pos+1)) }:=(by simp[setObj,Sem.run,Gl]);have hltb:=(hW.live _ _ iJ).2.1
   obtain⟨dG,Wr⟩:=Lx (w':={ w with heap:=w.heap.setIfInBounds (ρ bb).aq (.stringIter bs (pos+1)) }) (x0:= .gW s (pos+1)) hW iJ rfl rfl rfl (by simp)
     (λk hk=>by simp[Zd0 (Ne.symm hk)]) ⟨bs,by simp[hltb],hs,P3⟩
   refine⟨.value (.tuple #[.bool true,goInt pos,.int .i32 (c':Int)]),_,_,ρ,?_,Yields.value _,λ_ _=>rfl,dG,?_,Wr⟩
   .simp only[execOp,ho,he,Instr.next,Sem.run_bind,oU,Result.andThen_ok,EM,Ze5,TH,EP,Sem.run_pure]
   .exact .qa (ak.cons (.bool true) (ak.cons (.int _ _) (ak.cons (.int _ _) ak.nil)))
 . (rename_i aW;have aW:¬pos<s.length:=λh=>by have:Nat.blt pos s.length=true:=(by simpa using h);rw[this]at aW;cases aW);simp only[H0]at hr;subst hr;have EM:¬pos<bs.size:=(by omega);refine .pure (x:= .tuple #[.bool false]) ?_ (.qa (ak.cons (.bool false) ak.nil));simp only[execOp,ho,he,Instr.next,Sem.run_bind,oU,Result.andThen_ok,EM,Zd5,Sem.run_pure]
end
section
variable{P:Program}{tt:TT}{ρ:Pos->Loc}{C:Cells}{st:St}{w w':World}
theorem aM.of_heap(hW:aM ρ C st w)(h:w'.heap=w.heap):aM ρ C st w' where
 live b x hb:=let⟨h1,h2,h3⟩:=hW.live b x hb;⟨h1,by rw[h];exact h2,h3.of_heap (by rw[h])⟩
 inj:=hW.inj
 cL a v ha:=let⟨h1,h2⟩:=hW.cL a v ha;⟨by unfold World.cell? at h1 ⊢; rw[h];exact h1,h2⟩
 whole a v ha o ho:=by have:=hW.whole a v ha o ho;unfold World.cell? at this ⊢; rw[h];exact this
theorem JJ{es:Nat}:∀{xs:List (List AV)}(_h:∀(i:Nat)(cs:List AV),xs[i]? =some cs->cs.length=es)(q:Nat)(v:AV),
  xs.flatten[q]? =some v->∃cs,xs[q / es]? =some cs/\cs[q % es]? =some v
 |[],_,q,v,hv=>by simp at hv
 |c ::xs,h,q,v,hv=>by
  have hc:c.length=es:=h 0 c rfl;have fE:∀(i:Nat)(cs:List AV),xs[i]? =some cs->cs.length=es:=λi cs hi=>h (i+1) cs (by simpa using hi)
  rw[Zf6]at hv;rcases Zh5 q c.length with hq|hq
  . rw[Zc3 hq]at hv;refine⟨c,?_,?_⟩
    .   rw[Nat.div_eq_of_lt (by omega)];rfl
    .   rw[Zj2 (by omega)];exact hv
  . rw[   Zc5 hq]at hv;obtain⟨cs,h1,h2⟩:=JJ fE (q - c.length) v hv;rw[hc]at hq h1 h2;have UX:0<es:=by
        rcases Zn1 es with h0|h0
        .subst h0;have hl:=fE _ _ h1;have:=(H3.1 h2).1;omega
        .exact h0
    refine⟨cs,?_,?_⟩
    .   rw[Nat.div_eq_sub_div UX hq];simpa using h1
    .   rw[Zn0 hq];exact h2
theorem JK{es:Nat}:∀{xs:List (List AV)}(_h:∀(i:Nat)(cs:List AV),xs[i]? =some cs->cs.length=es),xs.flatten.length=xs.length*es
 |[],_=>by simp
 |c::xs,h=>by have hc:c.length=es:=h 0 c rfl;rw[Zf6,Ze2,JK (λi cs hi=>h (i+1) cs (by simpa using hi)),hc,Ze6,Zh7];omega
theorem iY(hW:aM ρ C st w){es m:Nat}{u:AV}{x:Value}{new:List AV}{k:Nat}(hu:aj ρ st.next.toNat C u x)(hk:cI u=some k)(hmk:m<=k)(h:bS es m (λb=>st.heap.get b) u=some new)(w2:World)(eB:w2.heap=w.heap):
   ∃ys:List Value,(Builtin.firstCells es m x).run P w2= .ok ys.toArray w2/\ak ρ st.next.toNat C new ys/\(u= .ax\/new.length=m*es):=by
 have Dv:=hW.of_heap (w':=w2) eB;unfold bS at h;split at h
 .simp only[H0]at h;subst h;rw[hu.eu];exact⟨[],by simp[Builtin.firstCells],ak.nil,.inl rfl⟩
 . rename_i b off len cap es';simp only[cI,H0]at hk;subst hk;obtain⟨aa,aF,he,hle,_,ha⟩:=hu.cG;rw[he];split at h
   .rename_i h0;have h0:=H2 h0;simp only[H0]at h;subst h;exact⟨[],by simp[Builtin.firstCells,h0,loadCells,loadCellsFrom],ak.nil,.inr (by simp[h0])⟩
   .rename_i h0;have h0:=Za9 h0;(split at h<;>first|(cases h;done)|skip);rename_i cs fz hb;have hm:m≠0:=(by intro e;subst e;simp at h0);obtain⟨_,rfl,_⟩:=ha (by omega);obtain⟨ys,h1,h2⟩:=Dv.loadCells (P:=P) hb h;exact⟨ys,by simp only[Builtin.firstCells];exact h1,h2,.inr (qX h)⟩
 . rename_i xs es';simp only[cI,H0]at hk;subst hk;(split at h<;>first|(cases h;done)|skip);rename_i QE TJ;have QE:=H2 QE;have TJ:=H4 TJ;subst QE;simp only[H0]at h;subst h;obtain⟨aa,aF,cell,he,hle,vg,g1,g2,g3⟩:=hu.qb;rw[he];have cU:∀(i:Nat)(cs:List AV),(xs.take m)[i]? =some cs->cs.length=es:=λi cs hi=>by
     rw[Zb0]at hi;split at hi
     .exact g1 i cs hi
     .cases hi
   have QF:=JK cU;rw[Zj1,Zj3 TJ]at QF;have ZY:∀q v,(xs.take m).flatten[q]? =some v->∃cs,xs[q / es]? =some cs/\cs[q % es]? =some v:=λq v hv=>by
     obtain⟨cs,h1,h2⟩:=JJ cU q v hv;rw[Zb0]at h1;split at h1
     .exact⟨cs,h1,h2⟩
     .cases h1
   refine⟨(List.range (m*es)).map λq=>cell (q / es) (q % es),?_,⟨by simp[QF],λq v y hv hy=> ?_⟩,.inr QF⟩
   .simp only[Builtin.firstCells];(refine run_loadCells w2 _ _ _ λq hq=> ?_);have aW:q<(xs.take m).flatten.length:=(by rw[QF];exact hq);obtain⟨cs,h1,h2⟩:=ZY q _ (H1 aW);have vg:=vg (by intro e;rw[e]at h1;simp at h1);obtain⟨ab,ao,asp⟩:=aa;simp only at vg;subst vg;have:=(Dv.cL _ _ (g2 _ _ _ _ h1 h2)).1;rw[jy];simp only at this;rw[show ao+q=ao+q / es*es+q % es from by rw[Zh0,Nat.mul_comm,Nat.div_add_mod]];exact this
   .obtain⟨cs,h1,h2⟩:=ZY q v hv;have hq:q<m*es:=(by rw[<-QF];exact(H3.1 hv).1);simp[hq]at hy;subst hy;exact g3 _ _ _ _ h1 h2
 . rename_i s;simp only[cI,H0]at hk;subst hk;(split at h<;>first|(cases h;done)|skip);rename_i QE TJ;have QE:=H2 QE;have TJ:=H4 TJ;subst QE;simp only[H0]at h;subst h;obtain⟨bs,rfl,hs⟩:=hu.dm;refine⟨(s.take m).map λ(c:Nat)=>Value.int .u8 (.ofNat c),?_,⟨by simp,λq v y hv hy=> ?_⟩,.inr (by simp;omega)⟩
   .simp only[Builtin.firstCells,Sem.run_pure];congr 1;apply Zk5;simp only[Zn4,ByteArray.data_extract,Zm4,List.extract,Zc9,Zk9];rw[<-hs, <-List.map_take,Zf5];rfl
   .simp only[Zb7,Ze8]at hv hy;obtain⟨c,hc,rfl⟩:=hv;obtain⟨c',sv,rfl⟩:=hy;rw[hc]at sv;cases sv;exact .int _ _
 .cases h
theorem Ky{n:Nat}{u:AV}{x:Value}{k:Nat}(hu:aj ρ n C u x)(hk:cI u=some k):(Builtin.lenOf x).run P w= .ok k w:=by
 unfold cI at hk;split at hk<;>first|(cases hk;done)|skip
 all_goals simp only[H0]at hk;subst hk
 .rw[hu.eu];rfl
 .obtain⟨_,_,he,_⟩:=hu.cG;rw[he];rfl
 .obtain⟨_,_,_,he,_⟩:=hu.qb;rw[he];rfl
 .obtain⟨bs,rfl,hs⟩:=hu.dm;rw[<-tH hs];rfl
theorem Og(nl:Nat):∀(r c:Nat),c<=nl+(nl+768) / 4->Builtin.growBy nl r c<=nl+(nl+768) / 4
 |0,c,h=>h
 |r+1,c,h=>by
  unfold Builtin.growBy;split
  .exact h
  .exact Og nl r _ (by omega)
theorem nextslicecap_le{U1 cT:Nat}(h:cT<U1):Builtin.nextslicecap U1 cT<=2*U1+768:=by
 unfold Builtin.nextslicecap;split
 .omega
 . split
   .omega
   .have:=Og U1 4 cT (by omega);omega
theorem ER(hT:bE P tt){t t2 e:Nat}{ts:Array TypeId}{ti Gk te:TI}(ct:tt.get (key t)=some ti)(Hs:tt.get (key t2)=some Gk)(hk:ti.k= .slice e)(mq:∀k,Gk.k≠ .int k)
  (dY:tt.get (key e)=some te) (h0:ts[0]? =some t) (h1:ts[1]? =some t2) (ty:TypeId) (base:Option Addr) (n cap m:Nat) (x:Value) (w:World)
  (hx:(Builtin.lenOf x).run P w= .ok m w) (hb:(2*(n+m)+768)*te.bytes<=281474976710656) (hi:n+m<=9223372036854775807):
  (Builtin.append_ ts ty #[.slice base n cap,x]).run P w=
    if n+m<=cap then((Builtin.firstCells te.size m x).run P w).andThen λnew w=>((match base with|some a=>storeCells (a.add (n*te.size)) new.toList|none=>pure ()).run P w).andThen λ_ w=>.ok (.slice base (n+m) cap) w
    else((Builtin.firstCells te.size n (.slice base n cap)).run P w.drew).andThen λcT w1=>((Builtin.firstCells te.size m x).run P w1).andThen λnew w2=>((zeroValue e).run P w2).andThen λz w3=>
        .ok (.slice (some ⟨w3.heap.size,0,none⟩) (n+m) (grownCap w (n+m) cap e)) (w3.alloc (.cells (cT++new++Builtin.zeroCells z.cells (grownCap w (n+m) cap e - (n+m))) e)):=by
 obtain⟨d,hd,bJ⟩:=(hT.at ct).und;rw[hk]at bJ;rw[jT bJ]at hd;obtain⟨d2,ZZ,Yj⟩:=(hT.at Hs).und;obtain⟨i0,jJ,iV,ZV,_⟩:=(hT.at dY).info;have ab0:∀k,d2≠ .int k:=by
  rintro k rfl;cases yU:Gk.k<;>rw[yU]at Yj<;>first|(simp[bn]at Yj;done)|exact absurd yU (mq _)
 have U2:¬(((n+m:Nat):Int)>IntKind.i64.max):=by
  have:IntKind.i64.max=9223372036854775807:=by decide
  rw[this];omega
 have ab1:¬(n+m<=cap)->¬(Builtin.nextslicecap (n+m) cap*te.bytes>2 ^ 48):=λhc=>by
  have h1:=nextslicecap_le (Nat.lt_of_not_le hc);have h2:=Zg7 te.bytes h1;have:(2:Nat) ^ 48=281474976710656:=by decide
  omega
 have MZ:∀q,(Question.appendCap (n+m) cap e).forced=q->q=false:=by rintro q rfl;rfl
 clear Yj;cases d2<;>first|(exact absurd rfl (ab0 _))|skip
 all_goals
  unfold Builtin.append_;simp only[h0,h1,List.getElem?_toArray,Ze3,Zf7,Sem.run_bind,aH hd,Result.andThen_ok,fN jJ,iV,aH ZZ,Sem.run_pure,hx,Zd3,Zd5,Zl0,Ze5,Sem.run_ite];by_cases hc:n+m<=cap
  .rw[Za7 hc,Za7 hc];cases base<;>simp only[Sem.run_bind,Sem.run_pure,Result.andThen_ok]
  .rw[Za4 hc,Za4 hc];simp only[Sem.run_bind,Qu jJ,ZV,Result.andThen_ok,U2,false_and,Zd5,ab1 hc,run_choose,Question.forced,Zd3,World.drew_eq,run_askRoom,Sem.run_pure,newRow,run_newObj,World.alloc_eq];rfl
end
section
variable{P:Program}{tt:TT}{ρ:Pos->Loc}{C:Cells}{st:St}{w w':World}
theorem Yk{L:Loc}{cs:List AV}{n:Nat}(fz:Nat)(h:jQ ρ n C L w' (.cells cs 0)):jQ ρ n C L w' (.cells cs fz):=
 let⟨c,e,fr,h1,h2,h3,h4,h5⟩:=h
 ⟨c,e,fr,h1,h2,h3,h4,λi _ hi=>h5 i (Zk7 _) hi⟩
theorem U3(hW:aM ρ C st w)(del:Option Pos)(fz:Nat){cT new rest:List Value}{ol nl:List AV}{e:TypeId}{n m es aF:Nat}(h1:ak ρ st.next.toNat C ol cT)(h2:ak ρ st.next.toNat C nl new)
  (sw:ol.length=n*es) (Gr:nl.length=m*es) (hr:rest.length=(aF - (n+m))*es) (hc:n+m<=aF) {w2:World} (eB:w2=w.drew.alloc (.cells (cT++new++rest).toArray e)):
  ∃ρ':Pos->Loc,(∀b:Pos,b.toNat<st.next.toNat->ρ' b=ρ b)/\aM ρ' C (st.aC del none (some (.cells (ol++nl) fz))) w2/\iy ρ st w ρ' (st.aC del none (some (.cells (ol++nl) fz))) w2/\
   aj ρ' (st.aC del none (some (.cells (ol++nl) fz))).next.toNat C (.slice st.next 0 (n+m) none es) (.slice (some ⟨w.heap.size,0,none⟩) (n+m) aF):=by
 subst eB;have sx:cT.length=n*es:=by rw[<-h1.1,sw]
 have jr:new.length=m*es:=by rw[<-h2.1,Gr]
 have dV:(cT++new++rest).length=aF*es:=by simp only[Ze2,sx,jr,hr];rw[<-Zh7, <-Zh7];congr 1;omega
 obtain ⟨ρ',aL,dx,dG,hE⟩:=su (w':=w.drew.alloc (.cells (cT++new++rest).toArray e)) (o:= .cells (cT++new++rest).toArray e) (x0:= .cells (ol++nl) fz) (base:=0) (size:=(cT++new++rest).toArray.size) hW del rfl rfl rfl rfl (λρ' n' aL hn=>
  Yk fz  <| ug (e:=e) (fr:=(0,0)) (by show(w.heap.push _)[w.heap.size]? =_;simp) (by simp[sw,Gr,sx,jr])
   (by
        have:(cT++new++rest).toArray.toList.take (ol++nl).length=cT++new:=by
         rw[Zj4 (by simp[sw,Gr,sx,jr])]
        rw[this];exact(h1.append h2).mono aL hn) (λi _=>by simp))
 refine⟨ρ',aL,dG,hE,xP (by simp[St.aC,Pos.ay]) dx hc (λc hc=>by cases hc) (by simp only[Zl1,dV];exact H5 _)⟩
theorem yx(z:Array Value)(m:Nat):(Builtin.zeroCells z m).toList.length=m*z.size:=by simp[Builtin.zeroCells]
theorem Yl{m:Nat}(h:Nat.beq m 0=false):m≠0:=Za9 h
theorem ES (hT:bE P tt){t t2 e:Nat}{ts:Array TypeId}{ti Gk te:TI}{z:List AV}(ct:tt.get (key t)=some ti)(Hs:tt.get (key t2)=some Gk)(hk:ti.k= .slice e)(mq:∀k,Gk.k≠ .int k)
   (dY:tt.get (key e)=some te) (hz:te.zero=some z) (h0:ts[0]? =some t) (h1:ts[1]? =some t2) (ty:TypeId) {s u:AV} {xs xu:Value} {res:bW} (hW:aM ρ C st w)
   (hs:aj ρ st.next.toNat C s xs) (hu:aj ρ st.next.toNat C u xu) (hr:eI (λb=>st.heap.get b) st.next te.size te.bytes [s,u]=some res):
   qW P ρ C st w (((Builtin.append_ ts ty #[xs,xu]).run P w).andThen λv w=>.ok (.value v) w) res:=by
 simp only[eI]at hr;split at hr<;>first|(cases hr;done)|skip
 rename_i n m hn hm;split at hr<;>first|(cases hr;done)|skip
 rename_i b1 b2;have b1:=H4 b1;have b2:=H4 b2;have hlen:=Ky (P:=P) (w:=w) hu hm;obtain⟨i0,jJ,iV,_,wQ⟩:=(hT.at dY).info;obtain⟨zv0,hzv0,_,LA,_⟩:=wQ z hz;have Lv:=λw=>qd hT dY hz (ρ:=ρ) (n:=st.next.toNat) (C:=C) w
 have JI:∃base aF,xs= .slice base n aF/\n<=aF:=by
   unfold cI at hn;split at hn<;>first|(cases hn;done)|skip
   .cases hn;exact⟨none,0,hs.eu,H5 _⟩
   .cases hn;obtain⟨a,c,he,hle,_⟩:=hs.cG;exact⟨_,c,he,hle⟩
   .cases hn;obtain⟨a,c,_,he,hle,_⟩:=hs.qb;exact⟨_,c,he,hle⟩
   .rename_i s';exfalso;cases Z0:Nat.beq m 0<;>simp[Z0]at hr
 obtain⟨base,aF,fE,hle⟩:=JI;have bL:=ER hT ct Hs hk mq dY h0 h1 ty base n aF m xu w hlen b1 b2;rw[fE,bL];have hg:∀c,n+m<=grownCap w (n+m) c e:=λc=>by unfold grownCap Question.cut;exact Zl7 _ _
 have QG:∀(del:Option Pos)(fz:Nat)(ol nl:List AV),¬(n+m<=aF)->bS te.size n (λb=>st.heap.get b) s=some ol->bS te.size m (λb=>st.heap.get b) u=some nl->ol.length=n*te.size->nl.length=m*te.size->
     qW P ρ C st w ((if n+m<=aF then((Builtin.firstCells te.size m xu).run P w).andThen λnew w=>((match base with|some a=>storeCells (a.add (n*te.size)) new.toList|none=>pure ()).run P w).andThen λ_ w=>.ok (.slice base (n+m) aF) w
     else((Builtin.firstCells te.size n (.slice base n aF)).run P w.drew).andThen λcT w1=>((Builtin.firstCells te.size m xu).run P w1).andThen λnew w2=>((zeroValue e).run P w2).andThen λz w3=>
        .ok (.slice (some ⟨w3.heap.size,0,none⟩) (n+m) (grownCap w (n+m) aF e)) (w3.alloc (.cells (cT++new++Builtin.zeroCells z.cells (grownCap w (n+m) aF e - (n+m))) e))).andThen λv w=>.ok (.value v) w)
        (.aC (.slice st.next 0 (n+m) none te.size) del none (some (.cells (ol++nl) fz))):=by
   intro del fz ol nl hc ho qf sw Gr;obtain⟨cT,e1,e2,_⟩:=iY (P:=P) hW hs hn (H5 _) ho w.drew rfl;obtain⟨new,e3,e4,_⟩:=iY (P:=P) hW hu hm (H5 _) qf w.drew rfl;obtain⟨zv,wR,_,qe⟩:=Lv w.drew;rw[fE]at e1;have BI:(Builtin.zeroCells zv.cells (grownCap w (n+m) aF e - (n+m))).toList.length=(grownCap w (n+m) aF e - (n+m))*te.size:=(by rw[yx];congr 1;have:=qe.1;simp at this;omega);obtain⟨ρ',aL,dG,hE,hv⟩:=U3 hW del fz e2 e4 sw Gr BI (hg aF) (e:=e) rfl;refine⟨_,_,_,ρ',?_,Yields.value _,aL,dG,hv,hE⟩;rw[Za4 hc];simp only[e1,e3,wR,Result.andThen_ok,World.size_drew];congr 2;simp
 have Wt:∀nl,bS te.size m (λb=>st.heap.get b) u=some nl->m≠0->nl.length=m*te.size:=by
   intro nl qf hm0;obtain⟨_,_,_,h⟩:=iY (P:=P) hW hu hm (H5 _) qf w rfl;rcases h with rfl|h
   .simp[cI]at hm;omega
   .exact h
 have hls:∀ol,bS te.size n (λb=>st.heap.get b) s=some ol->ol.length=n*te.size:=by
   intro ol sy;obtain⟨ys,_,zS,h⟩:=iY (P:=P) hW hs hn (H5 _) sy w rfl;rcases h with rfl|h
   .simp[cI]at hn;subst hn;simp[bS]at sy;subst sy;simp
   .exact h
 have hzero:m=0->aj ρ st.next.toNat C s xs->qW P ρ C st w ((if n+m<=aF then((Builtin.firstCells te.size m xu).run P w).andThen λnew w=>((match base with|some a=>storeCells (a.add (n*te.size)) new.toList|none=>pure ()).run P w).andThen λ_ w=>.ok (.slice base (n+m) aF) w
     else((Builtin.firstCells te.size n (.slice base n aF)).run P w.drew).andThen λcT w1=>((Builtin.firstCells te.size m xu).run P w1).andThen λnew w2=>((zeroValue e).run P w2).andThen λz w3=>
        .ok (.slice (some ⟨w3.heap.size,0,none⟩) (n+m) (grownCap w (n+m) aF e)) (w3.alloc (.cells (cT++new++Builtin.zeroCells z.cells (grownCap w (n+m) aF e - (n+m))) e))).andThen λv w=>.ok (.value v) w) (.val s):=by
   rintro rfl hsx;have hf:(Builtin.firstCells te.size 0 xu).run P w= .ok #[] w:=by
     unfold cI at hm;split at hm<;>first|(cases hm;done)|skip
     .  rw[hu.eu];simp[Builtin.firstCells]
     .  obtain⟨_,_,he,_⟩:=hu.cG;rw[he];simp[Builtin.firstCells,loadCells,loadCellsFrom]
     .  obtain⟨_,_,_,he,_⟩:=hu.qb;rw[he];simp[Builtin.firstCells,loadCells,loadCellsFrom]
     .  obtain⟨bs,rfl,_⟩:=hu.dm;simp only[Builtin.firstCells,Sem.run_pure];congr 1;apply Zk5;simp
   rw[fE]at hsx;refine .pure (x:= .slice base n aF) ?_ hsx;rw[Za7 (by omega),hf];cases base<;>simp[storeCells]
 split at hr<;>first|(cases hr;done)|skip
 .rename_i vn;simp only[H0]at hr;subst hr;exact hzero (H2 vn) hs
 .rename_i vn;simp only[H0]at hr;subst hr;exact hzero (H2 vn) hs
 .rename_i vn;simp only[H0]at hr;subst hr;exact hzero (H2 vn) hs
 ·
   rename_i vn;have vn:=Yl vn;(split at hr<;>first|(cases hr;done)|skip);rename_i new qf;simp only[H0]at hr;subst hr;have he:=hs.eu;rw[he]at fE;simp only[Value.slice.injEq]at fE;obtain⟨rfl,rfl,rfl⟩:=fE;have:=QG none 0 [] new (by omega) rfl qf (by simp) (Wt new qf vn);simpa using this
 ·
   rename_i b off n' c es' vn;have vn:=Yl vn;simp only[cI,H0]at hn;subst hn;obtain⟨aa,cc,he,hlec,Wu,ha⟩:=hs.cG;rw[he]at fE;simp only[Value.slice.injEq]at fE;obtain⟨rfl,_,rfl⟩:=fE;have:=Wu c rfl;subst this;split at hr
   . rename_i pL;have pL:=H4 pL;(split at hr<;>first|(cases hr;done)|skip);rename_i cs fz new hb qf;(split at hr<;>first|(cases hr;done)|skip);rename_i c1 c2 c3;have c1:=H4 c1;simp only[Za2]at c2;have c2a:=H4 c2.1;have c2b:=H2 c2.2;subst c2b;simp only[H0]at hr;subst hr;obtain⟨aW,rfl,hbound⟩:=ha (by omega);obtain⟨ys,e1,e2,_⟩:=iY (P:=P) hW hu hm (H5 _) qf w rfl;have ET:=Wt new qf vn;obtain⟨w2,e3,dG,hE⟩:=EO (P:=P) hW hb (by rw[ET];rw[Zh7]at c1;omega) c2a c3 e2;refine⟨_,.slice (some ⟨(ρ b).aq,(ρ b).base+off,none⟩) (n'+m) c,w2,ρ,?_,Yields.value _,λ_ _=>rfl,dG,?_,hE⟩
     .  rw[Za7 pL,e1];simp only[Result.andThen_ok,jy];rw[Zh0,e3];rfl
     .  exact .slice _ _ _ _ _ _ _ pL (λc hc=>by cases hc;rfl) (λ_=>⟨aW,rfl,hbound⟩) (λh=>by cases h)
   . rename_i pL;have pL:¬(n'+m<=c):=λh=>by rw[Nat.ble_eq_true_of_le h]at pL;cases pL
     (split at hr<;>first|(cases hr;done)|skip);rename_i cT new sy qf;simp only[H0]at hr;subst hr;exact QG none 0 cT new pL sy qf (hls cT sy) (Wt new qf vn)
 ·
   rename_i b off n' es' vn;have vn:=Yl vn;simp only[cI,H0]at hn;subst hn;(split at hr<;>first|(cases hr;done)|skip);rename_i cs fz cT new hb sy qf;(split at hr<;>first|(cases hr;done)|skip);rename_i c2 c3;simp only[Za2]at c2;have c2a:=H4 c2.1;have c2b:=H2 c2.2;subst c2b;simp only[H0]at hr;subst hr;by_cases pL:n'+m<=aF
   ·
     obtain ⟨aa,cc,he,hlec,Wu,ha⟩:=hs.cG;rw[he]at fE;simp only[Value.slice.injEq]at fE;obtain⟨rfl,_,rfl⟩:=fE;obtain⟨aW,rfl,hbound⟩:=ha (by omega);obtain⟨ys,e1,e2,_⟩:=iY (P:=P) hW hu hm (H5 _) qf w rfl;have ET:=Wt new qf vn;have Z3:=hls cT sy;obtain⟨Ly,Gl,c,ce,fr,g1,g2,g3,g4,g5⟩:=hW.live b _ hb;have hmul:(n'+m)*te.size<=cc*te.size:=Zg7 _ pL;have hmul2:(n'+m)*te.size=n'*te.size+m*te.size:=Zh7 _ _ _;have hyl:ys.length=m*te.size:=(by rw[<-e2.1,ET]);have hold:ak ρ st.next.toNat C cT ((c.toList.drop ((ρ b).base+off)).take (n'*te.size)):=by
        simp only[bS]at sy;split at sy
        .rename_i hz0;have hz0:=H2 hz0;simp only[H0]at sy;subst sy;rw[hz0];simpa using(ak.nil:ak ρ st.next.toNat C [] [])
        . rw[hb]at sy;simp only at sy;obtain⟨ho1,z8⟩:=zW sy;have h:=(g4.drop off).take (n'*te.size);rw[<-ho1]at h;have:List.take (n'*te.size) (List.drop off (List.take cs.length (List.drop (ρ b).base c.toList)))=(c.toList.drop ((ρ b).base+off)).take (n'*te.size):=by
            rw[List.drop_take,Zn2,Zl2,Zj3 (by omega)]
          rw[this]at h;exact h
     obtain⟨w2,s1,s2,s3,s4,s5,s6,s7⟩:=iI (P:=P) (ρ b).aq ce fr ys 0 ((ρ b).base+off+n'*te.size) c w g1 (by omega) (vk c3 e2) (λk hk je=>by
        have:=g5 (k - (ρ b).base) (by omega) (by omega)
        rwa [show(ρ b).base+(k - (ρ b).base)=k from by omega]at this)
     simp only[Zh6]at s1 s2
     let ρ':Pos->Loc:=λq=>if q=st.next then⟨(ρ b).aq,(ρ b).base+off,(ρ b).size⟩else ρ q
     have aL:∀q:Pos,q.toNat<st.next.toNat->ρ' q=ρ q:=λq hq=>Za4 (λe=>by rw[e]at hq;omega)
     have dx:ρ' st.next=⟨(ρ b).aq,(ρ b).base+off,(ρ b).size⟩:=Za7 rfl;have ZT:c.toList.length=c.size:=(by simp);have hWn:aM ρ' C (st.aC (some b) none (some (.cells (cT++new) (fz - off)))) w2:=by
        refine hW.UP (b0:=st.next) (x0:= .cells (cT++new) (fz - off)) (by rw[Pos.ay];omega) (by rw[Pos.ay];omega) (by rw[T.dJ]) ?_ aL ?_ ?_ (by rw[dx,s3];exact Gl) (by omega) (λk hk je=>s4 k (by rw[dx]at je;exact je))
        .intro q x hq hx;rw[T.bk _ (λe=>hq e.symm)]at hx;obtain⟨h1,h2⟩:=tI (some b) _ hx;refine⟨h1,?_⟩;rw[dx];exact λe=>h2 b rfl (hW.inj _ _ _ _ h1 hb e)
        . rw[dx];refine⟨_,ce,fr,s2,by simp[aI];omega,by simp[aI,Z3,ET];omega,?_,λi jJ hi=> ?_⟩
          . (simp only;rw[Cw _ _ _ _ (by omega)];have Dr:(aI (c.toList.drop ((ρ b).base+off)) (n'*te.size) ys).take (cT++new).length=(c.toList.drop ((ρ b).base+off)).take (n'*te.size)++ys:=by unfold aI;rw[<-Zh9,Zj4];simp[Z3,ET,hyl];omega);rw[Dr];exact(hold.append e2).mono aL (by rw[Pos.ay];omega)
          . have LB:(ρ b).base+off+i<c.size:=(by simp only[Zl1]at hi;have:(aI c.toList ((ρ b).base+off+n'*te.size) ys).length=c.size:=(by simp[aI];omega);omega);have:=g5 (off+i) (by omega) (by omega);simp only
            rwa [<-Zh0]at this
        .intro ad v hv;rw[dx];exact λe=>(hW.cL ad v hv).2 b _ hb e.symm
     refine⟨_,(.slice (some ⟨(ρ b).aq,(ρ b).base+off,none⟩) (n'+m) cc),w2,ρ',?_,Yields.value _,aL,hWn,?_,⟨s5,s6,s7,by omega,λk _ hk=>s4 k (λe=>hk b _ hb e.symm),λq x hx=> ?_⟩⟩;rotate_left;rotate_left
     .  left;by_cases hq:q=st.next
        .exact⟨b,_,hb,by rw[hq,dx]⟩
        .simp only[St.aC,EF]at hx;rw[T.bk _ (λe=>hq e.symm)]at hx;obtain⟨h1,_⟩:=tI (some b) _ hx;exact⟨q,x,h1,by rw[aL q (hW.live q x h1).1]⟩
     .  rw[Za7 pL,e1];simp only[Result.andThen_ok,jy];rw[s1];rfl
     .  refine .slice _ _ _ _ _ _ _ pL (λc hc=>by cases hc) (λ_=>⟨by simp[St.aC,Pos.ay],by rw[dx];rfl,?_⟩) (λ_=>by simp[St.aC,Pos.ay]);rw[dx];simp only;omega
   .exact QG (some b) _ cT new pL sy qf (hls cT sy) (Wt new qf vn)
end
section
variable{P:Program}{tt:TT}{ρ:Pos->Loc}{C:Cells}{st:St}{w w':World}
theorem Oh:∀l:List Nat,aQ (l.map λc=>AV.int .u8 (.ofNat c))=true
 |[]=>rfl
 |a::l=>by simpa [aQ,AV.one]using Oh l
theorem JL(hW:aM ρ C st w)(del:Option Pos){cT new rest:List Value}{ol nl:List AV}{e:TypeId}{n m aF:Nat}(h1:ak ρ st.next.toNat C ol cT)(h2:ak ρ st.next.toNat C nl new)
  (sw:ol.length=n) (Gr:nl.length=m) (hr:rest.length=aF - (n+m)) (hc:n+m<=aF) {w2:World} (eB:w2=w.drew.alloc (.cells (cT++new++rest).toArray e)):
  ∃ρ':Pos->Loc,(∀b:Pos,b.toNat<st.next.toNat->ρ' b=ρ b)/\aM ρ' C (st.aC del none (some (.typed e (ol++nl)))) w2/\iy ρ st w ρ' (st.aC del none (some (.typed e (ol++nl)))) w2/\
   aj ρ' (st.aC del none (some (.typed e (ol++nl)))).next.toNat C (.slice st.next 0 (n+m) none 1) (.slice (some ⟨w.heap.size,0,none⟩) (n+m) aF):=by
 subst eB;have sx:cT.length=n:=by rw[<-h1.1,sw]
 have jr:new.length=m:=by rw[<-h2.1,Gr]
 have dV:(cT++new++rest).length=aF:=by simp only[Ze2,sx,jr,hr];omega
 obtain ⟨ ρ',aL,dx,dG,hE⟩:=su (w':=w.drew.alloc (.cells (cT++new++rest).toArray e)) (o:= .cells (cT++new++rest).toArray e) (x0:= .typed e (ol++nl)) (base:=0) (size:=(cT++new++rest).toArray.size) hW del rfl rfl rfl rfl (λρ' n' aL hn=>
  ⟨_,   (0,0),by show(w.heap.push _)[w.heap.size]? =_;simp,rfl,by simp[sw,Gr,sx,jr],by
        have:(cT++new++rest).toArray.toList.take (ol++nl).length=cT++new:=by
          rw[Zj4 (by simp[sw,Gr,sx,jr])]
        rw[Zc9,this];exact(h1.append h2).mono aL hn,λi _=>by simp,rfl⟩)
 refine⟨ρ',aL,dG,hE,xP (by simp[St.aC,Pos.ay]) dx hc (λc hc=>by cases hc) (by simp only[Zl1,dV,Zj9];exact H5 _)⟩
theorem S8 (hT:bE P tt){t t2 e:Nat}{ts:Array TypeId}{ti Gk te:TI}{z:List AV}(ct:tt.get (key t)=some ti)(Hs:tt.get (key t2)=some Gk)(hk:ti.k= .slice e)(mq:∀k,Gk.k≠ .int k)
  (dY:tt.get (key e)=some te) (hz:te.zero=some z) (h8:te.size=1) (h0:ts[0]? =some t) (h1:ts[1]? =some t2) (ty:TypeId) {s u:AV} {xs xu:Value} {res:bW} (hW:aM ρ C st w)
  (hs:aj ρ st.next.toNat C s xs) (hu:aj ρ st.next.toNat C u xu) (hr:qV (λb=>st.heap.get b) st.next e te.bytes [s,u]=some res):
  qW P ρ C st w (((Builtin.append_ ts ty #[xs,xu]).run P w).andThen λv w=>.ok (.value v) w) res:=by
 have Lv:=λw=>qd hT dY hz (ρ:=ρ) (n:=st.next.toNat) (C:=C) w
 simp only[qV]at hr;split at hr<;>first|(cases hr;done)|skip
 rename_i us;obtain⟨bs,rfl,Gl⟩:=hu.dm;have hm:cI (AV.str us)=some us.length:=rfl;have hlen:=Ky (P:=P) (w:=w) hu hm
 have Wv:∀{n:Nat}{s:AV},cI s=some n->Nat.ble ((2*(n+us.length)+768)*te.bytes) 281474976710656=true->Nat.ble (n+us.length) 9223372036854775807=true->us.length=0->(s= .ax\/∃b,s= .slice b 0 n none 1)->
    eI (λb=>st.heap.get b) st.next te.size te.bytes [s,.str us]=some (.val s):=by
  intro n s h1 h2 h3 h4 h5;rw[h4]at h2 h3;rcases h5 with rfl|⟨b,rfl⟩
  .simp only[eI,h1,hm,h2,h3,h4];try rfl
  .simp only[eI,h1,hm,h2,h3,h4];try rfl
 have qf:bS te.size us.length (λb=>st.heap.get b) (.str us)=some (us.map λc=>AV.int .u8 (.ofNat c)):=by
  have e1:Nat.beq te.size 1=true:=by rw[h8];rfl
  have e2:Nat.ble us.length us.length=true:=Nat.ble_self_eq_true _;simp only[bS,e1,e2,Zk3]
 split at hr<;>first|(cases hr;done)|skip
 ·
  split at hr<;>first|(cases hr;done)|skip
  rename_i b1 b2;split at hr
  .rename_i hb;simp only[H0]at hr;subst hr;exact ES hT ct Hs hk mq dY hz h0 h1 ty hW hs hu (Wv rfl b1 b2 (H2 hb) (.inl rfl))
  . rename_i hb;have hb:=Za9 hb;simp only[H0]at hr;subst hr;have fE:=hs.eu;subst fE;have bL:=ER hT ct Hs hk mq dY h0 h1 ty none 0 0 us.length (.string bs) w hlen (H4 b1) (H4 b2);rw[bL,Za4 (by omega)];have hg:0+us.length<=grownCap w (0+us.length) 0 e:=(by unfold grownCap Question.cut;exact Zl7 _ _);obtain⟨new,e3,e4,_⟩:=iY (P:=P) hW hu hm (H5 _) qf w.drew rfl;obtain⟨zv,wR,_,qe⟩:=Lv w.drew;have TG:zv.cells.size=1:=(by have:=qe.1;have h2:=(hT.at dY).info;obtain⟨i0,jJ,iV,_,wQ⟩:=h2;obtain⟨v0,Ds,_,Ww,_⟩:=wQ z hz;simp at this;omega);have BI:(Builtin.zeroCells zv.cells (grownCap w (0+us.length) 0 e - (0+us.length))).toList.length=grownCap w (0+us.length) 0 e - (0+us.length):=by
        rw[yx,TG,Zj9]
    obtain⟨ρ',aL,dG,hE,hv⟩:=JL hW none (ak.nil (ρ:=ρ)) e4 (by simp) (by simp) BI hg (e:=e) rfl;refine⟨_,_,_,ρ',?_,Yields.value _,aL,dG,hv,hE⟩;have e0:(Builtin.firstCells te.size 0 (.slice none 0 0)).run P w.drew= .ok #[] w.drew:=(by simp[Builtin.firstCells]);simp only[e0,e3,wR,Result.andThen_ok,World.size_drew];congr 2;simp
 ·
  rename_i b n;split at hr<;>first|(cases hr;done)|skip
  rename_i b1 b2;split at hr
  .rename_i hb;simp only[H0]at hr;subst hr;exact ES hT ct Hs hk mq dY hz h0 h1 ty hW hs hu (Wv rfl b1 b2 (H2 hb) (.inr ⟨_,rfl⟩))
  . rename_i Z0;have Z0:=Za9 Z0;(split at hr<;>first|(cases hr;done)|skip);rename_i e' cs hb;(split at hr<;>first|(cases hr;done)|skip);rename_i cT iT sy;have iT:=H2 iT;subst iT;simp only[H0]at hr;subst hr;obtain⟨aa,aF,fE,hle,Wu,ha⟩:=hs.cG;subst fE;have bL:=ER hT ct Hs hk mq dY h0 h1 ty (some aa) n aF us.length (.string bs) w hlen (H4 b1) (H4 b2);rw[bL];obtain⟨ho1,z8⟩:=zW sy;have U4:=qX sy;obtain⟨Ly,hbs2,c,fr,g1,g2,g3,g4,g5,g6⟩:=hW.live b _ hb;by_cases pL:n+us.length<=aF
    ·
        obtain⟨aW,rfl,hbound⟩:=ha (by omega);rw[Zj9,g6,Zh6,Zc8]at hbound;rw[g6]at g3 g4 g5;simp only[Zc8,Zc9]at g3 g4 g5;obtain⟨ys,e1,e2,_⟩:=iY (P:=P) hW hu hm (H5 _) qf w rfl;have hyl:ys.length=us.length:=(by rw[<-e2.1];simp);have hold:ak ρ st.next.toNat C cT (c.toList.take n):=(by have h:=(g4.drop 0).take n;rw[<-ho1,Zc9,Zn2,Zj3 (by omega)]at h;exact h);obtain⟨w2,s1,s2,s3,s4,s5,s6,s7⟩:=iI (P:=P) (ρ b).aq e fr ys 0 n c w g1 (by omega) (vk (Oh us) e2) (λk hk je=>g5 k (Zk7 _) je);simp only[Zh6]at s1 s2
        let ρ':Pos->Loc:=λq=>if q=st.next then⟨(ρ b).aq,0,(ρ b).size⟩else ρ q
        have aL:∀q:Pos,q.toNat<st.next.toNat->ρ' q=ρ q:=λq hq=>Za4 (λe=>by rw[e]at hq;omega)
        have dx:ρ' st.next=⟨(ρ b).aq,0,(ρ b).size⟩:=Za7 rfl;have ZT:c.toList.length=c.size:=(by simp);have hWn:aM ρ' C (st.aC (some b) none (some (.typed e (cT++us.map λc=>AV.int .u8 (.ofNat c))))) w2:=by
          refine hW.UP (b0:=st.next) (x0:= .typed e (cT++us.map λc=>AV.int .u8 (.ofNat c))) (by rw[Pos.ay];omega) (by rw[Pos.ay];omega) (by rw[T.dJ]) ?_ aL ?_ ?_ (by rw[dx,s3];exact hbs2) (by omega) (λk hk je=>s4 k (by rw[dx]at je;exact je))
          .intro q x hq hx;rw[T.bk _ (λe=>hq e.symm)]at hx;obtain⟨h1,h2⟩:=tI (some b) _ hx;refine⟨h1,?_⟩;rw[dx];exact λe=>h2 b rfl (hW.inj _ _ _ _ h1 hb e)
          . rw[dx];refine⟨_,fr,s2,by simp[aI];omega,by simp[aI,U4];omega,?_,λi jJ hi=> ?_,rfl⟩
            . (simp only[Zc9];have Dr:(aI c.toList n ys).take (cT++us.map λc=>AV.int .u8 (.ofNat c)).length=c.toList.take n++ys:=by unfold aI;rw[<-Zh9,Zj4];simp[U4,hyl];omega);rw[Dr];exact(hold.append e2).mono aL (by rw[Pos.ay];omega)
            .have LB:i<c.size:=(by simp only[Zl1,Zc8]at hi;have:(aI c.toList n ys).length=c.size:=(by simp[aI];omega);omega);simpa using g5 i (Zk7 _) LB
          .intro ad v hv;rw[dx];exact λe=>(hW.cL ad v hv).2 b _ hb e.symm
        refine⟨_,(.slice (some ⟨(ρ b).aq,(ρ b).base+0,none⟩) (n+us.length) aF),w2,ρ',?_,Yields.value _,aL,hWn,?_,⟨s5,s6,s7,by omega,λk _ hk=>s4 k (λe=>hk b _ hb e.symm),λq x hx=> ?_⟩⟩;rotate_left;rotate_left
        . left;by_cases hq:q=st.next
          .exact⟨b,_,hb,by rw[hq,dx]⟩
          .simp only[St.aC,EF]at hx;rw[T.bk _ (λe=>hq e.symm)]at hx;obtain⟨h1,_⟩:=tI (some b) _ hx;exact⟨q,x,h1,by rw[aL q (hW.live q x h1).1]⟩
        .rw[Za7 pL,e1];simp only[Result.andThen_ok,jy,h8,Zj9,g6,Zc8];rw[s1];rfl
        .refine .slice _ _ _ _ _ _ _ pL (λc hc=>by cases hc) (λ_=>⟨by simp[St.aC,Pos.ay],by rw[dx,g6],?_⟩) (λ_=>by simp[St.aC,Pos.ay]);rw[dx];simp only;omega
    .   rw[ Za4 pL];have hg:n+us.length<=grownCap w (n+us.length) aF e:=(by unfold grownCap Question.cut;exact Zl7 _ _);obtain⟨new,e3,e4,_⟩:=iY (P:=P) hW hu hm (H5 _) qf w.drew rfl;obtain⟨zv,wR,_,qe⟩:=Lv w.drew;have TG:zv.cells.size=1:=(by have:=qe.1;have h2:=(hT.at dY).info;obtain⟨i0,jJ,iV,_,wQ⟩:=h2;obtain⟨v0,Ds,_,Ww,_⟩:=wQ z hz;simp at this;omega);have BI:(Builtin.zeroCells zv.cells (grownCap w (n+us.length) aF e - (n+us.length))).toList.length=grownCap w (n+us.length) aF e - (n+us.length):=by
          rw[yx,TG,Zj9]
        have hold:∃os:List Value,(Builtin.firstCells te.size n (.slice (some aa) n aF)).run P w.drew= .ok os.toArray w.drew/\ak ρ st.next.toNat C cT os:=by
          by_cases JM:n=0
          .subst JM;have:cT=[]:=Za6 U4;subst this;exact⟨[],by simp[Builtin.firstCells,loadCells,loadCellsFrom],ak.nil⟩
          .obtain⟨aW,rfl,hbound⟩:=ha (by omega);obtain⟨ys,zS,fV⟩:=(show aM ρ C st w.drew from⟨λb x hb=>hW.live b x hb,hW.inj,hW.cL,hW.whole⟩).Lq (P:=P) hb sy;exact⟨ys,by simpa [Builtin.firstCells,h8]using zS,fV⟩
        obtain⟨os,e5,e6⟩:=hold;obtain⟨ρ',aL,dG,hE,hv⟩:=JL hW (some b) e6 e4 U4 (by simp) BI hg (e:=e) rfl;refine⟨_,_,_,ρ',?_,Yields.value _,aL,dG,hv,hE⟩;simp only[e5,e3,wR,Result.andThen_ok,World.size_drew];congr 2;simp
theorem Pk{ts:Array TypeId}(ty:TypeId){s:AV}{xs:Value}{res:bW}(hs:aj ρ st.next.toNat C s xs)(hW:aM ρ C st w)(hr:p8 (λb=>st.heap.get b) st.next [s]=some res):
   qW P ρ C st w (((Builtin.unsafeSliceData_ ts ty #[xs]).run P w).andThen λv w=>.ok (.value v) w) res:=by
 simp only[p8]at hr;split at hr<;>first|(cases hr;done)|skip
 .simp only[H0]at hr;subst hr;have:=hs.eu;subst this;exact .pure (x:= .pointer none) rfl .fU
 .rename_i b off n cap es;(split at hr<;>first|(cases hr;done)|skip);rename_i h0;have h0:=Za9 h0;simp only[H0]at hr;subst hr;obtain⟨aa,aF,fE,hle,_,ha⟩:=hs.cG;subst fE;have hc:aF≠0:=(by omega);obtain⟨h1,h2,_⟩:=ha hc;refine .pure (x:= .pointer (some aa)) (by rw[Lib.run_unsafeSliceData_row w ts ty aa n aF hc];rfl) ?_;rw[h2];exact .ptr b off h1
theorem abj(hW:aM ρ C st w){b:Pos}{x:AB}(hb:st.heap.get b=some x)(h1:w'.os=w.os)(h2:w'.tape=w.tape)(h3:w'.output=w.output)(dV:w'.heap.size=w.heap.size)
   (rU:∀k,k≠(ρ b).aq->w'.heap[k]? =w.heap[k]?):
   aM ρ C (st.aC (some b) none none) w'/\iy ρ st w ρ (st.aC (some b) none none) w':=by
 have oU:∀c y,(st.aC (some b) none none).heap.get c=some y->st.heap.get c=some y/\c≠b:=λc y hc=>by
   obtain⟨g1,g2⟩:=tI (some b) _ (show(Cq (some b) st.heap).get c=some y from hc);exact⟨g1,λe=>g2 b rfl e⟩
 refine⟨⟨λc y hc=> ?_,λc c' y y' hc sv e=>hW.inj c c' y y' (oU c y hc).1 (oU c' y' sv).1 e,λa v ha=> ?_,λa v ha o ho=> ?_⟩,⟨h1,h2,h3,by omega,λk _ hk=>rU k (λe=>hk b x hb e.symm),λc y hc=>.inl ⟨c,y,(oU c y hc).1,rfl⟩⟩⟩
 .obtain⟨g1,g2⟩:=oU c y hc;obtain⟨k1,k2,k3⟩:=hW.live c y g1;exact⟨k1,by omega,k3.of_heap (rU _ λe=>g2 (hW.inj _ _ _ _ g1 hb e))⟩
 .obtain⟨g1,g2⟩:=hW.cL a v ha;refine⟨?_,λc y hc=>g2 c y (oU c y hc).1⟩;have:=rU a.block (λe=>g2 b x hb e.symm);rw[<-g1];simp only[World.cell?,this]
 .have:=rU a.block (λe=>(hW.cL a v ha).2 b x hb e.symm);rw[<-hW.whole a v ha o ho];simp only[World.cell?,this]
theorem Pm(hT:bE P tt){t t2 e:Nat}{ts:Array TypeId}{ti te:TI}(ct:tt.get (key t)=some ti)(hk:ti.k= .ptr e)(dY:tt.get (key e)=some te)(h8:te.size=1)(cK:ts.toList=[t,t2])
   (ty:TypeId) {s u:AV} {xs xu:Value} {res:bW} (hW:aM ρ C st w)
   (hs:aj ρ st.next.toNat C s xs) (hu:aj ρ st.next.toNat C u xu) (hr:mh (λb=>st.heap.get b) st.next e [s,u]=some res):
   qW P ρ C st w (((Builtin.unsafeString_ ts ty #[xs,xu]).run P w).andThen λv w=>.ok (.value v) w) res:=by
 obtain rfl:ts= #[t,t2]:=by apply Zk5;rw[cK]
 simp only[mh]at hr;split at hr<;>first|(cases hr;done)|skip
 rename_i n;have:=hu.fS;subst this;split at hr
 . rename_i h0;have:=H2 h0;subst this;split at hr<;>first|(cases hr;done)|skip
   .simp only[H0]at hr;subst hr;have:=hs.nE;subst this;exact .pure (x:= .string .empty) (by rw[show(Int.ofNat 0)=(0:Int)from rfl,Lib.run_unsafeString_none];rfl) (.str _ _ rfl)
   .simp only[H0]at hr;subst hr;obtain⟨_,he⟩:=hs.dU;subst he;exact .pure (x:= .string .empty) (by rw[show(Int.ofNat 0)=(0:Int)from rfl,Lib.run_unsafeString_none];rfl) (.str _ _ rfl)
 . (rename_i h0;have h0:=Za9 h0;(split at hr<;>first|(cases hr;done)|skip);rename_i b;(split at hr<;>first|(cases hr;done)|skip);rename_i e' cs hb;(split at hr<;>first|(cases hr;done)|skip);rename_i l he hcut U2;have he:=H2 he;have U2:=H4 U2;subst he;(split at hr<;>first|(cases hr;done)|skip);rename_i s' QA;simp only[H0]at hr;subst hr;obtain⟨_,fE⟩:=hs.dU;subst fE;obtain⟨d,hd,bJ⟩:=(hT.at ct).und;rw[hk]at bJ;rw[Lp bJ]at hd;obtain⟨i0,jJ,iV,_⟩:=(hT.at dY).info;have BH:P.cellsOf e=1:=(by simp[Program.cellsOf,jJ,iV,h8]);obtain⟨Ly,hbs2,c,fr,g1,g2,g3,g4,g5,g6⟩:=hW.live b _ hb;rw[g6]at g3 g4 ⊢;simp only[Zc8,Zc9]at g3 g4;have Ld:w.shape? (ρ b).aq=some (e,c.size):=(by simp[World.shape?,g1]);obtain⟨sx,jr⟩:=zW hcut;have Gr:=qX hcut;have fV:ak ρ st.next.toNat C l (c.toList.take n):=by have h:=(g4.drop 0).take n;rw[<-sx,Zc9,Zn2,Zj3 (by omega)]at h;exact h);obtain⟨e1,e2⟩:=Cs QA fV;have JI:s'.length=n:=(by have:=congrArg List.length e1;simp at this;omega);have bL:=Lib.run_unsafeString_row (P:=P) w t t2 ty e hd BH (ρ b).aq c.size Ld (s'.map UInt8.ofNat) (by intro h;simp at h;rw[h]at JI;simp at JI;omega) (by simp;omega) (by simp;omega) (λj x hj=>by simp only[Zb7,Ze8]at hj;obtain⟨k,hk,rfl⟩:=hj;have hjn:j<n:=(by rw[<-JI];exact(H3.1 hk).1);have h2:(c.toList.take n)[j]? =some (.int .u8 (k:Int)):=(by rw[e1];simp[hk]);rw[Zb0,Za7 hjn]at h2;have hk256:=e2 k (Zb8 hk);rw[jy];simp only[World.cell?,g1,Zc8];rw[<-Ze9,h2];congr 2;simp;omega);have hlen:(s'.map UInt8.ofNat).length=n:=(by simp[JI]);rw[hlen]at bL;obtain⟨q1,q2⟩:=abj (w':=w.freeze ⟨(ρ b).aq,0,none⟩ n) hW hb (by unfold World.freeze;split<;>rfl) (by unfold World.freeze;split<;>rfl) (by unfold World.freeze;split<;>rfl) (by unfold World.freeze;split<;>simp) (λk hk=>by
     unfold World.freeze;split
     .  rfl
     .  simp only[Zl5];rw[Za4 (λe=>hk e.symm)])
   refine⟨_,.string ⟨(s'.map UInt8.ofNat).toArray⟩,_,ρ,?_,Yields.value _,λ_ _=>rfl,q1,.str _ _ ?_,q2⟩
   .show((Builtin.unsafeString_ #[t,t2] ty #[.pointer (some ⟨(ρ b).aq,0,none⟩),.int .i64 (n:Int)]).run P w).andThen _=_;rw[bL];rfl
   . (simp only[Zf5];have e3:s'.map (UInt8.toNat∘UInt8.ofNat)=s'.map id:=Zi0 λc hc=>by have:=e2 c hc;simp only[Function.comp,id,UInt8.toNat_ofNat'];omega);rw[e3,List.map_id]
end
section
variable{P:Program}{tt:TT}{ρ:Pos->Loc}{C:Cells}{st:St}{w w':World}
theorem Dw{n:Nat}{xs:Array Value}{u v:AV}(h:ak ρ n C [u,v] xs.toList):∃x y,xs= #[x,y]/\aj ρ n C u x/\aj ρ n C v y:=by
 obtain⟨x,l,h1,h2,h3⟩:=h.cons_inv;obtain⟨y,l',h4,h5,h6⟩:=h3.cons_inv;have:=h6.kK;subst this;exact⟨x,y,by apply Zk5;rw[h1,h4],h2,h5⟩
theorem QH{n:Nat}{xs:Array Value}{u:AV}(h:ak ρ n C [u] xs.toList):∃x,xs= #[x]/\aj ρ n C u x:=by
 obtain⟨x,l,h1,h2,h3⟩:=h.cons_inv;have:=h3.kK;subst this;exact⟨x,by apply Zk5;rw[h1],h2⟩
theorem QI{ts:Array TypeId}{t:TypeId}{l:List TypeId}(h:ts.toList=t::l):ts[0]? =some t:=by rw[<-Ze9,h];rfl
theorem arr1{ts:Array TypeId}{t t2:TypeId}{l:List TypeId}(h:ts.toList=t::t2::l):ts[1]? =some t2:=by rw[<-Ze9,h];rfl
theorem Ym(hT:bE P tt){t e:Nat}{ts:Array TypeId}{ti te:TI}(ct:tt.get (key t)=some ti)(hk:ti.k= .slice e)
   (dY:tt.get (key e)=some te) (h0:ts[0]? =some t) (ty:TypeId) {d u:AV} {xd xu:Value} {res:bW} (hW:aM ρ C st w)
   (hd:aj ρ st.next.toNat C d xd) (hu:aj ρ st.next.toNat C u xu) (hr:w5 (λb=>st.heap.get b) st.next te.size [d,u]=some res):
   qW P ρ C st w (((Builtin.copy_ ts ty #[xd,xu]).run P w).andThen λv w=>.ok (.value v) w) res:=by
 obtain⟨dd,hdd,bJ⟩:=(hT.at ct).und;rw[hk]at bJ;rw[jT bJ]at hdd;obtain⟨i0,jJ,iV,_⟩:=(hT.at dY).info;simp only[w5]at hr;split at hr<;>first|(cases hr;done)|skip
 rename_i n m hn hm;have hlen:=Ky (P:=P) (w:=w) hu hm;have JI:(∃s,d= .str s)\/∃base aF,xd= .slice base n aF/\n<=aF:=by
   unfold cI at hn;split at hn<;>first|(cases hn;done)|skip
   .cases hn;exact .inr ⟨none,0,hd.eu,H5 _⟩
   .cases hn;obtain⟨a,c,he,hle,_⟩:=hd.cG;exact .inr ⟨_,c,he,hle⟩
   .cases hn;obtain⟨a,c,_,he,hle,_⟩:=hd.qb;exact .inr ⟨_,c,he,hle⟩
   .exact .inl ⟨_,rfl⟩
 have abk:m=0\/n=0->(Builtin.firstCells te.size 0 xu).run P w= .ok #[] w:=by
   intro _;unfold cI at hm;split at hm<;>first|(cases hm;done)|skip
   .rw[hu.eu];simp[Builtin.firstCells]
   .obtain⟨_,_,he,_⟩:=hu.cG;rw[he];simp[Builtin.firstCells,loadCells,loadCellsFrom]
   .obtain⟨_,_,_,he,_⟩:=hu.qb;rw[he];simp[Builtin.firstCells,loadCells,loadCellsFrom]
   .obtain⟨bs,rfl,_⟩:=hu.dm;simp only[Builtin.firstCells,Sem.run_pure];congr 1;apply Zk5;simp
 have kT:∀base aF,xd= .slice base n aF->(Builtin.copy_ ts ty #[xd,xu]).run P w=((Builtin.firstCells te.size (Nat.min m n) xu).run P w).andThen λcells w=>((match base with|some a=>storeCells a cells.toList|none=>pure ()).run P w).andThen λ_ w=>.ok (goInt (Nat.min m n)) w:=by
   intro base aF he;unfold Builtin.copy_;simp only[h0,he,List.getElem?_toArray,Ze3,Zf7,Sem.run_bind,aH hdd,Result.andThen_ok,fN jJ,iV,hlen];cases base<;>simp only[Sem.run_bind,Sem.run_pure,Result.andThen_ok]
 split at hr
 . rename_i uh;have uh:=H2 uh;(split at hr<;>first|(cases hr;done)|skip);rename_i hns;simp only[H0]at hr;subst hr;rcases JI with⟨s,rfl⟩|⟨base,aF,he,hle⟩
   .exact absurd rfl (hns s)
   .have hk0':Nat.min m n=0:=uh;refine .pure (x:=goInt 0) ?_ (.int _ _);rw[kT base aF he,hk0',abk (by have:min m n=0:=uh;omega)];cases base<;>simp[storeCells]
 . rename_i uh;have uh:=Za9 uh;(split at hr<;>first|(cases hr;done)|skip);rename_i b off n' cap es';(split at hr<;>first|(cases hr;done)|skip);rename_i cs fz new hb qf;(split at hr<;>first|(cases hr;done)|skip);rename_i c1 c2 c3;have c1:=H4 c1;have c2:=H4 c2;simp only[H0]at hr;subst hr;simp only[cI,H0]at hn;subst hn;obtain⟨aa,aF,he,hle,_,ha⟩:=hd.cG;have hmin:min m n'<=m/\min m n'<=n':=⟨Nat.min_le_left _ _,Nat.min_le_right _ _⟩
   obtain⟨aW,rfl,_⟩:=ha (by omega);obtain⟨ys,e1,e2,e3⟩:=iY (P:=P) hW hu hm hmin.1 qf w rfl;have ET:new.length=min m n'*te.size:=by
     rcases e3 with rfl|e3
     .simp[cI]at hm;omega
     .exact e3
   obtain⟨w2,f1,dG,hE⟩:=EO (P:=P) hW hb (by rw[ET];exact c1) c2 c3 e2;refine⟨_,goInt ((min m n':Nat):Int),w2,ρ,?_,Yields.value _,λ_ _=>rfl,dG,.int _ _,hE⟩;rw[kT _ _ he];have hmm:Nat.min m n'=min m n':=rfl;rw[hmm,e1];simp only[Result.andThen_ok];rw[f1];rfl
theorem aas(hT:bE P tt){t:Nat}{ts:Array TypeId}{ti:TI}(ct:tt.get (key t)=some ti){k:LK}(hk:(k= .s/\ti.k= .string)\/(k= .l/\∃e,ti.k= .slice e)\/(k= .m/\∃a b,ti.k= .map a b))
   (h0:ts[0]? =some t) (ty:TypeId) {u:AV} {xu:Value} {res:bW} (hW:aM ρ C st w)
   (hu:aj ρ st.next.toNat C u xu) (hr:Dg (λb=>st.heap.get b) st.next k [u]=some res):
   qW P ρ C st w (((Builtin.len_ ts ty #[xu]).run P w).andThen λv w=>.ok (.value v) w) res:=by
 obtain⟨d,hd,bJ⟩:=(hT.at ct).und;have kT:∀x,xu=x->(Builtin.len_ ts ty #[xu]).run P w=(Builtin.len_ ts ty #[x]).run P w:=λx e=>by rw[e]
 simp only[Dg]at hr;rcases hk with⟨rfl,hk⟩|⟨rfl,e,hk⟩|⟨rfl,a,b,hk⟩<;>rw[hk]at bJ
 .rw[jI bJ]at hd;(cases u<;>simp only[reduceCtorEq]at hr<;>first|(cases hr;done)|skip);simp only[H0]at hr;subst hr;obtain⟨bs,rfl,hs⟩:=hu.dm;exact .pure (x:=goInt bs.size) (by unfold Builtin.len_;simp[h0,aH hd]) (by rw[tH hs];exact .int _ _)
 . rw[jT bJ]at hd;cases u<;>simp only[reduceCtorEq]at hr<;>first|(cases hr;done)|skip
   .simp only[H0]at hr;subst hr;rw[hu.eu];exact .pure (x:=goInt 0) (by unfold Builtin.len_;simp[h0,aH hd]) (.int _ _)
   .simp only[H0]at hr;subst hr;obtain⟨aa,c,he,_⟩:=hu.cG;rw[he];exact .pure (by unfold Builtin.len_;simp[h0,aH hd];rfl) (.int _ _)
   .simp only[H0]at hr;subst hr;obtain⟨aa,c,_,he,_⟩:=hu.qb;rw[he];exact .pure (by unfold Builtin.len_;simp[h0,aH hd];rfl) (.int _ _)
 . rw[Hi bJ]at hd;cases u<;>simp only[reduceCtorEq]at hr<;>first|(cases hr;done)|skip
   .simp only[H0]at hr;subst hr;rw[hu.w9];exact .pure (x:=goInt 0) (by unfold Builtin.len_;simp[h0,aH hd]) (.int _ _)
   . (split at hr<;>first|(cases hr;done)|skip);rename_i es c hb;simp only[H0]at hr;subst hr;obtain⟨_,he⟩:=hu.uf;obtain⟨_,_,es',cU,hlen,_⟩:=hW.live _ _ hb;rw[he];exact .pure (x:=goInt es'.size) (by unfold Builtin.len_;simp[h0,aH hd,run_getObj_map cU]) (by rw[<-hlen];exact .int _ _)
theorem M8(z:Array Value)(m:Nat):(Builtin.zeroCells z m).toList=bD z.toList m:=by
 unfold Builtin.zeroCells;by_cases h:0<z.size
 .exact QC z m h
 .have h0:z.size=0:=(by omega);have:z= #[]:=Zl8 h0;subst this;have h1:bD ([]:List Value) m=[]:=Za6 (by rw[gy];simp);simp[h1]
theorem Wx(hT:bE P tt){t e:Nat}{ts:Array TypeId}{ti te:TI}{z:List AV}(ct:tt.get (key t)=some ti)(hk:ti.k= .slice e)
   (dY:tt.get (key e)=some te) (hz:te.zero=some z) (h0:ts[0]? =some t) (ty:TypeId) {u:AV} {xu:Value} {res:bW} (hW:aM ρ C st w)
   (hu:aj ρ st.next.toNat C u xu) (hr:ua (λb=>st.heap.get b) st.next te.size z [u]=some res):
   qW P ρ C st w (((Builtin.clear_ ts ty #[xu]).run P w).andThen λv w=>.ok (.value v) w) res:=by
 obtain⟨dd,hdd,bJ⟩:=(hT.at ct).und;rw[hk]at bJ;rw[jT bJ]at hdd;obtain⟨i0,jJ,iV,_,wQ⟩:=(hT.at dY).info;obtain⟨zv0,_,_,LA,_⟩:=wQ z hz;obtain⟨zv,wR,_,qe⟩:=qd hT dY hz (ρ:=ρ) (n:=st.next.toNat) (C:=C) w;simp only[ua]at hr;split at hr<;>first|(cases hr;done)|skip
 .simp only[H0]at hr;subst hr;rw[hu.eu];exact .pure (x:=undef) (by unfold Builtin.clear_;simp[h0,aH hdd];rfl) aj.tJ
 . rename_i b off n cap es';obtain⟨aa,aF,he,hle,_,ha⟩:=hu.cG;rw[he];split at hr
   .rename_i JM;have:=H2 JM;subst this;simp only[H0]at hr;subst hr;exact .pure (x:=undef) (by unfold Builtin.clear_;simp[h0,aH hdd];rfl) aj.tJ
   . rename_i JM;have JM:=Za9 JM;(split at hr<;>first|(cases hr;done)|skip);rename_i cs fz hb;(split at hr<;>first|(cases hr;done)|skip);rename_i c1 c2 c3;have c1:=H4 c1;have c2:=H4 c2;simp only[H0]at hr;subst hr;obtain⟨_,rfl,_⟩:=ha (by omega);obtain⟨w2,f1,dG,hE⟩:=EO (P:=P) hW hb (vs:=bD z n) (ys:=bD zv.cells.toList n) (by rw[gy,LA];exact c1) c2 c3 (Ct qe n);refine⟨_,undef,w2,ρ,?_,Yields.value _,λ_ _=>rfl,dG,aj.tJ,hE⟩;unfold Builtin.clear_;cases n with
     |zero=>exact absurd rfl JM
     |succ n=>simp[h0,aH hdd,wR,M8,f1,undef]
theorem Dx(c:Call)(f:Operand)(hc:c.callee= .value f)(a:Act)(o:Oper)(ho:o.op= .call c){g:FuncId}{x y:Array Value}(he:a.eval f= .func (.func g) x y):
  (execOp a.eval o).run P w=(callFunc g (x++c.args.map a.eval++y)).run P w:=by
 simp[execOp,ho,resolve,hc,he,Deferred.ofValue,invoke]
theorem Yn (hT:bE P tt) (c:Call):cm P tt (.call c):=by
 intro ρ C st w k xs cls fr a o vs res ho hc hW hF hx hr;simp only[eJ]at hc;split at hc<;>first|(cases hc;done)|skip
 rename_i l hl;split at hc<;>first|(cases hc;done)|skip
 ·
  rename_i g Kz;cases hc;have hv:=cZ hl hF hx;simp only[au.run,Ko,H0]at hr;subst hr;refine⟨c.args.toList.map a.eval,?_,hv⟩;rw[Dx c _ Kz a o ho (g:=g) (x:= #[]) (y:= #[]) rfl];congr 2;apply Zk5;simp
 ·
  rename_i f hnf Kz;split at hc<;>first|(cases hc;done)|skip
  rename_i ao hao;cases hc;unfold di at hx;split at hx<;>first|(cases hx;done)|skip
  rename_i fv hfv;split at hx<;>first|(cases hx;done)|skip
  rename_i vs' Yo;simp only[H0]at hx;subst hx;have h1:=nD hao hF hfv;have h2:=cZ hl hF Yo;simp only[au.run,Kp]at hr;split at hr<;>first|(cases hr;done)|skip
  rename_i g first captured
  simp only[H0]at hr;subst hr;obtain⟨x,y,he,hx,hy⟩:=h1.zU;refine⟨x.toList++(c.args.toList.map a.eval++y.toList),?_,hx.append (h2.append hy)⟩;rw[Dx c f Kz a o ho he];congr 2;apply Zk5;simp
 ·
  rename_i b Kz;have hex:∀(s:Sem Value),(∀consts,builtin b c.argTypes o.type consts (c.args.map a.eval)=(do pure (.value (<-s))))->(execOp a.eval o).run P w=(s.run P w).andThen λv w=>.ok (.value v) w:=by intro s hs;simp only[execOp,ho,resolve,Kz,pure_bind,invoke];rw[hs];simp
  split at hc<;>first|(cases hc;done)|skip
  ·
   (split at hc<;>first|(cases hc;done)|skip);rename_i t _ _ cK;(split at hc<;>first|(cases hc;done)|skip);rename_i ti ct;have hv:=cZ hl hF (vs:=vs) (by
        split at hc<;>first|(cases hc;done)|skip
        all_goals cases hc;exact hx)
   rw[eS] at hv;rw[hex (Builtin.len_ c.argTypes o.type (c.args.map a.eval)) (λ_=>rfl)];have hu:∃u,vs=[u]      :=by
        have h1:=hv.1;have h2:(c.args.toList).length=1:=by
         have: ∀{xs:List   Operand}{os:List dh},gL xs=some os->xs.length=os.length:=by
            intro xs;induction xs with
            |nil=>intro os h;simp[gL]at h;subst h;rfl
            |cons x xs ih=>intro os h;unfold gL at h;split at h<;>first|(cases h;done)|skip
                           rename_i e1 e2;simp only[H0]at h;subst h;simp[ih e2]
         rw[this hl];rfl
        match vs,h1 with
        |[u],_=>exact⟨u,rfl⟩
        |[],h1=>simp at h1 h2;omega
        |_::_::_,h1=>simp at h1 h2;omega
   obtain⟨u,rfl⟩:=hu;obtain⟨x,fE,hux⟩:=QH hv;rw[fE];split at hc<;>first|(cases hc;done)|skip
   all_goals
        rename_i hk;cases hc;simp only[au.run]at hr;refine aas hT ct ?_ (QI cK) o.type hW hux hr
   .    exact .inl ⟨rfl,hk⟩
   .    exact .inr (.inl ⟨rfl,_,hk⟩)
   .    exact .inr (.inr ⟨rfl,_,_,hk⟩)
  ·
   (split at hc<;>first|(cases hc;done)|skip);rename_i t t2 _ cK;(split at hc<;>first|(cases hc;done)|skip);rename_i ti Gk ct Hs;split at hc<;>first|(cases hc;done)|skip
   .    rename_i e hk mq;(split at hc<;>first|(cases hc;done)|skip);rename_i te dY;(split at hc<;>first|(cases hc;done)|skip);rename_i z hz Wi h8;have h8:=H2 h8;cases hc;have hv:=cZ hl hF hx;rw[eS]at hv;rw[hex (Builtin.append_ c.argTypes o.type (c.args.map a.eval)) (λ_=>rfl)];simp only[au.run]at hr;have hu:∃s u,vs=[s,u]:=by
         unfold qV at hr;(split at hr<;>first|(cases hr;done)|skip);exact⟨_,_,rfl⟩
        obtain⟨s,u,rfl⟩:=hu;obtain⟨x,y,fE,h1,h2⟩:=Dw hv;rw[fE];exact S8 hT ct Hs hk (λk hk=>by rw[mq]at hk;cases hk) dY hz h8 (QI cK) (arr1 cK) o.type hW h1 h2 hr
   rename_i e hk mq _;(split at hc<;>first|(cases hc;done)|skip);rename_i te dY;(split at hc<;>first|(cases hc;done)|skip);rename_i z hz;cases hc;have hv:=cZ hl hF hx;rw[eS]at hv;rw[hex (Builtin.append_ c.argTypes o.type (c.args.map a.eval)) (λ_=>rfl)];simp only[au.run]at hr;have hu:∃s u,vs=[s,u]:=by
        unfold eI at hr;(split at hr<;>first|(cases hr;done)|skip);exact⟨_,_,rfl⟩
   obtain⟨s,u,rfl⟩:=hu;obtain⟨x,y,fE,h1,h2⟩:=Dw hv;rw[fE];exact ES hT ct Hs hk (λk hk=>mq k hk) dY hz (QI cK) (arr1 cK) o.type hW h1 h2 hr
  ·
   (split at hc<;>first|(cases hc;done)|skip);rename_i t _ cK;(split at hc<;>first|(cases hc;done)|skip);rename_i ti ct;(split at hc<;>first|(cases hc;done)|skip);rename_i e hk;(split at hc<;>first|(cases hc;done)|skip);rename_i te dY;cases hc;have hv:=cZ hl hF hx;rw[eS]at hv;rw[hex (Builtin.copy_ c.argTypes o.type (c.args.map a.eval)) (λ_=>rfl)];simp only[au.run]at hr;have hu:∃s u,vs=[s,u]:=by
        unfold w5 at hr;(split at hr<;>first|(cases hr;done)|skip);exact⟨_,_,rfl⟩
   obtain⟨s,u,rfl⟩:=hu;obtain⟨x,y,fE,h1,h2⟩:=Dw hv;rw[fE];exact Ym hT ct hk dY (QI cK) o.type hW h1 h2 hr
  ·
   (split at hc<;>first|(cases hc;done)|skip);cases hc;have hv:=cZ hl hF hx;rw[eS]at hv;rw[hex (Builtin.unsafeSliceData_ c.argTypes o.type (c.args.map a.eval)) (λ_=>rfl)];simp only[au.run]at hr;have hu:∃s,vs=[s]:=by
        unfold p8 at hr;(split at hr<;>first|(cases hr;done)|skip);exact⟨_,rfl⟩
   obtain⟨s,rfl⟩:=hu;obtain⟨x,fE,h1⟩:=QH hv;rw[fE];exact Pk o.type h1 hW hr
  ·
   (split at hc<;>first|(cases hc;done)|skip);rename_i t t2 cK;(split at hc<;>first|(cases hc;done)|skip);rename_i ti ct;(split at hc<;>first|(cases hc;done)|skip);rename_i e hk;(split at hc<;>first|(cases hc;done)|skip);rename_i te dY;(split at hc<;>first|(cases hc;done)|skip);rename_i Wi h8;have h8:=H2 h8;cases hc;have hv:=cZ hl hF hx;rw[eS]at hv;rw[hex (Builtin.unsafeString_ c.argTypes o.type (c.args.map a.eval)) (λ_=>rfl)];simp only[au.run]at hr;have hu:∃s u,vs=[s,u]:=by
        unfold mh at hr;(split at hr<;>first|(cases hr;done)|skip);exact⟨_,_,rfl⟩
   obtain⟨s,u,rfl⟩:=hu;obtain⟨x,y,fE,h1,h2⟩:=Dw hv;rw[fE];exact Pm hT ct hk dY h8 cK o.type hW h1 h2 hr
  ·
   (split at hc<;>first|(cases hc;done)|skip);cases hc;have hv:=cZ hl hF hx;rw[eS]at hv;rw[hex (Builtin.min_ c.argTypes o.type (c.args.map a.eval)) (λ_=>rfl)];simp only[au.run]at hr;have hu:∃s u r,vs=[s,u]/\res= .val r:=by
        unfold zH at hr;(split at hr<;>first|(cases hr;done)|skip);split at hr<;>first|(cases hr;done)|skip
        all_goals cases hr;exact⟨_,_,_,rfl,rfl⟩
   obtain⟨s,u,r,rfl,rfl⟩:=hu;obtain⟨x,y,fE,h1,h2⟩:=Dw hv;obtain⟨z,hz,hvz⟩:=Yf (P:=P) (w:=w) h1 h2 hr;rw[fE];refine .pure (x:=z) ?_ hvz;simp[Builtin.min_,hz]
  ·
   (split at hc<;>first|(cases hc;done)|skip);cases hc;have hv:=cZ hl hF hx;rw[eS]at hv;rw[hex (Builtin.max_ c.argTypes o.type (c.args.map a.eval)) (λ_=>rfl)];simp only[au.run]at hr;have hu:∃s u r,vs=[s,u]/\res= .val r:=by
        unfold zI at hr;(split at hr<;>first|(cases hr;done)|skip);split at hr<;>first|(cases hr;done)|skip
        all_goals cases hr;exact⟨_,_,_,rfl,rfl⟩
   obtain⟨s,u,r,rfl,rfl⟩:=hu;obtain⟨x,y,fE,h1,h2⟩:=Dw hv;obtain⟨z,hz,hvz⟩:=Yg (P:=P) (w:=w) h1 h2 hr;rw[fE];refine .pure (x:=z) ?_ hvz;simp[Builtin.max_,hz]
  ·
   (split at hc<;>first|(cases hc;done)|skip);rename_i t _ cK;(split at hc<;>first|(cases hc;done)|skip);rename_i ti ct;(split at hc<;>first|(cases hc;done)|skip);rename_i e hk;(split at hc<;>first|(cases hc;done)|skip);rename_i te dY;(split at hc<;>first|(cases hc;done)|skip);rename_i z hz;cases hc;have hv:=cZ hl hF hx;rw[eS]at hv;rw[hex (Builtin.clear_ c.argTypes o.type (c.args.map a.eval)) (λ_=>rfl)];simp only[au.run]at hr;have hu:∃u,vs=[u]:=by
        unfold ua at hr;(split at hr<;>first|(cases hr;done)|skip);exact⟨_,rfl⟩
   obtain⟨u,rfl⟩:=hu;obtain⟨x,fE,hux⟩:=QH hv;rw[fE];exact Wx hT ct hk dY hz (QI cK) o.type hW hux hr
theorem Jb(hT:bE P tt)(op:Op):cm P tt op:=by
 cases op with
 |move x=>exact Yb x
 |assign x=>exact US x
 |pick c x y=>exact Yc c x y
 |alloc t=>exact Wm hT t
 |box t x=>exact aaq t x
 |build t ps=>exact Wl hT t ps
 |buildSlice t n ps=>exact M7 hT t n ps
 |insert t m k v=>exact LD hT _ t m k v (.inr rfl)
 |load t x=>exact Ye hT t x
 |store t x y=>exact Wp hT t x y
 |nilCheck x=>exact Qz x
 |binOp op t x y yt=>exact Wc hT op t x y yt
 |unOp op t x=>exact Yd op t x
 |convert s d x=>
  by_cases h:∃xs cls,eJ tt (.convert s d x)=some (.conv .bytes,xs,cls)
  .exact Pj hT s d x h
  .exact S6 hT s d x λk xs cls hc e=>h ⟨xs,cls,by rw[hc,e]⟩
 |makeInterface t x=>exact SZ hT t x
 |makeFunc f x y=>exact UT f x y
 |makeMap t r=>exact Wn t r hT
 |makeSlice t l c=>exact S7 hT t l c
 |slice t x l h m=>exact Wh hT t x l h m
 |fieldAddr t x f=>exact Pg hT t x f
 |field t x f=>exact Wd hT t x f
 |indexAddr t x i=>exact Ph hT t x i
 |index t x i=>exact We hT t x i
 |lookup t x i ok=>exact UW hT t x i ok
 |mapUpdate t m k v=>exact LD hT _ t m k v (.inl rfl)
 |range t x=>exact UY hT t x
 |next it s=>exact Ws it s
 |extract x i=>exact SY x i
 |call c=>exact Yn hT c
 |_=>intro ρ C st w k xs cls fr a o vs res ho hc;simp[eJ]at hc
end
end
section
open Go
def Reaches(P:Program)(R:Value->World->Prop):Result Next->Prop
 |.ok (.value x) w'=>R x w'
 |.ok .skip w'=>R undef w'
 |.ok (.enter f args) w'=>Calls P f args w' λ|.returned v,Z4=>R v Z4|_,_=>False
 |.ok (.row row args) w'=>Rows P row args w' R
 |_=>False
theorem Reaches.mono{P:Program}{R R':Value->World->Prop}(h:∀x w,R x w->R' x w):∀{r:Result Next},Reaches P R r->Reaches P R' r
 |.ok (.value _) _,hr=>h _ _ hr
 |.ok .skip _,hr=>h _ _ hr
 |.ok (.enter _ _) _,hr=>Calls.mono hr λe w he=>by cases e<;>first|exact h _ _ he|exact he
 |.ok (.row _ _) _,hr=>Rows.mono hr h
section
variable(P:Program)(ops:Array Oper)
def M9(o:Oper)(K:Act->World->Prop)(a:Act)(w:World):Prop:=Reaches P (λx w'=>K (a.put o.dst x) w') ((execOp a.eval o).run P w)
def z9(i:Nat)(K:Act->World->Prop)(a:Act)(w:World):Prop:=
 match ops[i]? with
 |none=>K a w
 |some o=>if Region.wanted o (yielded ops a.tmps)then M9 P o K a w else K (a.put o.dst undef) w
def nF(K:Act->World->Prop):List Nat->Act->World->Prop
 |[],a,w=>K a w
 |i::l,a,w=>z9 P ops i (nF K l) a w
def P4(K:Act->World->Prop):Nat->Array Bool->Act->World->Prop
 |0,listed,a,w=>Region.ready .any ops listed=[]/\K a w
 |fuel+1,listed,a,w=>(Region.ready .any ops listed=[]->K a w)/\∀i∈Region.ready .any ops listed,z9 P ops i (P4 K fuel (listed.setIfInBounds i true)) a w
end
section
variable{P:Program}{ops:Array Oper}
theorem Oi{i:Nat}{K K':Act->World->Prop}{a:Act}{w:World}(h:∀a w,K a w->K' a w)(hh:z9 P ops i K a w):z9 P ops i K' a w:=by
 unfold z9 at*
 split
 .rename_i ho;rw[ho]at hh;exact h _ _ hh
 . rename_i o ho;rw[ho]at hh;dsimp only at hh;split
   .rename_i hw;rw[Za7 hw]at hh;exact Reaches.mono (λx w' hk=>h _ _ hk) hh
   .rename_i hw;rw[Za4 hw]at hh;exact h _ _ hh
theorem Oj{K:Act->World->Prop}{l2:List Nat}:∀(l1:List Nat)(a:Act)(w:World),nF P ops (nF P ops K l2) l1 a w->nF P ops K (l1++l2) a w
 |[],_,_,h=>h
 |_::l1,_,_,h=>Oi (λa w=>Oj l1 a w) h
end
section
variable(P:Program)
def Ht(R:(Exit->Act->World->Prop)->Act->World->Prop)(Q:Exit->Act->World->Prop):Nat->Act->World->Prop
 |0,_,_=>False
 |n+1,a,w=>R (Exit.then (Ht R Q n) Q) a w
def dI:Code->(Exit->Act->World->Prop)->Act->World->Prop
 |.skip,Q,a,w=>Q .normal a w
 |  .region _ ops draw,Q,a,w=>match draw with
    |false=>nF P ops (Q .normal) (List.range ops.size) a w
    |true=>P.follows .mixedOrders=true/\P4 P ops (Q .normal) ops.size (Array.replicate ops.size false) a { w with drawn:=w.drawn+1 }
 |.seq x y,Q,a,w=>dI x (Exit.then (dI y Q) Q) a w
 |  .cond c x y,Q,a,w=>∃t,a.eval c= .bool t/\match t with
    |true=>dI x Q a w
    |false=>dI y Q a w
 |.block id x,Q,a,w=>dI x (Exit.inBlock id Q) a w
 |.loop x,Q,a,w=>∃n,Ht (dI x) Q n a w
 |.exit id,Q,a,w=>Q (.exit id) a w
 |.ret,Q,a,w=>Q .ret a w
 |_,_,_,_=>False
end
section
variable{P:Program}{Q:Exit->Act->World->Prop}{a:Act}{w:World}
theorem Wy(h:Q .normal a w):dI P .skip Q a w:=h
theorem Wz{id:Nat}(h:Q (.exit id) a w):dI P (.exit id) Q a w:=h
theorem Aa{x y:Code}(h:dI P x (Exit.then (dI P y Q) Q) a w):dI P (.seq x y) Q a w:=h
theorem LF{id:Nat}{x:Code}(h:dI P x (Exit.inBlock id Q) a w):dI P (.block id x) Q a w:=h
theorem Cx{id:Nat}{ops:Array Oper}(h:nF P ops (Q .normal) (List.range ops.size) a w):dI P (.region id ops false) Q a w:=h
theorem Na{c:Operand}{x y:Code}(hc:a.eval c= .bool true)(h:dI P x Q a w):dI P (.cond c x y) Q a w:=⟨true,hc,h⟩
theorem LG{c:Operand}{x y:Code}(hc:a.eval c= .bool false)(h:dI P y Q a w):dI P (.cond c x y) Q a w:=⟨false,hc,h⟩
theorem WA{x:Code}(n:Nat)(h:Ht (dI P x) Q n a w):dI P (.loop x) Q a w:=⟨n,h⟩
theorem Ol{R:(Exit->Act->World->Prop)->Act->World->Prop}{n:Nat}:Ht R Q (n+1) a w=R (Exit.then (Ht R Q n) Q) a w:=rfl
end
def nG:Code->List Nat
 |.region _ ops _=>ops.toList.filterMap (·.dst)
 |.seq a b=>nG a++nG b
 |.cond _ a b=>nG a++nG b
 |.block _ a=>nG a
 |.loop a=>nG a
 |_=>[]
abbrev Fc(r:Option Nat):Fence:={ Fence.wide with round:=r }
section
variable{P:Program}{r:Option Nat}{n:Nat}{ts:Nat->Prop}{x:Array Value}{ds D:List Deferred}
def InF(D ds:List Deferred)(ts:Nat->Prop)(x:Array Value)(Q:Exit->Act->World->Prop):Exit->Act->World->Prop:=
 λe a w=>a.defers=D/\(∀t,ts t->a.tmps[t]? =x[t]?)/\Q e ⟨a.tmps,ds⟩ w
theorem aat{row:String}{args:Array Value}{w:World}{R:Value->World->Prop}(h:Rows P row args w R):RowsIn (Fc r) n P row args w R:=
 λc cs _=>let⟨v,w',hr,hs⟩:=h c cs;⟨v,w',hr,stepsIn_wide.2 hs⟩
theorem Yp{f:FuncId}{args:Array Value}{w:World}{R:Ending->World->Prop}(h:Calls P f args w R):CallsIn (Fc r) n P f args w R:=callsIn_wide.2 h
theorem Dy{T:Array Value}{o:Operand}:(⟨T,ds⟩:Act).eval o=(⟨T,D⟩:Act).eval o:=by cases o<;>rfl
theorem abl{T:Array Value}{d:Option Tmp}{v:Value}:(⟨T,ds⟩:Act).put d v=⟨((⟨T,D⟩:Act).put d v).tmps,ds⟩:=by cases d<;>rfl
theorem aau{T:Array Value}{d:Option Tmp}{v:Value}:(⟨T,ds⟩:Act).put d v=⟨((⟨T,ds⟩:Act).put d v).tmps,ds⟩:=by cases d<;>rfl
theorem Yq{T:Array Value}{d:Option Tmp}{v:Value}{t:Nat}(h:d≠some t):((⟨T,ds⟩:Act).put d v).tmps[t]? =T[t]? :=by
 cases d with
 |none=>rfl
 |some e=>
  show(T.setIfInBounds e v)[t]? =T[t]?;exact Zd0 λh'=>h (by rw[h'])
theorem aav{o:Oper}{K:Act->World->Prop}{K':Act->World->Prop}{Q:Exit->Act->World->Prop}{T:Array Value}{w:World}(h:M9 P o K ⟨T,ds⟩ w)
  (hK:∀v w',K ((⟨T,ds⟩:Act).put o.dst v) w'->K' ((⟨T,D⟩:Act).put o.dst v) w'):o.wpIn (Fc r) n P ⟨T,D⟩ w K' Q:=by
 refine⟨λ_ _=>trivial,?_⟩;have he:(⟨T,D⟩:Act).eval=(⟨T,ds⟩:Act).eval:=funext λ_=>Dy
 rw[he];unfold M9 at h;have hs:o.semAt r (⟨T,ds⟩:Act).eval=execOp (⟨T,ds⟩:Act).eval o:=by
  cases r with
  |none=>rfl
  | some l=>
    unfold Oper.semAt;(cases ho:o.op<;>first|rfl|skip);exfalso;unfold execOp at h;rw[ho]at h;simp only[Sem.run_bind,Sem.run_pure]at h;cases hr:(resolve (⟨T,ds⟩:Act).eval _ o.type).run P w<;>rw[hr]at h<;>simp[Result.andThen,Reaches]at h
 show o.uponIn (Fc r) n P _ _ _ ((o.semAt r (⟨T,ds⟩:Act).eval).run P w);rw[hs];generalize (execOp (⟨T,ds⟩:Act).eval o).run P w=z at h;cases z with
 |ok m w'=>
  cases m<;>simp only[Reaches]at h
  .exact hK _ _ h
  .exact hK _ _ h
  .exact⟨λhd=>by simp[Fence.wide]at hd,(Yp h).mono λe w he=>by cases e<;>first|exact hK _ _ he|exact he.elim⟩
  .exact⟨λhd=>by simp[Fence.wide]at hd,(aat h).mono λv w he=>hK _ _ he⟩
 |halt v w'=>simp only[Reaches]at h
theorem TL{ops:Array Oper}{i:Nat}{K K':Act->World->Prop}{Q:Exit->Act->World->Prop}{T:Array Value}{w:World}(h:z9 P ops i K ⟨T,ds⟩ w)(cK:∀o,ops[i]? =some o->∀t,o.dst=some t->¬ts t)
   (hx:∀t,ts t->T[t]? =x[t]?) (hK:∀T' w',(∀t,ts t->T'[t]? =x[t]?)->K ⟨T',ds⟩ w'->K' ⟨T',D⟩ w'):wpOpIn (Fc r) n P ops Q i K' ⟨T,D⟩ w:=by
 unfold z9 at h;unfold wpOpIn;split at h
 .rename_i ho;rw[ho];exact hK _ _ hx h
 . (rename_i o ho;rw[ho];have U5:∀v t,ts t->((⟨T,D⟩:Act).put o.dst v).tmps[t]? =x[t]? :=λv t ht=>by rw[Yq (λhd=>cK o ho t hd ht)];exact hx t ht);have kT:∀v w',K ((⟨T,ds⟩:Act).put o.dst v) w'->K' ((⟨T,D⟩:Act).put o.dst v) w':=λv w' hk=>by rw[abl (D:=D)]at hk;rw[aau];exact hK _ _ (U5 v) hk
   show if Region.wanted o (yielded ops T)=true then _ else _
   dsimp only at h;split at h
   .rename_i hw;rw[Za7 hw];exact aav h kT
   .rename_i hw;rw[Za4 hw];exact⟨λ_ _=>trivial,kT _ _ h⟩
theorem WB{ops:Array Oper}(cK:∀t∈ops.toList.filterMap (·.dst),¬ts t){i:Nat}:∀o,ops[i]? =some o->∀t,o.dst=some t->¬ts t:=λo ho t ht=>cK t (by
 rw[Zk6];exact⟨o,by rw[Zk0];exact Zj6 ho,ht⟩)
theorem EU{ops:Array Oper}{K:Act->World->Prop}{Q:Exit->Act->World->Prop}{l2:List Nat}(hK:∀T' w',(∀t,ts t->T'[t]? =x[t]?)->K ⟨T',ds⟩ w'->wpOpsIn (Fc r) n P ops Q l2 ⟨T',D⟩ w'):
  ∀(l:List Nat)(T:Array Value)(w:World),(∀i∈l,∀o,ops[i]? =some o->∀t,o.dst=some t->¬ts t)->(∀t,ts t->T[t]? =x[t]?)->nF P ops K l ⟨T,ds⟩ w->wpOpsIn (Fc r) n P ops Q (l++l2) ⟨T,D⟩ w
 |[],T,w,_,hx,h=>hK T w hx h
 |i::l,T,w,cK,hx,h=>by rw[Ze7,wpOpsIn_cons];exact TL h (cK i (Zb9 ..)) hx λT' w' nr hk=>EU hK l T' w' (λj hj=>cK j (Za1 _ hj)) nr hk
theorem QJ{ops:Array Oper}{K K':Act->World->Prop}{Q:Exit->Act->World->Prop}(hQ:Q .normal=K')(cK:∀t∈ops.toList.filterMap (·.dst),¬ts t)(hK:∀T' w',(∀t,ts t->T'[t]? =x[t]?)->K ⟨T',ds⟩ w'->K' ⟨T',D⟩ w'):
  ∀(fuel:Nat)(listed:Array Bool)(T:Array Value)(w:World),(∀t,ts t->T[t]? =x[t]?)->P4 P ops K fuel listed ⟨T,ds⟩ w->wpAnyIn (Fc r) n P .any ops Q fuel listed ⟨T,D⟩ w
 |0,listed,T,w,hx,h=>⟨h.1,by rw[hQ];exact hK T w hx h.2⟩
 |fuel+1,listed,T,w,hx,h=>⟨λhr=>by rw[hQ];exact hK T w hx (h.1 hr),λi hi=>TL (h.2 i hi) (WB cK) hx λT' w' nr hk=>QJ hQ cK hK fuel _ T' w' nr hk⟩
theorem dI.TM:∀(c:Code)(Q:Exit->Act->World->Prop)(T:Array Value)(w:World),(∀t∈nG c,¬ts t)->(∀t,ts t->T[t]? =x[t]?)->dI P c Q ⟨T,ds⟩ w->
  c.wpIn (Fc r) n P (InF D ds ts x Q) ⟨T,D⟩ w:=by
 intro c;induction c with
 |skip=>exact λQ T w _ hx h=>wpIn_skip ⟨rfl,hx,h⟩
 |region i ops d=>
  intro Q T w cK hx h;cases d
  .refine wpIn_region ?_;rw[<-Zf4 (List.range ops.size)];exact EU (λT' w' nr hk=>by show InF D ds ts x Q .normal _ _;exact⟨rfl,nr,hk⟩) _ T w (λ_ _=>WB cK) hx h
  .exact wpIn_region_any h.1 (QJ rfl cK (λT' w' nr hk=>⟨rfl,nr,hk⟩) _ _ T _ hx h.2)
 |seq a b QK QL=>
  intro Q T w cK hx h;refine wpIn_seq (wpIn_mono (QK _ T w (λt ht=>cK t (Zh8 _ ht)) hx h) ?_);rintro e ⟨T',D'⟩ w' ⟨h1,h2,h3⟩;dsimp only at h1;subst h1;cases e with
  |normal=>exact QL Q T' w' (λt ht=>cK t (Zh4 _ ht)) h2 h3
  |_=>exact⟨rfl,h2,h3⟩
 |cond c a b QK QL=>
  intro Q T w cK hx h;obtain⟨t,ht,h⟩:=h;refine wpIn_cond (t:=t) (by rw[<-ht];exact Dy) ?_;cases t
  .exact QL Q T w (λt ht=>cK t (Zh4 _ ht)) hx h
  .exact QK Q T w (λt ht=>cK t (Zh8 _ ht)) hx h
 |block id a ih=>
  intro Q T w cK hx h;refine wpIn_block (wpIn_mono (ih _ T w cK hx h) ?_);rintro e a' w' ⟨h1,h2,h3⟩;cases e with
  | exit i=>
    simp only[Exit.inBlock]at h3 ⊢;split<;>(rename_i hi;first|rw[Za7 hi]at h3|rw[Za4 hi]at h3)<;>exact⟨h1,h2,h3⟩
  |_=>exact⟨h1,h2,h3⟩
 |loop a ih=>
  intro Q T w cK hx h;obtain⟨m,h⟩:=h;refine wpIn_loop_rounds m ?_;induction m generalizing T w with
  |zero=>exact h.elim
  | succ m ihm=>
    rw[roundsIn_succ];refine wpIn_mono (ih _ T w cK hx h) ?_;rintro e ⟨T',D'⟩ w' ⟨h1,h2,h3⟩;dsimp only at h1;subst h1;cases e with
    |normal=>exact ihm T' w' h2 h3
    |_=>exact⟨rfl,h2,h3⟩
 |exit id=>exact λQ T w _ hx h=>wpIn_exit ⟨rfl,hx,h⟩
 |ret=>exact λQ T w _ hx h=>wpIn_ret ⟨rfl,hx,h⟩
 |_=>exact λQ T w _ _ h=>h.elim
theorem dI.wp{c:Code}{Q:Exit->Act->World->Prop}{a:Act}{w:World}(h:dI P c Q a w):c.wp P Q a w:=by refine wpIn_wide (n:=0) |>.1 (wpIn_mono (dI.TM (r:=none) (D:=a.defers) (ds:=a.defers) (ts:=λ_=>False) (x:= #[]) c Q a.tmps w (λ_ _ h=>h) (λ_ h=>h.elim) h) ?_);rintro e ⟨T,D⟩ w' ⟨h1,_,h3⟩;dsimp only at h1;subst h1;exact h3
end
end
section
open Go Go.RowKit
def jW(ρ:Pos->Loc)(C:Cells)(st:St)(w:World)(v:AV)(st':St)(x:Value)(w':World):Prop:=
 ∃ρ',aj ρ' st'.next.toNat C v x/\(∀b:Pos,b.toNat<st.next.toNat->ρ' b=ρ b)/\st.next.toNat<=st'.next.toNat/\aM ρ' C st' w'/\iy ρ st w ρ' st' w'
def dS(P:Program)(C:Cells)(call:ah):Prop:=
 ∀  (ρ:Pos->Loc)(st:St)(w:World)(f:FuncId)(args:List AV)(v:AV)(st':St)(br:List Value),call f args st=some (v,st')->
    aM ρ C st w->ak ρ st.next.toNat C args br->Reaches P (jW ρ C st w v st') ((callFunc f br.toArray).run P w)
section
variable{P:Program}{tt:TT}{C:Cells}{call:ah}
theorem St.QM(st:St)(del:Option Pos)(set:Option (Pos×AB))(new:Option AB):st.next.toNat<=(st.aC del set new).next.toNat:=by
 cases new with
 |none=>exact H5 _
 |some x=>simp only[St.aC,Pos.ay];omega
theorem JN(hT:bE P tt)(bw:dS P C call){ρ:Pos->Loc}{st st':St}{w:World}{k:au}{xs:List dh}{cls:TA}{fr:Fr}{a:Act}{o:Oper}{vs:List AV}{v:AV}
   (hc:eJ tt o.op=some (k,xs,cls)) (hW:aM ρ C st w) (hF:eg ρ st.next.toNat C fr a.tmps) (hx:di fr xs=some vs)
   (hs:bQ call k vs st=some (v,st')):Reaches P (jW ρ C st w v st') ((execOp a.eval o).run P w):=by
 have H:=Jb hT o.op ρ C st w k xs cls fr a o vs;unfold bQ at hs;split at hs
 . rename_i u hr;simp only[H0,Za8]at hs;obtain⟨rfl,rfl⟩:=hs;obtain⟨N,x,he,hy,hv⟩:=H _ rfl hc hW hF hx hr;have hp:jW ρ C st w u st x w:=⟨ρ,hv,λ_ _=>rfl,H5 _,hW,iy.refl _ _ _⟩
   rw[he];rcases hy with rfl|⟨rfl,rfl⟩<;>exact hp
 . rename_i u del set new hr;simp only[H0,Za8]at hs;obtain⟨rfl,rfl⟩:=hs;obtain⟨N,x,w',ρ',he,hy,aL,dG,hv,hE⟩:=H _ rfl hc hW hF hx hr;have hp:jW ρ C st w u (st.aC del set new) x w':=⟨ρ',hv,aL,St.QM _ _ _ _,dG,hE⟩
   rw[he];rcases hy with rfl|⟨rfl,rfl⟩<;>exact hp
 .rename_i f args hr;obtain⟨br,he,hv⟩:=H _ rfl hc hW hF hx hr;rw[he];exact bw ρ st w f args v st' br hs hW hv
 .cases hs
structure qY(tt:TT)(nt:Nat)(ops:Array Oper)(o:Oper)(ao:aU):Prop where
 dst:ao.dst=o.dst.map key
 lt:∀d,o.dst=some d->d<nt
 guard:Lm ops o.guard=some ao.guard
 op:(eJ tt o.op=some (ao.k,ao.xs,ao.cls))\/(ao.k= .bad/\ao.cls= .aC)
theorem lf{nt:Nat}{ops:Array Oper}:∀{os:List Oper}{bs:List Nat}{l:List aU},kR tt nt ops os bs=some l->
  l.length=os.length/\∀(i:Nat)(o:Oper),os[i]? =some o->∃ao,l[i]? =some ao/\qY tt nt ops o ao/\ao.bl=bs.getD i 0
 |[],bs,l,h=>by simp[kR]at h;subst h;exact⟨rfl,λi o ho=>by simp at ho⟩
 |o ::os,bs,l,h=>by
  unfold kR at h;split at h<;>first|(cases h;done)|skip
  rename_i g l' hg hl hd;obtain⟨h1,h2⟩:=lf hl;have aW:∀d,o.dst=some d->d<nt:=λd hdd=>by rw[hdd]at hd;simpa [kR.ZN]using hd
  have hb:∀i,bs.tail.getD i 0=bs.getD (i+1) 0:=λi=>by cases bs<;>simp
  have Tt:bs.headD 0=bs.getD 0 0:=by cases bs<;>simp
  split at h
  . rename_i k xs cls hc;simp only[H0]at h;subst h;refine⟨by simp[h1],λi o' ho=> ?_⟩;cases i with
    |   zero=>
        simp at ho;subst ho;exact⟨_,rfl,⟨rfl,aW,hg,.inl hc⟩,Tt⟩
    |   succ i=>
        simp at ho;obtain⟨ao,h3,h4,h5⟩:=h2 i o' ho;exact⟨ao,by simpa using h3,h4,by rw[h5,hb]⟩
  . simp only[H0]at h;subst h;refine⟨by simp[h1],λi o' ho=> ?_⟩;cases i with
    |   zero=>
        simp at ho;subst ho;exact⟨_,rfl,⟨rfl,aW,hg,.inr ⟨rfl,rfl⟩⟩,Tt⟩
    |   succ i=>
        simp at ho;obtain⟨ao,h3,h4,h5⟩:=h2 i o' ho;exact⟨ao,by simpa using h3,h4,by rw[h5,hb]⟩
theorem Ab{ops:Array Oper}{ρ:Pos->Loc}{n:Nat}{fr:Fr}{a:Act}{o:Oper}{g:Option (Pos×Bool)}{b:Bool}(hg:Lm ops o.guard=some g)
   (hF:∀p v,fr.get p=some v->(∃q,g=some (p,q))->∃x,a.tmps[p.toNat - 1]? =some x/\aj ρ n C v x)
   (hw:bA fr g=some b):Region.wanted o (yielded ops a.tmps)=b:=by
 unfold Region.wanted;unfold Lm at hg;split at hg
 .rename_i hn;simp only[H0]at hg;subst hg;simp only[bA,H0]at hw;subst hw;rw[hn]
 . rename_i j want hn;rw[hn];(split at hg<;>first|(cases hg;done)|skip);rename_i oj hj;(split at hg<;>first|(cases hg;done)|skip);rename_i d hd;simp only[H0]at hg;subst hg;simp only[bA]at hw;split at hw
   .rename_i u hu;simp only[H0]at hw;subst hw;obtain⟨x,hx,hv⟩:=hF _ _ hu ⟨_,rfl⟩;rw[dM,Zd9]at hx;have:=hv.fo;subst this;simp[yielded,hj,hd,hx]
   .rename_i l hu;simp only[H0]at hw;subst hw;obtain⟨x,hx,hv⟩:=hF _ _ hu ⟨_,rfl⟩;rw[dM,Zd9]at hx;obtain⟨cs,rfl,_⟩:=hv.N8;simp[yielded,hj,hd,hx]
   .cases hw
theorem aj.Om{ρ:Pos->Loc}{n:Nat}:aj ρ n C AV.undef undef:= .tuple [] #[] rfl λ_ _ _ h=>by simp at h
theorem Act.fP(a:Act)(d:Option Tmp)(v:Value):(a.put d v).tmps.size=a.tmps.size:=by cases d<;>simp[Act.put]
theorem Act.gU(a:Act)(d:Option Tmp)(v:Value):(a.put d v).defers=a.defers:=by cases d<;>rfl
theorem eg.put{ρ:Pos->Loc}{n nt:Nat}{fr:Fr}{a:Act}{d:Option Tmp}{v:AV}{x:Value}(hF:eg ρ n C fr a.tmps)(hs:a.tmps.size=nt)
  (hd:∀e,d=some e->e<nt) (hv:aj ρ n C v x):eg ρ n C (cA fr (d.map key) v) (a.put d x).tmps:=by
 cases d with
 |none=>exact hF
 |some e=>
  have he:=hd e rfl;intro p u hp;simp only[Zd6,cA]at hp;simp only[Act.put];by_cases LH:key e=p
  .subst LH;rw[T.dJ]at hp;simp only[H0]at hp;subst hp;refine⟨x,?_,hv⟩;rw[dM,Zd9,Zj5];simp[hs,he]
  .rw[T.bk _ LH]at hp;obtain⟨y,hy,hr⟩:=hF p u hp;refine⟨y,?_,hr⟩;rw[Zd0,hy];intro h;apply LH;apply Pos.toNat_inj;rw[dM];have:=p.toNat_pos;omega
theorem eg.mono{ρ ρ':Pos->Loc}{n n':Nat}{fr:Fr}{tmps:Array Value}(hF:eg ρ n C fr tmps)(aL:∀b:Pos,b.toNat<n->ρ' b=ρ b)(hn:n<=n'):eg ρ' n' C fr tmps:=
 λp v hp=>let⟨x,hx,hv⟩:=hF p v hp;⟨x,hx,hv.mono aL hn⟩
structure kg(nt:Nat)(ρ:Pos->Loc)(C:Cells)(fr:Fr)(st:St)(a:Act)(w:World):Prop where
 W:aM ρ C st w
 F:eg ρ st.next.toNat C fr a.tmps
 size:a.tmps.size=nt
 defers:a.defers=[]
def ew(nt:Nat)(ρ:Pos->Loc)(C:Cells)(st:St)(w:World)(aN:Fr)(st':St)(a':Act)(w':World):Prop:=
 ∃ρ',kg nt ρ' C aN st' a' w'/\(∀b:Pos,b.toNat<st.next.toNat->ρ' b=ρ b)/\st.next.toNat<=st'.next.toNat/\iy ρ st w ρ' st' w'
theorem ew.refl{nt:Nat}{ρ:Pos->Loc}{fr:Fr}{st:St}{a:Act}{w:World}(h:kg nt ρ C fr st a w):ew nt ρ C st w fr st a w:=
 ⟨ρ,h,λ_ _=>rfl,H5 _,iy.refl _ _ _⟩
theorem ew.trans{nt:Nat}{ρ cV:Pos->Loc}{ru:Fr}{st aJ iU:St}{a2:Act}{w w1 w2:World}
  (h1:∀b:Pos,b.toNat<st.next.toNat->cV b=ρ b) (h2:st.next.toNat<=aJ.next.toNat) (h3:iy ρ st w cV aJ w1)
  (h:ew nt cV C aJ w1 ru iU a2 w2):ew nt ρ C st w ru iU a2 w2:=by
 obtain⟨jR,k1,k2,k3,k4⟩:=h;exact⟨jR,k1,λb hb=>(k2 b (Zb5 hb h2)).trans (h1 b hb),Zc1 h2 k3,h3.trans k4⟩
theorem Reaches.bad{k:au}{vs:List AV}{st:St}{r:AV×St}(hk:k= .bad)(h:bQ call k vs st=some r):False:=by subst hk;simp[bQ,au.run]at h
theorem nH(hT:bE P tt)(bw:dS P C call){nt:Nat}{ops:Array Oper}{K:Act->World->Prop}:∀(QN:List aU)(k:Nat)(fr aN:Fr)(st st':St)(ρ:Pos->Loc)(a:Act)(w:World),
  (∀(i:Nat)(ao:aU),QN[i]? =some ao->∃o,ops[k+i]? =some o/\qY tt nt ops o ao)->
  gM call QN fr st=some (aN,st')->kg nt ρ C fr st a w->(∀a' w',ew nt ρ C st w aN st' a' w'->K a' w')->nF P ops K (List.range' k QN.length) a w
 |[],k,fr,aN,st,st',ρ,a,w,_,h,hS,hQ=>by
  simp only[gM,H0,Za8]at h;obtain⟨rfl,rfl⟩:=h;exact hQ a w (ew.refl hS)
 |ao::QN,k,fr,aN,st,st',ρ,a,w,ho,h,hS,hQ=>by
  obtain⟨o,cJ,hR⟩:=ho 0 ao rfl;rw[Zh6]at cJ;have BM:∀(i:Nat)(WC:aU),QN[i]? =some WC->∃o,ops[k+1+i]? =some o/\qY tt nt ops o WC:=λi WC hi=>by
    obtain⟨o',h1,h2⟩:=ho (i+1) WC (by simpa using hi);exact⟨o',by rw[<-h1];congr 1;omega,h2⟩
  simp only[Ze6,Zl9,nF,z9,cJ];unfold gM at h;split at h
  . rename_i hw;rw[Za7 (Ab hR.guard (λp v hp _=>hS.F p v hp) hw)];(split at h<;>first|(cases h;done)|skip);rename_i vs fV;(split at h<;>first|(cases h;done)|skip);rename_i v aJ nu;rcases hR.op with hc|⟨hk,_⟩
    .   have hr:=JN hT bw hc hS.W hS.F fV nu;(refine hr.mono λx w1 hp=> ?_);obtain⟨cV,hv,h1,h2,QO,hE⟩:=hp;rw[hR.dst]at h;refine nH hT bw QN (k+1) _ aN aJ st' cV _ w1 BM h ⟨QO,eg.put (hS.F.mono h1 h2) hS.size hR.lt hv,by rw[Act.fP];exact hS.size,by rw[Act.gU];exact hS.defers⟩ λa' w' hp=>hQ a' w' (ew.trans h1 h2 hE hp)
    .   exact(Reaches.bad hk nu).elim
  .rename_i hw;rw[Za4 (by rw[Ab hR.guard (λp v hp _=>hS.F p v hp) hw];simp)];rw[hR.dst]at h;exact nH hT bw QN (k+1) _ aN st st' ρ _ w BM h ⟨hS.W,eg.put hS.F hS.size hR.lt .Om,by rw[Act.fP];exact hS.size,by rw[Act.gU];exact hS.defers⟩ hQ
  .cases h
theorem xe{nt:Nat}{ops:Array Oper}{l:List aU}{bs:List Nat}(h:kR tt nt ops ops.toList bs=some l)(i:Nat)(ao:aU)(hi:l[i]? =some ao):
  ∃o,ops[i]? =some o/\qY tt nt ops o ao/\ao.bl=bs.getD i 0:=by
 obtain⟨h1,h2⟩:=lf h;have aW:i<ops.toList.length:=by rw[<-h1];exact(H3.1 hi).1
 obtain⟨WC,h3,h4,h5⟩:=h2 i _ (H1 aW);rw[hi]at h3;simp only[H0]at h3;subst h3;exact⟨_,by rw[<-Ze9];exact H1 aW,h4,h5⟩
theorem QT(hT:bE P tt)(bw:dS P C call){nt id:Nat}{ops:Array Oper}{bs:List Nat}{l:List aU}{Q:Exit->Act->World->Prop}{fr aN:Fr}{st st':St}{ρ:Pos->Loc}{a:Act}{w:World}
  (hl:kR tt nt ops ops.toList bs=some l) (h:gM call l fr st=some (aN,st')) (hS:kg nt ρ C fr st a w)
  (hQ:∀a' w',ew nt ρ C st w aN st' a' w'->Q .normal a' w'):dI P (Code.region id ops false) Q a w:=by
 show nF P ops (Q .normal) (List.range ops.size) a w;have hlen:l.length=ops.size:=by rw[(lf hl).1,Ze4]
 rw[Zk1, <-hlen];exact nH hT bw l 0 fr aN st st' ρ a w (λi ao hi=>by
  obtain⟨o,h1,h2,_⟩:=xe hl i ao hi;exact⟨o,by rw[Zc8];exact h1,h2⟩) h hS hQ
end
section
variable{P:Program}{tt:TT}{C:Cells}{call:ah}
def oD(P:Program)(tt:TT)(C:Cells)(call:ah):Prop:=
 ∀  (nt id:Nat)(ops:Array Oper)(l:List aU)(Q:Exit->Act->World->Prop)(fr aN:Fr)(st st':St)(ρ:Pos->Loc)(a:Act)(w:World),
    kR tt nt ops ops.toList (Qp ops.toList [])=some l->Dj l.length 0 (tu (zR 0 l) [])=true->cr call (tu (zR 0 l) []) [] st.heap fr st=some (aN,st')->kg nt ρ C fr st a w->
    (∀a' w',ew nt ρ C st w aN st' a' w'->Q .normal a' w')->dI P (Code.region id ops true) Q a w
def kL:gY->Exit
 |.normal=>.normal
 |.exit id=>.exit id
 |.ret=>.ret
def LJ(P:Program)(tt:TT)(C:Cells)(call:ah)(nt m:Nat):Prop:=
 ∀  (c:Code)(ac:AC)(fr aN:Fr)(st st':St)(ex:gY)(ρ:Pos->Loc)(a:Act)(w:World)(Q:Exit->Act->World->Prop),
    pK tt nt c=some ac->exec call m ac fr st=some (ex,aN,st')->kg nt ρ C fr st a w->
    (∀a' w',ew nt ρ C st w aN st' a' w'->Q (kL ex) a' w')->dI P c Q a w
def LL(P:Program)(tt:TT)(C:Cells)(call:ah)(nt m:Nat):Prop:=
 ∀  (c:Code)(ac:AC)(fr aN:Fr)(st st':St)(ex:gY)(ρ:Pos->Loc)(a:Act)(w:World)(Q:Exit->Act->World->Prop),
    pK tt nt c=some ac->exec call m (.loop ac) fr st=some (ex,aN,st')->kg nt ρ C fr st a w->
    (∀a' w',ew nt ρ C st w aN st' a' w'->Q (kL ex) a' w')->Ht (dI P c) Q m a w
theorem On{nt m:Nat}(Ac:LJ P tt C call nt m)(ihL:LL P tt C call nt m):LL P tt C call nt (m+1):=by
 intro c ac fr aN st st' ex ρ a w Q hc h hS hQ;simp only[exec,aO]at h;show dI P c (Exit.then (Ht (dI P c) Q m) Q) a w;split at h
 .rename_i bF aJ h1;(refine Ac c ac fr bF st aJ .normal ρ a w _ hc h1 hS λa1 w1 hp=> ?_);obtain⟨cV,qg,k1,k2,k3⟩:=hp;exact ihL c ac bF aN aJ st' ex cV a1 w1 Q hc h qg λa2 w2 hp=>hQ a2 w2 (ew.trans k1 k2 k3 hp)
 . rename_i cW;cases ex with
   |normal=>exact(cW _ _ h).elim
   |exit id=>exact Ac c ac fr aN st st' (.exit id) ρ a w _ hc h hS λa1 w1 hp=>hQ a1 w1 hp
   |ret=>exact Ac c ac fr aN st st' .ret ρ a w _ hc h hS λa1 w1 hp=>hQ a1 w1 hp
theorem WD(hT:bE P tt)(bw:dS P C call)(eG:oD P tt C call){nt m:Nat}(Ac:LJ P tt C call nt m)(ihL:LL P tt C call nt m):LJ P tt C call nt (m+1):=by
 intro c ac fr aN st st' ex ρ a w Q hc h hS hQ;have ab2:=On Ac ihL;unfold pK at hc;split at hc<;>first|(cases hc;done)|skip
 .simp only[H0]at hc;subst hc;simp only[exec,aO,H0,Za8]at h;obtain⟨rfl,rfl,rfl⟩:=h;exact hQ _ _ (ew.refl hS)
 . rename_i ix ops draw;(split at hc<;>first|(cases hc;done)|skip);rename_i l hl;split at hc
   .simp only[H0]at hc;subst hc;simp only[exec,aO]at h;(split at h<;>first|(cases h;done)|skip);rename_i bF aJ h1;simp only[H0,Za8]at h;obtain⟨rfl,rfl,rfl⟩:=h;exact QT hT bw hl h1 hS hQ
   . (split at hc<;>first|(cases hc;done)|skip);rename_i ht;simp only[H0]at hc;subst hc;simp only[exec,aO]at h;(split at h<;>first|(cases h;done)|skip);rename_i bF aJ h1;simp only[H0,Za8]at h;obtain⟨rfl,rfl,rfl⟩:=h;exact eG nt _ ops l Q fr bF st aJ ρ a w hl ht h1 hS hQ
 . (split at hc<;>first|(cases hc;done)|skip);rename_i x y h1 h2;simp only[H0]at hc;subst hc;simp only[exec,aO]at h;show dI P _ (Exit.then (dI P _ Q) Q) a w;split at h
   .rename_i bF aJ h3;(refine Ac _ _ fr bF st aJ .normal ρ a w _ h1 h3 hS λa1 w1 hp=> ?_);obtain⟨cV,qg,k1,k2,k3⟩:=hp;exact Ac _ _ bF aN aJ st' ex cV a1 w1 Q h2 h qg λa2 w2 hp=>hQ a2 w2 (ew.trans k1 k2 k3 hp)
   . rename_i cW;cases ex with
     |normal=>exact(cW _ _ h).elim
     |exit id=>exact Ac _ _ fr aN st st' (.exit id) ρ a w _ h1 h hS λa1 w1 hp=>hQ a1 w1 hp
     |ret=>exact Ac _ _ fr aN st st' .ret ρ a w _ h1 h hS λa1 w1 hp=>hQ a1 w1 hp
 . (split at hc<;>first|(cases hc;done)|skip);rename_i x y z h1 h2 h3;simp only[H0]at hc;subst hc;simp only[exec,aO]at h;split at h
   .rename_i hx;exact⟨true,(nD h1 hS.F hx).fo,(Ac _ _ fr aN st st' ex ρ a w Q h2 h hS hQ)⟩
   .rename_i hx;exact⟨false,(nD h1 hS.F hx).fo,(Ac _ _ fr aN st st' ex ρ a w Q h3 h hS hQ)⟩
   .cases h
 . (split at hc<;>first|(cases hc;done)|skip);rename_i x h1;simp only[H0]at hc;subst hc;simp only[exec,aO]at h;show dI P _ (Exit.inBlock _ Q) a w;split at h
   . rename_i pJ bF aJ h2;split at h
     .  rename_i he;simp only[H0,Za8]at h;obtain⟨rfl,rfl,rfl⟩:=h;have:=H2 he;subst this;exact Ac _ _ fr bF st aJ (.exit pJ) ρ a w _ h1 h2 hS λa1 w1 hp=>by simp only[kL,Exit.inBlock,Ze5];exact hQ a1 w1 hp
     .  rename_i he;simp only[H0,Za8]at h;obtain⟨rfl,rfl,rfl⟩:=h;have:=Za9 he;exact Ac _ _ fr bF st aJ (.exit pJ) ρ a w _ h1 h2 hS λa1 w1 hp=>by simp only[kL,Exit.inBlock,Za4 this];exact hQ a1 w1 hp
   . rename_i cW;cases ex with
     |normal=>exact Ac _ _ fr aN st st' .normal ρ a w _ h1 h hS λa1 w1 hp=>hQ a1 w1 hp
     |exit id=>exact(cW _ _ _ h).elim
     |ret=>exact Ac _ _ fr aN st st' .ret ρ a w _ h1 h hS λa1 w1 hp=>hQ a1 w1 hp
 . (split at hc<;>first|(cases hc;done)|skip);rename_i x h1;simp only[H0]at hc;subst hc;exact⟨m+1,ab2 _ _ fr aN st st' ex ρ a w Q h1 h hS hQ⟩
 .simp only[H0]at hc;subst hc;simp only[exec,aO,H0,Za8]at h;obtain⟨rfl,rfl,rfl⟩:=h;exact hQ _ _ (ew.refl hS)
 .simp only[H0]at hc;subst hc;simp only[exec,aO,H0,Za8]at h;obtain⟨rfl,rfl,rfl⟩:=h;exact hQ _ _ (ew.refl hS)
 .simp only[H0]at hc;subst hc;simp[exec,aO,gM,bA,di,bQ,au.run]at h
theorem nI(hT:bE P tt)(bw:dS P C call)(eG:oD P tt C call){nt:Nat}:∀m,LJ P tt C call nt m/\LL P tt C call nt m
 |0=>⟨λc ac fr aN st st' ex ρ a w Q hc h=>by simp[exec]at h,λc ac fr aN st st' ex ρ a w Q hc h=>by simp[exec]at h⟩
 |m+1=>let⟨h1,h2⟩:=nI hT bw eG m;⟨WD hT bw eG h1 h2,On h1 h2⟩
def Jc(tmps:Array Value):ResultVar->Sem Value
 |.tmp t=>pure (tmps.getD t undef)
 |.cell a t=>do loadVar t (<-asAddr (tmps.getD a undef))
theorem U6(hT:bE P tt){ρ:Pos->Loc}{st:St}{w:World}{fr:Fr}{a:Act}{x:Tmp}{t:TypeId}{ti:TI}{q v:AV}(ct:tt.get (key t)=some ti)
  (hW:aM ρ C st w) (hF:eg ρ st.next.toNat C fr a.tmps) (hq:fr.get (key x)=some q) (hr:(au.load (u7 ti)).run (λb=>st.heap.get b) .h [q]=some (.val v)):
  ∃y,(Jc a.tmps (.cell x t)).run P w= .ok y w/\aj ρ st.next.toNat C v y:=by
 have hc:eJ tt (.load t (.tmp x))=some (.load (u7 ti),[.t (key x)],.read):=by simp[eJ,ct,jd]
 have hx:di fr [.t (key x)]=some [q]:=by simp[di,xM,hq]
 have oC:(au.load (u7 ti)).run (λb=>st.heap.get b) st.next [q]=some (.val v):=hr;obtain⟨N,y,he,hy,hv⟩:=Jb hT (.load t (.tmp x)) ρ C st w _ _ _ fr a { dst:=none,op:= .load t (.tmp x),type:=t,pos:=default,after:= #[],guard:=none } _ _ rfl hc hW hF hx oC;refine⟨y,?_,hv⟩;simp only[execOp,Instr.loadAt,Act.eval]at he;simp only[Jc];obtain⟨z,hz,Z5⟩:=hF _ _ hq;rw[dM,Zd9]at hz;have hzd:a.tmps.getD x undef=z:=by simp[Zg9,hz]
 rw[hzd]at he ⊢;have hp:∃ad,z= .pointer (some ad):=by
  simp only[au.run,qU]at hr;split at hr<;>first|(cases hr;done)|skip
  .obtain⟨_,h⟩:=Z5.dU;exact⟨_,h⟩
  .obtain⟨_,_,_,_,h,_⟩:=Z5.Dl;exact⟨_,h⟩
 obtain⟨ad,rfl⟩:=hp;simp only[Instr.sureAddr,asAddr,Sem.run_bind,Sem.run_pure,Result.andThen]at he ⊢;cases hl:(loadVar t ad).run P w with
 |ok u w1=>
  rw[hl]at he;simp at he;obtain⟨h1,h2⟩:=he;subst h2;rcases hy with hy|⟨hy,_⟩
  .rw[hy]at h1;simp at h1;rw[h1]
  .rw[hy]at h1;simp at h1
 |halt u w1=>rw[hl]at he;simp at he
theorem Ad(hT:bE P tt){ρ:Pos->Loc}{st:St}{w:World}{fr:Fr}{a:Act}(hW:aM ρ C st w)(hF:eg ρ st.next.toNat C fr a.tmps):
   ∀(rs:List ResultVar)(LM:List xL)(vs:List AV),jP tt rs=some LM->bY (λb=>st.heap.get b) fr LM=some vs->
    ∃ys,(rs.mapM (Jc a.tmps)).run P w= .ok ys w/\ak ρ st.next.toNat C vs ys
 | [],LM,vs,hc,hr=>by
   simp only[jP,H0]at hc;subst hc;simp only[bY,H0]at hr;subst hr;exact⟨[],by simp,ak.nil⟩
 | .tmp t::rs,LM,vs,hc,hr=>by
   simp only[jP]at hc;(split at hc<;>first|(cases hc;done)|skip);rename_i l hl;simp only[H0]at hc;subst hc;simp only[bY]at hr;(split at hr<;>first|(cases hr;done)|skip);rename_i v hv;(split at hr<;>first|(cases hr;done)|skip);rename_i us Wg;simp only[H0]at hr;subst hr;obtain⟨ys,h1,h2⟩:=Ad hT hW hF rs l us hl Wg;obtain⟨z,hz,Z5⟩:=hF _ _ hv;rw[dM,Zd9]at hz;refine⟨z::ys,?_,ak.cons Z5 h2⟩;simp[List.mapM_cons,Jc,h1,Zg9,hz]
 | .cell x t::rs,LM,vs,hc,hr=>by
   simp only[jP]at hc;(split at hc<;>first|(cases hc;done)|skip);rename_i ti l Oe hl;simp only[H0]at hc;subst hc;simp only[bY]at hr;(split at hr<;>first|(cases hr;done)|skip);rename_i q hq;(split at hr<;>first|(cases hr;done)|skip);rename_i v hv;(split at hr<;>first|(cases hr;done)|skip);rename_i us Wg;simp only[H0]at hr;subst hr;obtain⟨ys,h1,h2⟩:=Ad hT hW hF rs l us hl Wg;obtain⟨y,h3,h4⟩:=U6 hT Oe hW hF hq hv;refine⟨y::ys,?_,ak.cons h4 h2⟩;simp[List.mapM_cons,h1,h3]
theorem oE(hT:bE P tt){ρ:Pos->Loc}{st:St}{w:World}{fr:Fr}{a:Act}{fn:Func}{LM:List xL}{vs:List AV}(hW:aM ρ C st w)(hF:eg ρ st.next.toNat C fr a.tmps)
  (hc:jP tt fn.results.toList=some LM) (hr:bY (λb=>st.heap.get b) fr LM=some vs):
  ∃y,(results fn a.tmps).run P w= .ok y w/\aj ρ st.next.toNat C (fk vs) y:=by
 obtain⟨ys,h1,h2⟩:=Ad hT hW hF _ LM vs hc hr;have h3:(fn.results.mapM (Jc a.tmps)).run P w= .ok ys.toArray w:=by
  rw[Array.mapM_eq_mapM_toList];simp[h1]
 have h4:(results fn a.tmps).run P w= .ok (if h:ys.toArray.size=1 then ys.toArray[0]else .tuple ys.toArray) w:=by
  have hfun:results fn a.tmps=(fn.results.mapM (Jc a.tmps) >>= λvs=>pure (if h:vs.size=1 then vs[0]else .tuple vs)):=by unfold results;congr 2
  rw[hfun,Sem.run_bind,h3];simp
 refine⟨_,h4,?_⟩;cases vs with
 |nil=>have:=h2.kK;subst this;simp[fk];exact .qa (by simpa using ak.nil)
 |cons v vs=>
  obtain⟨y,ys',rfl,hv,fV⟩:=h2.cons_inv;cases vs with
  |nil=>have:=fV.kK;subst this;simpa [fk]using hv
  |cons v' vs'=>
   obtain⟨y',ys'',rfl,zZ,Yo⟩:=fV.cons_inv;simp[fk];exact .qa (by simpa using ak.cons hv (ak.cons zZ Yo))
def Lf(P:Program)(tt:TT)(G:T b9):Prop:=
 ∀p F,G.get p=some F->∃fn,P.funcs[p.toNat - 1]? =some fn/\(fn.name== "runtime.NumGoroutine")=false/\P1 tt fn=some F
def nA(P:Program)(C:Cells)(O:dw):Prop:=
 ∀  (f:FuncId)(s:List AV->St->Option (AV×St)),O f=some s->
    ∀(ρ:Pos->Loc)(st:St)(w:World)(args:List AV)(v:AV)(st':St)(br:List Value),s args st=some (v,st')->
     aM ρ C st w->ak ρ st.next.toNat C args br->Reaches P (jW ρ C st w v st') ((callFunc f br.toArray).run P w)
theorem vp{ρ:Pos->Loc}{n:Nat}{tmps:Array Value}:∀(vs:List AV)(xs:List Value)(i:Nat)(fr:Fr),ak ρ n C vs xs->
  (∀(j:Nat)(x:Value),xs[j]? =some x->tmps[i+j]? =some x)->eg ρ n C fr tmps->eg ρ n C (params i vs fr) tmps
 |[],_,_,_,_,_,hF=>hF
 |v ::vs,xs,i,fr,h,hx,hF=>by
  obtain⟨x,sr,rfl,hv,fV⟩:=h.cons_inv;unfold params;refine vp vs sr (i+1) _ fV (λj y hy=>by rw[<-hx (j+1) y (by simpa using hy)];congr 1;omega) λp u hp=> ?_
  by_cases LH:key i=p
  .subst LH;rw[T.dJ]at hp;simp only[H0]at hp;subst hp;exact⟨x,by rw[dM,Zd9];exact hx 0 x rfl,hv⟩
  .rw[T.bk _ LH]at hp;exact hF p u hp
theorem JO(hT:bE P tt){O:dw}{G:T b9}(hO:nA P C O)(hG:Lf P tt G)(m:Nat)(eG:∀d,dS P C (nC O G m d)->oD P tt C (nC O G m d)):∀d,dS P C (nC O G m d)
 |0=>λρ st w f args v st' br h=>by simp[nC]at h
 |d +   1 =>by
  intro ρ st w f args v st' br h hW nB;have ih:=JO hT hO hG m eG d;unfold nC at h;split at h
  .rename_i s hs;exact hO f s hs ρ st w args v st' br h hW nB
  . (split at h<;>first|(cases h;done)|skip);rename_i F hF;(split at h<;>first|(cases h;done)|skip);rename_i hlen;have hlen:=H2 hlen;obtain⟨fn,yR,gj,Ae⟩:=hG _ _ hF;rw[dM,Zd9]at yR;unfold P1 at Ae;(split at Ae<;>first|(cases Ae;done)|skip);rename_i c hb;(split at Ae<;>first|(cases Ae;done)|skip);rename_i ac rs QU WE hle;simp only[H0]at Ae;subst Ae;simp only at h hlen;have hle:=H4 hle;have bL:(callFunc f br.toArray).run P w= .ok (.enter f br.toArray) w:=by
        have Af:¬fn.name= "runtime.NumGoroutine" :=(by simpa using gj);simp[callFunc,yR,Af,hb]
    rw[bL];simp only[Reaches];refine calls_of_wp yR hb (dI.wp ?_);have dV:br.length<=fn.ntmps:=(by rw[<-nB.1,hlen];exact hle);have hS:kg fn.ntmps ρ C (params 0 args .e) st { tmps:=br.toArray++Array.replicate (fn.ntmps - br.toArray.size) undef,defers:=[] } w:=by
        refine⟨hW,?_,?_,rfl⟩
        .refine vp args br 0 .e nB (λj x hx=> ?_) (λp v hp=>by rw[T.cR]at hp;cases hp);have hj:j<br.length:=(H3.1 hx).1;rw[Zc8,Zf9 (by simpa using hj)];simpa using hx
        .simp;omega
    split at h<;>first|(cases h;done)|skip
    .   rename_i bF aJ h1;(split at h<;>first|(cases h;done)|skip);rename_i vs fV;simp only[H0,Za8]at h;obtain⟨rfl,rfl⟩:=h;(refine(nI hT ih (eG _ ih) m).1 c ac _ bF st aJ .normal ρ _ w _ QU h1 hS λa' w' hp=> ?_);obtain⟨cV,qg,k1,k2,k3⟩:=hp;obtain⟨y,yT,zX⟩:=oE hT qg.W qg.F WE fV;exact⟨qg.defers,y,yT,cV,zX,k1,k2,qg.W,k3⟩
    .   rename_i bF aJ h1;(split at h<;>first|(cases h;done)|skip);rename_i vs fV;simp only[H0,Za8]at h;obtain⟨rfl,rfl⟩:=h;(refine(nI hT ih (eG _ ih) m).1 c ac _ bF st aJ .ret ρ _ w _ QU h1 hS λa' w' hp=> ?_);obtain⟨cV,qg,k1,k2,k3⟩:=hp;obtain⟨y,yT,zX⟩:=oE hT qg.W qg.F WE fV;exact⟨qg.defers,y,yT,cV,zX,k1,k2,qg.W,k3⟩
end
end
end Go.Ai
