/- Its operations, second part; regions. -/
import Derived.Test.YtgihekklfnjkiaaGreatDoorGEvalB
import Derived.Laws.IdiomStrings
import Derived.Laws.RangeString
import Derived.LoopN
set_option linter.all false
set_option linter.unusedSectionVars false
set_option linter.deprecated false
namespace Go.Ai
section
open Go Go.RowKit
section
variable{P : Program}{tt : TT}{ρ : Pos -> Loc}{C : Cells}{st : St}{w w' : World}
theorem Q6(del:Option Pos)(h:T AB){b:Pos}{x:AB}(hb:(KN del h).get b=some x):h.get b=some x/\∀c,del=some c->b≠c:=by
 cases del with
 |none=>exact⟨hb,λ_ h=>by cases h⟩
 |some c=>
  by_cases he:c=b
  . subst he;simp only[KN]at hb;rw[T.gH]at hb;cases hb
  . simp only[KN]at hb;rw[T.bX _ he]at hb;exact⟨hb,λd hd=>by cases hd;exact λe=>he e.symm⟩
theorem OZ(hW:cq ρ C st w){o:Obj}{x0:AB}{base size:Nat}(del:Option Pos)(hh:w'.heap=w.heap.push o)(h1:w'.os=w.os)(h2:w'.tape=w.tape)(h3:w'.output=w.output)
   (hB:∀ρ' n',(∀b:Pos,b.toNat<st.next.toNat->ρ' b=ρ b)->st.next.toNat<=n'->tM ρ' n' C ⟨w.heap.size,base,size⟩ w' x0):
   ∃ρ':Pos->Loc,(∀b:Pos,b.toNat<st.next.toNat->ρ' b=ρ b)/\ρ' st.next=⟨w.heap.size,base,size⟩/\cq ρ' C (st.bk del none (some x0)) w'/\qm ρ st w ρ' (st.bk del none (some x0)) w':=by
 let ρ':Pos->Loc:=λb=>if b=st.next then⟨w.heap.size,base,size⟩else ρ b
 have bE:∀b:Pos,b.toNat<st.next.toNat->ρ' b=ρ b:=λb hb=>Za7 (λe=>by rw[e]at hb;omega)
 have ji:ρ' st.next=⟨w.heap.size,base,size⟩:=Zb3 rfl;have gR:w'.heap.size=w.heap.size+1:=by rw[hh];simp
 have hold:∀k,k<w.heap.size->w'.heap[k]? =w.heap[k]? :=λk hk=>by rw[hh,Zp4,Za7 (by omega)]
 refine⟨ρ',bE,ji,?_,⟨h1,h2,h3,by omega,λk hk _=>hold k hk,λb x hb=> ?_⟩⟩;rotate_left
 . by_cases he:b=st.next
   . right;rw[he,ji];exact Za3 _
   . left;simp only[St.bk,NS]at hb;rw[T.bX _ (λe=>he e.symm)]at hb;have eN:=(Q6 del _ hb).1;exact⟨b,x,eN,by rw[bE b (hW.live b x eN).1]⟩
 refine hW.aks (b0:=st.next) (x0:=x0) (by rw[Pos.aF];omega) (by rw[Pos.aF];omega) (by rw[T.gH]) ?_ bE (by rw[ji];exact hB _ _ bE (by rw[Pos.aF];omega)) ?_ (by rw[ji,gR];simp) (by omega) (λk hk _=>hold k hk)
 . intro b x hb hx;rw[T.bX _ (λe=>hb e.symm)]at hx;have hx:=(Q6 del _ hx).1;refine⟨hx,?_⟩;rw[ji];have:=(hW.live b x hx).2.1;simp only;omega
 . intro a v ha;have:=World.block_lt_of_cell? _ _ (hW.ei a v ha).1;rw[ji];simp only;omega
theorem amw(hW:cq ρ C st w){b:Pos}{x x0:AB}(hb:st.heap.get b=some x)(h1:w'.os=w.os)(h2:w'.tape=w.tape)(h3:w'.output=w.output)(gR:w'.heap.size=w.heap.size)
   (Vk:∀k,k≠(ρ b).aM->w'.heap[k]? =w.heap[k]?) (hB:tM ρ st.next.toNat C (ρ b) w' x0):
   cq ρ C (st.bk none (some (b,x0)) none) w'/\qm ρ st w ρ (st.bk none (some (b,x0)) none) w':=by
 obtain⟨aS,zC,_⟩:=hW.live b x hb;refine⟨?_,⟨h1,h2,h3,by omega,λk _ hk=>Vk k (λe=>hk b x hb e.symm),λc y hc=> ?_⟩⟩;rotate_left
 . left;by_cases he:c=b
   . exact⟨b,x,hb,by rw[he]⟩
   . simp only[St.bk,NS,KN]at hc;rw[T.bX _ (λe=>he e.symm)]at hc;exact⟨c,y,hc,rfl⟩
 refine hW.aks (b0:=b) (x0:=x0) (Za3 _) aS (by simp only[NS,KN];rw[T.gH]) ?_ (λ_ _=>rfl) hB ?_ (by omega) (by omega) (λk _ hk=>Vk k hk)
 . intro c y hc hy;simp only[NS,KN]at hy;rw[T.bX _ (λe=>hc e.symm)]at hy;exact⟨hy,λe=>hc (hW.inj _ _ _ _ hy hb e)⟩
 . exact λa v ha e=>(hW.ei a v ha).2 b x hb e.symm
theorem BW{cs:List AV}{c:Array Value}{e:TypeId}{fr:Nat×Nat}{g:Nat}{n:Nat}(hg:w'.heap[g]? =some (.cells c e fr))(hle:cs.length<=c.size)(hv:aK ρ n C cs (c.toList.take cs.length))
  (hf:∀i,i<c.size->¬(fr.1<=i/\i<fr.2)):tM ρ n C ⟨g,0,c.size⟩ w' (.cells cs 0):=
 ⟨c,e,fr,hg,rfl,by simpa using hle,by simpa using hv,λi _ hi=>by simpa using hf i (by simpa using hi)⟩
theorem amx(hT:dy P tt)(t:TypeId):fy P tt (.alloc t):=by
 intro ρ C st w k xs cls fr a o vs res ho hc hW hF hx hr;simp only[kg]at hc;split at hc<;>first|(cases hc;done)|skip
 rename_i ti fI;split at hc<;>first|(cases hc;done)|skip
 rename_i z hz;cases hc;simp only[fS,H5]at hx;subst hx;simp only[aG.run,QL,H5]at hr;subst hr;obtain⟨zv,Ts,_,EL⟩:=Fy hT fI hz (ρ:=ρ) (n:=st.next.toNat) (C:=C) w;have hl:z.length=zv.cells.size:=by simpa using EL.1
 obtain⟨ρ',bE,ji,jk,hE⟩:=OZ (w':=w.alloc (.cells zv.cells t)) (o:= .cells zv.cells t) (x0:= .cells z 0) (base:=0) (size:=zv.cells.size) hW none rfl rfl rfl rfl (λρ' n' bE hn=>
   BW (w':=w.alloc (.cells zv.cells t)) (e:=t) (fr:=(0,0)) (by show(w.heap.push _)[w.heap.size]? =_;simp) (by omega) (by rw[hl,Zf7 (by simp)];exact EL.mono bE hn) (λi _=>by simp))
 refine⟨_,.pointer (some ⟨w.heap.size,0,none⟩),_,ρ',?_,Yields.value _,bE,jk,?_,hE⟩
 . simp[execOp,ho,Instr.alloc,Ts,newVar,newRow]
 . have:=aC.ptr (ρ:=ρ') (n:=(st.bk none none (some (.cells z 0))).next.toNat) (C:=C) st.next 0 (by simp[St.bk,Pos.aF]);rw[ji]at this;simpa using this
theorem arI(t:TypeId)(x:Operand):fy P tt (.box t x):=by
 intro ρ C st w k xs cls fr a o vs res ho hc hW hF hx hr;simp only[kg]at hc;split at hc<;>first|(cases hc;done)|skip
 rename_i b hb;cases hc;obtain⟨v,rfl,hv⟩:=lO hb hF hx;simp only[aG.run,abv,H5]at hr;subst hr;have EL:=hv.cells;have hl:v.cells.length=(a.eval x).cells.size:=by simpa using EL.1
 obtain⟨ρ',bE,ji,jk,hE⟩:=OZ (w':=w.alloc (.cells (a.eval x).cells t)) (o:= .cells (a.eval x).cells t) (x0:= .cells v.cells 0) (base:=0) (size:=(a.eval x).cells.size) hW none rfl rfl rfl rfl (λρ' n' bE hn=>
   BW (w':=w.alloc (.cells (a.eval x).cells t)) (e:=t) (fr:=(0,0)) (by show(w.heap.push _)[w.heap.size]? =_;simp) (by omega) (by rw[hl,Zf7 (by simp)];exact EL.mono bE hn) (λi _=>by simp))
 refine⟨_,.pointer (some ⟨w.heap.size,0,none⟩),_,ρ',?_,Yields.value _,bE,jk,?_,hE⟩
 . simp[execOp,ho,Instr.box,newVar,newRow]
 . have:=aC.ptr (ρ:=ρ') (n:=(st.bk none none (some (.cells v.cells 0))).next.toNat) (C:=C) st.next 0 (by simp[St.bk,Pos.aF]);rw[ji]at this;simpa using this
theorem NU{n:Nat}{z:List AV}{zs:List Value}(h:aK ρ n C z zs):∀m,aK ρ n C (bR z m) (bR zs m)
 |0=>aK.nil
 |m+1=>h.append (NU h m)
theorem lQ{α:Type}(z:List α):∀m,(bR z m).length=m*z.length
 |0=>by simp[bR]
 |m+1=>by simp[bR,lQ z m,Zj3,Zq9]
theorem Zv{α:Type}(z:List α):∀(m i:Nat),i<m*z.length->(bR z m)[i]? =z[i % z.length]?
 |0,i,h=>by simp at h
 |m +1,i,h=>by
  simp only[bR];by_cases hi:i<z.length
  . rw[Zc3 hi,Zj9 hi]
  . have hi:z.length<=i:=(by omega);rw[Zc2 hi,Zv z m _ (by rw[Zj3]at h;omega)];congr 1;rw[<-Zp6 hi]
theorem agx(z:Array Value)(m:Nat)(hz:0<z.size):((Array.range (m*z.size)).map (z[· % z.size]!)).toList=bR z.toList m:=by
 apply Zh7;intro i;by_cases hi:i<m*z.size
 . rw[Zv _ _ _ (by simpa using hi)];have aS:i % z.size<z.size:=Zk0 _ hz;simp[hi,aS]
 . rw[Zc1 (by simp;omega),Zc1 (by rw[lQ];simp;omega)]
theorem MQ{ρ':Pos->Loc}{b:Pos}{n g len es bu size:Nat}{cap:Option Nat}(hb:b.toNat<n)(bE:ρ' b=⟨g,0,size⟩)(hl:len<=bu)(hc:∀c,cap=some c->c=bu)(hs:bu*es<=size):
  aC ρ' n C (.slice b 0 len cap es) (.slice (some ⟨g,0,none⟩) len bu):=
 .slice _ _ _ _ _ _ _ hl hc (λ_=>⟨hb,by rw[bE],by rw[bE];simpa using hs⟩) (λ_=>hb)
theorem abD{z:List AV}{zv:Value}{n m size:Nat}(EL:aK ρ n C z zv.cells.toList)(hl:z.length=size):
   aK ρ n C (bR z m) ((Array.range (m*size)).map ((if m*size=0 then(#[]:Array Value)else zv.cells)[· % (if m*size=0 then(#[]:Array Value)else zv.cells).size]!)).toList/\
   ((Array.range (m*size)).map ((if m*size=0 then(#[]:Array Value)else zv.cells)[· % (if m*size=0 then(#[]:Array Value)else zv.cells).size]!)).size=m*size:=by
 refine⟨?_,by simp⟩;by_cases h0:m*size=0
 . have:bR z m=[]:=(by apply Zc4;rw[lQ,hl];exact h0);rw[this];have:(Array.range (m*size))= #[]:=(by rw[h0];rfl);rw[this];simpa using(aK.nil:aK ρ n C [] [])
 . rw[Za7 h0];have hzs:zv.cells.size=size:=(by have:=EL.1;simp at this;omega);have Vq:0<zv.cells.size:=by
    rw[hzs];rcases Zn4 size with h|h
    . rw[h]at h0;simp at h0
    . exact h
   have:=agx zv.cells m Vq;rw[hzs]at this ⊢;rw[this];exact NU EL m
theorem arJ{k:IntKind}{i:Int}(h1:loI k<=i)(h2:i<=hiI k):k.wrap i=i:=by
 rw[<-ym];unfold av;split
 . split
   . rfl
   . exact absurd h2 (by assumption)
 . exact absurd h1 (by assumption)
theorem agy{j:Nat}(h:j<=9223372036854775807):IntKind.i64.wrap (j:Int)=(j:Int):=arJ (by simp only[loI];omega) (by simp only[hiI];omega)
theorem aiX(hT:dy P tt)(t:TypeId)(l c:Operand):fy P tt (.makeSlice t l c):=by
 intro ρ C st w k xs cls fr a o vs res ho hc hW hF hx hr;simp only[kg]at hc;split at hc<;>first|(cases hc;done)|skip
 rename_i ti l0 fI hl;split at hc<;>first|(cases hc;done)|skip
 rename_i e hk;split at hc<;>first|(cases hc;done)|skip
 rename_i te oZ;split at hc<;>first|(cases hc;done)|skip
 rename_i z hz;cases hc;obtain⟨d,hd,dH⟩:=(hT.at fI).und;rw[hk]at dH;rw[tO dH]at hd;obtain⟨i0,sP,u9,hib,MP⟩:=(hT.at oZ).info;obtain⟨u,v,rfl,h1,h2⟩:=adf hl hF hx;simp only[aG.run,Cw]at hr;split at hr<;>first|(cases hr;done)|skip
 rename_i jl jc hjl hjc;split at hr<;>first|(cases hr;done)|skip
 rename_i e1 e2 e3;have e1:=Zb4 e1;have e2:=Zb4 e2;have e3:=Zb4 e3;simp only[H5]at hr;subst hr;obtain⟨kl,fC⟩:=mM h1 hjl;obtain⟨kc,hkc⟩:=mM h2 hjc;obtain⟨zv0,hzv0,_,hzl,_⟩:=MP z hz;obtain⟨zv,Ts,_,EL⟩:=Fy hT oZ hz (ρ:=ρ) (n:=st.next.toNat) (C:=C) w;obtain⟨Vr,adg⟩:=abD (m:=jc) EL hzl;generalize gG:(Array.range (jc*te.size)).map ((if jc*te.size=0 then(#[]:Array Value)else zv.cells)[· % (if jc*te.size=0 then(#[]:Array Value)else zv.cells).size]!)=row at Vr adg;obtain⟨ρ',bE,ji,jk,hE⟩:=OZ (w':=w.alloc (.cells row e)) (o:= .cells row e) (x0:= .cells (bR z jc) 0) (base:=0) (size:=row.size) hW none rfl rfl rfl rfl (λρ' n' bE hn=>
   BW (w':=w.alloc (.cells row e)) (e:=e) (fr:=(0,0)) (by show(w.heap.push _)[w.heap.size]? =_;simp) (by rw[lQ,adg,hzl];exact Za3 _)
    (by rw[lQ,hzl, <-adg, <-Zi7,Zk1];exact Vr.mono bE hn) (λi _=>by simp))
 refine⟨_,.slice (some ⟨w.heap.size,0,none⟩) jl jc,_,ρ',?_,Yields.value _,bE,jk,?_,hE⟩
 . have cN:=agy (Zb2 e1 e3);have sQ:=agy e3;have hb:¬((te.bytes:Int)*(jc:Int)>2 ^ 48):=(by have h:=Int.ofNat_le.2 e2;rw[Int.natCast_mul]at h;exact Int.not_lt.2 h);have dP:(Instr.makeSlice t (.int kl jl) (.int kc jc)).run P w= .ok (.slice (some ⟨w.heap.size,0,none⟩) jl jc) (w.alloc (.cells row e)):=by
    unfold Instr.makeSlice;simp only[Sem.run_bind,bt hd,Result.andThen_ok,asInt,asIntOf,Sem.run_pure,agp sP,cN,sQ,hib];have aum:¬((decide ((jc:Int)<0)||decide ((te.bytes:Int)*(jc:Int)>2 ^ 48)||decide ((jl:Int)<0)||decide ((jl:Int)>(jc:Int)))=true):=by
        simp only[Zj4,Ze4];rintro(((h|h)|h)|h)
        . omega
        . exact hb h
        . omega
        . omega
    rw[Za7 aum];simp only[Sem.run_bind,run_askRoom,Result.andThen_ok,mJ sP,u9,Zc7];rw[<-gG];by_cases h0:jc*te.size=0
    .   simp only[h0,Zh5,Sem.run_bind,Sem.run_pure,Result.andThen_ok,newRow,run_newObj,World.alloc_eq]
    .   simp only[h0,Zh2,Sem.run_bind,Sem.run_pure,Result.andThen_ok,Ts,newRow,run_newObj,World.alloc_eq]
   simp[execOp,ho,fC,hkc,dP]
 . exact MQ (by simp[St.bk,Pos.aF]) ji e1 (λc hc=>by cases hc;rfl) (by rw[adg];exact Za3 _)
theorem adh(hT:dy P tt)(t:TypeId)(len:Nat)(ps:Array (Nat×Operand)):fy P tt (.buildSlice t len ps):=by
 intro ρ C st w k xs cls fr a o vs res ho hc hW hF hx hr;simp only[kg]at hc;split at hc<;>first|(cases hc;done)|skip
 rename_i ti l0 fI hl;split at hc<;>first|(cases hc;done)|skip
 rename_i e hk;split at hc<;>first|(cases hc;done)|skip
 rename_i te oZ;split at hc<;>first|(cases hc;done)|skip
 rename_i z hz hlim;have hlim:=Zb4 hlim;cases hc;obtain⟨d,hd,dH⟩:=(hT.at fI).und;rw[hk]at dH;rw[tO dH]at hd;obtain⟨i0,sP,u9,hib,MP⟩:=(hT.at oZ).info;have hv:=iR hl hF hx;simp only[aG.run,wu]at hr;split at hr<;>first|(cases hr;done)|skip
 rename_i cs CE;simp only[H5]at hr;subst hr;obtain⟨zv0,hzv0,_,hzl,_⟩:=MP z hz;obtain⟨zv,Ts,_,EL⟩:=Fy hT oZ hz (ρ:=ρ) (n:=st.next.toNat) (C:=C) w;obtain⟨Vr,adg⟩:=abD (m:=len) EL hzl;generalize gG:(Array.range (len*te.size)).map ((if len*te.size=0 then(#[]:Array Value)else zv.cells)[· % (if len*te.size=0 then(#[]:Array Value)else zv.cells).size]!)=row at Vr adg;have hps:(ps.map λ(i,x)=>(i,a.eval x)).toList=ps.toList.map λx=>(x.1,a.eval x.2):=by simp
 obtain⟨nv,e1,e2⟩:=aay (λi=>some (i*te.size,te.size)) CE Vr (ps:=ps.toList.map λx=>(x.1,a.eval x.2)) (by simpa [Zh8,Zl4]using hv) (by simp[Zh8,Zl4]);have hlen:cs.length=nv.size:=by simpa using e2.1
 have aun:∀{pp:List (Nat×Nat)}{vs cells r:List AV},cE cells pp vs=some r->r.length=cells.length:=by
   intro pp;induction pp with
   |nil=>intro vs cells r h;unfold cE at h;split at h<;>first|(cases h;done)|(simp only[H5]at h;subst h;rfl)|(rename_i hh;cases hh)
   |cons p pp ih=>
    intro vs cells r h;unfold cE at h;(split at h<;>first|(cases h;done)|(rename_i hh;cases hh;done)|skip);rename_i hh;simp only[Zg2]at hh;obtain⟨rfl,rfl⟩:=hh;(split at h<;>first|(cases h;done)|skip);rename_i g1 g2;have g1:=Za6 g1;have g2:=Zb4 g2;rw[ih h];simp[aX];omega
 have hcsl:=aun CE;rw[lQ,hzl]at hcsl;obtain⟨ρ',bE,ji,jk,hE⟩:=OZ (w':=w.alloc (.cells nv e)) (o:= .cells nv e) (x0:= .cells cs 0) (base:=0) (size:=nv.size) hW none rfl rfl rfl rfl (λρ' n' bE hn=>
   BW (w':=w.alloc (.cells nv e)) (e:=e) (fr:=(0,0)) (by show(w.heap.push _)[w.heap.size]? =_;simp) (by omega)
    (by rw[hlen, <-Zi7,Zk1];exact e2.mono bE hn) (λi _=>by simp))
 refine⟨_,.slice (some ⟨w.heap.size,0,none⟩) len len,_,ρ',?_,Yields.value _,bE,jk,?_,hE⟩
 . have dP:(Instr.buildSlice t len (ps.map λ(i,x)=>(i,a.eval x))).run P w= .ok (.slice (some ⟨w.heap.size,0,none⟩) len len) (w.alloc (.cells nv e)):=by
    unfold Instr.buildSlice;simp only[Sem.run_bind,bt hd,Result.andThen_ok,mJ sP,u9];rw[Za7 (by omega)];by_cases h0:len*te.size=0
    .   simp only[h0,Zh5,Sem.run_bind,Sem.run_pure,Result.andThen_ok];simp only[h0,Zh5]at gG;rw[gG,hps,e1];simp only[newRow,Sem.run_bind,run_newObj,World.alloc_eq,Result.andThen_ok,Sem.run_pure]
    .   simp only[h0,Zh2,Sem.run_bind,Sem.run_pure,Result.andThen_ok,Ts];simp only[h0,Zh2]at gG;rw[gG,hps,e1];simp only[newRow,Sem.run_bind,run_newObj,World.alloc_eq,Result.andThen_ok,Sem.run_pure]
   simp only[execOp,ho,Sem.run_bind];rw[dP];rfl
 . exact MQ (by simp[St.bk,Pos.aF]) ji (Za3 _) (λc hc=>by cases hc;rfl) (by omega)
theorem amy(t:TypeId)(r:Option Operand)(hT:dy P tt):fy P tt (.makeMap t r):=by
 intro ρ C st w k xs cls fr a o vs res ho hc hW hF hx hr;have key:k= .mkMap/\(execOp a.eval o).run P w= .ok (.value (.map (some w.heap.size))) (w.alloc (.map #[] 0)):=by
  simp only[kg]at hc;split at hc<;>first|(cases hc;done)|skip
  rename_i ti fI;obtain⟨d,hd,dH⟩:=(hT.at fI).und;split at hc<;>first|(cases hc;done)|skip
  . cases hc;exact⟨rfl,by simp[execOp,ho,Instr.makeMap]⟩
  . rename_i hk;rw[hk]at dH;rw[Vi dH]at hd;cases hc;exact⟨rfl,by simp[execOp,ho,Instr.makeMap,bt hd,Act.eval,asInt,asIntOf]⟩
 obtain⟨rfl,dP⟩:=key;simp only[aG.run,QO,H5]at hr;subst hr;obtain⟨ρ',bE,ji,jk,hE⟩:=OZ (w':=w.alloc (.map #[] 0)) (o:= .map #[] 0) (x0:= .map [] 0) (base:=0) (size:=0) hW none rfl rfl rfl rfl (λρ' n' bE hn=>
  ⟨#[],by show(w.heap.push _)[w.heap.size]? =_;simp,rfl,λi e e' h=>by simp at h⟩)
 refine⟨_,_,_,ρ',dP,Yields.value _,bE,jk,?_,hE⟩;have:=aC.map (ρ:=ρ') (n:=(st.bk none none (some (.map [] 0))).next.toNat) (C:=C) st.next (by simp[St.bk,Pos.aF]);rw[ji]at this;exact this
end
section
variable{P : Program}{tt : TT}{ρ : Pos -> Loc}{C : Cells}{st : St}{w w' : World}
theorem Q7{n:Nat}:∀{l:List AV}{ys:List Value},aQ l=true->aK ρ n C l ys->∀y∈ys,y.oneCell'=true
 |[],ys,_,h=>by have:=h.qy;subst this;simp
 |v::l,ys,h1,h=>by
  unfold aQ at h1;split at h1<;>first|(cases h1;done)|skip
  rename_i ho;obtain⟨y,ys',rfl,hv,hs⟩:=h.cons_inv;intro z hz;simp at hz;rcases hz with rfl|hz
  . cases hv<;>first|rfl|(simp[AV.one]at ho;done)
  . exact Q7 h1 hs z hz
theorem Ke{α:Type}(l:List α){i:Nat}(vs:List α)(hi:i<=l.length)(k:Nat):(aX l i vs)[k]? =if k<i then l[k]? else if k<i+vs.length then vs[k - i]? else l[k]? :=by
 unfold aX;have hl:(l.take i).length=i:=by simp;omega
 split
 . rename_i h;rw[Zc3 (by omega),Ze1,Zb3 h]
 . rename_i h;rw[Zc2 (by omega),hl];split
   . rename_i h';rw[Zc3 (by omega)]
   . rename_i h';rw[Zc2 (by omega),Ze7];congr 1;omega
theorem Zw{α:Type}(l:List α)(b off:Nat)(vs:List α)(h:b+off<=l.length):(aX l (b+off) vs).drop b=aX (l.drop b) off vs:=by
 apply Zh7;intro k;rw[Ze7,Ke l vs h,Ke (l.drop b) vs (by simp;omega),Ze7];by_cases h1:k<off
 . rw[Zb3 (by omega),Zb3 h1]
 . rw[Za7 (by omega),Za7 h1];by_cases h2:k<off+vs.length
   . rw[Zb3 (by omega),Zb3 h2];congr 1;omega
   . rw[Za7 (by omega),Za7 h2]
theorem aiY{α:Type}(l:List α)(off m:Nat)(vs:List α)(h:off+vs.length<=m)(h':m<=l.length):(aX l off vs).take m=aX (l.take m) off vs:=by
 apply Zh7;intro k;rw[Ze1,Ke l vs (by omega),Ke (l.take m) vs (by simp;omega),Ze1];by_cases h1:k<off
 . rw[Zb3 (by omega),Zb3 h1,Zb3 h1,Zb3 (by omega)]
 . by_cases h2:k<off+vs.length
   . rw[Zb3 (by omega),Za7 h1,Zb3 h2,Za7 h1,Zb3 h2]
   . rw[Za7 h1,Za7 h2,Za7 h1,Za7 h2]
theorem Q8(hW:cq ρ C st w){b:Pos}{cs vs:List AV}{fz off:Nat}{ys:List Value}(hb:st.heap.get b=some (.cells cs fz))(hle:off+vs.length<=cs.length)(hfz:fz<=off)
   (h1:aQ vs=true) (hv:aK ρ st.next.toNat C vs ys):
   ∃w',(storeCells ⟨(ρ b).aM,(ρ b).base+off,none⟩ ys).run P w= .ok () w'/\cq ρ C (st.bk none (some (b,.cells (aX cs off vs) fz)) none) w'/\qm ρ st w ρ (st.bk none (some (b,.cells (aX cs off vs) fz)) none) w':=by
 obtain⟨_,_,c,e,fr,g1,g2,g3,g4,g5⟩:=hW.live b _ hb;have hl:vs.length=ys.length:=hv.1;obtain⟨w',e1,e2,e3,e4,e5,e6,e7⟩:=wZ (P:=P) (ρ b).aM e fr ys 0 ((ρ b).base+off) c w g1 (by omega) (Q7 h1 hv) (λk hk uf=>by
   have:=g5 (k - (ρ b).base) (by omega) (by omega)
   rwa [show(ρ b).base+(k - (ρ b).base)=k from by omega]at this)
 simp only[Zf8]at e1 e2;refine⟨w',e1,?_⟩;have hlen:(aX cs off vs).length=cs.length:=by simp[aX];omega
 refine amw hW hb e5 e6 e7 e3 e4 ⟨_,e,fr,e2,?_,?_,?_,λi hi hi'=>g5 i hi ?_⟩
 . simp[aX];omega
 . rw[hlen];simp[aX];omega
 . rw[hlen];rw[Zw _ _ _ _ (by simp;omega),aiY _ _ _ _ (by omega) (by simp;omega)];exact g4.aX hv off
 . simp[aX]at hi';omega
theorem aC.Fz{n:Nat}:aC ρ n C .undef undef:= .tuple [] #[] rfl (λ_ _ _ h=>by simp at h)
theorem amz(hT:dy P tt)(t:TypeId)(x y:Operand):fy P tt (.store t x y):=by
 intro ρ C st w k xs cls fr a o vs res ho hc hW hF hx hr;simp only[kg]at hc;split at hc<;>first|(cases hc;done)|skip
 rename_i ti l fI hl;cases hc;obtain⟨p,v,rfl,h1,h2⟩:=adf hl hF hx;obtain⟨i0,sP,u9,_⟩:=(hT.at fI).info;simp only[aG.run,KM]at hr;split at hr<;>first|(cases hr;done)|skip
 rename_i b off;split at hr<;>first|(cases hr;done)|skip
 rename_i cs fz hb;split at hr<;>first|(cases hr;done)|skip
 rename_i e1 e2 e3 e4;have e1:=Za6 e1;have e2:=Zb4 e2;have e3:=Zb4 e3;simp only[H5]at hr;subst hr;obtain⟨_,he⟩:=h1.qz;have hc:=h2.cells;obtain⟨w',dP,jk,hE⟩:=Q8 (P:=P) hW hb (by omega) e3 e4 hc;refine⟨.skip,undef,w',ρ,?_,.inr ⟨rfl,rfl⟩,λ_ _=>rfl,jk,aC.Fz,hE⟩;have gR:(a.eval y).cells.size=ti.size:=by have:=hc.1;simp at this;omega
 simp[execOp,ho,he,Instr.storeAt,Instr.sureAddr,storeVar,mJ sP,u9,gR,dP]
theorem run_setObj_map{r:Nat}{es:Array MapEntry}{c:Nat}{o:Obj}{w:World}(h:w.heap[r]? =some (.map es c)):(setObj r o).run P w= .ok () { w with heap:=w.heap.setIfInBounds r o }:=by
 simp[setObj,Sem.run,h]
theorem abE(hW:cq ρ C st w){b:Pos}{es:List (AV×AV×Nat)}{clock:Nat}(hb:st.heap.get b=some (.map es clock)){Vt:List (AV×AV×Nat)}{akB:Array MapEntry}{O8:Nat}
  (hE:MO ρ st.next.toNat C Vt akB.toList):
  cq ρ C (st.bk none (some (b,.map Vt O8)) none) { w with heap:=w.heap.setIfInBounds (ρ b).aM (.map akB O8) }/\qm ρ st w ρ (st.bk none (some (b,.map Vt O8)) none) { w with heap:=w.heap.setIfInBounds (ρ b).aM (.map akB O8) }:=by
 have aS:=(hW.live b _ hb).2.1;refine amw hW hb rfl rfl rfl (by simp) (λk hk=>by simp[Zj6 (Ne.symm hk)]) ⟨akB,by simp[aS],by simpa using hE.1,λi e e' h1 h2=>hE.2 i e e' h1 (by simpa using h2)⟩
theorem aaz{n:Nat}{pk:PK}{u v:AV}{x y:Value}(h1:aC ρ n C u x)(h2:aC ρ n C v y)(h:Bp pk u v=some true)(m:Nat):Instr.sameBits m y x=true:=by
 unfold Bp at h;split at h<;>first|(cases h;done)|skip
 . simp only[H5]at h;rw[h1.kW,h2.kW];rename_i p q;have:p=q:=(by simpa using h);subst this;cases m<;>simp[Instr.sameBits]
 . (split at h<;>first|(cases h;done)|skip);rename_i ML;have:=BU ML;subst this;simp only[H5,mK]at h;rw[h1.iM,h2.iM];rename_i p q _;have:p=q:=(by simpa using h);subst this;cases m<;>simp[Instr.sameBits]
 . simp only[H5]at h;obtain⟨bx,rfl,e1⟩:=h1.fu;obtain⟨bz,rfl,e2⟩:=h2.fu;have:bz==bx:=(by rw[beq_toListBytes,OU e2 e1,mL];exact(mL.1 h).symm);cases m<;>simpa [Instr.sameBits]using this
theorem aej{pk:PK}{u:AV}:∀{es:List (AV×AV×Nat)}{i j:Nat}{v:AV},iu pk u es i=some (some (j,v))->∃e,i<=j/\es[j - i]? =some e/\Bp pk u e.1=some true
 |[],i,j,v,h=>by simp[iu]at h
 |(k',v',born)::es,i,j,v,h=>by
  unfold iu at h;split at h<;>first|(cases h;done)|skip
  . rename_i hq;simp only[H5,Zc9]at h;obtain⟨rfl,_⟩:=h;exact⟨(k',v',born),Za3 _,by simp,hq⟩
  . obtain⟨e,h1,h2,h3⟩:=aej h;refine⟨e,by omega,?_,h3⟩;rw[show j - i=(j - (i+1))+1 from by omega];simpa using h2
theorem Vu(k v:AV):∀(es:List (AV×AV×Nat))(i j:Nat),(tK k v es i)[j]? =if j=i then(es[i]?).map (λe=>(k,v,e.2.2))else es[j]?
 |[],i,j=>by cases i<;>cases j<;>simp[tK]
 |(a,b,born)::es,0,j=>by cases j<;>simp[tK]
 |e::es,i+1,j=>by
  cases j with
  |zero=>simp[tK]
  |succ j=>simp[tK,Vu k v es i j]
theorem abF (hT:dy P tt)(op:Op)(t:TypeId)(m k0 v0:Operand)(hop:op= .mapUpdate t m k0 v0\/op= .insert t m k0 v0):fy P tt op:=by
 intro ρ C st w k xs cls fr a o vs res ho hc hW hF hx hr;have hc:kg.akp tt t m k0 v0=some (k,xs,cls):=by rcases hop with rfl|rfl<;>simpa only[kg]using hc
 have hex:(execOp a.eval o).run P w=((Instr.mapUpdate t (a.eval m) (a.eval k0) (a.eval v0)).run P w).andThen λ_ w=> .ok .skip w:=by
   rcases hop with rfl|rfl<;>simp[execOp,ho]
 unfold kg.akp at hc;split at hc<;>first|(cases hc;done)|skip
 rename_i ti l fI hl;split at hc<;>first|(cases hc;done)|skip
 rename_i kt et hk;split at hc<;>first|(cases hc;done)|skip
 rename_i tk htk;obtain⟨d,hd,dH⟩:=(hT.at fI).und;rw[hk]at dH;rw[Vi dH]at hd;obtain⟨dk,hdk,ML⟩:=(hT.at htk).und;have key:∃pk,k= .mapSet pk/\xs=l/\pk.fits dk=true:=by
   split at hc<;>first|(cases hc;done)|skip
   all_goals
     rename_i h1;cases hc;refine⟨_,rfl,rfl,aq4 tk.k ML ?_⟩
   . exact .inr (.inl ⟨⟨_,h1⟩,rfl⟩)
   . exact .inr (.inr ⟨h1,rfl⟩)
   . exact .inl ⟨h1,rfl⟩
 obtain⟨pk,rfl,rfl,NT⟩:=key;obtain⟨mm,kk,vv,rfl,h1,h2,h3⟩:=evs3 hl hF hx;have hck:∀e w,(Instr.checkKey e 10000 kt (a.eval k0)).run P w= .ok () w:=λe w=>OY hdk NT e 9999 _ w
 simp only[aG.run,yf]at hr;split at hr<;>first|(cases hr;done)|skip
 rename_i b;split at hr<;>first|(cases hr;done)|skip
 rename_i es clock hb;obtain⟨_,he⟩:=h1.BV;obtain⟨_,_,es',dV,hlen,pF⟩:=hW.live _ _ hb;have hE:MO ρ st.next.toNat C es es'.toList:=⟨by simpa using hlen,λi e e' h1 h2=>pF i e e' h1 (by simpa using h2)⟩
 split at hr<;>first|(cases hr;done)|skip
 . rename_i i v hpk hf;simp only[H5]at hr;subst hr;obtain⟨r',hf',nR⟩:=Gr NT h2 hE hf;rcases nR with⟨e1,_⟩|⟨j',v',y,e1,e2,e3,_,e5⟩
   . cases e1
   . cases  e1;subst e2;obtain⟨e,_,hei,hek⟩:=aej hf;rw[Zr0]at hei;have hi:i<es'.size:=(by omega);have akC:es'[i]? =some es'[i]:=Zg7 hi;have hkey:=(pF i e es'[i] hei akC).1;have hsb:=aaz h2 hkey hek 10000;have hE2:MO ρ st.next.toNat C (tK kk vv es i) (es'.modify i λe=>{ e with key:=a.eval k0,val:=a.eval v0 }).toList:=by
        refine⟨?_,λj e e' g1 g2=> ?_⟩
        . have hsl:∀(es:List (AV×AV×Nat))(i:Nat),(tK kk vv es i).length=es.length:=by
            intro es;induction es with
            |nil=>intro i;cases i<;>rfl
            | cons e es ih=>intro i;cases i with
              |zero=>obtain⟨a,b,c⟩:=e;rfl
              |succ i=>simp[tK,ih i]
          rw[hsl];simpa using hlen
        . rw[Vu]at g1;simp only[Zj7,Zl0]at g2;by_cases hji:j=i
          . subst hji;rw[Zb3 rfl,hei]at g1;simp[akC]at g1 g2;subst g1;subst g2;exact⟨h2,h3,(pF j e es'[j] hei akC).2.2⟩
          . rw[Za7 hji]at g1;rw[Za7 (λe=>hji e.symm)]at g2;exact pF j e e' g1 g2
     obtain⟨jk,hE'⟩:=abE hW hb (O8:=clock) hE2;refine⟨.skip,undef,_,ρ,?_,.inr ⟨rfl,rfl⟩,λ_ _=>rfl,jk,aC.Fz,hE'⟩;rw[hex];simp only[Instr.mapUpdate,Sem.run_bind,bt hd,Result.andThen_ok,he,run_getObj_map dV,hck,run_findKey hdk hf',akC,Ze5,Zf1,Instr.keyThatStays,hsb,Zh5,Sem.run_pure,run_setObj_map dV]
 . rename_i hpk hf;simp only[H5]at hr;subst hr;obtain⟨r',hf',nR⟩:=Gr NT h2 hE hf;rcases nR with⟨_,e2⟩|⟨j',v',y,e1,_⟩
   . subst  e2;have hE2:MO ρ st.next.toNat C (es++[(kk,vv,clock)]) (es'.push { key:=a.eval k0,val:=a.eval v0,born:=clock }).toList:=by
        refine⟨by simp[hlen],λj e e' g1 g2=> ?_⟩;simp only[Array.toList_push]at g2;rcases Zi8 j es.length with hj|hj
        . rw[Zc3 hj]at g1;rw[Zc3 (by simp;omega)]at g2;exact pF j e e' g1 (by simpa using g2)
        . rw[Zc2 hj]at g1;rw[Zc2 (by simp;omega)]at g2;have:j - es.length=0:=(by have:=(Za2.1 g1).1;simp at this;omega);rw[this]at g1;have:j - es'.toList.length=0:=(by simp;omega);rw[this]at g2;simp at g1 g2;subst g1;subst g2;exact⟨h2,h3,rfl⟩
     obtain⟨jk,hE'⟩:=abE hW hb (O8:=clock+1) hE2;refine⟨.skip,undef,_,ρ,?_,.inr ⟨rfl,rfl⟩,λ_ _=>rfl,jk,aC.Fz,hE'⟩;rw[hex];simp only[Instr.mapUpdate,Sem.run_bind,bt hd,Result.andThen_ok,he,run_getObj_map dV,hck,run_findKey hdk hf',run_setObj_map dV]
   . cases e1
end
section
variable{P : Program}{tt : TT}{ρ : Pos -> Loc}{C : Cells}{st : St}{w w' : World}
theorem cq.of_heap(hW:cq ρ C st w)(h:w'.heap=w.heap):cq ρ C st w' where
 live b x hb:=let⟨h1,h2,h3⟩:=hW.live b x hb;⟨h1,by rw[h];exact h2,h3.of_heap (by rw[h])⟩
 inj:=hW.inj
 ei a v ha:=let⟨h1,h2⟩:=hW.ei a v ha;⟨by unfold World.cell? at h1 ⊢; rw[h];exact h1,h2⟩
 whole a v ha o ho:=by have:=hW.whole a v ha o ho;unfold World.cell? at this ⊢; rw[h];exact this
theorem Zx{es:Nat}:∀{xs:List (List AV)}(_h:∀(i:Nat)(cs:List AV),xs[i]? =some cs->cs.length=es)(q:Nat)(v:AV),
  xs.flatten[q]? =some v->∃cs,xs[q / es]? =some cs/\cs[q % es]? =some v
 |[],_,q,v,hv=>by simp at hv
 |c ::xs,h,q,v,hv=>by
  have hc:c.length=es:=h 0 c rfl;have rF:∀(i:Nat)(cs:List AV),xs[i]? =some cs->cs.length=es:=λi cs hi=>h (i+1) cs (by simpa using hi)
  rw[Zf6]at hv;rcases Zi8 q c.length with hq|hq
  . rw[Zc3 hq]at hv;refine⟨c,?_,?_⟩
    .   rw[Nat.div_eq_of_lt (by omega)];rfl
    .   rw[Zj9 (by omega)];exact hv
  . rw[   Zc2 hq]at hv;obtain⟨cs,h1,h2⟩:=Zx rF (q - c.length) v hv;rw[hc]at hq h1 h2;have Vq:0<es:=by
        rcases Zn4 es with h0|h0
        . subst h0;have hl:=rF _ _ h1;have:=(Za2.1 h2).1;omega
        . exact h0
    refine⟨cs,?_,?_⟩
    .   rw[Nat.div_eq_sub_div Vq hq];simpa using h1
    .   rw[Zp6 hq];exact h2
theorem Zy{es:Nat}:∀{xs:List (List AV)}(_h:∀(i:Nat)(cs:List AV),xs[i]? =some cs->cs.length=es),xs.flatten.length=xs.length*es
 |[],_=>by simp
 |c::xs,h=>by have hc:c.length=es:=h 0 c rfl;rw[Zf6,Ze8,Zy (λi cs hi=>h (i+1) cs (by simpa using hi)),hc,Zc6,Zj3];omega
theorem vw(hW:cq ρ C st w){es m:Nat}{u:AV}{x:Value}{new:List AV}{k:Nat}(hu:aC ρ st.next.toNat C u x)(hk:eH u=some k)(hmk:m<=k)(h:dF es m (λb=>st.heap.get b) u=some new)(w2:World)(sQ:w2.heap=w.heap):
   ∃ys:List Value,(Builtin.firstCells es m x).run P w2= .ok ys.toArray w2/\aK ρ st.next.toNat C new ys/\(u= .af\/new.length=m*es):=by
 have hW2:=hW.of_heap (w':=w2) sQ;unfold dF at h;split at h
 . simp only[H5]at h;subst h;rw[hu.jv];exact⟨[],by simp[Builtin.firstCells],aK.nil,.inl rfl⟩
 . rename_i b off len cap es';simp only[eH,H5]at hk;subst hk;obtain⟨aa,bu,he,hle,_,ha⟩:=hu.gL;rw[he];split at h
   . rename_i h0;have h0:=Za6 h0;simp only[H5]at h;subst h;exact⟨[],by simp[Builtin.firstCells,h0,loadCells,loadCellsFrom],aK.nil,.inr (by simp[h0])⟩
   . rename_i h0;have h0:=Zf0 h0;(split at h<;>first|(cases h;done)|skip);rename_i cs fz hb;have hm:m≠0:=(by intro e;subst e;simp at h0);obtain⟨_,rfl,_⟩:=ha (by omega);obtain⟨ys,h1,h2⟩:=hW2.loadCells (P:=P) hb h;exact⟨ys,by simp only[Builtin.firstCells];exact h1,h2,.inr (Q4 h)⟩
 . rename_i xs es';simp only[eH,H5]at hk;subst hk;(split at h<;>first|(cases h;done)|skip);rename_i he1 O9;have he1:=Za6 he1;have O9:=Zb4 O9;subst he1;simp only[H5]at h;subst h;obtain⟨aa,bu,cell,he,hle,Aw,g1,g2,g3⟩:=hu.yl;rw[he];have dV:∀(i:Nat)(cs:List AV),(xs.take m)[i]? =some cs->cs.length=es:=λi cs hi=>by
     rw[Ze1]at hi;split at hi
     . exact g1 i cs hi
     . cases hi
   have hfl:=Zy dV;rw[Zi4,Zl3 O9]at hfl;have aq5:∀q v,(xs.take m).flatten[q]? =some v->∃cs,xs[q / es]? =some cs/\cs[q % es]? =some v:=λq v hv=>by
     obtain⟨cs,h1,h2⟩:=Zx dV q v hv;rw[Ze1]at h1;split at h1
     . exact⟨cs,h1,h2⟩
     . cases h1
   refine⟨(List.range (m*es)).map λq=>cell (q / es) (q % es),?_,⟨by simp[hfl],λq v y hv hy=> ?_⟩,.inr hfl⟩
   . simp only[Builtin.firstCells];(refine run_loadCells w2 _ _ _ λq hq=> ?_);have aS:q<(xs.take m).flatten.length:=(by rw[hfl];exact hq);obtain⟨cs,h1,h2⟩:=aq5 q _ (H0 aS);have Aw:=Aw (by intro e;rw[e]at h1;simp at h1);obtain⟨ab,ao,asp⟩:=aa;simp only at Aw;subst Aw;have:=(hW2.ei _ _ (g2 _ _ _ _ h1 h2)).1;rw[ux];simp only at this;rw[show ao+q=ao+q / es*es+q % es from by rw[Zj1,Nat.mul_comm,Nat.div_add_mod]];exact this
   . obtain⟨cs,h1,h2⟩:=aq5 q v hv;have hq:q<m*es:=(by rw[<-hfl];exact(Za2.1 hv).1);simp[hq]at hy;subst hy;exact g3 _ _ _ _ h1 h2
 . rename_i s;simp only[eH,H5]at hk;subst hk;(split at h<;>first|(cases h;done)|skip);rename_i he1 O9;have he1:=Za6 he1;have O9:=Zb4 O9;subst he1;simp only[H5]at h;subst h;obtain⟨bs,rfl,hs⟩:=hu.fu;refine⟨(s.take m).map λ(c:Nat)=>Value.int .u8 (.ofNat c),?_,⟨by simp,λq v y hv hy=> ?_⟩,.inr (by simp;omega)⟩
   . simp only[Builtin.firstCells,Sem.run_pure];congr 1;apply Zm5;simp only[Array.toList_map,ByteArray.data_extract,Zo9,List.extract,Ze6,Zr0];rw[<-hs, <-List.map_take,Zh8];rfl
   . simp only[Zb7,Zf3]at hv hy;obtain⟨c,hc,rfl⟩:=hv;obtain⟨c',Zz,rfl⟩:=hy;rw[hc]at Zz;cases Zz;exact .int _ _
 . cases h
theorem agz{n:Nat}{u:AV}{x:Value}{k:Nat}(hu:aC ρ n C u x)(hk:eH u=some k):(Builtin.lenOf x).run P w= .ok k w:=by
 unfold eH at hk;split at hk<;>first|(cases hk;done)|skip
 all_goals simp only[H5]at hk;subst hk
 . rw[hu.jv];rfl
 . obtain⟨_,_,he,_⟩:=hu.gL;rw[he];rfl
 . obtain⟨_,_,_,he,_⟩:=hu.yl;rw[he];rfl
 . obtain⟨bs,rfl,hs⟩:=hu.fu;rw[<-KR hs];rfl
theorem aek(nl:Nat):∀(r c:Nat),c<=nl+(nl+768) / 4->Builtin.growBy nl r c<=nl+(nl+768) / 4
 |0,c,h=>h
 |r+1,c,h=>by
  unfold Builtin.growBy;split
  . exact h
  . exact aek nl r _ (by omega)
theorem nextslicecap_le{akD gK:Nat}(h:gK<akD):Builtin.nextslicecap akD gK<=2*akD+768:=by
 unfold Builtin.nextslicecap;split
 . omega
 . split
   . omega
   . have:=aek akD 4 gK (by omega);omega
theorem akE(hT:dy P tt){t t2 e:Nat}{ts:Array TypeId}{ti t2i te:TI}(fI:tt.get (key t)=some ti)(ht2:tt.get (key t2)=some t2i)(hk:ti.k= .slice e)(ug:∀k,t2i.k≠ .int k)
  (oZ:tt.get (key e)=some te) (h0:ts[0]? =some t) (h1:ts[1]? =some t2) (ty:TypeId) (base:Option Addr) (n cap m:Nat) (x:Value) (w:World)
  (hx:(Builtin.lenOf x).run P w= .ok m w) (hb:(2*(n+m)+768)*te.bytes<=281474976710656) (hi:n+m<=9223372036854775807):
  (Builtin.append_ ts ty #[.slice base n cap,x]).run P w=
    if n+m<=cap then((Builtin.firstCells te.size m x).run P w).andThen λnew w=>((match base with|some a=>storeCells (a.add (n*te.size)) new.toList|none=>pure ()).run P w).andThen λ_ w=> .ok (.slice base (n+m) cap) w
    else((Builtin.firstCells te.size n (.slice base n cap)).run P w.drew).andThen λgK w1=>((Builtin.firstCells te.size m x).run P w1).andThen λnew w2=>((zeroValue e).run P w2).andThen λz w3=>
        .ok (.slice (some ⟨w3.heap.size,0,none⟩) (n+m) (grownCap w (n+m) cap e)) (w3.alloc (.cells (gK++new++Builtin.zeroCells z.cells (grownCap w (n+m) cap e - (n+m))) e)):=by
 obtain⟨d,hd,dH⟩:=(hT.at fI).und;rw[hk]at dH;rw[tO dH]at hd;obtain⟨d2,hd2,aoS⟩:=(hT.at ht2).und;obtain⟨i0,sP,u9,hib,_⟩:=(hT.at oZ).info;have auo:∀k,d2≠ .int k:=by
  rintro k rfl;cases ML:t2i.k<;>rw[ML]at aoS<;>first|(simp[bZ]at aoS;done)|exact absurd ML (ug _)
 have hmax:¬(((n+m:Nat):Int)>IntKind.i64.max):=by
  have:IntKind.i64.max=9223372036854775807:=by decide
  rw[this];omega
 have aup:¬(n+m<=cap)->¬(Builtin.nextslicecap (n+m) cap*te.bytes>2 ^ 48):=λhc=>by
  have h1:=nextslicecap_le (Nat.lt_of_not_le hc);have h2:=Zh0 te.bytes h1;have:(2:Nat) ^ 48=281474976710656:=by decide
  omega
 have agv:∀q,(Question.appendCap (n+m) cap e).forced=q->q=false:=by rintro q rfl;rfl
 clear aoS;cases d2<;>first|(exact absurd rfl (auo _))|skip
 all_goals
  unfold Builtin.append_;simp only[h0,h1,List.getElem?_toArray,Za5,Zc0,Sem.run_bind,bt hd,Result.andThen_ok,mJ sP,u9,bt hd2,Sem.run_pure,hx,Zf5,Zh2,Zl6,Zh5,Sem.run_ite];by_cases hc:n+m<=cap
  . rw[Zb3 hc,Zb3 hc];cases base<;>simp only[Sem.run_bind,Sem.run_pure,Result.andThen_ok]
  . rw[Za7 hc,Za7 hc];simp only[Sem.run_bind,agp sP,hib,Result.andThen_ok,hmax,false_and,Zh2,aup hc,run_choose,Question.forced,Zf5,World.drew_eq,run_askRoom,Sem.run_pure,newRow,run_newObj,World.alloc_eq];rfl
end
section
variable{P : Program}{tt : TT}{ρ : Pos -> Loc}{C : Cells}{st : St}{w w' : World}
theorem aoT{L:Loc}{cs:List AV}{n:Nat}(fz:Nat)(h:tM ρ n C L w' (.cells cs 0)):tM ρ n C L w' (.cells cs fz):=
 let⟨c,e,fr,h1,h2,h3,h4,h5⟩:=h
 ⟨c,e,fr,h1,h2,h3,h4,λi _ hi=>h5 i (Zi0 _) hi⟩
theorem akF(hW:cq ρ C st w)(del:Option Pos)(fz:Nat){gK new rest:List Value}{ol nl:List AV}{e:TypeId}{n m es bu:Nat}(h1:aK ρ st.next.toNat C ol gK)(h2:aK ρ st.next.toNat C nl new)
  (MR:ol.length=n*es) (hln:nl.length=m*es) (hr:rest.length=(bu - (n+m))*es) (hc:n+m<=bu) {w2:World} (sQ:w2=w.drew.alloc (.cells (gK++new++rest).toArray e)):
  ∃ρ':Pos->Loc,(∀b:Pos,b.toNat<st.next.toNat->ρ' b=ρ b)/\cq ρ' C (st.bk del none (some (.cells (ol++nl) fz))) w2/\qm ρ st w ρ' (st.bk del none (some (.cells (ol++nl) fz))) w2/\
   aC ρ' (st.bk del none (some (.cells (ol++nl) fz))).next.toNat C (.slice st.next 0 (n+m) none es) (.slice (some ⟨w.heap.size,0,none⟩) (n+m) bu):=by
 subst sQ;have hl1:gK.length=n*es:=by rw[<-h1.1,MR]
 have u6:new.length=m*es:=by rw[<-h2.1,hln]
 have gR:(gK++new++rest).length=bu*es:=by simp only[Ze8,hl1,u6,hr];rw[<-Zj3, <-Zj3];congr 1;omega
 obtain ⟨ρ',bE,ji,jk,hE⟩:=OZ (w':=w.drew.alloc (.cells (gK++new++rest).toArray e)) (o:= .cells (gK++new++rest).toArray e) (x0:= .cells (ol++nl) fz) (base:=0) (size:=(gK++new++rest).toArray.size) hW del rfl rfl rfl rfl (λρ' n' bE hn=>
  aoT   fz <| BW (e:=e) (fr:=(0,0)) (by show(w.heap.push _)[w.heap.size]? =_;simp) (by simp[MR,hln,hl1,u6])
   (by
        have:(gK++new++rest).toArray.toList.take (ol++nl).length=gK++new:=by
         rw[Zr4 (by simp[MR,hln,hl1,u6])]
        rw[this];exact(h1.append h2).mono bE hn) (λi _=>by simp))
 refine⟨ρ',bE,jk,hE,MQ (by simp[St.bk,Pos.aF]) ji hc (λc hc=>by cases hc) (by simp only[Zn8,gR];exact Za3 _)⟩
theorem afn(z:Array Value)(m:Nat):(Builtin.zeroCells z m).toList.length=m*z.size:=by simp[Builtin.zeroCells]
theorem aoU{m:Nat}(h:Nat.beq m 0=false):m≠0:=Zf0 h
theorem akG (hT:dy P tt){t t2 e:Nat}{ts:Array TypeId}{ti t2i te:TI}{z:List AV}(fI:tt.get (key t)=some ti)(ht2:tt.get (key t2)=some t2i)(hk:ti.k= .slice e)(ug:∀k,t2i.k≠ .int k)
   (oZ:tt.get (key e)=some te) (hz:te.zero=some z) (h0:ts[0]? =some t) (h1:ts[1]? =some t2) (ty:TypeId) {s u:AV} {xs xu:Value} {res:eG} (hW:cq ρ C st w)
   (hs:aC ρ st.next.toNat C s xs) (hu:aC ρ st.next.toNat C u xu) (hr:lK (λb=>st.heap.get b) st.next te.size te.bytes [s,u]=some res):
   Ge P ρ C st w (((Builtin.append_ ts ty #[xs,xu]).run P w).andThen λv w=> .ok (.value v) w) res:=by
 simp only[lK]at hr;split at hr<;>first|(cases hr;done)|skip
 rename_i n m hn hm;split at hr<;>first|(cases hr;done)|skip
 rename_i b1 b2;have b1:=Zb4 b1;have b2:=Zb4 b2;have hlen:=agz (P:=P) (w:=w) hu hm;obtain⟨i0,sP,u9,_,MP⟩:=(hT.at oZ).info;obtain⟨zv0,hzv0,_,hzl,_⟩:=MP z hz;have hzr:=λw=>Fy hT oZ hz (ρ:=ρ) (n:=st.next.toNat) (C:=C) w
 have hsl:∃base bu,xs= .slice base n bu/\n<=bu:=by
   unfold eH at hn;split at hn<;>first|(cases hn;done)|skip
   . cases hn;exact⟨none,0,hs.jv,Za3 _⟩
   . cases hn;obtain⟨a,c,he,hle,_⟩:=hs.gL;exact⟨_,c,he,hle⟩
   . cases hn;obtain⟨a,c,_,he,hle,_⟩:=hs.yl;exact⟨_,c,he,hle⟩
   . rename_i s';exfalso;cases hbm:Nat.beq m 0<;>simp[hbm]at hr
 obtain⟨base,bu,rF,hle⟩:=hsl;have dP:=akE hT fI ht2 hk ug oZ h0 h1 ty base n bu m xu w hlen b1 b2;rw[rF,dP];have hg:∀c,n+m<=grownCap w (n+m) c e:=λc=>by unfold grownCap Question.cut;exact Nat.le_add_right _ _
 have agA:∀(del:Option Pos)(fz:Nat)(ol nl:List AV),¬(n+m<=bu)->dF te.size n (λb=>st.heap.get b) s=some ol->dF te.size m (λb=>st.heap.get b) u=some nl->ol.length=n*te.size->nl.length=m*te.size->
     Ge P ρ C st w ((if n+m<=bu then((Builtin.firstCells te.size m xu).run P w).andThen λnew w=>((match base with|some a=>storeCells (a.add (n*te.size)) new.toList|none=>pure ()).run P w).andThen λ_ w=> .ok (.slice base (n+m) bu) w
     else((Builtin.firstCells te.size n (.slice base n bu)).run P w.drew).andThen λgK w1=>((Builtin.firstCells te.size m xu).run P w1).andThen λnew w2=>((zeroValue e).run P w2).andThen λz w3=>
        .ok (.slice (some ⟨w3.heap.size,0,none⟩) (n+m) (grownCap w (n+m) bu e)) (w3.alloc (.cells (gK++new++Builtin.zeroCells z.cells (grownCap w (n+m) bu e - (n+m))) e))).andThen λv w=> .ok (.value v) w)
        (.bk (.slice st.next 0 (n+m) none te.size) del none (some (.cells (ol++nl) fz))):=by
   intro del fz ol nl hc ho sS MR hln;obtain⟨gK,e1,e2,_⟩:=vw (P:=P) hW hs hn (Za3 _) ho w.drew rfl;obtain⟨new,e3,e4,_⟩:=vw (P:=P) hW hu hm (Za3 _) sS w.drew rfl;obtain⟨zv,Ts,_,EL⟩:=hzr w.drew;rw[rF]at e1;have afZ:(Builtin.zeroCells zv.cells (grownCap w (n+m) bu e - (n+m))).toList.length=(grownCap w (n+m) bu e - (n+m))*te.size:=(by rw[afn];congr 1;have:=EL.1;simp at this;omega);obtain⟨ρ',bE,jk,hE,hv⟩:=akF hW del fz e2 e4 MR hln afZ (hg bu) (e:=e) rfl;refine⟨_,_,_,ρ',?_,Yields.value _,bE,jk,hv,hE⟩;rw[Za7 hc];simp only[e1,e3,Ts,Result.andThen_ok,World.size_drew];congr 2;simp
 have hlu:∀nl,dF te.size m (λb=>st.heap.get b) u=some nl->m≠0->nl.length=m*te.size:=by
   intro nl sS hm0;obtain⟨_,_,_,h⟩:=vw (P:=P) hW hu hm (Za3 _) sS w rfl;rcases h with rfl|h
   . simp[eH]at hm;omega
   . exact h
 have hls:∀ol,dF te.size n (λb=>st.heap.get b) s=some ol->ol.length=n*te.size:=by
   intro ol Gt;obtain⟨ys,_,zA,h⟩:=vw (P:=P) hW hs hn (Za3 _) Gt w rfl;rcases h with rfl|h
   . simp[eH]at hn;subst hn;simp[dF]at Gt;subst Gt;simp
   . exact h
 have hzero:m=0->aC ρ st.next.toNat C s xs->Ge P ρ C st w ((if n+m<=bu then((Builtin.firstCells te.size m xu).run P w).andThen λnew w=>((match base with|some a=>storeCells (a.add (n*te.size)) new.toList|none=>pure ()).run P w).andThen λ_ w=> .ok (.slice base (n+m) bu) w
     else((Builtin.firstCells te.size n (.slice base n bu)).run P w.drew).andThen λgK w1=>((Builtin.firstCells te.size m xu).run P w1).andThen λnew w2=>((zeroValue e).run P w2).andThen λz w3=>
        .ok (.slice (some ⟨w3.heap.size,0,none⟩) (n+m) (grownCap w (n+m) bu e)) (w3.alloc (.cells (gK++new++Builtin.zeroCells z.cells (grownCap w (n+m) bu e - (n+m))) e))).andThen λv w=> .ok (.value v) w) (.val s):=by
   rintro rfl hsx;have hf:(Builtin.firstCells te.size 0 xu).run P w= .ok #[] w:=by
     unfold eH at hm;split at hm<;>first|(cases hm;done)|skip
     .  rw[hu.jv];simp[Builtin.firstCells]
     .  obtain⟨_,_,he,_⟩:=hu.gL;rw[he];simp[Builtin.firstCells,loadCells,loadCellsFrom]
     .  obtain⟨_,_,_,he,_⟩:=hu.yl;rw[he];simp[Builtin.firstCells,loadCells,loadCellsFrom]
     .  obtain⟨bs,rfl,_⟩:=hu.fu;simp only[Builtin.firstCells,Sem.run_pure];congr 1;apply Zm5;simp
   rw[rF]at hsx;refine .pure (x:= .slice base n bu) ?_ hsx;rw[Zb3 (by omega),hf];cases base<;>simp[storeCells]
 split at hr<;>first|(cases hr;done)|skip
 . rename_i CH;simp only[H5]at hr;subst hr;exact hzero (Za6 CH) hs
 . rename_i CH;simp only[H5]at hr;subst hr;exact hzero (Za6 CH) hs
 . rename_i CH;simp only[H5]at hr;subst hr;exact hzero (Za6 CH) hs
 ·
   rename_i CH;have CH:=aoU CH;(split at hr<;>first|(cases hr;done)|skip);rename_i new sS;simp only[H5]at hr;subst hr;have he:=hs.jv;rw[he]at rF;simp only[Value.slice.injEq]at rF;obtain⟨rfl,rfl,rfl⟩:=rF;have:=agA none 0 [] new (by omega) rfl sS (by simp) (hlu new sS CH);simpa using this
 ·
   rename_i b off n' c es' CH;have CH:=aoU CH;simp only[eH,H5]at hn;subst hn;obtain⟨aa,cc,he,hlec,hcc,ha⟩:=hs.gL;rw[he]at rF;simp only[Value.slice.injEq]at rF;obtain⟨rfl,_,rfl⟩:=rF;have:=hcc c rfl;subst this;split at hr
   . rename_i zD;have zD:=Zb4 zD;(split at hr<;>first|(cases hr;done)|skip);rename_i cs fz new hb sS;(split at hr<;>first|(cases hr;done)|skip);rename_i c1 c2 c3;have c1:=Zb4 c1;simp only[Zb5]at c2;have c2a:=Zb4 c2.1;have c2b:=Za6 c2.2;subst c2b;simp only[H5]at hr;subst hr;obtain⟨aS,rfl,hbound⟩:=ha (by omega);obtain⟨ys,e1,e2,_⟩:=vw (P:=P) hW hu hm (Za3 _) sS w rfl;have Q9:=hlu new sS CH;obtain⟨w2,e3,jk,hE⟩:=Q8 (P:=P) hW hb (by rw[Q9];rw[Zj3]at c1;omega) c2a c3 e2;refine⟨_,.slice (some ⟨(ρ b).aM,(ρ b).base+off,none⟩) (n'+m) c,w2,ρ,?_,Yields.value _,λ_ _=>rfl,jk,?_,hE⟩
     .  rw[Zb3 zD,e1];simp only[Result.andThen_ok,ux];rw[Zj1,e3];rfl
     .  exact .slice _ _ _ _ _ _ _ zD (λc hc=>by cases hc;rfl) (λ_=>⟨aS,rfl,hbound⟩) (λh=>by cases h)
   . rename_i zD;have zD:¬(n'+m<=c):=λh=>by rw[Nat.ble_eq_true_of_le h]at zD;cases zD
     (split at hr<;>first|(cases hr;done)|skip);rename_i gK new Gt sS;simp only[H5]at hr;subst hr;exact agA none 0 gK new zD Gt sS (hls gK Gt) (hlu new sS CH)
 ·
   rename_i b off n' es' CH;have CH:=aoU CH;simp only[eH,H5]at hn;subst hn;(split at hr<;>first|(cases hr;done)|skip);rename_i cs fz gK new hb Gt sS;(split at hr<;>first|(cases hr;done)|skip);rename_i c2 c3;simp only[Zb5]at c2;have c2a:=Zb4 c2.1;have c2b:=Za6 c2.2;subst c2b;simp only[H5]at hr;subst hr;by_cases zD:n'+m<=bu
   ·
     obtain ⟨aa,cc,he,hlec,hcc,ha⟩:=hs.gL;rw[he]at rF;simp only[Value.slice.injEq]at rF;obtain⟨rfl,_,rfl⟩:=rF;obtain⟨aS,rfl,hbound⟩:=ha (by omega);obtain⟨ys,e1,e2,_⟩:=vw (P:=P) hW hu hm (Za3 _) sS w rfl;have Q9:=hlu new sS CH;have aq6:=hls gK Gt;obtain⟨zC,Gq,c,ce,fr,g1,g2,g3,g4,g5⟩:=hW.live b _ hb;have hmul:(n'+m)*te.size<=cc*te.size:=Zh0 _ zD;have hmul2:(n'+m)*te.size=n'*te.size+m*te.size:=Zj3 _ _ _;have hyl:ys.length=m*te.size:=(by rw[<-e2.1,Q9]);have hold:aK ρ st.next.toNat C gK ((c.toList.drop ((ρ b).base+off)).take (n'*te.size)):=by
        simp only[dF]at Gt;split at Gt
        . rename_i hz0;have hz0:=Za6 hz0;simp only[H5]at Gt;subst Gt;rw[hz0];simpa using(aK.nil:aK ρ st.next.toNat C [] [])
        . rw[hb]at Gt;simp only at Gt;obtain⟨ho1,Vv⟩:=abz Gt;have h:=(g4.drop off).take (n'*te.size);rw[<-ho1]at h;have:List.take (n'*te.size) (List.drop off (List.take cs.length (List.drop (ρ b).base c.toList)))=(c.toList.drop ((ρ b).base+off)).take (n'*te.size):=by
            rw[Zn7,List.take_take,Zl7,Zl3 (by omega)]
          rw[this]at h;exact h
     obtain⟨w2,s1,s2,s3,s4,s5,s6,s7⟩:=wZ (P:=P) (ρ b).aM ce fr ys 0 ((ρ b).base+off+n'*te.size) c w g1 (by omega) (Q7 c3 e2) (λk hk uf=>by
        have:=g5 (k - (ρ b).base) (by omega) (by omega)
        rwa [show(ρ b).base+(k - (ρ b).base)=k from by omega]at this)
     simp only[Zf8]at s1 s2
     let ρ':Pos->Loc:=λq=>if q=st.next then⟨(ρ b).aM,(ρ b).base+off,(ρ b).size⟩else ρ q
     have bE:∀q:Pos,q.toNat<st.next.toNat->ρ' q=ρ q:=λq hq=>Za7 (λe=>by rw[e]at hq;omega)
     have ji:ρ' st.next=⟨(ρ b).aM,(ρ b).base+off,(ρ b).size⟩:=Zb3 rfl;have hcl:c.toList.length=c.size:=(by simp);have hWn:cq ρ' C (st.bk (some b) none (some (.cells (gK++new) (fz - off)))) w2:=by
        refine hW.aks (b0:=st.next) (x0:= .cells (gK++new) (fz - off)) (by rw[Pos.aF];omega) (by rw[Pos.aF];omega) (by rw[T.gH]) ?_ bE ?_ ?_ (by rw[ji,s3];exact Gq) (by omega) (λk hk uf=>s4 k (by rw[ji]at uf;exact uf))
        . intro q x hq hx;rw[T.bX _ (λe=>hq e.symm)]at hx;obtain⟨h1,h2⟩:=Q6 (some b) _ hx;refine⟨h1,?_⟩;rw[ji];exact λe=>h2 b rfl (hW.inj _ _ _ _ h1 hb e)
        . rw[ji];refine⟨_,ce,fr,s2,by simp[aX];omega,by simp[aX,aq6,Q9];omega,?_,λi sP hi=> ?_⟩
          . (simp only;rw[Zw _ _ _ _ (by omega)];have htk:(aX (c.toList.drop ((ρ b).base+off)) (n'*te.size) ys).take (gK++new).length=(c.toList.drop ((ρ b).base+off)).take (n'*te.size)++ys:=by unfold aX;rw[<-Zf4,Zr4];simp[aq6,Q9,hyl];omega);rw[htk];exact(hold.append e2).mono bE (by rw[Pos.aF];omega)
          . have hi':(ρ b).base+off+i<c.size:=(by simp only[Zn8]at hi;have:(aX c.toList ((ρ b).base+off+n'*te.size) ys).length=c.size:=(by simp[aX];omega);omega);have:=g5 (off+i) (by omega) (by omega);simp only
            rwa [<-Zj1]at this
        . intro ad v hv;rw[ji];exact λe=>(hW.ei ad v hv).2 b _ hb e.symm
     refine⟨_,(.slice (some ⟨(ρ b).aM,(ρ b).base+off,none⟩) (n'+m) cc),w2,ρ',?_,Yields.value _,bE,hWn,?_,⟨s5,s6,s7,by omega,λk _ hk=>s4 k (λe=>hk b _ hb e.symm),λq x hx=> ?_⟩⟩;rotate_left;rotate_left
     .  left;by_cases hq:q=st.next
        . exact⟨b,_,hb,by rw[hq,ji]⟩
        . simp only[St.bk,NS]at hx;rw[T.bX _ (λe=>hq e.symm)]at hx;obtain⟨h1,_⟩:=Q6 (some b) _ hx;exact⟨q,x,h1,by rw[bE q (hW.live q x h1).1]⟩
     .  rw[Zb3 zD,e1];simp only[Result.andThen_ok,ux];rw[s1];rfl
     .  refine .slice _ _ _ _ _ _ _ zD (λc hc=>by cases hc) (λ_=>⟨by simp[St.bk,Pos.aF],by rw[ji];rfl,?_⟩) (λ_=>by simp[St.bk,Pos.aF]);rw[ji];simp only;omega
   . exact agA (some b) _ gK new zD Gt sS (hls gK Gt) (hlu new sS CH)
end
section
variable{P : Program}{tt : TT}{ρ : Pos -> Loc}{C : Cells}{st : St}{w w' : World}
theorem abG{n:Nat}{xs:Array Value}{u v:AV}(h:aK ρ n C [u,v] xs.toList):∃x y,xs= #[x,y]/\aC ρ n C u x/\aC ρ n C v y:=by
 obtain⟨x,l,h1,h2,h3⟩:=h.cons_inv;obtain⟨y,l',h4,h5,h6⟩:=h3.cons_inv;have:=h6.qy;subst this;exact⟨x,y,by apply Zm5;rw[h1,h4],h2,h5⟩
theorem amA{n:Nat}{xs:Array Value}{u:AV}(h:aK ρ n C [u] xs.toList):∃x,xs= #[x]/\aC ρ n C u x:=by
 obtain⟨x,l,h1,h2,h3⟩:=h.cons_inv;have:=h3.qy;subst this;exact⟨x,by apply Zm5;rw[h1],h2⟩
theorem akH{ts:Array TypeId}{t:TypeId}{l:List TypeId}(h:ts.toList=t::l):ts[0]? =some t:=by rw[<-Zj7,h];rfl
theorem arr1{ts:Array TypeId}{t t2:TypeId}{l:List TypeId}(h:ts.toList=t::t2::l):ts[1]? =some t2:=by rw[<-Zj7,h];rfl
theorem aoV(hT:dy P tt){t e:Nat}{ts:Array TypeId}{ti te:TI}(fI:tt.get (key t)=some ti)(hk:ti.k= .slice e)
   (oZ:tt.get (key e)=some te) (h0:ts[0]? =some t) (ty:TypeId) {d u:AV} {xd xu:Value} {res:eG} (hW:cq ρ C st w)
   (hd:aC ρ st.next.toNat C d xd) (hu:aC ρ st.next.toNat C u xu) (hr:pE (λb=>st.heap.get b) st.next te.size [d,u]=some res):
   Ge P ρ C st w (((Builtin.copy_ ts ty #[xd,xu]).run P w).andThen λv w=> .ok (.value v) w) res:=by
 obtain⟨dd,hdd,dH⟩:=(hT.at fI).und;rw[hk]at dH;rw[tO dH]at hdd;obtain⟨i0,sP,u9,_⟩:=(hT.at oZ).info;simp only[pE]at hr;split at hr<;>first|(cases hr;done)|skip
 rename_i n m hn hm;have hlen:=agz (P:=P) (w:=w) hu hm;have hsl:(∃s,d= .str s)\/∃base bu,xd= .slice base n bu/\n<=bu:=by
   unfold eH at hn;split at hn<;>first|(cases hn;done)|skip
   . cases hn;exact .inr ⟨none,0,hd.jv,Za3 _⟩
   . cases hn;obtain⟨a,c,he,hle,_⟩:=hd.gL;exact .inr ⟨_,c,he,hle⟩
   . cases hn;obtain⟨a,c,_,he,hle,_⟩:=hd.yl;exact .inr ⟨_,c,he,hle⟩
   . exact .inl ⟨_,rfl⟩
 have atq:m=0\/n=0->(Builtin.firstCells te.size 0 xu).run P w= .ok #[] w:=by
   intro _;unfold eH at hm;split at hm<;>first|(cases hm;done)|skip
   . rw[hu.jv];simp[Builtin.firstCells]
   . obtain⟨_,_,he,_⟩:=hu.gL;rw[he];simp[Builtin.firstCells,loadCells,loadCellsFrom]
   . obtain⟨_,_,_,he,_⟩:=hu.yl;rw[he];simp[Builtin.firstCells,loadCells,loadCellsFrom]
   . obtain⟨bs,rfl,_⟩:=hu.fu;simp only[Builtin.firstCells,Sem.run_pure];congr 1;apply Zm5;simp
 have u7:∀base bu,xd= .slice base n bu->(Builtin.copy_ ts ty #[xd,xu]).run P w=((Builtin.firstCells te.size (Nat.min m n) xu).run P w).andThen λcells w=>((match base with|some a=>storeCells a cells.toList|none=>pure ()).run P w).andThen λ_ w=> .ok (goInt (Nat.min m n)) w:=by
   intro base bu he;unfold Builtin.copy_;simp only[h0,he,List.getElem?_toArray,Za5,Zc0,Sem.run_bind,bt hdd,Result.andThen_ok,mJ sP,u9,hlen];cases base<;>simp only[Sem.run_bind,Sem.run_pure,Result.andThen_ok]
 split at hr
 . rename_i yo;have yo:=Za6 yo;(split at hr<;>first|(cases hr;done)|skip);rename_i hns;simp only[H5]at hr;subst hr;rcases hsl with⟨s,rfl⟩|⟨base,bu,he,hle⟩
   . exact absurd rfl (hns s)
   . have hk0':Nat.min m n=0:=yo;refine .pure (x:=goInt 0) ?_ (.int _ _);rw[u7 base bu he,hk0',atq (by have:min m n=0:=yo;omega)];cases base<;>simp[storeCells]
 . rename_i yo;have yo:=Zf0 yo;(split at hr<;>first|(cases hr;done)|skip);rename_i b off n' cap es';(split at hr<;>first|(cases hr;done)|skip);rename_i cs fz new hb sS;(split at hr<;>first|(cases hr;done)|skip);rename_i c1 c2 c3;have c1:=Zb4 c1;have c2:=Zb4 c2;simp only[H5]at hr;subst hr;simp only[eH,H5]at hn;subst hn;obtain⟨aa,bu,he,hle,_,ha⟩:=hd.gL;have akI:min m n'<=m/\min m n'<=n':=⟨Nat.min_le_left _ _,Nat.min_le_right _ _⟩
   obtain⟨aS,rfl,_⟩:=ha (by omega);obtain⟨ys,e1,e2,e3⟩:=vw (P:=P) hW hu hm akI.1 sS w rfl;have Q9:new.length=min m n'*te.size:=by
     rcases e3 with rfl|e3
     . simp[eH]at hm;omega
     . exact e3
   obtain⟨w2,f1,jk,hE⟩:=Q8 (P:=P) hW hb (by rw[Q9];exact c1) c2 c3 e2;refine⟨_,goInt ((min m n':Nat):Int),w2,ρ,?_,Yields.value _,λ_ _=>rfl,jk,.int _ _,hE⟩;rw[u7 _ _ he];have hmm:Nat.min m n'=min m n':=rfl;rw[hmm,e1];simp only[Result.andThen_ok];rw[f1];rfl
theorem arK(hT:dy P tt){t:Nat}{ts:Array TypeId}{ti:TI}(fI:tt.get (key t)=some ti){k:LK}(hk:(k= .s/\ti.k= .string)\/(k= .l/\∃e,ti.k= .slice e)\/(k= .m/\∃a b,ti.k= .map a b))
   (h0:ts[0]? =some t) (ty:TypeId) {u:AV} {xu:Value} {res:eG} (hW:cq ρ C st w)
   (hu:aC ρ st.next.toNat C u xu) (hr:OK (λb=>st.heap.get b) st.next k [u]=some res):
   Ge P ρ C st w (((Builtin.len_ ts ty #[xu]).run P w).andThen λv w=> .ok (.value v) w) res:=by
 obtain⟨d,hd,dH⟩:=(hT.at fI).und;have u7:∀x,xu=x->(Builtin.len_ ts ty #[xu]).run P w=(Builtin.len_ ts ty #[x]).run P w:=λx e=>by rw[e]
 simp only[OK]at hr;rcases hk with⟨rfl,hk⟩|⟨rfl,e,hk⟩|⟨rfl,a,b,hk⟩<;>rw[hk]at dH
 . rw[u0 dH]at hd;(cases u<;>simp only[reduceCtorEq]at hr<;>first|(cases hr;done)|skip);simp only[H5]at hr;subst hr;obtain⟨bs,rfl,hs⟩:=hu.fu;exact .pure (x:=goInt bs.size) (by unfold Builtin.len_;simp[h0,bt hd]) (by rw[KR hs];exact .int _ _)
 . rw[tO dH]at hd;cases u<;>simp only[reduceCtorEq]at hr<;>first|(cases hr;done)|skip
   . simp only[H5]at hr;subst hr;rw[hu.jv];exact .pure (x:=goInt 0) (by unfold Builtin.len_;simp[h0,bt hd]) (.int _ _)
   . simp only[H5]at hr;subst hr;obtain⟨aa,c,he,_⟩:=hu.gL;rw[he];exact .pure (by unfold Builtin.len_;simp[h0,bt hd];rfl) (.int _ _)
   . simp only[H5]at hr;subst hr;obtain⟨aa,c,_,he,_⟩:=hu.yl;rw[he];exact .pure (by unfold Builtin.len_;simp[h0,bt hd];rfl) (.int _ _)
 . rw[Vi dH]at hd;cases u<;>simp only[reduceCtorEq]at hr<;>first|(cases hr;done)|skip
   . simp only[H5]at hr;subst hr;rw[hu.Fx];exact .pure (x:=goInt 0) (by unfold Builtin.len_;simp[h0,bt hd]) (.int _ _)
   . (split at hr<;>first|(cases hr;done)|skip);rename_i es c hb;simp only[H5]at hr;subst hr;obtain⟨_,he⟩:=hu.BV;obtain⟨_,_,es',dV,hlen,_⟩:=hW.live _ _ hb;rw[he];exact .pure (x:=goInt es'.size) (by unfold Builtin.len_;simp[h0,bt hd,run_getObj_map dV]) (by rw[<-hlen];exact .int _ _)
theorem adi(z:Array Value)(m:Nat):(Builtin.zeroCells z m).toList=bR z.toList m:=by
 unfold Builtin.zeroCells;by_cases h:0<z.size
 . exact agx z m h
 . have h0:z.size=0:=(by omega);have:z= #[]:=Zo4 h0;subst this;have h1:bR ([]:List Value) m=[]:=Zc4 (by rw[lQ];simp);simp[h1]
theorem amB(hT:dy P tt){t e:Nat}{ts:Array TypeId}{ti te:TI}{z:List AV}(fI:tt.get (key t)=some ti)(hk:ti.k= .slice e)
   (oZ:tt.get (key e)=some te) (hz:te.zero=some z) (h0:ts[0]? =some t) (ty:TypeId) {u:AV} {xu:Value} {res:eG} (hW:cq ρ C st w)
   (hu:aC ρ st.next.toNat C u xu) (hr:sK (λb=>st.heap.get b) st.next te.size z [u]=some res):
   Ge P ρ C st w (((Builtin.clear_ ts ty #[xu]).run P w).andThen λv w=> .ok (.value v) w) res:=by
 obtain⟨dd,hdd,dH⟩:=(hT.at fI).und;rw[hk]at dH;rw[tO dH]at hdd;obtain⟨i0,sP,u9,_,MP⟩:=(hT.at oZ).info;obtain⟨zv0,_,_,hzl,_⟩:=MP z hz;obtain⟨zv,Ts,_,EL⟩:=Fy hT oZ hz (ρ:=ρ) (n:=st.next.toNat) (C:=C) w;simp only[sK]at hr;split at hr<;>first|(cases hr;done)|skip
 . simp only[H5]at hr;subst hr;rw[hu.jv];exact .pure (x:=undef) (by unfold Builtin.clear_;simp[h0,bt hdd];rfl) aC.Fz
 . rename_i b off n cap es';obtain⟨aa,bu,he,hle,_,ha⟩:=hu.gL;rw[he];split at hr
   . rename_i KU;have:=Za6 KU;subst this;simp only[H5]at hr;subst hr;exact .pure (x:=undef) (by unfold Builtin.clear_;simp[h0,bt hdd];rfl) aC.Fz
   . rename_i KU;have KU:=Zf0 KU;(split at hr<;>first|(cases hr;done)|skip);rename_i cs fz hb;(split at hr<;>first|(cases hr;done)|skip);rename_i c1 c2 c3;have c1:=Zb4 c1;have c2:=Zb4 c2;simp only[H5]at hr;subst hr;obtain⟨_,rfl,_⟩:=ha (by omega);obtain⟨w2,f1,jk,hE⟩:=Q8 (P:=P) hW hb (vs:=bR z n) (ys:=bR zv.cells.toList n) (by rw[lQ,hzl];exact c1) c2 c3 (NU EL n);refine⟨_,undef,w2,ρ,?_,Yields.value _,λ_ _=>rfl,jk,aC.Fz,hE⟩;unfold Builtin.clear_;cases n with
     |zero=>exact absurd rfl KU
     |succ n=>simp[h0,bt hdd,Ts,adi,f1,undef]
theorem Pa(c:Call)(f:Operand)(hc:c.callee= .value f)(a:Act)(o:Oper)(ho:o.op= .call c){g:FuncId}{x y:Array Value}(he:a.eval f= .func (.func g) x y):
  (execOp a.eval o).run P w=(callFunc g (x++c.args.map a.eval++y)).run P w:=by
 simp[execOp,ho,resolve,hc,he,Deferred.ofValue,invoke]
theorem aoW (hT:dy P tt) (c:Call):fy P tt (.call c):=by
 intro ρ C st w k xs cls fr a o vs res ho hc hW hF hx hr;simp only[kg]at hc;split at hc<;>first|(cases hc;done)|skip
 rename_i l hl;split at hc<;>first|(cases hc;done)|skip
 ·
  rename_i g agB;cases hc;have hv:=iR hl hF hx;simp only[aG.run,aat,H5]at hr;subst hr;refine⟨c.args.toList.map a.eval,?_,hv⟩;rw[Pa c _ agB a o ho (g:=g) (x:= #[]) (y:= #[]) rfl];congr 2;apply Zm5;simp
 ·
  rename_i f hnf agB;split at hc<;>first|(cases hc;done)|skip
  rename_i ao hao;cases hc;unfold fS at hx;split at hx<;>first|(cases hx;done)|skip
  rename_i fv hfv;split at hx<;>first|(cases hx;done)|skip
  rename_i vs' aoX;simp only[H5]at hx;subst hx;have h1:=Bs hao hF hfv;have h2:=iR hl hF aoX;simp only[aG.run,aau]at hr;split at hr<;>first|(cases hr;done)|skip
  rename_i g first captured
  simp only[H5]at hr;subst hr;obtain⟨x,y,he,hx,hy⟩:=h1.QV;refine⟨x.toList++(c.args.toList.map a.eval++y.toList),?_,hx.append (h2.append hy)⟩;rw[Pa c f agB a o ho he];congr 2;apply Zm5;simp
 ·
  rename_i b agB;have hex:∀(s:Sem Value),(∀consts,builtin b c.argTypes o.type consts (c.args.map a.eval)=(do pure (.value (<-s))))->(execOp a.eval o).run P w=(s.run P w).andThen λv w=> .ok (.value v) w:=by intro s hs;simp only[execOp,ho,resolve,agB,pure_bind,invoke];rw[hs];simp
  split at hc<;>first|(cases hc;done)|skip
  ·
   (split at hc<;>first|(cases hc;done)|skip);rename_i t _ _ sU;(split at hc<;>first|(cases hc;done)|skip);rename_i ti fI;have hv:=iR hl hF (vs:=vs) (by
        split at hc<;>first|(cases hc;done)|skip
        all_goals cases hc;exact hx)
   rw[o6] at hv;rw[hex (Builtin.len_ c.argTypes o.type (c.args.map a.eval)) (λ_=>rfl)];have hu:∃u,vs=[u]      :=by
        have h1:=hv.1;have h2:(c.args.toList).length=1:=by
         have: ∀{xs:List   Operand}{os:List ic},mI xs=some os->xs.length=os.length:=by
            intro xs;induction xs with
            |nil=>intro os h;simp[mI]at h;subst h;rfl
            |cons x xs ih=>intro os h;unfold mI at h;split at h<;>first|(cases h;done)|skip
                           rename_i e1 e2;simp only[H5]at h;subst h;simp[ih e2]
         rw[this hl];rfl
        match vs,h1 with
        |[u],_=>exact⟨u,rfl⟩
        |[],h1=>simp at h1 h2;omega
        |_::_::_,h1=>simp at h1 h2;omega
   obtain⟨u,rfl⟩:=hu;obtain⟨x,rF,hux⟩:=amA hv;rw[rF];split at hc<;>first|(cases hc;done)|skip
   all_goals
        rename_i hk;cases hc;simp only[aG.run]at hr;refine arK hT fI ?_ (akH sU) o.type hW hux hr
   .    exact .inl ⟨rfl,hk⟩
   .    exact .inr (.inl ⟨rfl,_,hk⟩)
   .    exact .inr (.inr ⟨rfl,_,_,hk⟩)
  ·
   (split at hc<;>first|(cases hc;done)|skip);rename_i t t2 _ sU;(split at hc<;>first|(cases hc;done)|skip);rename_i ti t2i fI ht2;(split at hc<;>first|(cases hc;done)|skip);rename_i e hk ug _;(split at hc<;>first|(cases hc;done)|skip);rename_i te oZ;(split at hc<;>first|(cases hc;done)|skip);rename_i z hz;cases hc;have hv:=iR hl hF hx;rw[o6]at hv;rw[hex (Builtin.append_ c.argTypes o.type (c.args.map a.eval)) (λ_=>rfl)];simp only[aG.run]at hr;have hu:∃s u,vs=[s,u]:=by
        unfold lK at hr;(split at hr<;>first|(cases hr;done)|skip);exact⟨_,_,rfl⟩
   obtain⟨s,u,rfl⟩:=hu;obtain⟨x,y,rF,h1,h2⟩:=abG hv;rw[rF];exact akG hT fI ht2 hk (λk hk=>ug k hk) oZ hz (akH sU) (arr1 sU) o.type hW h1 h2 hr
  ·
   (split at hc<;>first|(cases hc;done)|skip);rename_i t _ sU;(split at hc<;>first|(cases hc;done)|skip);rename_i ti fI;(split at hc<;>first|(cases hc;done)|skip);rename_i e hk;(split at hc<;>first|(cases hc;done)|skip);rename_i te oZ;cases hc;have hv:=iR hl hF hx;rw[o6]at hv;rw[hex (Builtin.copy_ c.argTypes o.type (c.args.map a.eval)) (λ_=>rfl)];simp only[aG.run]at hr;have hu:∃s u,vs=[s,u]:=by
        unfold pE at hr;(split at hr<;>first|(cases hr;done)|skip);exact⟨_,_,rfl⟩
   obtain⟨s,u,rfl⟩:=hu;obtain⟨x,y,rF,h1,h2⟩:=abG hv;rw[rF];exact aoV hT fI hk oZ (akH sU) o.type hW h1 h2 hr
  ·
   (split at hc<;>first|(cases hc;done)|skip);cases hc;have hv:=iR hl hF hx;rw[o6]at hv;rw[hex (Builtin.min_ c.argTypes o.type (c.args.map a.eval)) (λ_=>rfl)];simp only[aG.run]at hr;have hu:∃s u r,vs=[s,u]/\res= .val r:=by
        unfold Ku at hr;(split at hr<;>first|(cases hr;done)|skip);split at hr<;>first|(cases hr;done)|skip
        all_goals cases hr;exact⟨_,_,_,rfl,rfl⟩
   obtain⟨s,u,r,rfl,rfl⟩:=hu;obtain⟨x,y,rF,h1,h2⟩:=abG hv;obtain⟨z,hz,hvz⟩:=aoQ (P:=P) (w:=w) h1 h2 hr;rw[rF];refine .pure (x:=z) ?_ hvz;simp[Builtin.min_,hz]
  ·
   (split at hc<;>first|(cases hc;done)|skip);cases hc;have hv:=iR hl hF hx;rw[o6]at hv;rw[hex (Builtin.max_ c.argTypes o.type (c.args.map a.eval)) (λ_=>rfl)];simp only[aG.run]at hr;have hu:∃s u r,vs=[s,u]/\res= .val r:=by
        unfold Kv at hr;(split at hr<;>first|(cases hr;done)|skip);split at hr<;>first|(cases hr;done)|skip
        all_goals cases hr;exact⟨_,_,_,rfl,rfl⟩
   obtain⟨s,u,r,rfl,rfl⟩:=hu;obtain⟨x,y,rF,h1,h2⟩:=abG hv;obtain⟨z,hz,hvz⟩:=aoR (P:=P) (w:=w) h1 h2 hr;rw[rF];refine .pure (x:=z) ?_ hvz;simp[Builtin.max_,hz]
  ·
   (split at hc<;>first|(cases hc;done)|skip);rename_i t _ sU;(split at hc<;>first|(cases hc;done)|skip);rename_i ti fI;(split at hc<;>first|(cases hc;done)|skip);rename_i e hk;(split at hc<;>first|(cases hc;done)|skip);rename_i te oZ;(split at hc<;>first|(cases hc;done)|skip);rename_i z hz;cases hc;have hv:=iR hl hF hx;rw[o6]at hv;rw[hex (Builtin.clear_ c.argTypes o.type (c.args.map a.eval)) (λ_=>rfl)];simp only[aG.run]at hr;have hu:∃u,vs=[u]:=by
        unfold sK at hr;(split at hr<;>first|(cases hr;done)|skip);exact⟨_,rfl⟩
   obtain⟨u,rfl⟩:=hu;obtain⟨x,rF,hux⟩:=amA hv;rw[rF];exact amB hT fI hk oZ hz (akH sU) o.type hW hux hr
theorem Yh(hT:dy P tt)(op:Op):fy P tt op:=by
 cases op with
 |move x=>exact aoM x
 |assign x=>exact akw x
 |pick c x y=>exact aoN c x y
 |alloc t=>exact amx hT t
 |box t x=>exact arI t x
 |build t ps=>exact amv hT t ps
 |buildSlice t n ps=>exact adh hT t n ps
 |insert t m k v=>exact abF hT _ t m k v (.inr rfl)
 |load t x=>exact aoP hT t x
 |store t x y=>exact amz hT t x y
 |nilCheck x=>exact agu x
 |binOp op t x y yt=>exact amr hT op t x y yt
 |unOp op t x=>exact aoO op t x
 |convert s d x=>exact aiW hT s d x
 |makeInterface t x=>exact aiV hT t x
 |makeFunc f x y=>exact akx f x y
 |makeMap t r=>exact amy t r hT
 |makeSlice t l c=>exact aiX hT t l c
 |slice t x l h m=>exact amu hT t x l h m
 |fieldAddr t x f=>exact afl hT t x f
 |field t x f=>exact ams hT t x f
 |indexAddr t x i=>exact afm hT t x i
 |index t x i=>exact amt hT t x i
 |lookup t x i ok=>exact akA hT t x i ok
 |mapUpdate t m k v=>exact abF hT _ t m k v (.inl rfl)
 |extract x i=>exact aiU x i
 |call c=>exact aoW hT c
 |_=>intro ρ C st w k xs cls fr a o vs res ho hc;simp[kg]at hc
end
def Reaches(P:Program)(R:Value->World->Prop):Result Next->Prop
 | .ok (.value x) w'=>R x w'
 | .ok .skip w'=>R undef w'
 | .ok (.enter f args) w'=>Calls P f args w' λ| .returned v,w''=>R v w''|_,_=>False
 | .ok (.row row args) w'=>Rows P row args w' R
 |_=>False
theorem Reaches.mono{P:Program}{R R':Value->World->Prop}(h:∀x w,R x w->R' x w):∀{r:Result Next},Reaches P R r->Reaches P R' r
 | .ok (.value _) _,hr=>h _ _ hr
 | .ok .skip _,hr=>h _ _ hr
 | .ok (.enter _ _) _,hr=>Calls.mono hr λe w he=>by cases e<;>first|exact h _ _ he|exact he
 | .ok (.row _ _) _,hr=>Rows.mono hr h
theorem Reaches.upon{P:Program}{R:Value->World->Prop}{o:Oper}{a:Act}{K:Act->World->Prop}{Q:Exit->Act->World->Prop}{r:Result Next}
  (hr:Reaches P R r) (h:∀x w,R x w->K (a.put o.dst x) w):o.upon P a K Q r:=by
 cases r with
 |ok n w=>
  cases n<;>simp only[Reaches]at hr
  . exact h _ _ hr
  . exact h _ _ hr
  . exact Calls.mono hr λe w he=>by
        cases e with
        |returned v=>exact h _ _ he
        |panicked c=>exact he.elim
        |outgrown=>exact he.elim
  . exact Rows.mono hr λv w he=>h _ _ he
 |halt x w=>simp only[Reaches]at hr
def oh(ρ:Pos->Loc)(C:Cells)(st:St)(w:World)(v:AV)(st':St)(x:Value)(w':World):Prop:=
 ∃ρ',aC ρ' st'.next.toNat C v x/\(∀b:Pos,b.toNat<st.next.toNat->ρ' b=ρ b)/\st.next.toNat<=st'.next.toNat/\cq ρ' C st' w'/\qm ρ st w ρ' st' w'
def iZ(P:Program)(C:Cells)(call:aj):Prop:=
 ∀  (ρ:Pos->Loc)(st:St)(w:World)(f:FuncId)(args:List AV)(v:AV)(st':St)(cM:List Value),call f args st=some (v,st')->
    cq ρ C st w->aK ρ st.next.toNat C args cM->Reaches P (oh ρ C st w v st') ((callFunc f cM.toArray).run P w)
section
variable{P : Program}{tt : TT}{C : Cells}{call : aj}
theorem St.Ra(st:St)(del:Option Pos)(set:Option (Pos×AB))(new:Option AB):st.next.toNat<=(st.bk del set new).next.toNat:=by
 cases new with
 |none=>exact Za3 _
 |some x=>simp only[St.bk,Pos.aF];omega
theorem ZA(hT:dy P tt)(cV:iZ P C call){ρ:Pos->Loc}{st st':St}{w:World}{k:aG}{xs:List ic}{cls:Cls}{fr:Fr}{a:Act}{o:Oper}{vs:List AV}{v:AV}
   (hc:kg tt o.op=some (k,xs,cls)) (hW:cq ρ C st w) (hF:kV ρ st.next.toNat C fr a.tmps) (hx:fS fr xs=some vs)
   (hs:cH call k vs st=some (v,st')):Reaches P (oh ρ C st w v st') ((execOp a.eval o).run P w):=by
 have H:=Yh hT o.op ρ C st w k xs cls fr a o vs;unfold cH at hs;split at hs
 . rename_i u hr;simp only[H5,Zc9]at hs;obtain⟨rfl,rfl⟩:=hs;obtain⟨N,x,he,hy,hv⟩:=H _ rfl hc hW hF hx hr;have hp:oh ρ C st w u st x w:=⟨ρ,hv,λ_ _=>rfl,Za3 _,hW,qm.refl _ _ _⟩
   rw[he];rcases hy with rfl|⟨rfl,rfl⟩<;>exact hp
 . rename_i u del set new hr;simp only[H5,Zc9]at hs;obtain⟨rfl,rfl⟩:=hs;obtain⟨N,x,w',ρ',he,hy,bE,jk,hv,hE⟩:=H _ rfl hc hW hF hx hr;have hp:oh ρ C st w u (st.bk del set new) x w':=⟨ρ',hv,bE,St.Ra _ _ _ _,jk,hE⟩
   rw[he];rcases hy with rfl|⟨rfl,rfl⟩<;>exact hp
 . rename_i f args hr;obtain⟨cM,he,hv⟩:=H _ rfl hc hW hF hx hr;rw[he];exact cV ρ st w f args v st' cM hs hW hv
 . cases hs
structure zj(tt:TT)(nt:Nat)(ops:Array Oper)(o:Oper)(ao:bQ):Prop where
 dst:ao.dst=o.dst.map key
 lt:∀d,o.dst=some d->d<nt
 guard:abw ops o.guard=some ao.guard
 op:(kg tt o.op=some (ao.k,ao.xs,ao.cls))\/(ao.k= .bad/\ao.cls= .bk)
theorem wR{nt:Nat}{ops:Array Oper}:∀{os:List Oper}{bs:List Nat}{l:List bQ},uw tt nt ops os bs=some l->
  l.length=os.length/\∀(i:Nat)(o:Oper),os[i]? =some o->∃ao,l[i]? =some ao/\zj tt nt ops o ao/\ao.bY=bs.getD i 0
 |[],bs,l,h=>by simp[uw]at h;subst h;exact⟨rfl,λi o ho=>by simp at ho⟩
 |o ::os,bs,l,h=>by
  unfold uw at h;split at h<;>first|(cases h;done)|skip
  rename_i g l' hg hl hd;obtain⟨h1,h2⟩:=wR hl;have aS:∀d,o.dst=some d->d<nt:=λd hdd=>by rw[hdd]at hd;simpa [uw.aq2]using hd
  have hb:∀i,bs.tail.getD i 0=bs.getD (i+1) 0:=λi=>by cases bs<;>simp
  have yj:bs.headD 0=bs.getD 0 0:=by cases bs<;>simp
  split at h
  . rename_i k xs cls hc;simp only[H5]at h;subst h;refine⟨by simp[h1],λi o' ho=> ?_⟩;cases i with
    |   zero=>
        simp at ho;subst ho;exact⟨_,rfl,⟨rfl,aS,hg,.inl hc⟩,yj⟩
    |   succ i=>
        simp at ho;obtain⟨ao,h3,h4,h5⟩:=h2 i o' ho;exact⟨ao,by simpa using h3,h4,by rw[h5,hb]⟩
  . simp only[H5]at h;subst h;refine⟨by simp[h1],λi o' ho=> ?_⟩;cases i with
    |   zero=>
        simp at ho;subst ho;exact⟨_,rfl,⟨rfl,aS,hg,.inr ⟨rfl,rfl⟩⟩,yj⟩
    |   succ i=>
        simp at ho;obtain⟨ao,h3,h4,h5⟩:=h2 i o' ho;exact⟨ao,by simpa using h3,h4,by rw[h5,hb]⟩
theorem KV{ops:Array Oper}{ρ:Pos->Loc}{n:Nat}{fr:Fr}{a:Act}{o:Oper}{g:Option (Pos×Bool)}{b:Bool}(hg:abw ops o.guard=some g)
   (hF:∀p v,fr.get p=some v->(∃q,g=some (p,q))->∃x,a.tmps[p.toNat - 1]? =some x/\aC ρ n C v x)
   (hw:cK fr g=some b):Region.wanted o (yielded ops a.tmps)=b:=by
 unfold Region.wanted;unfold abw at hg;split at hg
 . rename_i hn;simp only[H5]at hg;subst hg;simp only[cK,H5]at hw;subst hw;rw[hn]
 . rename_i j want hn;rw[hn];(split at hg<;>first|(cases hg;done)|skip);rename_i oj hj;(split at hg<;>first|(cases hg;done)|skip);rename_i d hd;simp only[H5]at hg;subst hg;simp only[cK]at hw;split at hw
   . rename_i u hu;simp only[H5]at hw;subst hw;obtain⟨x,hx,hv⟩:=hF _ _ hu ⟨_,rfl⟩;rw[iQ,Zh4]at hx;have:=hv.kW;subst this;simp[yielded,hj,hd,hx]
   . rename_i l hu;simp only[H5]at hw;subst hw;obtain⟨x,hx,hv⟩:=hF _ _ hu ⟨_,rfl⟩;rw[iQ,Zh4]at hx;obtain⟨cs,rfl,_⟩:=hv.Vg;simp[yielded,hj,hd,hx]
   . cases hw
theorem aC.ael{ρ:Pos->Loc}{n:Nat}:aC ρ n C AV.undef undef:= .tuple [] #[] rfl λ_ _ _ h=>by simp at h
theorem Act.j9(a:Act)(d:Option Tmp)(v:Value):(a.put d v).tmps.size=a.tmps.size:=by cases d<;>simp[Act.put]
theorem Act.mF(a:Act)(d:Option Tmp)(v:Value):(a.put d v).defers=a.defers:=by cases d<;>rfl
theorem kV.put{ρ:Pos->Loc}{n nt:Nat}{fr:Fr}{a:Act}{d:Option Tmp}{v:AV}{x:Value}(hF:kV ρ n C fr a.tmps)(hs:a.tmps.size=nt)
  (hd:∀e,d=some e->e<nt) (hv:aC ρ n C v x):kV ρ n C (eu fr (d.map key) v) (a.put d x).tmps:=by
 cases d with
 |none=>exact hF
 |some e=>
  have he:=hd e rfl;intro p u hp;simp only[Ze5,eu]at hp;simp only[Act.put];by_cases hpe:key e=p
  . subst hpe;rw[T.gH]at hp;simp only[H5]at hp;subst hp;refine⟨x,?_,hv⟩;rw[iQ,Zh4,Zp3];simp[hs,he]
  . rw[T.bX _ hpe]at hp;obtain⟨y,hy,hr⟩:=hF p u hp;refine⟨y,?_,hr⟩;rw[Zj6,hy];intro h;apply hpe;apply Pos.toNat_inj;rw[iQ];have:=p.toNat_pos;omega
theorem kV.mono{ρ ρ':Pos->Loc}{n n':Nat}{fr:Fr}{tmps:Array Value}(hF:kV ρ n C fr tmps)(bE:∀b:Pos,b.toNat<n->ρ' b=ρ b)(hn:n<=n'):kV ρ' n' C fr tmps:=
 λp v hp=>let⟨x,hx,hv⟩:=hF p v hp;⟨x,hx,hv.mono bE hn⟩
structure yp(nt:Nat)(ρ:Pos->Loc)(C:Cells)(fr:Fr)(st:St)(a:Act)(w:World):Prop where
 W:cq ρ C st w
 F:kV ρ st.next.toNat C fr a.tmps
 size:a.tmps.size=nt
 defers:a.defers=[]
def kJ(nt:Nat)(ρ:Pos->Loc)(C:Cells)(st:St)(w:World)(bH:Fr)(st':St)(a':Act)(w':World):Prop:=
 ∃ρ',yp nt ρ' C bH st' a' w'/\(∀b:Pos,b.toNat<st.next.toNat->ρ' b=ρ b)/\st.next.toNat<=st'.next.toNat/\qm ρ st w ρ' st' w'
theorem kJ.refl{nt:Nat}{ρ:Pos->Loc}{fr:Fr}{st:St}{a:Act}{w:World}(h:yp nt ρ C fr st a w):kJ nt ρ C st w fr st a w:=
 ⟨ρ,h,λ_ _=>rfl,Za3 _,qm.refl _ _ _⟩
theorem kJ.trans{nt:Nat}{ρ jX:Pos->Loc}{Tu:Fr}{st bD Av:St}{a2:Act}{w w1 w2:World}
  (h1:∀b:Pos,b.toNat<st.next.toNat->jX b=ρ b) (h2:st.next.toNat<=bD.next.toNat) (h3:qm ρ st w jX bD w1)
  (h:kJ nt jX C bD w1 Tu Av a2 w2):kJ nt ρ C st w Tu Av a2 w2:=by
 obtain⟨uX,k1,k2,k3,k4⟩:=h;exact⟨uX,k1,λb hb=>(k2 b (Zc8 hb h2)).trans (h1 b hb),Zb2 h2 k3,h3.trans k4⟩
theorem Reaches.bad{k:aG}{vs:List AV}{st:St}{r:AV×St}(hk:k= .bad)(h:cH call k vs st=some r):False:=by subst hk;simp[cH,aG.run]at h
theorem CI(hT:dy P tt)(cV:iZ P C call){nt:Nat}{ops:Array Oper}{Q:Exit->Act->World->Prop}:∀(aos:List bQ)(k:Nat)(fr bH:Fr)(st st':St)(ρ:Pos->Loc)(a:Act)(w:World),
  (∀(i:Nat)(ao:bQ),aos[i]? =some ao->∃o,ops[k+i]? =some o/\zj tt nt ops o ao)->
  mH call aos fr st=some (bH,st')->yp nt ρ C fr st a w->(∀a' w',kJ nt ρ C st w bH st' a' w'->Q .normal a' w')->wpOps P ops Q (List.range' k aos.length) a w
 |[],k,fr,bH,st,st',ρ,a,w,_,h,hS,hQ=>by
  simp only[mH,H5,Zc9]at h;obtain⟨rfl,rfl⟩:=h;exact hQ a w (kJ.refl hS)
 |ao::aos,k,fr,bH,st,st',ρ,a,w,ho,h,hS,hQ=>by
  obtain⟨o,cG,hR⟩:=ho 0 ao rfl;rw[Zf8]at cG;have MT:∀(i:Nat)(ao':bQ),aos[i]? =some ao'->∃o,ops[k+1+i]? =some o/\zj tt nt ops o ao':=λi ao' hi=>by
    obtain⟨o',h1,h2⟩:=ho (i+1) ao' (by simpa using hi);exact⟨o',by rw[<-h1];congr 1;omega,h2⟩
  simp only[Zc6,Zq6,wpOps,cG];unfold mH at h;split at h
  . rename_i hw;rw[Zb3 (KV hR.guard (λp v hp _=>hS.F p v hp) hw)];(split at h<;>first|(cases h;done)|skip);rename_i vs CA;(split at h<;>first|(cases h;done)|skip);rename_i v bD fT;rcases hR.op with hc|⟨hk,_⟩
    .   have hr:=ZA hT cV hc hS.W hS.F CA fT;refine .inl (hr.upon λx w1 hp=> ?_);obtain⟨jX,hv,h1,h2,hW1,hE⟩:=hp;rw[hR.dst]at h;refine CI hT cV aos (k+1) _ bH bD st' jX _ w1 MT h ⟨hW1,kV.put (hS.F.mono h1 h2) hS.size hR.lt hv,by rw[Act.j9];exact hS.size,by rw[Act.mF];exact hS.defers⟩ λa' w' hp=>hQ a' w' (kJ.trans h1 h2 hE hp)
    .   exact(Reaches.bad hk fT).elim
  . rename_i hw;rw[Za7 (by rw[KV hR.guard (λp v hp _=>hS.F p v hp) hw];simp)];rw[hR.dst]at h;exact CI hT cV aos (k+1) _ bH st st' ρ _ w MT h ⟨hS.W,kV.put hS.F hS.size hR.lt .ael,by rw[Act.j9];exact hS.size,by rw[Act.mF];exact hS.defers⟩ hQ
  . cases h
theorem Rb{nt:Nat}{ops:Array Oper}{l:List bQ}{bs:List Nat}(h:uw tt nt ops ops.toList bs=some l)(i:Nat)(ao:bQ)(hi:l[i]? =some ao):
  ∃o,ops[i]? =some o/\zj tt nt ops o ao/\ao.bY=bs.getD i 0:=by
 obtain⟨h1,h2⟩:=wR h;have aS:i<ops.toList.length:=by rw[<-h1];exact(Za2.1 hi).1
 obtain⟨ao',h3,h4,h5⟩:=h2 i _ (H0 aS);rw[hi]at h3;simp only[H5]at h3;subst h3;exact⟨_,by rw[<-Zj7];exact H0 aS,h4,h5⟩
theorem agC(hT:dy P tt)(cV:iZ P C call){nt id:Nat}{ops:Array Oper}{bs:List Nat}{l:List bQ}{Q:Exit->Act->World->Prop}{fr bH:Fr}{st st':St}{ρ:Pos->Loc}{a:Act}{w:World}
  (hl:uw tt nt ops ops.toList bs=some l) (h:mH call l fr st=some (bH,st')) (hS:yp nt ρ C fr st a w)
  (hQ:∀a' w',kJ nt ρ C st w bH st' a' w'->Q .normal a' w'):(Code.region id ops false).wp P Q a w:=by
 apply wp_region;have hlen:l.length=ops.size:=by rw[(wR hl).1,Zi7]
 rw[Zm6, <-hlen];exact CI hT cV l 0 fr bH st st' ρ a w (λi ao hi=>by
  obtain⟨o,h1,h2,_⟩:=Rb hl i ao hi;exact⟨o,by rw[Zb6];exact h1,h2⟩) h hS hQ
end
section
variable{P : Program}{tt : TT}{C : Cells}{call : aj}
def yq(P:Program)(tt:TT)(C:Cells)(call:aj):Prop:=
 ∀  (nt id:Nat)(ops:Array Oper)(l:List bQ)(Q:Exit->Act->World->Prop)(fr bH:Fr)(st st':St)(ρ:Pos->Loc)(a:Act)(w:World),
    uw tt nt ops ops.toList (agk ops.toList [])=some l->OO l.length 0 (Be (KO 0 l) [])=true->dY call (Be (KO 0 l) []) [] st.heap fr st=some (bH,st')->yp nt ρ C fr st a w->
    (∀a' w',kJ nt ρ C st w bH st' a' w'->Q .normal a' w')->(Code.region id ops true).wp P Q a w
def Pb:oH->Exit
 | .normal=> .normal
 | .exit id=> .exit id
 | .ret=> .ret
def abH(P:Program)(tt:TT)(C:Cells)(call:aj)(nt m:Nat):Prop:=
 ∀  (c:Code)(ac:AC)(fr bH:Fr)(st st':St)(ex:oH)(ρ:Pos->Loc)(a:Act)(w:World)(Q:Exit->Act->World->Prop),
    vt tt nt c=some ac->exec call m ac fr st=some (ex,bH,st')->yp nt ρ C fr st a w->
    (∀a' w',kJ nt ρ C st w bH st' a' w'->Q (Pb ex) a' w')->c.wp P Q a w
def abI(P:Program)(tt:TT)(C:Cells)(call:aj)(nt m:Nat):Prop:=
 ∀  (c:Code)(ac:AC)(fr bH:Fr)(st st':St)(ex:oH)(ρ:Pos->Loc)(a:Act)(w:World)(Q:Exit->Act->World->Prop),
    vt tt nt c=some ac->exec call m (.loop ac) fr st=some (ex,bH,st')->yp nt ρ C fr st a w->
    (∀a' w',kJ nt ρ C st w bH st' a' w'->Q (Pb ex) a' w')->Code.rounds P c Q m a w
theorem aem{nt m:Nat}(KW:abH P tt C call nt m)(ihL:abI P tt C call nt m):abI P tt C call nt (m+1):=by
 intro c ac fr bH st st' ex ρ a w Q hc h hS hQ;simp only[exec,bC]at h;rw[rounds_succ];split at h
 . rename_i eZ bD h1;(refine KW c ac fr eZ st bD .normal ρ a w _ hc h1 hS λa1 w1 hp=> ?_);obtain⟨jX,zE,k1,k2,k3⟩:=hp;exact ihL c ac eZ bH bD st' ex jX a1 w1 Q hc h zE λa2 w2 hp=>hQ a2 w2 (kJ.trans k1 k2 k3 hp)
 . rename_i dJ;cases ex with
   |normal=>exact(dJ _ _ h).elim
   |exit id=>exact KW c ac fr bH st st' (.exit id) ρ a w _ hc h hS λa1 w1 hp=>hQ a1 w1 hp
   |ret=>exact KW c ac fr bH st st' .ret ρ a w _ hc h hS λa1 w1 hp=>hQ a1 w1 hp
theorem amC(hT:dy P tt)(cV:iZ P C call)(mj:yq P tt C call){nt m:Nat}(KW:abH P tt C call nt m)(ihL:abI P tt C call nt m):abH P tt C call nt (m+1):=by
 intro c ac fr bH st st' ex ρ a w Q hc h hS hQ;have auq:=aem KW ihL;unfold vt at hc;split at hc<;>first|(cases hc;done)|skip
 . simp only[H5]at hc;subst hc;simp only[exec,bC,H5,Zc9]at h;obtain⟨rfl,rfl,rfl⟩:=h;exact wp_skip (hQ _ _ (kJ.refl hS))
 . rename_i ix ops draw;(split at hc<;>first|(cases hc;done)|skip);rename_i l hl;split at hc
   . simp only[H5]at hc;subst hc;simp only[exec,bC]at h;(split at h<;>first|(cases h;done)|skip);rename_i eZ bD h1;simp only[H5,Zc9]at h;obtain⟨rfl,rfl,rfl⟩:=h;exact agC hT cV hl h1 hS hQ
   . (split at hc<;>first|(cases hc;done)|skip);rename_i ht;simp only[H5]at hc;subst hc;simp only[exec,bC]at h;(split at h<;>first|(cases h;done)|skip);rename_i eZ bD h1;simp only[H5,Zc9]at h;obtain⟨rfl,rfl,rfl⟩:=h;exact mj nt _ ops l Q fr eZ st bD ρ a w hl ht h1 hS hQ
 . (split at hc<;>first|(cases hc;done)|skip);rename_i x y h1 h2;simp only[H5]at hc;subst hc;simp only[exec,bC]at h;apply wp_seq;split at h
   . rename_i eZ bD h3;(refine KW _ _ fr eZ st bD .normal ρ a w _ h1 h3 hS λa1 w1 hp=> ?_);obtain⟨jX,zE,k1,k2,k3⟩:=hp;exact KW _ _ eZ bH bD st' ex jX a1 w1 Q h2 h zE λa2 w2 hp=>hQ a2 w2 (kJ.trans k1 k2 k3 hp)
   . rename_i dJ;cases ex with
     |normal=>exact(dJ _ _ h).elim
     |exit id=>exact KW _ _ fr bH st st' (.exit id) ρ a w _ h1 h hS λa1 w1 hp=>hQ a1 w1 hp
     |ret=>exact KW _ _ fr bH st st' .ret ρ a w _ h1 h hS λa1 w1 hp=>hQ a1 w1 hp
 . (split at hc<;>first|(cases hc;done)|skip);rename_i x y z h1 h2 h3;simp only[H5]at hc;subst hc;simp only[exec,bC]at h;split at h
   . rename_i hx;exact wp_cond_true ((Bs h1 hS.F hx).kW) (KW _ _ fr bH st st' ex ρ a w Q h2 h hS hQ)
   . rename_i hx;exact wp_cond_false ((Bs h1 hS.F hx).kW) (KW _ _ fr bH st st' ex ρ a w Q h3 h hS hQ)
   . cases h
 . (split at hc<;>first|(cases hc;done)|skip);rename_i x h1;simp only[H5]at hc;subst hc;simp only[exec,bC]at h;apply wp_block;split at h
   . rename_i xH eZ bD h2;split at h
     .  rename_i he;simp only[H5,Zc9]at h;obtain⟨rfl,rfl,rfl⟩:=h;have:=Za6 he;subst this;exact KW _ _ fr eZ st bD (.exit xH) ρ a w _ h1 h2 hS λa1 w1 hp=>by simp only[Pb,Exit.inBlock,Zh5];exact hQ a1 w1 hp
     .  rename_i he;simp only[H5,Zc9]at h;obtain⟨rfl,rfl,rfl⟩:=h;have:=Zf0 he;exact KW _ _ fr eZ st bD (.exit xH) ρ a w _ h1 h2 hS λa1 w1 hp=>by simp only[Pb,Exit.inBlock,Za7 this];exact hQ a1 w1 hp
   . rename_i dJ;cases ex with
     |normal=>exact KW _ _ fr bH st st' .normal ρ a w _ h1 h hS λa1 w1 hp=>hQ a1 w1 hp
     |exit id=>exact(dJ _ _ _ h).elim
     |ret=>exact KW _ _ fr bH st st' .ret ρ a w _ h1 h hS λa1 w1 hp=>hQ a1 w1 hp
 . (split at hc<;>first|(cases hc;done)|skip);rename_i x h1;simp only[H5]at hc;subst hc;exact wp_loop_rounds (m+1) (auq _ _ fr bH st st' ex ρ a w Q h1 h hS hQ)
 . simp only[H5]at hc;subst hc;simp only[exec,bC,H5,Zc9]at h;obtain⟨rfl,rfl,rfl⟩:=h;exact wp_exit (hQ _ _ (kJ.refl hS))
 . simp only[H5]at hc;subst hc;simp only[exec,bC,H5,Zc9]at h;obtain⟨rfl,rfl,rfl⟩:=h;exact wp_ret (hQ _ _ (kJ.refl hS))
 . simp only[H5]at hc;subst hc;simp[exec,bC,mH,cK,fS,cH,aG.run]at h
theorem CJ(hT:dy P tt)(cV:iZ P C call)(mj:yq P tt C call){nt:Nat}:∀m,abH P tt C call nt m/\abI P tt C call nt m
 |0=>⟨λc ac fr bH st st' ex ρ a w Q hc h=>by simp[exec]at h,λc ac fr bH st st' ex ρ a w Q hc h=>by simp[exec]at h⟩
 |m+1=>let⟨h1,h2⟩:=CJ hT cV mj m;⟨amC hT cV mj h1 h2,aem h1 h2⟩
def Yi(tmps:Array Value):ResultVar->Sem Value
 | .tmp t=>pure (tmps.getD t undef)
 | .cell a t=>do loadVar t (<-asAddr (tmps.getD a undef))
theorem akJ(hT:dy P tt){ρ:Pos->Loc}{st:St}{w:World}{fr:Fr}{a:Act}{x:Tmp}{t:TypeId}{ti:TI}{q v:AV}(fI:tt.get (key t)=some ti)
  (hW:cq ρ C st w) (hF:kV ρ st.next.toNat C fr a.tmps) (hq:fr.get (key x)=some q) (hr:(aG.load (Cy ti)).run (λb=>st.heap.get b) .h [q]=some (.val v)):
  ∃y,(Yi a.tmps (.cell x t)).run P w= .ok y w/\aC ρ st.next.toNat C v y:=by
 have hc:kg tt (.load t (.tmp x))=some (.load (Cy ti),[.t (key x)],.read):=by simp[kg,fI,uv]
 have hx:fS fr [.t (key x)]=some [q]:=by simp[fS,Gn,hq]
 have nR:(aG.load (Cy ti)).run (λb=>st.heap.get b) st.next [q]=some (.val v):=hr;obtain⟨N,y,he,hy,hv⟩:=Yh hT (.load t (.tmp x)) ρ C st w _ _ _ fr a { dst:=none,op:= .load t (.tmp x),type:=t,pos:=default,after:= #[],guard:=none } _ _ rfl hc hW hF hx nR;refine⟨y,?_,hv⟩;simp only[execOp,Instr.loadAt,Act.eval]at he;simp only[Yi];obtain⟨z,hz,hzq⟩:=hF _ _ hq;rw[iQ,Zh4]at hz;have hzd:a.tmps.getD x undef=z:=by simp[Zm4,hz]
 rw[hzd]at he ⊢;have hp:∃ad,z= .pointer (some ad):=by
  simp only[aG.run,zh]at hr;split at hr<;>first|(cases hr;done)|skip
  . obtain⟨_,h⟩:=hzq.qz;exact⟨_,h⟩
  . obtain⟨_,_,_,_,h,_⟩:=hzq.OS;exact⟨_,h⟩
 obtain⟨ad,rfl⟩:=hp;simp only[Instr.sureAddr,asAddr,Sem.run_bind,Sem.run_pure,Result.andThen]at he ⊢;cases hl:(loadVar t ad).run P w with
 |ok u w1=>
  rw[hl]at he;simp at he;obtain⟨h1,h2⟩:=he;subst h2;rcases hy with hy|⟨hy,_⟩
  . rw[hy]at h1;simp at h1;rw[h1]
  . rw[hy]at h1;simp at h1
 |halt u w1=>rw[hl]at he;simp at he
theorem KY(hT:dy P tt){ρ:Pos->Loc}{st:St}{w:World}{fr:Fr}{a:Act}(hW:cq ρ C st w)(hF:kV ρ st.next.toNat C fr a.tmps):
   ∀(rs:List ResultVar)(ars:List OL)(vs:List AV),qH tt rs=some ars->gQ (λb=>st.heap.get b) fr ars=some vs->
    ∃ys,(rs.mapM (Yi a.tmps)).run P w= .ok ys w/\aK ρ st.next.toNat C vs ys
 | [],ars,vs,hc,hr=>by
   simp only[qH,H5]at hc;subst hc;simp only[gQ,H5]at hr;subst hr;exact⟨[],by simp,aK.nil⟩
 | .tmp t::rs,ars,vs,hc,hr=>by
   simp only[qH]at hc;(split at hc<;>first|(cases hc;done)|skip);rename_i l hl;simp only[H5]at hc;subst hc;simp only[gQ]at hr;(split at hr<;>first|(cases hr;done)|skip);rename_i v hv;(split at hr<;>first|(cases hr;done)|skip);rename_i us hus;simp only[H5]at hr;subst hr;obtain⟨ys,h1,h2⟩:=KY hT hW hF rs l us hl hus;obtain⟨z,hz,hzq⟩:=hF _ _ hv;rw[iQ,Zh4]at hz;refine⟨z::ys,?_,aK.cons hzq h2⟩;simp[List.mapM_cons,Yi,h1,Zm4,hz]
 | .cell x t::rs,ars,vs,hc,hr=>by
   simp only[qH]at hc;(split at hc<;>first|(cases hc;done)|skip);rename_i ti l Vp hl;simp only[H5]at hc;subst hc;simp only[gQ]at hr;(split at hr<;>first|(cases hr;done)|skip);rename_i q hq;(split at hr<;>first|(cases hr;done)|skip);rename_i v hv;(split at hr<;>first|(cases hr;done)|skip);rename_i us hus;simp only[H5]at hr;subst hr;obtain⟨ys,h1,h2⟩:=KY hT hW hF rs l us hl hus;obtain⟨y,h3,h4⟩:=akJ hT Vp hW hF hq hv;refine⟨y::ys,?_,aK.cons h4 h2⟩;simp[List.mapM_cons,h1,h3]
theorem Ih(hT:dy P tt){ρ:Pos->Loc}{st:St}{w:World}{fr:Fr}{a:Act}{fn:Func}{ars:List OL}{vs:List AV}(hW:cq ρ C st w)(hF:kV ρ st.next.toNat C fr a.tmps)
  (hc:qH tt fn.results.toList=some ars) (hr:gQ (λb=>st.heap.get b) fr ars=some vs):
  ∃y,(results fn a.tmps).run P w= .ok y w/\aC ρ st.next.toNat C (zi vs) y:=by
 obtain⟨ys,h1,h2⟩:=KY hT hW hF _ ars vs hc hr;have h3:(fn.results.mapM (Yi a.tmps)).run P w= .ok ys.toArray w:=by
  rw[Array.mapM_eq_mapM_toList];simp[h1]
 have h4:(results fn a.tmps).run P w= .ok (if h:ys.toArray.size=1 then ys.toArray[0]else .tuple ys.toArray) w:=by
  have hfun:results fn a.tmps=(fn.results.mapM (Yi a.tmps) >>= λvs=>pure (if h:vs.size=1 then vs[0]else .tuple vs)):=by unfold results;congr 2
  rw[hfun,Sem.run_bind,h3];simp
 refine⟨_,h4,?_⟩;cases vs with
 |nil=>have:=h2.qy;subst this;simp[zi];exact .yg (by simpa using aK.nil)
 |cons v vs=>
  obtain⟨y,ys',rfl,hv,CA⟩:=h2.cons_inv;cases vs with
  |nil=>have:=CA.qy;subst this;simpa [zi]using hv
  |cons v' vs'=>
   obtain⟨y',ys'',rfl,OV,aoX⟩:=CA.cons_inv;simp[zi];exact .yg (by simpa using aK.cons hv (aK.cons OV aoX))
def GOk(P:Program)(tt:TT)(G:T dN):Prop:=
 ∀p F,G.get p=some F->∃fn,P.funcs[p.toNat - 1]? =some fn/\(fn.name== "runtime.NumGoroutine")=false/\akq tt fn=some F
def vz(P:Program)(C:Cells)(O:eP):Prop:=
 ∀  (f:FuncId)(s:List AV->St->Option (AV×St)),O f=some s->
    ∀(ρ:Pos->Loc)(st:St)(w:World)(args:List AV)(v:AV)(st':St)(cM:List Value),s args st=some (v,st')->
     cq ρ C st w->aK ρ st.next.toNat C args cM->Reaches P (oh ρ C st w v st') ((callFunc f cM.toArray).run P w)
theorem Rc{ρ:Pos->Loc}{n:Nat}{tmps:Array Value}:∀(vs:List AV)(xs:List Value)(i:Nat)(fr:Fr),aK ρ n C vs xs->
  (∀(j:Nat)(x:Value),xs[j]? =some x->tmps[i+j]? =some x)->kV ρ n C fr tmps->kV ρ n C (params i vs fr) tmps
 |[],_,_,_,_,_,hF=>hF
 |v ::vs,xs,i,fr,h,hx,hF=>by
  obtain⟨x,BT,rfl,hv,CA⟩:=h.cons_inv;unfold params;refine Rc vs BT (i+1) _ CA (λj y hy=>by rw[<-hx (j+1) y (by simpa using hy)];congr 1;omega) λp u hp=> ?_
  by_cases hpe:key i=p
  . subst hpe;rw[T.gH]at hp;simp only[H5]at hp;subst hp;exact⟨x,by rw[iQ,Zh4];exact hx 0 x rfl,hv⟩
  . rw[T.bX _ hpe]at hp;exact hF p u hp
def xJ(call:aj)(m:Nat)(F:dN)(args:List AV)(st:St):Option (AV×St):=
 match Nat.beq args.length F.nparams with
 |  true=>match exec call m F.code (params 0 args .e) st with
    |some (.normal,fr,st')=>match gQ (λb=>st'.heap.get b) fr F.results with
     |some vs=>some (zi vs,st')
     |none=>none
    |some (.ret,fr,st')=>match gQ (λb=>st'.heap.get b) fr F.results with
     |some vs=>some (zi vs,st')
     |none=>none
    |_=>none
 |false=>none
theorem abJ(hT:dy P tt){G:T dN}(hG:GOk P tt G){call:aj}(cV:iZ P C call)(mj:yq P tt C call)(m:Nat){f:FuncId}{F:dN}(hF:G.get (key f)=some F)
   {ρ:Pos->Loc} {st:St} {w:World} {args:List AV} {v:AV} {st':St} {cM:List Value} (h:xJ call m F args st=some (v,st')) (hW:cq ρ C st w) (xK:aK ρ st.next.toNat C args cM):
   Reaches P (oh ρ C st w v st') ((callFunc f cM.toArray).run P w):=by
 unfold xJ at h;split at h<;>first|(cases h;done)|skip
 rename_i hlen;have hlen:=Za6 hlen;obtain⟨fn,Gu,qd,hcf⟩:=hG _ _ hF;rw[iQ,Zh4]at Gu;unfold akq at hcf;split at hcf<;>first|(cases hcf;done)|skip
 rename_i c hb;split at hcf<;>first|(cases hcf;done)|skip
 rename_i ac rs hac hrs hle;simp only[H5]at hcf;subst hcf;simp only at h hlen;have hle:=Zb4 hle;have dP:(callFunc f cM.toArray).run P w= .ok (.enter f cM.toArray) w:=by
   have agD:¬fn.name= "runtime.NumGoroutine" :=(by simpa using qd);simp[callFunc,Gu,agD,hb]
 rw[dP];simp only[Reaches];refine calls_of_wp Gu hb ?_;have gR:cM.length<=fn.ntmps:=by rw[<-xK.1,hlen];exact hle
 have hS:yp fn.ntmps ρ C (params 0 args .e) st { tmps:=cM.toArray++Array.replicate (fn.ntmps - cM.toArray.size) undef,defers:=[] } w:=by
   refine⟨hW,?_,?_,rfl⟩
   . refine Rc args cM 0 .e xK (λj x hx=> ?_) (λp v hp=>by rw[T.dO]at hp;cases hp);have hj:j<cM.length:=(Za2.1 hx).1;rw[Zb6,Zp7 (by simpa using hj)];simpa using hx
   . simp;omega
 split at h<;>first|(cases h;done)|skip
 . rename_i eZ bD h1;(split at h<;>first|(cases h;done)|skip);rename_i vs CA;simp only[H5,Zc9]at h;obtain⟨rfl,rfl⟩:=h;(refine(CJ hT cV mj m).1 c ac _ eZ st bD .normal ρ _ w _ hac h1 hS λa' w' hp=> ?_);obtain⟨jX,zE,k1,k2,k3⟩:=hp;obtain⟨y,Vm,hy2⟩:=Ih hT zE.W zE.F hrs CA;exact⟨zE.defers,y,Vm,jX,hy2,k1,k2,zE.W,k3⟩
 . rename_i eZ bD h1;(split at h<;>first|(cases h;done)|skip);rename_i vs CA;simp only[H5,Zc9]at h;obtain⟨rfl,rfl⟩:=h;(refine(CJ hT cV mj m).1 c ac _ eZ st bD .ret ρ _ w _ hac h1 hS λa' w' hp=> ?_);obtain⟨jX,zE,k1,k2,k3⟩:=hp;obtain⟨y,Vm,hy2⟩:=Ih hT zE.W zE.F hrs CA;exact⟨zE.defers,y,Vm,jX,hy2,k1,k2,zE.W,k3⟩
theorem ZB(hT:dy P tt){O:eP}{G:T dN}(hO:vz P C O)(hG:GOk P tt G)(m:Nat)(mj:∀d,iZ P C (um O G m d)->yq P tt C (um O G m d)):∀d,iZ P C (um O G m d)
 |0=>λρ st w f args v st' cM h=>by simp[um]at h
 |d +1=>by
  intro ρ st w f args v st' cM h hW xK;have ih:=ZB hT hO hG m mj d;unfold um at h;split at h
  . rename_i s hs;exact hO f s hs ρ st w args v st' cM h hW xK
  . (split at h<;>first|(cases h;done)|skip);rename_i F hF;exact abJ hT hG ih (mj _ ih) m hF h hW xK
end
end
end Go.Ai
