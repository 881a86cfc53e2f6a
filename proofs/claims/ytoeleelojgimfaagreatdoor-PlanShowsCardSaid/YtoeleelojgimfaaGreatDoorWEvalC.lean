/- Its operations, second part; regions. -/
import Derived.Test.YtoeleelojgimfaaGreatDoorWEvalB
import Derived.Laws.IdiomStrings
import Derived.Laws.RangeString
import Derived.Lib.UnsafeStr
import Derived.LoopN
import Derived.LoopNIn
import Derived.OrdersIn
set_option linter.all false
namespace Go.Ai
section
open Go Go.RowKit
section
variable{P:Program}{tt:TT}{ρ:Pos->Loc}{C:Cells}{st:St}{w w':World}
theorem tr(del:Option Pos)(h:T AB){b:Pos}{x:AB}(hb:(B5 del h).get b=some x):h.get b=some x/\∀c,del=some c->b≠c:=by
 cases del with
 |none=>exact⟨hb,λ_ h=>by cases h⟩
 |some c=>
  by_cases he:c=b
  .subst he;simp only[B5]at hb;rw[T.ee]at hb;cases hb
  .simp only[B5]at hb;rw[T.br _ he]at hb;exact⟨hb,λd hd=>by cases hd;exact λe=>he e.symm⟩
theorem rX(hW:aV ρ C st w){o:Obj}{x0:AB}{base size:Nat}(del:Option Pos)(hh:w'.heap=w.heap.push o)(h1:w'.os=w.os)(h2:w'.tape=w.tape)(h3:w'.output=w.output)
   (hB:∀ρ' n',(∀b:Pos,b.toNat<st.next.toNat->ρ' b=ρ b)->st.next.toNat<=n'->kN ρ' n' C ⟨w.heap.size,base,size⟩ w' x0):
   ∃ρ':Pos->Loc,(∀b:Pos,b.toNat<st.next.toNat->ρ' b=ρ b)/\ρ' st.next=⟨w.heap.size,base,size⟩/\aV ρ' C (st.aD del none (some x0)) w'/\je ρ st w ρ' (st.aD del none (some x0)) w':=by
 let ρ':Pos->Loc:=λb=>if b=st.next then⟨w.heap.size,base,size⟩else ρ b
 have aR:∀b:Pos,b.toNat<st.next.toNat->ρ' b=ρ b:=λb hb=>Za5 (λe=>by rw[e]at hb;omega)
 have dR:ρ' st.next=⟨w.heap.size,base,size⟩:=Za8 rfl;have eD:w'.heap.size=w.heap.size+1:=by rw[hh];simp
 have hold:∀k,k<w.heap.size->w'.heap[k]? =w.heap[k]? :=λk hk=>by rw[hh,Array.getElem?_push,Za5 (by omega)]
 refine⟨ρ',aR,dR,?_,⟨h1,h2,h3,by omega,λk hk _=>hold k hk,λb x hb=> ?_⟩⟩;rotate_left
 . by_cases he:b=st.next
   .right;rw[he,dR];exact Za4 _
   .left;simp only[St.aD,DO]at hb;rw[T.br _ (λe=>he e.symm)]at hb;have jf:=(tr del _ hb).1;exact⟨b,x,jf,by rw[aR b (hW.live b x jf).1]⟩
 refine hW.U2 (b0:=st.next) (x0:=x0) (by rw[Pos.az];omega) (by rw[Pos.az];omega) (by rw[T.ee]) ?_ aR (by rw[dR];exact hB _ _ aR (by rw[Pos.az];omega)) ?_ (by rw[dR,eD];simp) (by omega) (λk hk _=>hold k hk)
 .intro b x hb hx;rw[T.br _ (λe=>hb e.symm)]at hx;have hx:=(tr del _ hx).1;refine⟨hx,?_⟩;rw[dR];have:=(hW.live b x hx).2.1;simp only;omega
 .intro a v ha;have:=World.block_lt_of_cell? _ _ (hW.cZ a v ha).1;rw[dR];simp only;omega
theorem Lg(hW:aV ρ C st w){b:Pos}{x x0:AB}(hb:st.heap.get b=some x)(h1:w'.os=w.os)(h2:w'.tape=w.tape)(h3:w'.output=w.output)(eD:w'.heap.size=w.heap.size)
   (rM:∀k,k≠(ρ b).aq->w'.heap[k]? =w.heap[k]?) (hB:kN ρ st.next.toNat C (ρ b) w' x0):
   aV ρ C (st.aD none (some (b,x0)) none) w'/\je ρ st w ρ (st.aD none (some (b,x0)) none) w':=by
 obtain⟨aU,Lh,_⟩:=hW.live b x hb;refine⟨?_,⟨h1,h2,h3,by omega,λk _ hk=>rM k (λe=>hk b x hb e.symm),λc y hc=> ?_⟩⟩;rotate_left
 . left;by_cases he:c=b
   .exact⟨b,x,hb,by rw[he]⟩
   .simp only[St.aD,DO,B5]at hc;rw[T.br _ (λe=>he e.symm)]at hc;exact⟨c,y,hc,rfl⟩
 refine hW.U2 (b0:=b) (x0:=x0) (Za4 _) aU (by simp only[DO,B5];rw[T.ee]) ?_ (λ_ _=>rfl) hB ?_ (by omega) (by omega) (λk _ hk=>rM k hk)
 .intro c y hc hy;simp only[DO,B5]at hy;rw[T.br _ (λe=>hc e.symm)]at hy;exact⟨hy,λe=>hc (hW.inj _ _ _ _ hy hb e)⟩
 .exact λa v ha e=>(hW.cZ a v ha).2 b x hb e.symm
theorem tR{cs:List AV}{c:Array Value}{e:TypeId}{fr:Nat×Nat}{g:Nat}{n:Nat}(hg:w'.heap[g]? =some (.cells c e fr))(hle:cs.length<=c.size)(hv:av ρ n C cs (c.toList.take cs.length))
  (hf:∀i,i<c.size->¬(fr.1<=i/\i<fr.2)):kN ρ n C ⟨g,0,c.size⟩ w' (.cells cs 0):=
 ⟨c,e,fr,hg,rfl,by simpa using hle,by simpa using hv,λi _ hi=>by simpa using hf i (by simpa using hi)⟩
theorem WV(hT:bH P tt)(t:TypeId):cw P tt (.alloc t):=by
 intro ρ C st w k xs cls fr a o vs res ho hc hW hF hx hr;simp only[fy]at hc;split at hc<;>first|(cases hc;done)|skip
 rename_i ti cm;split at hc<;>first|(cases hc;done)|skip
 rename_i z hz;split at hc
 . cases hc;simp only[dL,H0]at hx;subst hx;simp only[ay.run,Bm,H0]at hr;subst hr;obtain⟨zv,vR,_,qt⟩:=qq hT cm hz (ρ:=ρ) (n:=st.next.toNat) (C:=C) w;have hl:z.length=zv.cells.size:=(by simpa using qt.1);obtain⟨ρ',aR,dR,dY,hE⟩:=rX (w':=w.alloc (.cells zv.cells t)) (o:= .cells zv.cells t) (x0:= .typed t z) (base:=0) (size:=zv.cells.size) hW none rfl rfl rfl rfl (λρ' n' aR hn=>
     ⟨zv.cells,(0,0),by show(w.heap.push _)[w.heap.size]? =_;simp,rfl,by simp only[Zc7];omega,by rw[hl,Ze3,Zf9 (by simp)];exact qt.mono aR hn,λi _=>by simp,rfl⟩)
   refine⟨_,.pointer (some ⟨w.heap.size,0,none⟩),_,ρ',?_,Yields.value _,aR,dY,?_,hE⟩
   .simp[execOp,ho,Instr.alloc,vR,newVar,newRow]
   .have:=aj.ptr (ρ:=ρ') (n:=(st.aD none none (some (.typed t z))).next.toNat) (C:=C) st.next 0 (by simp[St.aD,Pos.az]);rw[dR]at this;simpa using this
 cases hc;simp only[dL,H0]at hx;subst hx;simp only[ay.run,DH,H0]at hr;subst hr;obtain⟨zv,vR,_,qt⟩:=qq hT cm hz (ρ:=ρ) (n:=st.next.toNat) (C:=C) w;have hl:z.length=zv.cells.size:=by simpa using qt.1
 obtain⟨ρ',aR,dR,dY,hE⟩:=rX (w':=w.alloc (.cells zv.cells t)) (o:= .cells zv.cells t) (x0:= .cells z 0) (base:=0) (size:=zv.cells.size) hW none rfl rfl rfl rfl (λρ' n' aR hn=>
   tR (w':=w.alloc (.cells zv.cells t)) (e:=t) (fr:=(0,0)) (by show(w.heap.push _)[w.heap.size]? =_;simp) (by omega) (by rw[hl,Zf9 (by simp)];exact qt.mono aR hn) (λi _=>by simp))
 refine⟨_,.pointer (some ⟨w.heap.size,0,none⟩),_,ρ',?_,Yields.value _,aR,dY,?_,hE⟩
 .simp[execOp,ho,Instr.alloc,vR,newVar,newRow]
 .have:=aj.ptr (ρ:=ρ') (n:=(st.aD none none (some (.cells z 0))).next.toNat) (C:=C) st.next 0 (by simp[St.aD,Pos.az]);rw[dR]at this;simpa using this
theorem abK(t:TypeId)(x:Operand):cw P tt (.box t x):=by
 intro ρ C st w k xs cls fr a o vs res ho hc hW hF hx hr;simp only[fy]at hc;split at hc<;>first|(cases hc;done)|skip
 rename_i b hb;cases hc;obtain⟨v,rfl,hv⟩:=ep hb hF hx;simp only[ay.run,K3,H0]at hr;subst hr;have qt:=hv.cells;have hl:v.cells.length=(a.eval x).cells.size:=by simpa using qt.1
 obtain⟨ρ',aR,dR,dY,hE⟩:=rX (w':=w.alloc (.cells (a.eval x).cells t)) (o:= .cells (a.eval x).cells t) (x0:= .cells v.cells 0) (base:=0) (size:=(a.eval x).cells.size) hW none rfl rfl rfl rfl (λρ' n' aR hn=>
   tR (w':=w.alloc (.cells (a.eval x).cells t)) (e:=t) (fr:=(0,0)) (by show(w.heap.push _)[w.heap.size]? =_;simp) (by omega) (by rw[hl,Zf9 (by simp)];exact qt.mono aR hn) (λi _=>by simp))
 refine⟨_,.pointer (some ⟨w.heap.size,0,none⟩),_,ρ',?_,Yields.value _,aR,dY,?_,hE⟩
 .simp[execOp,ho,Instr.box,newVar,newRow]
 .have:=aj.ptr (ρ:=ρ') (n:=(st.aD none none (some (.cells v.cells 0))).next.toNat) (C:=C) st.next 0 (by simp[St.aD,Pos.az]);rw[dR]at this;simpa using this
theorem B8{n:Nat}{z:List AV}{zs:List Value}(h:av ρ n C z zs):∀m,av ρ n C (bL z m) (bL zs m)
 |0=>av.nil
 |m+1=>h.append (B8 h m)
theorem gZ{α:Type}(z:List α):∀m,(bL z m).length=m*z.length
 |0=>by simp[bL]
 |m+1=>by simp[bL,gZ z m,Zi4,Nat.add_comm]
theorem Je{α:Type}(z:List α):∀(m i:Nat),i<m*z.length->(bL z m)[i]? =z[i % z.length]?
 |0,i,h=>by simp at h
 |m +1,i,h=>by
  simp only[bL];by_cases hi:i<z.length
  .rw[Zc1 hi,Zj4 hi]
  .have hi:z.length<=i:=(by omega);rw[Zc3 hi,Je z m _ (by rw[Zi4]at h;omega)];congr 1;rw[<-Zn7 hi]
theorem QG(z:Array Value)(m:Nat)(hz:0<z.size):((Array.range (m*z.size)).map (z[· % z.size]!)).toList=bL z.toList m:=by
 apply Zh9;intro i;by_cases hi:i<m*z.size
 .rw[Je _ _ _ (by simpa using hi)];have aU:i % z.size<z.size:=Zi6 _ hz;simp[hi,aU]
 .rw[Zb5 (by simp;omega),Zb5 (by rw[gZ];simp;omega)]
theorem xF{ρ':Pos->Loc}{b:Pos}{n g len es aG size:Nat}{cap:Option Nat}(hb:b.toNat<n)(aR:ρ' b=⟨g,0,size⟩)(hl:len<=aG)(hc:∀c,cap=some c->c=aG)(hs:aG*es<=size):
  aj ρ' n C (.slice b 0 len cap es) (.slice (some ⟨g,0,none⟩) len aG):=
 .slice _ _ _ _ _ _ _ hl hc (λ_=>⟨hb,by rw[aR],by rw[aR];simpa using hs⟩) (λ_=>hb)
theorem Li{z:List AV}{zv:Value}{n m size:Nat}(qt:av ρ n C z zv.cells.toList)(hl:z.length=size):
   av ρ n C (bL z m) ((Array.range (m*size)).map ((if m*size=0 then(#[]:Array Value)else zv.cells)[· % (if m*size=0 then(#[]:Array Value)else zv.cells).size]!)).toList/\
   ((Array.range (m*size)).map ((if m*size=0 then(#[]:Array Value)else zv.cells)[· % (if m*size=0 then(#[]:Array Value)else zv.cells).size]!)).size=m*size:=by
 refine⟨?_,by simp⟩;by_cases h0:m*size=0
 .have:bL z m=[]:=(by apply Zb1;rw[gZ,hl];exact h0);rw[this];have:(Array.range (m*size))= #[]:=(by rw[h0];rfl);rw[this];simpa using(av.nil:av ρ n C [] [])
 . rw[Za5 h0];have TU:zv.cells.size=size:=(by have:=qt.1;simp at this;omega);have Va:0<zv.cells.size:=by
    rw[TU];rcases Zn8 size with h|h
    .rw[h]at h0;simp at h0
    .exact h
   have:=QG zv.cells m Va;rw[TU]at this ⊢;rw[this];exact B8 qt m
theorem abL{k:IntKind}{i:Int}(h1:NS k<=i)(h2:i<=NT k):k.wrap i=i:=by
 rw[<-qp];unfold ax;split
 . split
   .rfl
   .exact absurd h2 (by assumption)
 .exact absurd h1 (by assumption)
theorem QH{j:Nat}(h:j<=9223372036854775807):IntKind.i64.wrap (j:Int)=(j:Int):=abL (by simp only[NS];omega) (by simp only[NT];omega)
theorem Tc(hT:bH P tt)(t:TypeId)(l c:Operand):cw P tt (.makeSlice t l c):=by
 intro ρ C st w k xs cls fr a o vs res ho hc hW hF hx hr;simp only[fy]at hc;split at hc<;>first|(cases hc;done)|skip
 rename_i ti l0 cm hl;split at hc<;>first|(cases hc;done)|skip
 rename_i e hk;split at hc<;>first|(cases hc;done)|skip
 rename_i te eI;split at hc<;>first|(cases hc;done)|skip
 rename_i z hz;cases hc;obtain⟨d,hd,bP⟩:=(hT.at cm).und;rw[hk]at bP;rw[kQ bP]at hd;obtain⟨i0,kG,jQ,hib,vQ⟩:=(hT.at eI).info;obtain⟨u,v,rfl,h1,h2⟩:=MP hl hF hx;simp only[ay.run,uw]at hr;split at hr<;>first|(cases hr;done)|skip
 rename_i jl jc hjl hjc;split at hr<;>first|(cases hr;done)|skip
 rename_i e1 e2 e3;have e1:=Za3 e1;have e2:=Za3 e2;have e3:=Za3 e3;simp only[H0]at hr;subst hr;obtain⟨kl,fU⟩:=iM h1 hjl;obtain⟨kc,TV⟩:=iM h2 hjc;obtain⟨zv0,hzv0,_,Lj,_⟩:=vQ z hz;obtain⟨zv,vR,_,qt⟩:=qq hT eI hz (ρ:=ρ) (n:=st.next.toNat) (C:=C) w;obtain⟨Gr,MR⟩:=Li (m:=jc) qt Lj;generalize B9:(Array.range (jc*te.size)).map ((if jc*te.size=0 then(#[]:Array Value)else zv.cells)[· % (if jc*te.size=0 then(#[]:Array Value)else zv.cells).size]!)=row at Gr MR;obtain⟨ρ',aR,dR,dY,hE⟩:=rX (w':=w.alloc (.cells row e)) (o:= .cells row e) (x0:= .cells (bL z jc) 0) (base:=0) (size:=row.size) hW none rfl rfl rfl rfl (λρ' n' aR hn=>
   tR (w':=w.alloc (.cells row e)) (e:=e) (fr:=(0,0)) (by show(w.heap.push _)[w.heap.size]? =_;simp) (by rw[gZ,MR,Lj];exact Za4 _)
    (by rw[gZ,Lj, <-MR, <-Zf1,Zh6];exact Gr.mono aR hn) (λi _=>by simp))
 refine⟨_,.slice (some ⟨w.heap.size,0,none⟩) jl jc,_,ρ',?_,Yields.value _,aR,dY,?_,hE⟩
 . have dI:=QH (Zc4 e1 e3);have nu:=QH e3;have hb:¬((te.bytes:Int)*(jc:Int)>2 ^ 48):=(by have h:=Int.ofNat_le.2 e2;rw[Int.natCast_mul]at h;exact Int.not_lt.2 h);have bQ:(Instr.makeSlice t (.int kl jl) (.int kc jc)).run P w= .ok (.slice (some ⟨w.heap.size,0,none⟩) jl jc) (w.alloc (.cells row e)):=by
    unfold Instr.makeSlice;simp only[Sem.run_bind,aH hd,Result.andThen_ok,asInt,asIntOf,Sem.run_pure,Qy kG,dI,nu,hib];have ado:¬((decide ((jc:Int)<0)||decide ((te.bytes:Int)*(jc:Int)>2 ^ 48)||decide ((jl:Int)<0)||decide ((jl:Int)>(jc:Int)))=true):=by
        simp only[Zi1,Ze1];rintro(((h|h)|h)|h)
        .omega
        .exact hb h
        .omega
        .omega
    rw[Za5 ado];simp only[Sem.run_bind,run_askRoom,Result.andThen_ok,gH kG,jQ,Zi0];rw[<-B9];by_cases h0:jc*te.size=0
    .   simp only[h0,Zg8,Sem.run_bind,Sem.run_pure,Result.andThen_ok,newRow,run_newObj,World.alloc_eq]
    .   simp only[h0,Zh3,Sem.run_bind,Sem.run_pure,Result.andThen_ok,vR,newRow,run_newObj,World.alloc_eq]
   simp[execOp,ho,fU,TV,bQ]
 .exact xF (by simp[St.aD,Pos.az]) dR e1 (λc hc=>by cases hc;rfl) (by rw[MR];exact Za4 _)
theorem MS(hT:bH P tt)(t:TypeId)(len:Nat)(ps:Array (Nat×Operand)):cw P tt (.buildSlice t len ps):=by
 intro ρ C st w k xs cls fr a o vs res ho hc hW hF hx hr;simp only[fy]at hc;split at hc<;>first|(cases hc;done)|skip
 rename_i ti l0 cm hl;split at hc<;>first|(cases hc;done)|skip
 rename_i e hk;split at hc<;>first|(cases hc;done)|skip
 rename_i te eI;split at hc<;>first|(cases hc;done)|skip
 rename_i z hz hlim;have hlim:=Za3 hlim;cases hc;obtain⟨d,hd,bP⟩:=(hT.at cm).und;rw[hk]at bP;rw[kQ bP]at hd;obtain⟨i0,kG,jQ,hib,vQ⟩:=(hT.at eI).info;have hv:=dF hl hF hx;simp only[ay.run,oX]at hr;split at hr<;>first|(cases hr;done)|skip
 rename_i cs ze;simp only[H0]at hr;subst hr;obtain⟨zv0,hzv0,_,Lj,_⟩:=vQ z hz;obtain⟨zv,vR,_,qt⟩:=qq hT eI hz (ρ:=ρ) (n:=st.next.toNat) (C:=C) w;obtain⟨Gr,MR⟩:=Li (m:=len) qt Lj;generalize B9:(Array.range (len*te.size)).map ((if len*te.size=0 then(#[]:Array Value)else zv.cells)[· % (if len*te.size=0 then(#[]:Array Value)else zv.cells).size]!)=row at Gr MR;have TR:(ps.map λ(i,x)=>(i,a.eval x)).toList=ps.toList.map λx=>(x.1,a.eval x.2):=by simp
 obtain⟨kH,e1,e2⟩:=J3 (λi=>some (i*te.size,te.size)) ze Gr (ps:=ps.toList.map λx=>(x.1,a.eval x.2)) (by simpa [Zf8,Zj1]using hv) (by simp[Zf8,Zj1]);have hlen:cs.length=kH.size:=by simpa using e2.1
 have adp:∀{pp:List (Nat×Nat)}{vs cells r:List AV},b6 cells pp vs=some r->r.length=cells.length:=by
   intro pp;induction pp with
   |nil=>intro vs cells r h;unfold b6 at h;split at h<;>first|(cases h;done)|(simp only[H0]at h;subst h;rfl)|(rename_i hh;cases hh)
   |cons p pp ih=>
    intro vs cells r h;unfold b6 at h;(split at h<;>first|(cases h;done)|(rename_i hh;cases hh;done)|skip);rename_i hh;simp only[Zg0]at hh;obtain⟨rfl,rfl⟩:=hh;(split at h<;>first|(cases h;done)|skip);rename_i g1 g2;have g1:=Za0 g1;have g2:=Za3 g2;rw[ih h];simp[aM];omega
 have hcsl:=adp ze;rw[gZ,Lj]at hcsl;obtain⟨ρ',aR,dR,dY,hE⟩:=rX (w':=w.alloc (.cells kH e)) (o:= .cells kH e) (x0:= .cells cs 0) (base:=0) (size:=kH.size) hW none rfl rfl rfl rfl (λρ' n' aR hn=>
   tR (w':=w.alloc (.cells kH e)) (e:=e) (fr:=(0,0)) (by show(w.heap.push _)[w.heap.size]? =_;simp) (by omega)
    (by rw[hlen, <-Zf1,Zh6];exact e2.mono aR hn) (λi _=>by simp))
 refine⟨_,.slice (some ⟨w.heap.size,0,none⟩) len len,_,ρ',?_,Yields.value _,aR,dY,?_,hE⟩
 . have bQ:(Instr.buildSlice t len (ps.map λ(i,x)=>(i,a.eval x))).run P w= .ok (.slice (some ⟨w.heap.size,0,none⟩) len len) (w.alloc (.cells kH e)):=by
    unfold Instr.buildSlice;simp only[Sem.run_bind,aH hd,Result.andThen_ok,gH kG,jQ];rw[Za5 (by omega)];by_cases h0:len*te.size=0
    .   simp only[h0,Zg8,Sem.run_bind,Sem.run_pure,Result.andThen_ok];simp only[h0,Zg8]at B9;rw[B9,TR,e1];simp only[newRow,Sem.run_bind,run_newObj,World.alloc_eq,Result.andThen_ok,Sem.run_pure]
    .   simp only[h0,Zh3,Sem.run_bind,Sem.run_pure,Result.andThen_ok,vR];simp only[h0,Zh3]at B9;rw[B9,TR,e1];simp only[newRow,Sem.run_bind,run_newObj,World.alloc_eq,Result.andThen_ok,Sem.run_pure]
   simp only[execOp,ho,Sem.run_bind];rw[bQ];rfl
 .exact xF (by simp[St.aD,Pos.az]) dR (Za4 _) (λc hc=>by cases hc;rfl) (by omega)
theorem WW(t:TypeId)(r:Option Operand)(hT:bH P tt):cw P tt (.makeMap t r):=by
 intro ρ C st w k xs cls fr a o vs res ho hc hW hF hx hr;have key:k= .mkMap/\(execOp a.eval o).run P w= .ok (.value (.map (some w.heap.size))) (w.alloc (.map #[] 0)):=by
  simp only[fy]at hc;split at hc<;>first|(cases hc;done)|skip
  rename_i ti cm;obtain⟨d,hd,bP⟩:=(hT.at cm).und;split at hc<;>first|(cases hc;done)|skip
  .cases hc;exact⟨rfl,by simp[execOp,ho,Instr.makeMap]⟩
  .rename_i hk;rw[hk]at bP;rw[Gm bP]at hd;cases hc;exact⟨rfl,by simp[execOp,ho,Instr.makeMap,aH hd,Act.eval,asInt,asIntOf]⟩
 obtain⟨rfl,bQ⟩:=key;simp only[ay.run,DK,H0]at hr;subst hr;obtain⟨ρ',aR,dR,dY,hE⟩:=rX (w':=w.alloc (.map #[] 0)) (o:= .map #[] 0) (x0:= .map [] 0) (base:=0) (size:=0) hW none rfl rfl rfl rfl (λρ' n' aR hn=>
  ⟨#[],by show(w.heap.push _)[w.heap.size]? =_;simp,rfl,λi e e' h=>by simp at h⟩)
 refine⟨_,_,_,ρ',bQ,Yields.value _,aR,dY,?_,hE⟩;have:=aj.map (ρ:=ρ') (n:=(st.aD none none (some (.map [] 0))).next.toNat) (C:=C) st.next (by simp[St.aD,Pos.az]);rw[dR]at this;exact this
theorem Vb(hT:bH P tt)(t:TypeId)(x:Operand):cw P tt (.range t x):=by
 intro ρ C st w k xs cls fr a o vs res ho hc hW hF hx hr;simp only[fy]at hc;split at hc<;>first|(cases hc;done)|skip
 rename_i ti b cm hb;split at hc<;>first|(cases hc;done)|skip
 rename_i hk;cases hc;obtain⟨d,hd,bP⟩:=(hT.at cm).und;rw[hk]at bP;rw[kF bP]at hd;obtain⟨v,rfl,hv⟩:=ep hb hF hx;simp only[ay.run,Bl]at hr;split at hr<;>first|(cases hr;done)|skip
 rename_i s;simp only[H0]at hr;subst hr;obtain⟨bs,he,hs⟩:=hv.dN;obtain⟨ρ',aR,dR,dY,hE⟩:=rX (w':=w.alloc (.stringIter bs 0)) (o:= .stringIter bs 0) (x0:= .iJ s 0) (base:=0) (size:=0) hW none rfl rfl rfl rfl (λρ' n' aR hn=>
   ⟨bs,by show(w.heap.push _)[w.heap.size]? =_;simp,hs,rfl⟩)
 refine⟨_,.pointer (some ⟨w.heap.size,0,none⟩),_,ρ',?_,Yields.value _,aR,dY,?_,hE⟩
 .simp[execOp,ho,he,Instr.range,aH hd]
 .have:=aj.ptr (ρ:=ρ') (n:=(st.aD none none (some (.iJ s 0))).next.toNat) (C:=C) st.next 0 (by simp[St.aD,Pos.az]);rw[dR]at this;simpa using this
theorem Pr(hT:bH P tt)(src dst:TypeId)(x:Operand)(hb:∃xs cls,fy tt (.convert src dst x)=some (.conv .bytes,xs,cls)):cw P tt (.convert src dst x):=by
 intro ρ C st w k xs cls fr a o vs res ho hc hW hF hx hr;obtain⟨_,_,jf⟩:=hb;rw[hc]at jf;simp only[H0,Zb3]at jf;obtain⟨rfl,_⟩:=jf;simp only[fy]at hc;split at hc<;>first|(cases hc;done)|skip
 rename_i s d b hs hd hb;obtain⟨ds,ru,yI⟩:=(hT.at hs).und;obtain⟨dd,hdd,bP⟩:=(hT.at hd).und;split at hc<;>first|(cases hc;done)|skip
 . rename_i e h1 h2;(split at hc<;>first|(cases hc;done)|skip);rename_i te eI;(split at hc<;>first|(cases hc;done)|skip);rename_i WO;cases hc;rw[h1]at yI;rw[h2]at bP;rw[kF yI]at ru;rw[kQ bP]at hdd;obtain⟨de,WQ,WS⟩:=(hT.at eI).und;rw[WO]at WS;rw[CQ WS]at WQ;obtain⟨v,rfl,hv⟩:=ep hb hF hx;simp only[ay.run,tJ]at hr;split at hr<;>first|(cases hr;done)|(rename_i heq;cases heq;done)|(rename_i heq;cases heq)
   (rename_i u;simp only[H0]at hr;subst hr;obtain⟨bs,he,hs⟩:=hv.dN;have bQ:=run_bytes_of_string (P:=P) w src dst e bs ru hdd WQ;have MQ:bs.size<=grownCap w bs.size 0 e:=(by unfold grownCap Question.cut;exact Zm3 _ _);generalize grownCap w bs.size 0 e=cap at bQ MQ;have eD:(bytesRow bs cap).size=cap:=by have:bs.data.size=bs.size:=rfl;simp[bytesRow,this];omega);have hul:u.length=bs.size:=(tq hs).symm;have hrel:∀ρ' n',av ρ' n' C (u.map λc=>AV.int .u8 (.ofNat c)) ((bytesRow bs cap).toList.take (u.map λc=>AV.int .u8 (.ofNat c)).length):=by
     (intro ρ' n';have h1:(bytesRow bs cap).toList.take (u.map λc=>AV.int .u8 (.ofNat c)).length=u.map λc=>Value.int .u8 (.ofNat c):=by have hdl:bs.data.toList.length=bs.size:=(by simp);rw[Zb2,hul];simp only[bytesRow,Array.toList_append,Zo8];rw[Zj8 (by simp), <-hs,Zf8];rfl);rw[h1];refine⟨by simp,λi v x hv hx=> ?_⟩;simp only[Zb7,Zd4]at hv hx;obtain⟨c,hc,rfl⟩:=hv;obtain⟨c',rY,rfl⟩:=hx;rw[hc]at rY;cases rY;exact .int _ _
   obtain⟨ρ',aR,dR,dY,hE⟩:=rX (w':=w.drew.alloc (.cells (bytesRow bs cap) e ((bytesRow bs cap).size,(bytesRow bs cap).size+1))) (o:= .cells (bytesRow bs cap) e ((bytesRow bs cap).size,(bytesRow bs cap).size+1))
     (x0:= .cells (u.map λc=>AV.int .u8 (.ofNat c)) 0) (base:=0) (size:=(bytesRow bs cap).size) hW none rfl rfl rfl rfl (λρ' n' aR hn=>
     tR (e:=e) (fr:=((bytesRow bs cap).size,(bytesRow bs cap).size+1)) (by show(w.heap.push _)[w.heap.size]? =_;simp) (by rw[Zb2,hul,eD];exact MQ) (hrel _ _) (λi hi=>by simp;omega))
   refine⟨_,.slice (some ⟨w.heap.size,0,none⟩) u.length cap,_,ρ',?_,Yields.value _,aR,dY,?_,hE⟩
   .simp only[execOp,ho,he,Sem.run_bind];rw[bQ,hul];rfl
   .exact xF (by simp[St.aD,Pos.az]) dR (by omega) (λc hc=>by cases hc) (by omega)
 all_goals
   repeat' split at hc
   all_goals (cases hc;done)
end
section
variable{P:Program}{tt:TT}{ρ:Pos->Loc}{C:Cells}{st:St}{w w':World}
theorem uB{n:Nat}:∀{l:List AV}{ys:List Value},aQ l=true->av ρ n C l ys->∀y∈ys,y.oneCell'=true
 |[],ys,_,h=>by have:=h.l7;subst this;simp
 |v::l,ys,h1,h=>by
  unfold aQ at h1;split at h1<;>first|(cases h1;done)|skip
  rename_i ho;obtain⟨y,ys',rfl,hv,hs⟩:=h.cons_inv;intro z hz;simp at hz;rcases hz with rfl|hz
  .cases hv<;>first|rfl|(simp[AV.one]at ho;done)
  .exact uB h1 hs z hz
theorem zf{α:Type}(l:List α){i:Nat}(vs:List α)(hi:i<=l.length)(k:Nat):(aM l i vs)[k]? =if k<i then l[k]? else if k<i+vs.length then vs[k - i]? else l[k]? :=by
 unfold aM;have hl:(l.take i).length=i:=by simp;omega
 split
 .rename_i h;rw[Zc1 (by omega),Zb8,Za8 h]
 . rename_i h;rw[Zc3 (by omega),hl];split
   .rename_i h';rw[Zc1 (by omega)]
   .rename_i h';rw[Zc3 (by omega),Zc8];congr 1;omega
theorem Ca{α:Type}(l:List α)(b off:Nat)(vs:List α)(h:b+off<=l.length):(aM l (b+off) vs).drop b=aM (l.drop b) off vs:=by
 apply Zh9;intro k;rw[Zc8,zf l vs h,zf (l.drop b) vs (by simp;omega),Zc8];by_cases h1:k<off
 .rw[Za8 (by omega),Za8 h1]
 . rw[Za5 (by omega),Za5 h1];by_cases h2:k<off+vs.length
   .rw[Za8 (by omega),Za8 h2];congr 1;omega
   .rw[Za5 (by omega),Za5 h2]
theorem Jf{α:Type}(l:List α)(off m:Nat)(vs:List α)(h:off+vs.length<=m)(h':m<=l.length):(aM l off vs).take m=aM (l.take m) off vs:=by
 apply Zh9;intro k;rw[Zb8,zf l vs (by omega),zf (l.take m) vs (by simp;omega),Zb8];by_cases h1:k<off
 .rw[Za8 (by omega),Za8 h1,Za8 h1,Za8 (by omega)]
 . by_cases h2:k<off+vs.length
   .rw[Za8 (by omega),Za5 h1,Za8 h2,Za5 h1,Za8 h2]
   .rw[Za5 h1,Za5 h2,Za5 h1,Za5 h2]
theorem DX(hW:aV ρ C st w){b:Pos}{cs vs:List AV}{fz off:Nat}{ys:List Value}(hb:st.heap.get b=some (.cells cs fz))(hle:off+vs.length<=cs.length)(Wm:fz<=off)
   (h1:aQ vs=true) (hv:av ρ st.next.toNat C vs ys):
   ∃w',(storeCells ⟨(ρ b).aq,(ρ b).base+off,none⟩ ys).run P w= .ok () w'/\aV ρ C (st.aD none (some (b,.cells (aM cs off vs) fz)) none) w'/\je ρ st w ρ (st.aD none (some (b,.cells (aM cs off vs) fz)) none) w':=by
 obtain⟨_,_,c,e,fr,g1,g2,g3,g4,g5⟩:=hW.live b _ hb;have hl:vs.length=ys.length:=hv.1;obtain⟨w',e1,e2,e3,e4,e5,e6,e7⟩:=jA (P:=P) (ρ b).aq e fr ys 0 ((ρ b).base+off) c w g1 (by omega) (uB h1 hv) (λk hk jB=>by
   have:=g5 (k - (ρ b).base) (by omega) (by omega)
   rwa [show(ρ b).base+(k - (ρ b).base)=k from by omega]at this)
 simp only[Zf0]at e1 e2;refine⟨w',e1,?_⟩;have hlen:(aM cs off vs).length=cs.length:=by simp[aM];omega
 refine Lg hW hb e5 e6 e7 e3 e4 ⟨_,e,fr,e2,?_,?_,?_,λi hi Jg=>g5 i hi ?_⟩
 .simp[aM];omega
 .rw[hlen];simp[aM];omega
 .rw[hlen];rw[Ca _ _ _ _ (by simp;omega),Jf _ _ _ _ (by omega) (by simp;omega)];exact g4.aM hv off
 .simp[aM]at Jg;omega
theorem WY(hW:aV ρ C st w){b:Pos}{cs vs:List AV}{t:TypeId}{off:Nat}{ys:List Value}(hb:st.heap.get b=some (.typed t cs))(hle:off+vs.length<=cs.length)
   (h1:aQ vs=true) (hv:av ρ st.next.toNat C vs ys):
   ∃w',(storeCells ⟨(ρ b).aq,(ρ b).base+off,none⟩ ys).run P w= .ok () w'/\aV ρ C (st.aD none (some (b,.typed t (aM cs off vs))) none) w'/\je ρ st w ρ (st.aD none (some (b,.typed t (aM cs off vs))) none) w':=by
 obtain⟨_,_,c,fr,g1,g2,g3,g4,g5,g6⟩:=hW.live b _ hb;have hl:vs.length=ys.length:=hv.1;obtain⟨w',e1,e2,e3,e4,e5,e6,e7⟩:=jA (P:=P) (ρ b).aq t fr ys 0 ((ρ b).base+off) c w g1 (by omega) (uB h1 hv) (λk hk jB=>by
   have:=g5 (k - (ρ b).base) (by omega) (by omega)
   rwa [show(ρ b).base+(k - (ρ b).base)=k from by omega]at this)
 simp only[Zf0]at e1 e2;refine⟨w',e1,?_⟩;have hlen:(aM cs off vs).length=cs.length:=by simp[aM];omega
 refine Lg hW hb e5 e6 e7 e3 e4 ⟨_,fr,e2,?_,?_,?_,λi hi Jg=>g5 i hi ?_,g6⟩
 .simp[aM];omega
 .rw[hlen];simp[aM];omega
 .rw[hlen];rw[Ca _ _ _ _ (by simp;omega),Jf _ _ _ _ (by omega) (by simp;omega)];exact g4.aM hv off
 .simp[aM]at Jg;omega
theorem aj.tu{n:Nat}:aj ρ n C .undef undef:= .tuple [] #[] rfl (λ_ _ _ h=>by simp at h)
theorem WZ(hT:bH P tt)(t:TypeId)(x y:Operand):cw P tt (.store t x y):=by
 intro ρ C st w k xs cls fr a o vs res ho hc hW hF hx hr;simp only[fy]at hc;split at hc<;>first|(cases hc;done)|skip
 rename_i ti l cm hl;cases hc;obtain⟨p,v,rfl,h1,h2⟩:=MP hl hF hx;obtain⟨i0,kG,jQ,_⟩:=(hT.at cm).info;simp only[ay.run,zO]at hr;split at hr<;>first|(cases hr;done)|skip
 rename_i b off;split at hr<;>first|(cases hr;done)|skip
 rotate_left
 .rename_i t0 cs hb;(split at hr<;>first|(cases hr;done)|skip);rename_i e1 e2 e4;have e1:=Za0 e1;have e2:=Za3 e2;simp only[H0]at hr;subst hr;obtain⟨_,he⟩:=h1.ei;have hc:=h2.cells;obtain⟨w',bQ,dY,hE⟩:=WY (P:=P) (vs:=v.cells) (off:=off) hW hb (by omega) e4 hc;refine⟨.skip,undef,w',ρ,?_,.inr ⟨rfl,rfl⟩,λ_ _=>rfl,dY,aj.tu,hE⟩;have eD:(a.eval y).cells.size=ti.size:=(by have:=hc.1;simp at this;omega);simp[execOp,ho,he,Instr.storeAt,Instr.sureAddr,storeVar,gH kG,jQ,eD,bQ]
 rename_i cs fz hb;split at hr<;>first|(cases hr;done)|skip
 rename_i e1 e2 e3 e4;have e1:=Za0 e1;have e2:=Za3 e2;have e3:=Za3 e3;simp only[H0]at hr;subst hr;obtain⟨_,he⟩:=h1.ei;have hc:=h2.cells;obtain⟨w',bQ,dY,hE⟩:=DX (P:=P) hW hb (by omega) e3 e4 hc;refine⟨.skip,undef,w',ρ,?_,.inr ⟨rfl,rfl⟩,λ_ _=>rfl,dY,aj.tu,hE⟩;have eD:(a.eval y).cells.size=ti.size:=by have:=hc.1;simp at this;omega
 simp[execOp,ho,he,Instr.storeAt,Instr.sureAddr,storeVar,gH kG,jQ,eD,bQ]
theorem run_setObj_map{r:Nat}{es:Array MapEntry}{c:Nat}{o:Obj}{w:World}(h:w.heap[r]? =some (.map es c)):(setObj r o).run P w= .ok () { w with heap:=w.heap.setIfInBounds r o }:=by
 simp[setObj,Sem.run,h]
theorem Ll(hW:aV ρ C st w){b:Pos}{es:List (AV×AV×Nat)}{clock:Nat}(hb:st.heap.get b=some (.map es clock)){Ft:List (AV×AV×Nat)}{Vc:Array MapEntry}{CX:Nat}
  (hE:Bv ρ st.next.toNat C Ft Vc.toList):
  aV ρ C (st.aD none (some (b,.map Ft CX)) none) { w with heap:=w.heap.setIfInBounds (ρ b).aq (.map Vc CX) }/\je ρ st w ρ (st.aD none (some (b,.map Ft CX)) none) { w with heap:=w.heap.setIfInBounds (ρ b).aq (.map Vc CX) }:=by
 have aU:=(hW.live b _ hb).2.1;refine Lg hW hb rfl rfl rfl (by simp) (λk hk=>by simp[Zd6 (Ne.symm hk)]) ⟨Vc,by simp[aU],by simpa using hE.1,λi e e' h1 h2=>hE.2 i e e' h1 (by simpa using h2)⟩
theorem J4{n:Nat}{pk:PK}{u v:AV}{x y:Value}(h1:aj ρ n C u x)(h2:aj ρ n C v y)(h:wq pk u v=some true)(m:Nat):Instr.sameBits m y x=true:=by
 unfold wq at h;split at h<;>first|(cases h;done)|skip
 .simp only[H0]at h;rw[h1.fS,h2.fS];rename_i p q;have:p=q:=(by simpa using h);subst this;cases m<;>simp[Instr.sameBits]
 . (split at h<;>first|(cases h;done)|skip);rename_i yG;have:=tP yG;subst this;simp only[H0,jL]at h;rw[h1.gL,h2.gL];rename_i p q _;have:p=q:=(by simpa using h);subst this;cases m<;>simp[Instr.sameBits]
 .simp only[H0]at h;obtain⟨bx,rfl,e1⟩:=h1.dN;obtain⟨bz,rfl,e2⟩:=h2.dN;have:bz==bx:=(by rw[beq_toListBytes,CT e2 e1,jV];exact(jV.1 h).symm);cases m<;>simpa [Instr.sameBits]using this
theorem N6{pk:PK}{u:AV}:∀{es:List (AV×AV×Nat)}{i j:Nat}{v:AV},iK pk u es i=some (some (j,v))->∃e,i<=j/\es[j - i]? =some e/\wq pk u e.1=some true
 |[],i,j,v,h=>by simp[iK]at h
 |(k',v',born)::es,i,j,v,h=>by
  unfold iK at h;split at h<;>first|(cases h;done)|skip
  .rename_i hq;simp only[H0,Zb3]at h;obtain⟨rfl,_⟩:=h;exact⟨(k',v',born),Za4 _,by simp,hq⟩
  .obtain⟨e,h1,h2,h3⟩:=N6 h;refine⟨e,by omega,?_,h3⟩;rw[show j - i=(j - (i+1))+1 from by omega];simpa using h2
theorem Gs(k v:AV):∀(es:List (AV×AV×Nat))(i j:Nat),(mM k v es i)[j]? =if j=i then(es[i]?).map (λe=>(k,v,e.2.2))else es[j]?
 |[],i,j=>by cases i<;>cases j<;>simp[mM]
 |(a,b,born)::es,0,j=>by cases j<;>simp[mM]
 |e::es,i+1,j=>by
  cases j with
  |zero=>simp[mM]
  |succ j=>simp[mM,Gs k v es i j]
theorem Lm (hT:bH P tt)(op:Op)(t:TypeId)(m k0 v0:Operand)(hop:op= .mapUpdate t m k0 v0\/op= .insert t m k0 v0):cw P tt op:=by
 intro ρ C st w k xs cls fr a o vs res ho hc hW hF hx hr;have hc:fy.U0 tt t m k0 v0=some (k,xs,cls):=by rcases hop with rfl|rfl<;>simpa only[fy]using hc
 have hex:(execOp a.eval o).run P w=((Instr.mapUpdate t (a.eval m) (a.eval k0) (a.eval v0)).run P w).andThen λ_ w=>.ok .skip w:=by
   rcases hop with rfl|rfl<;>simp[execOp,ho]
 unfold fy.U0 at hc;split at hc<;>first|(cases hc;done)|skip
 rename_i ti l cm hl;split at hc<;>first|(cases hc;done)|skip
 rename_i kt et hk;split at hc<;>first|(cases hc;done)|skip
 rename_i tk Fp;obtain⟨d,hd,bP⟩:=(hT.at cm).und;rw[hk]at bP;rw[Gm bP]at hd;obtain⟨dk,NZ,yG⟩:=(hT.at Fp).und;have key:∃pk,k= .mapSet pk/\xs=l/\pk.fits dk=true:=by
   split at hc<;>first|(cases hc;done)|skip
   all_goals
     rename_i h1;cases hc;refine⟨_,rfl,rfl,abn tk.k yG ?_⟩
   .exact .inr (.inl ⟨⟨_,h1⟩,rfl⟩)
   .exact .inr (.inr ⟨h1,rfl⟩)
   .exact .inl ⟨h1,rfl⟩
 obtain⟨pk,rfl,rfl,B6⟩:=key;obtain⟨mm,kk,vv,rfl,h1,h2,h3⟩:=evs3 hl hF hx;have Fq:∀e w,(Instr.checkKey e 10000 kt (a.eval k0)).run P w= .ok () w:=λe w=>CV NZ B6 e 9999 _ w
 simp only[ay.run,tL]at hr;split at hr<;>first|(cases hr;done)|skip
 rename_i b;split at hr<;>first|(cases hr;done)|skip
 rename_i es clock hb;obtain⟨_,he⟩:=h1.tQ;obtain⟨_,_,es',dc,hlen,fT⟩:=hW.live _ _ hb;have hE:Bv ρ st.next.toNat C es es'.toList:=⟨by simpa using hlen,λi e e' h1 h2=>fT i e e' h1 (by simpa using h2)⟩
 split at hr<;>first|(cases hr;done)|skip
 . rename_i i v hpk hf;simp only[H0]at hr;subst hr;obtain⟨r',hf',o6⟩:=xE B6 h2 hE hf;rcases o6 with⟨e1,_⟩|⟨j',v',y,e1,e2,e3,_,e5⟩
   .cases e1
   . cases  e1;subst e2;obtain⟨e,_,hei,hek⟩:=N6 hf;rw[Zp1]at hei;have hi:i<es'.size:=(by omega);have Vd:es'[i]? =some es'[i]:=Ze6 hi;have hkey:=(fT i e es'[i] hei Vd).1;have hsb:=J4 h2 hkey hek 10000;have W0  :Bv ρ st.next.toNat C (mM kk vv es i) (es'.modify i λe=>{ e with key:=a.eval k0,val:=a.eval v0 }).toList:=by
        refine⟨?_,λj e e' g1 g2=> ?_⟩
        . have Jh:∀(es:List (AV×AV×Nat))(i:Nat),(mM kk vv es i).length=es.length:=by
            intro es;induction es with
            |nil=>intro i;cases i<;>rfl
            | cons e es ih=>intro i;cases i with
              |zero=>obtain⟨a,b,c⟩:=e;rfl
              |succ i=>simp[mM,ih i]
          rw[Jh];simpa using hlen
        . rw[Gs]at g1;simp only[Zg1,Zl9]at g2;by_cases hji:j=i
          .subst hji;rw[Za8 rfl,hei]at g1;simp[Vd]at g1 g2;subst g1;subst g2;exact⟨h2,h3,(fT j e es'[j] hei Vd).2.2⟩
          .rw[Za5 hji]at g1;rw[Za5 (λe=>hji e.symm)]at g2;exact fT j e e' g1 g2
     obtain⟨dY,W4⟩:=Ll hW hb (CX:=clock) W0;refine⟨.skip,undef,_,ρ,?_,.inr ⟨rfl,rfl⟩,λ_ _=>rfl,dY,aj.tu,W4⟩;rw[hex];simp only[Instr.mapUpdate,Sem.run_bind,aH hd,Result.andThen_ok,he,run_getObj_map dc,Fq,run_findKey NZ hf',Vd,Ze5,Zj3,Instr.keyThatStays,hsb,Zg8,Sem.run_pure,run_setObj_map dc]
 . rename_i hpk hf;simp only[H0]at hr;subst hr;obtain⟨r',hf',o6⟩:=xE B6 h2 hE hf;rcases o6 with⟨_,e2⟩|⟨j',v',y,e1,_⟩
   . subst  e2;have W0:Bv ρ st.next.toNat C (es++[(kk,vv,clock)]) (es'.push { key:=a.eval k0,val:=a.eval v0,born:=clock }).toList:=by
        refine⟨by simp[hlen],λj e e' g1 g2=> ?_⟩;simp only[Array.toList_push]at g2;rcases Zh8 j es.length with hj|hj
        .rw[Zc1 hj]at g1;rw[Zc1 (by simp;omega)]at g2;exact fT j e e' g1 (by simpa using g2)
        .rw[Zc3 hj]at g1;rw[Zc3 (by simp;omega)]at g2;have:j - es.length=0:=(by have:=(Za1.1 g1).1;simp at this;omega);rw[this]at g1;have:j - es'.toList.length=0:=(by simp;omega);rw[this]at g2;simp at g1 g2;subst g1;subst g2;exact⟨h2,h3,rfl⟩
     obtain⟨dY,W4⟩:=Ll hW hb (CX:=clock+1) W0;refine⟨.skip,undef,_,ρ,?_,.inr ⟨rfl,rfl⟩,λ_ _=>rfl,dY,aj.tu,W4⟩;rw[hex];simp only[Instr.mapUpdate,Sem.run_bind,aH hd,Result.andThen_ok,he,run_getObj_map dc,Fq,run_findKey NZ hf',run_setObj_map dc]
   .cases e1
theorem W6(it:Operand)(isS:Bool):cw P tt (.next it isS):=by
 intro ρ C st w k xs cls fr a o vs res ho hc hW hF hx hr;simp only[fy]at hc;split at hc<;>first|(cases hc;done)|skip
 rename_i b hb;cases hc;obtain⟨v,rfl,hv⟩:=ep hb hF hx;simp only[ay.run,DM]at hr;split at hr<;>first|(cases hr;done)|skip
 rename_i bb;split at hr<;>first|(cases hr;done)|skip
 rename_i s pos jC;obtain⟨_,he⟩:=hv.ei;obtain⟨_,_,bs,Fo,hs,P0⟩:=hW.live _ _ jC;have eD:=tq hs;have pI:(getObj (ρ bb).aq).run P w= .ok (.stringIter bs pos) w:=by simp[getObj,Sem.run,Fo]
 rw[P0]at he;split at hr
 . (rename_i aU;have aU:pos<s.length:=(by simpa using aU);(split at hr<;>first|(cases hr;done)|skip);rename_i c wd J5;simp only[H0]at hr;subst hr;have DV:pos<bs.size:=(by omega);unfold TJ at J5;(split at J5<;>first|(cases J5;done)|skip);rename_i c' rY;(split at J5<;>first|(cases J5;done)|skip);rename_i ZE;simp only[H0,Zb3]at J5;obtain⟨rfl,rfl⟩:=J5;have ZE:c'<128:=(by simpa using ZE);have hcb:(bs[pos]'DV).toNat=c':=by rw[ki, <-hs,Zb7]at rY;obtain⟨b',Fu,Ln⟩:=Zd4.1 rY;obtain⟨hl,hbb'⟩:=Za1.1 Fu;rw[<-Ln, <-hbb'];rfl);have TW:=decode_ascii bs pos DV (by rw[hcb];exact ZE);rw[hcb]at TW;have DY:(setObj (ρ bb).aq (.stringIter bs (pos+1))).run P w= .ok () { w with heap:=w.heap.setIfInBounds (ρ bb).aq (.stringIter bs (pos+1)) }:=(by simp[setObj,Sem.run,Fo]);have hltb:=(hW.live _ _ jC).2.1
   obtain⟨dY,W4⟩:=Lg (w':={ w with heap:=w.heap.setIfInBounds (ρ bb).aq (.stringIter bs (pos+1)) }) (x0:= .iJ s (pos+1)) hW jC rfl rfl rfl (by simp)
     (λk hk=>by simp[Zd6 (Ne.symm hk)]) ⟨bs,by simp[hltb],hs,P0⟩
   refine⟨.value (.tuple #[.bool true,goInt pos,.int .i32 (c':Int)]),_,_,ρ,?_,Yields.value _,λ_ _=>rfl,dY,?_,W4⟩
   .simp only[execOp,ho,he,Instr.next,Sem.run_bind,pI,Result.andThen_ok,DV,Zg8,TW,DY,Sem.run_pure]
   .exact .qm (av.cons (.bool true) (av.cons (.int _ _) (av.cons (.int _ _) av.nil)))
 . (rename_i aU;have aU:¬pos<s.length:=λh=>by have:Nat.blt pos s.length=true:=(by simpa using h);rw[this]at aU;cases aU);simp only[H0]at hr;subst hr;have DV:¬pos<bs.size:=(by omega);refine .pure (x:= .tuple #[.bool false]) ?_ (.qm (av.cons (.bool false) av.nil));simp only[execOp,ho,he,Instr.next,Sem.run_bind,pI,Result.andThen_ok,DV,Zh3,Sem.run_pure]
end
section
variable{P:Program}{tt:TT}{ρ:Pos->Loc}{C:Cells}{st:St}{w w':World}
theorem aV.of_heap(hW:aV ρ C st w)(h:w'.heap=w.heap):aV ρ C st w' where
 live b x hb:=let⟨h1,h2,h3⟩:=hW.live b x hb;⟨h1,by rw[h];exact h2,h3.of_heap (by rw[h])⟩
 inj:=hW.inj
 cZ a v ha:=let⟨h1,h2⟩:=hW.cZ a v ha;⟨by unfold World.cell? at h1 ⊢; rw[h];exact h1,h2⟩
 whole a v ha o ho:=by have:=hW.whole a v ha o ho;unfold World.cell? at this ⊢; rw[h];exact this
theorem Ji{es:Nat}:∀{xs:List (List AV)}(_h:∀(i:Nat)(cs:List AV),xs[i]? =some cs->cs.length=es)(q:Nat)(v:AV),
  xs.flatten[q]? =some v->∃cs,xs[q / es]? =some cs/\cs[q % es]? =some v
 |[],_,q,v,hv=>by simp at hv
 |c ::xs,h,q,v,hv=>by
  have hc:c.length=es:=h 0 c rfl;have fY:∀(i:Nat)(cs:List AV),xs[i]? =some cs->cs.length=es:=λi cs hi=>h (i+1) cs (by simpa using hi)
  rw[Zh0]at hv;rcases Zh8 q c.length with hq|hq
  . rw[Zc1 hq]at hv;refine⟨c,?_,?_⟩
    .   rw[Nat.div_eq_of_lt (by omega)];rfl
    .   rw[Zj4 (by omega)];exact hv
  . rw[   Zc3 hq]at hv;obtain⟨cs,h1,h2⟩:=Ji fY (q - c.length) v hv;rw[hc]at hq h1 h2;have Va:0<es:=by
        rcases Zn8 es with h0|h0
        .subst h0;have hl:=fY _ _ h1;have:=(Za1.1 h2).1;omega
        .exact h0
    refine⟨cs,?_,?_⟩
    .   rw[Nat.div_eq_sub_div Va hq];simpa using h1
    .   rw[Zn7 hq];exact h2
theorem Jj{es:Nat}:∀{xs:List (List AV)}(_h:∀(i:Nat)(cs:List AV),xs[i]? =some cs->cs.length=es),xs.flatten.length=xs.length*es
 |[],_=>by simp
 |c::xs,h=>by have hc:c.length=es:=h 0 c rfl;rw[Zh0,Ze0,Jj (λi cs hi=>h (i+1) cs (by simpa using hi)),hc,Ze2,Zi4];omega
theorem jW(hW:aV ρ C st w){es m:Nat}{u:AV}{x:Value}{new:List AV}{k:Nat}(hu:aj ρ st.next.toNat C u x)(hk:cS u=some k)(hmk:m<=k)(h:bX es m (λb=>st.heap.get b) u=some new)(w2:World)(nu:w2.heap=w.heap):
   ∃ys:List Value,(Builtin.firstCells es m x).run P w2= .ok ys.toArray w2/\av ρ st.next.toNat C new ys/\(u= .ah\/new.length=m*es):=by
 have CY:=hW.of_heap (w':=w2) nu;unfold bX at h;split at h
 .simp only[H0]at h;subst h;rw[hu.eO];exact⟨[],by simp[Builtin.firstCells],av.nil,.inl rfl⟩
 . rename_i b off len cap es';simp only[cS,H0]at hk;subst hk;obtain⟨aa,aG,he,hle,_,ha⟩:=hu.cO;rw[he];split at h
   .rename_i h0;have h0:=Za0 h0;simp only[H0]at h;subst h;exact⟨[],by simp[Builtin.firstCells,h0,loadCells,loadCellsFrom],av.nil,.inr (by simp[h0])⟩
   .rename_i h0;have h0:=Zb4 h0;(split at h<;>first|(cases h;done)|skip);rename_i cs fz hb;have hm:m≠0:=(by intro e;subst e;simp at h0);obtain⟨_,rfl,_⟩:=ha (by omega);obtain⟨ys,h1,h2⟩:=CY.loadCells (P:=P) hb h;exact⟨ys,by simp only[Builtin.firstCells];exact h1,h2,.inr (qV h)⟩
 . rename_i xs es';simp only[cS,H0]at hk;subst hk;(split at h<;>first|(cases h;done)|skip);rename_i QI N7;have QI:=Za0 QI;have N7:=Za3 N7;subst QI;simp only[H0]at h;subst h;obtain⟨aa,aG,cell,he,hle,yH,g1,g2,g3⟩:=hu.qo;rw[he];have dc:∀(i:Nat)(cs:List AV),(xs.take m)[i]? =some cs->cs.length=es:=λi cs hi=>by
     rw[Zb8]at hi;split at hi
     .exact g1 i cs hi
     .cases hi
   have QJ:=Jj dc;rw[Zh5,Zj7 N7]at QJ;have abo:∀q v,(xs.take m).flatten[q]? =some v->∃cs,xs[q / es]? =some cs/\cs[q % es]? =some v:=λq v hv=>by
     obtain⟨cs,h1,h2⟩:=Ji dc q v hv;rw[Zb8]at h1;split at h1
     .exact⟨cs,h1,h2⟩
     .cases h1
   refine⟨(List.range (m*es)).map λq=>cell (q / es) (q % es),?_,⟨by simp[QJ],λq v y hv hy=> ?_⟩,.inr QJ⟩
   .simp only[Builtin.firstCells];(refine run_loadCells w2 _ _ _ λq hq=> ?_);have aU:q<(xs.take m).flatten.length:=(by rw[QJ];exact hq);obtain⟨cs,h1,h2⟩:=abo q _ (H4 aU);have yH:=yH (by intro e;rw[e]at h1;simp at h1);obtain⟨ab,ao,asp⟩:=aa;simp only at yH;subst yH;have:=(CY.cZ _ _ (g2 _ _ _ _ h1 h2)).1;rw[kj];simp only at this;rw[show ao+q=ao+q / es*es+q % es from by rw[Zh2,Nat.mul_comm,Nat.div_add_mod]];exact this
   .obtain⟨cs,h1,h2⟩:=abo q v hv;have hq:q<m*es:=(by rw[<-QJ];exact(Za1.1 hv).1);simp[hq]at hy;subst hy;exact g3 _ _ _ _ h1 h2
 . rename_i s;simp only[cS,H0]at hk;subst hk;(split at h<;>first|(cases h;done)|skip);rename_i QI N7;have QI:=Za0 QI;have N7:=Za3 N7;subst QI;simp only[H0]at h;subst h;obtain⟨bs,rfl,hs⟩:=hu.dN;refine⟨(s.take m).map λ(c:Nat)=>Value.int .u8 (.ofNat c),?_,⟨by simp,λq v y hv hy=> ?_⟩,.inr (by simp;omega)⟩
   .simp only[Builtin.firstCells,Sem.run_pure];congr 1;apply Zl1;simp only[Zo8,ByteArray.data_extract,Zn0,List.extract,Ze3,Zp1];rw[<-hs, <-Zm9,Zf8];rfl
   .simp only[Zb7,Zd4]at hv hy;obtain⟨c,hc,rfl⟩:=hv;obtain⟨c',rY,rfl⟩:=hy;rw[hc]at rY;cases rY;exact .int _ _
 .cases h
theorem J6{n:Nat}{u:AV}{x:Value}{k:Nat}(hu:aj ρ n C u x)(hk:cS u=some k):(Builtin.lenOf x).run P w= .ok k w:=by
 unfold cS at hk;split at hk<;>first|(cases hk;done)|skip
 all_goals simp only[H0]at hk;subst hk
 .rw[hu.eO];rfl
 .obtain⟨_,_,he,_⟩:=hu.cO;rw[he];rfl
 .obtain⟨_,_,_,he,_⟩:=hu.qo;rw[he];rfl
 .obtain⟨bs,rfl,hs⟩:=hu.dN;rw[<-tq hs];rfl
theorem N9(nl:Nat):∀(r c:Nat),c<=nl+(nl+768) / 4->Builtin.growBy nl r c<=nl+(nl+768) / 4
 |0,c,h=>h
 |r+1,c,h=>by
  unfold Builtin.growBy;split
  .exact h
  .exact N9 nl r _ (by omega)
theorem nextslicecap_le{Ve dz:Nat}(h:dz<Ve):Builtin.nextslicecap Ve dz<=2*Ve+768:=by
 unfold Builtin.nextslicecap;split
 .omega
 . split
   .omega
   .have:=N9 Ve 4 dz (by omega);omega
theorem DZ(hT:bH P tt){t t2 e:Nat}{ts:Array TypeId}{ti Fm te:TI}(cm:tt.get (key t)=some ti)(Gt:tt.get (key t2)=some Fm)(hk:ti.k= .slice e)(lK:∀k,Fm.k≠ .int k)
  (eI:tt.get (key e)=some te) (h0:ts[0]? =some t) (h1:ts[1]? =some t2) (ty:TypeId) (base:Option Addr) (n cap m:Nat) (x:Value) (w:World)
  (hx:(Builtin.lenOf x).run P w= .ok m w) (hb:(2*(n+m)+768)*te.bytes<=281474976710656) (hi:n+m<=9223372036854775807):
  (Builtin.append_ ts ty #[.slice base n cap,x]).run P w=
    if n+m<=cap then((Builtin.firstCells te.size m x).run P w).andThen λnew w=>((match base with|some a=>storeCells (a.add (n*te.size)) new.toList|none=>pure ()).run P w).andThen λ_ w=>.ok (.slice base (n+m) cap) w
    else((Builtin.firstCells te.size n (.slice base n cap)).run P w.drew).andThen λdz w1=>((Builtin.firstCells te.size m x).run P w1).andThen λnew w2=>((zeroValue e).run P w2).andThen λz w3=>
        .ok (.slice (some ⟨w3.heap.size,0,none⟩) (n+m) (grownCap w (n+m) cap e)) (w3.alloc (.cells (dz++new++Builtin.zeroCells z.cells (grownCap w (n+m) cap e - (n+m))) e)):=by
 obtain⟨d,hd,bP⟩:=(hT.at cm).und;rw[hk]at bP;rw[kQ bP]at hd;obtain⟨d2,Lo,ZF⟩:=(hT.at Gt).und;obtain⟨i0,kG,jQ,hib,_⟩:=(hT.at eI).info;have adq:∀k,d2≠ .int k:=by
  rintro k rfl;cases yG:Fm.k<;>rw[yG]at ZF<;>first|(simp[bw]at ZF;done)|exact absurd yG (lK _)
 have Vf:¬(((n+m:Nat):Int)>IntKind.i64.max):=by
  have:IntKind.i64.max=9223372036854775807:=by decide
  rw[this];omega
 have adr:¬(n+m<=cap)->¬(Builtin.nextslicecap (n+m) cap*te.bytes>2 ^ 48):=λhc=>by
  have h1:=nextslicecap_le (Nat.lt_of_not_le hc);have h2:=Zg3 te.bytes h1;have:(2:Nat) ^ 48=281474976710656:=by decide
  omega
 have MQ:∀q,(Question.appendCap (n+m) cap e).forced=q->q=false:=by rintro q rfl;rfl
 clear ZF;cases d2<;>first|(exact absurd rfl (adq _))|skip
 all_goals
  unfold Builtin.append_;simp only[h0,h1,List.getElem?_toArray,Zb0,Zd9,Sem.run_bind,aH hd,Result.andThen_ok,gH kG,jQ,aH Lo,Sem.run_pure,hx,Zg4,Zh3,Zn9,Zg8,Sem.run_ite];by_cases hc:n+m<=cap
  .rw[Za8 hc,Za8 hc];cases base<;>simp only[Sem.run_bind,Sem.run_pure,Result.andThen_ok]
  .rw[Za5 hc,Za5 hc];simp only[Sem.run_bind,Qy kG,hib,Result.andThen_ok,Vf,false_and,Zh3,adr hc,run_choose,Question.forced,Zg4,World.drew_eq,run_askRoom,Sem.run_pure,newRow,run_newObj,World.alloc_eq];rfl
end
section
variable{P:Program}{tt:TT}{ρ:Pos->Loc}{C:Cells}{st:St}{w w':World}
theorem ZG{L:Loc}{cs:List AV}{n:Nat}(fz:Nat)(h:kN ρ n C L w' (.cells cs 0)):kN ρ n C L w' (.cells cs fz):=
 let⟨c,e,fr,h1,h2,h3,h4,h5⟩:=h
 ⟨c,e,fr,h1,h2,h3,h4,λi _ hi=>h5 i (Zj5 _) hi⟩
theorem Vg(hW:aV ρ C st w)(del:Option Pos)(fz:Nat){dz new rest:List Value}{ol nl:List AV}{e:TypeId}{n m es aG:Nat}(h1:av ρ st.next.toNat C ol dz)(h2:av ρ st.next.toNat C nl new)
  (vU:ol.length=n*es) (Fv:nl.length=m*es) (hr:rest.length=(aG - (n+m))*es) (hc:n+m<=aG) {w2:World} (nu:w2=w.drew.alloc (.cells (dz++new++rest).toArray e)):
  ∃ρ':Pos->Loc,(∀b:Pos,b.toNat<st.next.toNat->ρ' b=ρ b)/\aV ρ' C (st.aD del none (some (.cells (ol++nl) fz))) w2/\je ρ st w ρ' (st.aD del none (some (.cells (ol++nl) fz))) w2/\
   aj ρ' (st.aD del none (some (.cells (ol++nl) fz))).next.toNat C (.slice st.next 0 (n+m) none es) (.slice (some ⟨w.heap.size,0,none⟩) (n+m) aG):=by
 subst nu;have vW:dz.length=n*es:=by rw[<-h1.1,vU]
 have nY:new.length=m*es:=by rw[<-h2.1,Fv]
 have eD:(dz++new++rest).length=aG*es:=by simp only[Ze0,vW,nY,hr];rw[<-Zi4, <-Zi4];congr 1;omega
 obtain ⟨ρ',aR,dR,dY,hE⟩:=rX (w':=w.drew.alloc (.cells (dz++new++rest).toArray e)) (o:= .cells (dz++new++rest).toArray e) (x0:= .cells (ol++nl) fz) (base:=0) (size:=(dz++new++rest).toArray.size) hW del rfl rfl rfl rfl (λρ' n' aR hn=>
  ZG fz  <| tR (e:=e) (fr:=(0,0)) (by show(w.heap.push _)[w.heap.size]? =_;simp) (by simp[vU,Fv,vW,nY])
   (by
        have:(dz++new++rest).toArray.toList.take (ol++nl).length=dz++new:=by
         rw[Zj8 (by simp[vU,Fv,vW,nY])]
        rw[this];exact(h1.append h2).mono aR hn) (λi _=>by simp))
 refine⟨ρ',aR,dY,hE,xF (by simp[St.aD,Pos.az]) dR hc (λc hc=>by cases hc) (by simp only[Zl5,eD];exact Za4 _)⟩
theorem yd(z:Array Value)(m:Nat):(Builtin.zeroCells z m).toList.length=m*z.size:=by simp[Builtin.zeroCells]
theorem ZH{m:Nat}(h:Nat.beq m 0=false):m≠0:=Zb4 h
theorem D3 (hT:bH P tt){t t2 e:Nat}{ts:Array TypeId}{ti Fm te:TI}{z:List AV}(cm:tt.get (key t)=some ti)(Gt:tt.get (key t2)=some Fm)(hk:ti.k= .slice e)(lK:∀k,Fm.k≠ .int k)
   (eI:tt.get (key e)=some te) (hz:te.zero=some z) (h0:ts[0]? =some t) (h1:ts[1]? =some t2) (ty:TypeId) {s u:AV} {xs xu:Value} {res:bV} (hW:aV ρ C st w)
   (hs:aj ρ st.next.toNat C s xs) (hu:aj ρ st.next.toNat C u xu) (hr:fu (λb=>st.heap.get b) st.next te.size te.bytes [s,u]=some res):
   qU P ρ C st w (((Builtin.append_ ts ty #[xs,xu]).run P w).andThen λv w=>.ok (.value v) w) res:=by
 simp only[fu]at hr;split at hr<;>first|(cases hr;done)|skip
 rename_i n m hn hm;split at hr<;>first|(cases hr;done)|skip
 rename_i b1 b2;have b1:=Za3 b1;have b2:=Za3 b2;have hlen:=J6 (P:=P) (w:=w) hu hm;obtain⟨i0,kG,jQ,_,vQ⟩:=(hT.at eI).info;obtain⟨zv0,hzv0,_,Lj,_⟩:=vQ z hz;have Le:=λw=>qq hT eI hz (ρ:=ρ) (n:=st.next.toNat) (C:=C) w
 have Jh:∃base aG,xs= .slice base n aG/\n<=aG:=by
   unfold cS at hn;split at hn<;>first|(cases hn;done)|skip
   .cases hn;exact⟨none,0,hs.eO,Za4 _⟩
   .cases hn;obtain⟨a,c,he,hle,_⟩:=hs.cO;exact⟨_,c,he,hle⟩
   .cases hn;obtain⟨a,c,_,he,hle,_⟩:=hs.qo;exact⟨_,c,he,hle⟩
   .rename_i s';exfalso;cases hbm:Nat.beq m 0<;>simp[hbm]at hr
 obtain⟨base,aG,fY,hle⟩:=Jh;have bQ:=DZ hT cm Gt hk lK eI h0 h1 ty base n aG m xu w hlen b1 b2;rw[fY,bQ];have hg:∀c,n+m<=grownCap w (n+m) c e:=λc=>by unfold grownCap Question.cut;exact Zm3 _ _
 have QK:∀(del:Option Pos)(fz:Nat)(ol nl:List AV),¬(n+m<=aG)->bX te.size n (λb=>st.heap.get b) s=some ol->bX te.size m (λb=>st.heap.get b) u=some nl->ol.length=n*te.size->nl.length=m*te.size->
     qU P ρ C st w ((if n+m<=aG then((Builtin.firstCells te.size m xu).run P w).andThen λnew w=>((match base with|some a=>storeCells (a.add (n*te.size)) new.toList|none=>pure ()).run P w).andThen λ_ w=>.ok (.slice base (n+m) aG) w
     else((Builtin.firstCells te.size n (.slice base n aG)).run P w.drew).andThen λdz w1=>((Builtin.firstCells te.size m xu).run P w1).andThen λnew w2=>((zeroValue e).run P w2).andThen λz w3=>
        .ok (.slice (some ⟨w3.heap.size,0,none⟩) (n+m) (grownCap w (n+m) aG e)) (w3.alloc (.cells (dz++new++Builtin.zeroCells z.cells (grownCap w (n+m) aG e - (n+m))) e))).andThen λv w=>.ok (.value v) w)
        (.aD (.slice st.next 0 (n+m) none te.size) del none (some (.cells (ol++nl) fz))):=by
   intro del fz ol nl hc ho ku vU Fv;obtain⟨dz,e1,e2,_⟩:=jW (P:=P) hW hs hn (Za4 _) ho w.drew rfl;obtain⟨new,e3,e4,_⟩:=jW (P:=P) hW hu hm (Za4 _) ku w.drew rfl;obtain⟨zv,vR,_,qt⟩:=Le w.drew;rw[fY]at e1;have Br:(Builtin.zeroCells zv.cells (grownCap w (n+m) aG e - (n+m))).toList.length=(grownCap w (n+m) aG e - (n+m))*te.size:=(by rw[yd];congr 1;have:=qt.1;simp at this;omega);obtain⟨ρ',aR,dY,hE,hv⟩:=Vg hW del fz e2 e4 vU Fv Br (hg aG) (e:=e) rfl;refine⟨_,_,_,ρ',?_,Yields.value _,aR,dY,hv,hE⟩;rw[Za5 hc];simp only[e1,e3,vR,Result.andThen_ok,World.size_drew];congr 2;simp
 have W7:∀nl,bX te.size m (λb=>st.heap.get b) u=some nl->m≠0->nl.length=m*te.size:=by
   intro nl ku hm0;obtain⟨_,_,_,h⟩:=jW (P:=P) hW hu hm (Za4 _) ku w rfl;rcases h with rfl|h
   .simp[cS]at hm;omega
   .exact h
 have hls:∀ol,bX te.size n (λb=>st.heap.get b) s=some ol->ol.length=n*te.size:=by
   intro ol rZ;obtain⟨ys,_,zQ,h⟩:=jW (P:=P) hW hs hn (Za4 _) rZ w rfl;rcases h with rfl|h
   .simp[cS]at hn;subst hn;simp[bX]at rZ;subst rZ;simp
   .exact h
 have hzero:m=0->aj ρ st.next.toNat C s xs->qU P ρ C st w ((if n+m<=aG then((Builtin.firstCells te.size m xu).run P w).andThen λnew w=>((match base with|some a=>storeCells (a.add (n*te.size)) new.toList|none=>pure ()).run P w).andThen λ_ w=>.ok (.slice base (n+m) aG) w
     else((Builtin.firstCells te.size n (.slice base n aG)).run P w.drew).andThen λdz w1=>((Builtin.firstCells te.size m xu).run P w1).andThen λnew w2=>((zeroValue e).run P w2).andThen λz w3=>
        .ok (.slice (some ⟨w3.heap.size,0,none⟩) (n+m) (grownCap w (n+m) aG e)) (w3.alloc (.cells (dz++new++Builtin.zeroCells z.cells (grownCap w (n+m) aG e - (n+m))) e))).andThen λv w=>.ok (.value v) w) (.val s):=by
   rintro rfl hsx;have hf:(Builtin.firstCells te.size 0 xu).run P w= .ok #[] w:=by
     unfold cS at hm;split at hm<;>first|(cases hm;done)|skip
     .  rw[hu.eO];simp[Builtin.firstCells]
     .  obtain⟨_,_,he,_⟩:=hu.cO;rw[he];simp[Builtin.firstCells,loadCells,loadCellsFrom]
     .  obtain⟨_,_,_,he,_⟩:=hu.qo;rw[he];simp[Builtin.firstCells,loadCells,loadCellsFrom]
     .  obtain⟨bs,rfl,_⟩:=hu.dN;simp only[Builtin.firstCells,Sem.run_pure];congr 1;apply Zl1;simp
   rw[fY]at hsx;refine .pure (x:= .slice base n aG) ?_ hsx;rw[Za8 (by omega),hf];cases base<;>simp[storeCells]
 split at hr<;>first|(cases hr;done)|skip
 .rename_i uC;simp only[H0]at hr;subst hr;exact hzero (Za0 uC) hs
 .rename_i uC;simp only[H0]at hr;subst hr;exact hzero (Za0 uC) hs
 .rename_i uC;simp only[H0]at hr;subst hr;exact hzero (Za0 uC) hs
 ·
   rename_i uC;have uC:=ZH uC;(split at hr<;>first|(cases hr;done)|skip);rename_i new ku;simp only[H0]at hr;subst hr;have he:=hs.eO;rw[he]at fY;simp only[Value.slice.injEq]at fY;obtain⟨rfl,rfl,rfl⟩:=fY;have:=QK none 0 [] new (by omega) rfl ku (by simp) (W7 new ku uC);simpa using this
 ·
   rename_i b off n' c es' uC;have uC:=ZH uC;simp only[cS,H0]at hn;subst hn;obtain⟨aa,cc,he,hlec,W9,ha⟩:=hs.cO;rw[he]at fY;simp only[Value.slice.injEq]at fY;obtain⟨rfl,_,rfl⟩:=fY;have:=W9 c rfl;subst this;split at hr
   . rename_i pT;have pT:=Za3 pT;(split at hr<;>first|(cases hr;done)|skip);rename_i cs fz new hb ku;(split at hr<;>first|(cases hr;done)|skip);rename_i c1 c2 c3;have c1:=Za3 c1;simp only[Za7]at c2;have c2a:=Za3 c2.1;have c2b:=Za0 c2.2;subst c2b;simp only[H0]at hr;subst hr;obtain⟨aU,rfl,hbound⟩:=ha (by omega);obtain⟨ys,e1,e2,_⟩:=jW (P:=P) hW hu hm (Za4 _) ku w rfl;have D4:=W7 new ku uC;obtain⟨w2,e3,dY,hE⟩:=DX (P:=P) hW hb (by rw[D4];rw[Zi4]at c1;omega) c2a c3 e2;refine⟨_,.slice (some ⟨(ρ b).aq,(ρ b).base+off,none⟩) (n'+m) c,w2,ρ,?_,Yields.value _,λ_ _=>rfl,dY,?_,hE⟩
     .  rw[Za8 pT,e1];simp only[Result.andThen_ok,kj];rw[Zh2,e3];rfl
     .  exact .slice _ _ _ _ _ _ _ pT (λc hc=>by cases hc;rfl) (λ_=>⟨aU,rfl,hbound⟩) (λh=>by cases h)
   . rename_i pT;have pT:¬(n'+m<=c):=λh=>by rw[Nat.ble_eq_true_of_le h]at pT;cases pT
     (split at hr<;>first|(cases hr;done)|skip);rename_i dz new rZ ku;simp only[H0]at hr;subst hr;exact QK none 0 dz new pT rZ ku (hls dz rZ) (W7 new ku uC)
 ·
   rename_i b off n' es' uC;have uC:=ZH uC;simp only[cS,H0]at hn;subst hn;(split at hr<;>first|(cases hr;done)|skip);rename_i cs fz dz new hb rZ ku;(split at hr<;>first|(cases hr;done)|skip);rename_i c2 c3;simp only[Za7]at c2;have c2a:=Za3 c2.1;have c2b:=Za0 c2.2;subst c2b;simp only[H0]at hr;subst hr;by_cases pT:n'+m<=aG
   ·
     obtain ⟨aa,cc,he,hlec,W9,ha⟩:=hs.cO;rw[he]at fY;simp only[Value.slice.injEq]at fY;obtain⟨rfl,_,rfl⟩:=fY;obtain⟨aU,rfl,hbound⟩:=ha (by omega);obtain⟨ys,e1,e2,_⟩:=jW (P:=P) hW hu hm (Za4 _) ku w rfl;have D4:=W7 new ku uC;have abp:=hls dz rZ;obtain⟨Lh,Fo,c,ce,fr,g1,g2,g3,g4,g5⟩:=hW.live b _ hb;have hmul:(n'+m)*te.size<=cc*te.size:=Zg3 _ pT;have hmul2:(n'+m)*te.size=n'*te.size+m*te.size:=Zi4 _ _ _;have hyl:ys.length=m*te.size:=(by rw[<-e2.1,D4]);have hold:av ρ st.next.toNat C dz ((c.toList.drop ((ρ b).base+off)).take (n'*te.size)):=by
        simp only[bX]at rZ;split at rZ
        .rename_i hz0;have hz0:=Za0 hz0;simp only[H0]at rZ;subst rZ;rw[hz0];simpa using(av.nil:av ρ st.next.toNat C [] [])
        . rw[hb]at rZ;simp only at rZ;obtain⟨ho1,zY⟩:=zT rZ;have h:=(g4.drop off).take (n'*te.size);rw[<-ho1]at h;have:List.take (n'*te.size) (List.drop off (List.take cs.length (List.drop (ρ b).base c.toList)))=(c.toList.drop ((ρ b).base+off)).take (n'*te.size):=by
            rw[List.drop_take,Zo0,Zo1,Zj7 (by omega)]
          rw[this]at h;exact h
     obtain⟨w2,s1,s2,s3,s4,s5,s6,s7⟩:=jA (P:=P) (ρ b).aq ce fr ys 0 ((ρ b).base+off+n'*te.size) c w g1 (by omega) (uB c3 e2) (λk hk jB=>by
        have:=g5 (k - (ρ b).base) (by omega) (by omega)
        rwa [show(ρ b).base+(k - (ρ b).base)=k from by omega]at this)
     simp only[Zf0]at s1 s2
     let ρ':Pos->Loc:=λq=>if q=st.next then⟨(ρ b).aq,(ρ b).base+off,(ρ b).size⟩else ρ q
     have aR:∀q:Pos,q.toNat<st.next.toNat->ρ' q=ρ q:=λq hq=>Za5 (λe=>by rw[e]at hq;omega)
     have dR:ρ' st.next=⟨(ρ b).aq,(ρ b).base+off,(ρ b).size⟩:=Za8 rfl;have hcl:c.toList.length=c.size:=(by simp);have hWn:aV ρ' C (st.aD (some b) none (some (.cells (dz++new) (fz - off)))) w2:=by
        refine hW.U2 (b0:=st.next) (x0:= .cells (dz++new) (fz - off)) (by rw[Pos.az];omega) (by rw[Pos.az];omega) (by rw[T.ee]) ?_ aR ?_ ?_ (by rw[dR,s3];exact Fo) (by omega) (λk hk jB=>s4 k (by rw[dR]at jB;exact jB))
        .intro q x hq hx;rw[T.br _ (λe=>hq e.symm)]at hx;obtain⟨h1,h2⟩:=tr (some b) _ hx;refine⟨h1,?_⟩;rw[dR];exact λe=>h2 b rfl (hW.inj _ _ _ _ h1 hb e)
        . rw[dR];refine⟨_,ce,fr,s2,by simp[aM];omega,by simp[aM,abp,D4];omega,?_,λi kG hi=> ?_⟩
          . (simp only;rw[Ca _ _ _ _ (by omega)];have Fp:(aM (c.toList.drop ((ρ b).base+off)) (n'*te.size) ys).take (dz++new).length=(c.toList.drop ((ρ b).base+off)).take (n'*te.size)++ys:=by unfold aM;rw[<-Zi5,Zj8];simp[abp,D4,hyl];omega);rw[Fp];exact(hold.append e2).mono aR (by rw[Pos.az];omega)
          . have Jg:(ρ b).base+off+i<c.size:=(by simp only[Zl5]at hi;have:(aM c.toList ((ρ b).base+off+n'*te.size) ys).length=c.size:=(by simp[aM];omega);omega);have:=g5 (off+i) (by omega) (by omega);simp only
            rwa [<-Zh2]at this
        .intro ad v hv;rw[dR];exact λe=>(hW.cZ ad v hv).2 b _ hb e.symm
     refine⟨_,(.slice (some ⟨(ρ b).aq,(ρ b).base+off,none⟩) (n'+m) cc),w2,ρ',?_,Yields.value _,aR,hWn,?_,⟨s5,s6,s7,by omega,λk _ hk=>s4 k (λe=>hk b _ hb e.symm),λq x hx=> ?_⟩⟩;rotate_left;rotate_left
     .  left;by_cases hq:q=st.next
        .exact⟨b,_,hb,by rw[hq,dR]⟩
        .simp only[St.aD,DO]at hx;rw[T.br _ (λe=>hq e.symm)]at hx;obtain⟨h1,_⟩:=tr (some b) _ hx;exact⟨q,x,h1,by rw[aR q (hW.live q x h1).1]⟩
     .  rw[Za8 pT,e1];simp only[Result.andThen_ok,kj];rw[s1];rfl
     .  refine .slice _ _ _ _ _ _ _ pT (λc hc=>by cases hc) (λ_=>⟨by simp[St.aD,Pos.az],by rw[dR];rfl,?_⟩) (λ_=>by simp[St.aD,Pos.az]);rw[dR];simp only;omega
   .exact QK (some b) _ dz new pT rZ ku (hls dz rZ) (W7 new ku uC)
end
section
variable{P:Program}{tt:TT}{ρ:Pos->Loc}{C:Cells}{st:St}{w w':World}
theorem Oa:∀l:List Nat,aQ (l.map λc=>AV.int .u8 (.ofNat c))=true
 |[]=>rfl
 |a::l=>by simpa [aQ,AV.one]using Oa l
theorem Jk(hW:aV ρ C st w)(del:Option Pos){dz new rest:List Value}{ol nl:List AV}{e:TypeId}{n m aG:Nat}(h1:av ρ st.next.toNat C ol dz)(h2:av ρ st.next.toNat C nl new)
  (vU:ol.length=n) (Fv:nl.length=m) (hr:rest.length=aG - (n+m)) (hc:n+m<=aG) {w2:World} (nu:w2=w.drew.alloc (.cells (dz++new++rest).toArray e)):
  ∃ρ':Pos->Loc,(∀b:Pos,b.toNat<st.next.toNat->ρ' b=ρ b)/\aV ρ' C (st.aD del none (some (.typed e (ol++nl)))) w2/\je ρ st w ρ' (st.aD del none (some (.typed e (ol++nl)))) w2/\
   aj ρ' (st.aD del none (some (.typed e (ol++nl)))).next.toNat C (.slice st.next 0 (n+m) none 1) (.slice (some ⟨w.heap.size,0,none⟩) (n+m) aG):=by
 subst nu;have vW:dz.length=n:=by rw[<-h1.1,vU]
 have nY:new.length=m:=by rw[<-h2.1,Fv]
 have eD:(dz++new++rest).length=aG:=by simp only[Ze0,vW,nY,hr];omega
 obtain ⟨ ρ',aR,dR,dY,hE⟩:=rX (w':=w.drew.alloc (.cells (dz++new++rest).toArray e)) (o:= .cells (dz++new++rest).toArray e) (x0:= .typed e (ol++nl)) (base:=0) (size:=(dz++new++rest).toArray.size) hW del rfl rfl rfl rfl (λρ' n' aR hn=>
  ⟨_,   (0,0),by show(w.heap.push _)[w.heap.size]? =_;simp,rfl,by simp[vU,Fv,vW,nY],by
        have:(dz++new++rest).toArray.toList.take (ol++nl).length=dz++new:=by
          rw[Zj8 (by simp[vU,Fv,vW,nY])]
        rw[Ze3,this];exact(h1.append h2).mono aR hn,λi _=>by simp,rfl⟩)
 refine⟨ρ',aR,dY,hE,xF (by simp[St.aD,Pos.az]) dR hc (λc hc=>by cases hc) (by simp only[Zl5,eD,Zj6];exact Za4 _)⟩
theorem Td (hT:bH P tt){t t2 e:Nat}{ts:Array TypeId}{ti Fm te:TI}{z:List AV}(cm:tt.get (key t)=some ti)(Gt:tt.get (key t2)=some Fm)(hk:ti.k= .slice e)(lK:∀k,Fm.k≠ .int k)
  (eI:tt.get (key e)=some te) (hz:te.zero=some z) (h8:te.size=1) (h0:ts[0]? =some t) (h1:ts[1]? =some t2) (ty:TypeId) {s u:AV} {xs xu:Value} {res:bV} (hW:aV ρ C st w)
  (hs:aj ρ st.next.toNat C s xs) (hu:aj ρ st.next.toNat C u xu) (hr:qQ (λb=>st.heap.get b) st.next e te.bytes [s,u]=some res):
  qU P ρ C st w (((Builtin.append_ ts ty #[xs,xu]).run P w).andThen λv w=>.ok (.value v) w) res:=by
 have Le:=λw=>qq hT eI hz (ρ:=ρ) (n:=st.next.toNat) (C:=C) w
 simp only[qQ]at hr;split at hr<;>first|(cases hr;done)|skip
 rename_i us;obtain⟨bs,rfl,Fo⟩:=hu.dN;have hm:cS (AV.str us)=some us.length:=rfl;have hlen:=J6 (P:=P) (w:=w) hu hm
 have Xa:∀{n:Nat}{s:AV},cS s=some n->Nat.ble ((2*(n+us.length)+768)*te.bytes) 281474976710656=true->Nat.ble (n+us.length) 9223372036854775807=true->us.length=0->(s= .ah\/∃b,s= .slice b 0 n none 1)->
    fu (λb=>st.heap.get b) st.next te.size te.bytes [s,.str us]=some (.val s):=by
  intro n s h1 h2 h3 h4 h5;rw[h4]at h2 h3;rcases h5 with rfl|⟨b,rfl⟩
  .simp only[fu,h1,hm,h2,h3,h4];try rfl
  .simp only[fu,h1,hm,h2,h3,h4];try rfl
 have ku:bX te.size us.length (λb=>st.heap.get b) (.str us)=some (us.map λc=>AV.int .u8 (.ofNat c)):=by
  have e1:Nat.beq te.size 1=true:=by rw[h8];rfl
  have e2:Nat.ble us.length us.length=true:=Nat.ble_self_eq_true _;simp only[bX,e1,e2,Zh6]
 split at hr<;>first|(cases hr;done)|skip
 ·
  split at hr<;>first|(cases hr;done)|skip
  rename_i b1 b2;split at hr
  .rename_i hb;simp only[H0]at hr;subst hr;exact D3 hT cm Gt hk lK eI hz h0 h1 ty hW hs hu (Xa rfl b1 b2 (Za0 hb) (.inl rfl))
  . rename_i hb;have hb:=Zb4 hb;simp only[H0]at hr;subst hr;have fY:=hs.eO;subst fY;have bQ:=DZ hT cm Gt hk lK eI h0 h1 ty none 0 0 us.length (.string bs) w hlen (Za3 b1) (Za3 b2);rw[bQ,Za5 (by omega)];have hg:0+us.length<=grownCap w (0+us.length) 0 e:=(by unfold grownCap Question.cut;exact Zm3 _ _);obtain⟨new,e3,e4,_⟩:=jW (P:=P) hW hu hm (Za4 _) ku w.drew rfl;obtain⟨zv,vR,_,qt⟩:=Le w.drew;have TU:zv.cells.size=1:=(by have:=qt.1;have h2:=(hT.at eI).info;obtain⟨i0,kG,jQ,_,vQ⟩:=h2;obtain⟨v0,CW,_,Xb,_⟩:=vQ z hz;simp at this;omega);have Br:(Builtin.zeroCells zv.cells (grownCap w (0+us.length) 0 e - (0+us.length))).toList.length=grownCap w (0+us.length) 0 e - (0+us.length):=by
        rw[yd,TU,Zj6]
    obtain⟨ρ',aR,dY,hE,hv⟩:=Jk hW none (av.nil (ρ:=ρ)) e4 (by simp) (by simp) Br hg (e:=e) rfl;refine⟨_,_,_,ρ',?_,Yields.value _,aR,dY,hv,hE⟩;have e0:(Builtin.firstCells te.size 0 (.slice none 0 0)).run P w.drew= .ok #[] w.drew:=(by simp[Builtin.firstCells]);simp only[e0,e3,vR,Result.andThen_ok,World.size_drew];congr 2;simp
 ·
  rename_i b n;split at hr<;>first|(cases hr;done)|skip
  rename_i b1 b2;split at hr
  .rename_i hb;simp only[H0]at hr;subst hr;exact D3 hT cm Gt hk lK eI hz h0 h1 ty hW hs hu (Xa rfl b1 b2 (Za0 hb) (.inr ⟨_,rfl⟩))
  . rename_i hbm;have hbm:=Zb4 hbm;(split at hr<;>first|(cases hr;done)|skip);rename_i e' cs hb;(split at hr<;>first|(cases hr;done)|skip);rename_i dz jP rZ;have jP:=Za0 jP;subst jP;simp only[H0]at hr;subst hr;obtain⟨aa,aG,fY,hle,W9,ha⟩:=hs.cO;subst fY;have bQ:=DZ hT cm Gt hk lK eI h0 h1 ty (some aa) n aG us.length (.string bs) w hlen (Za3 b1) (Za3 b2);rw[bQ];obtain⟨ho1,zY⟩:=zT rZ;have Vh:=qV rZ;obtain⟨Lh,hbs2,c,fr,g1,g2,g3,g4,g5,g6⟩:=hW.live b _ hb;by_cases pT:n+us.length<=aG
    ·
        obtain⟨aU,rfl,hbound⟩:=ha (by omega);rw[Zj6,g6,Zf0,Zc7]at hbound;rw[g6]at g3 g4 g5;simp only[Zc7,Ze3]at g3 g4 g5;obtain⟨ys,e1,e2,_⟩:=jW (P:=P) hW hu hm (Za4 _) ku w rfl;have hyl:ys.length=us.length:=(by rw[<-e2.1];simp);have hold:av ρ st.next.toNat C dz (c.toList.take n):=(by have h:=(g4.drop 0).take n;rw[<-ho1,Ze3,Zo0,Zj7 (by omega)]at h;exact h);obtain⟨w2,s1,s2,s3,s4,s5,s6,s7⟩:=jA (P:=P) (ρ b).aq e fr ys 0 n c w g1 (by omega) (uB (Oa us) e2) (λk hk jB=>g5 k (Zj5 _) jB);simp only[Zf0]at s1 s2
        let ρ':Pos->Loc:=λq=>if q=st.next then⟨(ρ b).aq,0,(ρ b).size⟩else ρ q
        have aR:∀q:Pos,q.toNat<st.next.toNat->ρ' q=ρ q:=λq hq=>Za5 (λe=>by rw[e]at hq;omega)
        have dR:ρ' st.next=⟨(ρ b).aq,0,(ρ b).size⟩:=Za8 rfl;have hcl:c.toList.length=c.size:=(by simp);have hWn:aV ρ' C (st.aD (some b) none (some (.typed e (dz++us.map λc=>AV.int .u8 (.ofNat c))))) w2:=by
          refine hW.U2 (b0:=st.next) (x0:= .typed e (dz++us.map λc=>AV.int .u8 (.ofNat c))) (by rw[Pos.az];omega) (by rw[Pos.az];omega) (by rw[T.ee]) ?_ aR ?_ ?_ (by rw[dR,s3];exact hbs2) (by omega) (λk hk jB=>s4 k (by rw[dR]at jB;exact jB))
          .intro q x hq hx;rw[T.br _ (λe=>hq e.symm)]at hx;obtain⟨h1,h2⟩:=tr (some b) _ hx;refine⟨h1,?_⟩;rw[dR];exact λe=>h2 b rfl (hW.inj _ _ _ _ h1 hb e)
          . rw[dR];refine⟨_,fr,s2,by simp[aM];omega,by simp[aM,Vh];omega,?_,λi kG hi=> ?_,rfl⟩
            . (simp only[Ze3];have Fp:(aM c.toList n ys).take (dz++us.map λc=>AV.int .u8 (.ofNat c)).length=c.toList.take n++ys:=by unfold aM;rw[<-Zi5,Zj8];simp[Vh,hyl];omega);rw[Fp];exact(hold.append e2).mono aR (by rw[Pos.az];omega)
            .have Jg:i<c.size:=(by simp only[Zl5,Zc7]at hi;have:(aM c.toList n ys).length=c.size:=(by simp[aM];omega);omega);simpa using g5 i (Zj5 _) Jg
          .intro ad v hv;rw[dR];exact λe=>(hW.cZ ad v hv).2 b _ hb e.symm
        refine⟨_,(.slice (some ⟨(ρ b).aq,(ρ b).base+0,none⟩) (n+us.length) aG),w2,ρ',?_,Yields.value _,aR,hWn,?_,⟨s5,s6,s7,by omega,λk _ hk=>s4 k (λe=>hk b _ hb e.symm),λq x hx=> ?_⟩⟩;rotate_left;rotate_left
        . left;by_cases hq:q=st.next
          .exact⟨b,_,hb,by rw[hq,dR]⟩
          .simp only[St.aD,DO]at hx;rw[T.br _ (λe=>hq e.symm)]at hx;obtain⟨h1,_⟩:=tr (some b) _ hx;exact⟨q,x,h1,by rw[aR q (hW.live q x h1).1]⟩
        .rw[Za8 pT,e1];simp only[Result.andThen_ok,kj,h8,Zj6,g6,Zc7];rw[s1];rfl
        .refine .slice _ _ _ _ _ _ _ pT (λc hc=>by cases hc) (λ_=>⟨by simp[St.aD,Pos.az],by rw[dR,g6],?_⟩) (λ_=>by simp[St.aD,Pos.az]);rw[dR];simp only;omega
    .   rw[ Za5 pT];have hg:n+us.length<=grownCap w (n+us.length) aG e:=(by unfold grownCap Question.cut;exact Zm3 _ _);obtain⟨new,e3,e4,_⟩:=jW (P:=P) hW hu hm (Za4 _) ku w.drew rfl;obtain⟨zv,vR,_,qt⟩:=Le w.drew;have TU:zv.cells.size=1:=(by have:=qt.1;have h2:=(hT.at eI).info;obtain⟨i0,kG,jQ,_,vQ⟩:=h2;obtain⟨v0,CW,_,Xb,_⟩:=vQ z hz;simp at this;omega);have Br:(Builtin.zeroCells zv.cells (grownCap w (n+us.length) aG e - (n+us.length))).toList.length=grownCap w (n+us.length) aG e - (n+us.length):=by
          rw[yd,TU,Zj6]
        have hold:∃os:List Value,(Builtin.firstCells te.size n (.slice (some aa) n aG)).run P w.drew= .ok os.toArray w.drew/\av ρ st.next.toNat C dz os:=by
          by_cases Jl:n=0
          .subst Jl;have:dz=[]:=Zb1 Vh;subst this;exact⟨[],by simp[Builtin.firstCells,loadCells,loadCellsFrom],av.nil⟩
          .obtain⟨aU,rfl,hbound⟩:=ha (by omega);obtain⟨ys,zQ,gQ⟩:=(show aV ρ C st w.drew from⟨λb x hb=>hW.live b x hb,hW.inj,hW.cZ,hW.whole⟩).La (P:=P) hb rZ;exact⟨ys,by simpa [Builtin.firstCells,h8]using zQ,gQ⟩
        obtain⟨os,e5,e6⟩:=hold;obtain⟨ρ',aR,dY,hE,hv⟩:=Jk hW (some b) e6 e4 Vh (by simp) Br hg (e:=e) rfl;refine⟨_,_,_,ρ',?_,Yields.value _,aR,dY,hv,hE⟩;simp only[e5,e3,vR,Result.andThen_ok,World.size_drew];congr 2;simp
theorem Pt{ts:Array TypeId}(ty:TypeId){s:AV}{xs:Value}{res:bV}(hs:aj ρ st.next.toNat C s xs)(hW:aV ρ C st w)(hr:qk (λb=>st.heap.get b) st.next [s]=some res):
   qU P ρ C st w (((Builtin.unsafeSliceData_ ts ty #[xs]).run P w).andThen λv w=>.ok (.value v) w) res:=by
 simp only[qk]at hr;split at hr<;>first|(cases hr;done)|skip
 .simp only[H0]at hr;subst hr;have:=hs.eO;subst this;exact .pure (x:= .pointer none) rfl .gP
 .rename_i b off n cap es;(split at hr<;>first|(cases hr;done)|skip);rename_i h0;have h0:=Zb4 h0;simp only[H0]at hr;subst hr;obtain⟨aa,aG,fY,hle,_,ha⟩:=hs.cO;subst fY;have hc:aG≠0:=(by omega);obtain⟨h1,h2,_⟩:=ha hc;refine .pure (x:= .pointer (some aa)) (by rw[Lib.run_unsafeSliceData_row w ts ty aa n aG hc];rfl) ?_;rw[h2];exact .ptr b off h1
theorem acJ(hW:aV ρ C st w){b:Pos}{x:AB}(hb:st.heap.get b=some x)(h1:w'.os=w.os)(h2:w'.tape=w.tape)(h3:w'.output=w.output)(eD:w'.heap.size=w.heap.size)
   (rM:∀k,k≠(ρ b).aq->w'.heap[k]? =w.heap[k]?):
   aV ρ C (st.aD (some b) none none) w'/\je ρ st w ρ (st.aD (some b) none none) w':=by
 have pI:∀c y,(st.aD (some b) none none).heap.get c=some y->st.heap.get c=some y/\c≠b:=λc y hc=>by
   obtain⟨g1,g2⟩:=tr (some b) _ (show(B5 (some b) st.heap).get c=some y from hc);exact⟨g1,λe=>g2 b rfl e⟩
 refine⟨⟨λc y hc=> ?_,λc c' y y' hc rY e=>hW.inj c c' y y' (pI c y hc).1 (pI c' y' rY).1 e,λa v ha=> ?_,λa v ha o ho=> ?_⟩,⟨h1,h2,h3,by omega,λk _ hk=>rM k (λe=>hk b x hb e.symm),λc y hc=>.inl ⟨c,y,(pI c y hc).1,rfl⟩⟩⟩
 .obtain⟨g1,g2⟩:=pI c y hc;obtain⟨k1,k2,k3⟩:=hW.live c y g1;exact⟨k1,by omega,k3.of_heap (rM _ λe=>g2 (hW.inj _ _ _ _ g1 hb e))⟩
 .obtain⟨g1,g2⟩:=hW.cZ a v ha;refine⟨?_,λc y hc=>g2 c y (pI c y hc).1⟩;have:=rM a.block (λe=>g2 b x hb e.symm);rw[<-g1];simp only[World.cell?,this]
 .have:=rM a.block (λe=>(hW.cZ a v ha).2 b x hb e.symm);rw[<-hW.whole a v ha o ho];simp only[World.cell?,this]
theorem Pu(hT:bH P tt){t t2 e:Nat}{ts:Array TypeId}{ti te:TI}(cm:tt.get (key t)=some ti)(hk:ti.k= .ptr e)(eI:tt.get (key e)=some te)(h8:te.size=1)(b7:ts.toList=[t,t2])
   (ty:TypeId) {s u:AV} {xs xu:Value} {res:bV} (hW:aV ρ C st w)
   (hs:aj ρ st.next.toNat C s xs) (hu:aj ρ st.next.toNat C u xu) (hr:nr (λb=>st.heap.get b) st.next e [s,u]=some res):
   qU P ρ C st w (((Builtin.unsafeString_ ts ty #[xs,xu]).run P w).andThen λv w=>.ok (.value v) w) res:=by
 obtain rfl:ts= #[t,t2]:=by apply Zl1;rw[b7]
 simp only[nr]at hr;split at hr<;>first|(cases hr;done)|skip
 rename_i n;have:=hu.gL;subst this;split at hr
 . rename_i h0;have:=Za0 h0;subst this;split at hr<;>first|(cases hr;done)|skip
   .simp only[H0]at hr;subst hr;have:=hs.om;subst this;exact .pure (x:= .string .empty) (by rw[show(Int.ofNat 0)=(0:Int)from rfl,Lib.run_unsafeString_none];rfl) (.str _ _ rfl)
   .simp only[H0]at hr;subst hr;obtain⟨_,he⟩:=hs.ei;subst he;exact .pure (x:= .string .empty) (by rw[show(Int.ofNat 0)=(0:Int)from rfl,Lib.run_unsafeString_none];rfl) (.str _ _ rfl)
 . (rename_i h0;have h0:=Zb4 h0;(split at hr<;>first|(cases hr;done)|skip);rename_i b;(split at hr<;>first|(cases hr;done)|skip);rename_i e' cs hb;(split at hr<;>first|(cases hr;done)|skip);rename_i l he hcut Vf;have he:=Za0 he;have Vf:=Za3 Vf;subst he;(split at hr<;>first|(cases hr;done)|skip);rename_i s' QE;simp only[H0]at hr;subst hr;obtain⟨_,fY⟩:=hs.ei;subst fY;obtain⟨d,hd,bP⟩:=(hT.at cm).und;rw[hk]at bP;rw[K9 bP]at hd;obtain⟨i0,kG,jQ,_⟩:=(hT.at eI).info;have Bq:P.cellsOf e=1:=(by simp[Program.cellsOf,kG,jQ,h8]);obtain⟨Lh,hbs2,c,fr,g1,g2,g3,g4,g5,g6⟩:=hW.live b _ hb;rw[g6]at g3 g4 ⊢;simp only[Zc7,Ze3]at g3 g4;have KT:w.shape? (ρ b).aq=some (e,c.size):=(by simp[World.shape?,g1]);obtain⟨vW,nY⟩:=zT hcut;have Fv:=qV hcut;have gQ:av ρ st.next.toNat C l (c.toList.take n):=by have h:=(g4.drop 0).take n;rw[<-vW,Ze3,Zo0,Zj7 (by omega)]at h;exact h);obtain⟨e1,e2⟩:=B7 QE gQ;have Jh:s'.length=n:=(by have:=congrArg List.length e1;simp at this;omega);have bQ:=Lib.run_unsafeString_row (P:=P) w t t2 ty e hd Bq (ρ b).aq c.size KT (s'.map UInt8.ofNat) (by intro h;simp at h;rw[h]at Jh;simp at Jh;omega) (by simp;omega) (by simp;omega) (λj x hj=>by simp only[Zb7,Zd4]at hj;obtain⟨k,hk,rfl⟩:=hj;have hjn:j<n:=(by rw[<-Jh];exact(Za1.1 hk).1);have h2:(c.toList.take n)[j]? =some (.int .u8 (k:Int)):=(by rw[e1];simp[hk]);rw[Zb8,Za8 hjn]at h2;have hk256:=e2 k (Zb6 hk);rw[kj];simp only[World.cell?,g1,Zc7];rw[<-Zg1,h2];congr 2;simp;omega);have hlen:(s'.map UInt8.ofNat).length=n:=(by simp[Jh]);rw[hlen]at bQ;obtain⟨q1,q2⟩:=acJ (w':=w.freeze ⟨(ρ b).aq,0,none⟩ n) hW hb (by unfold World.freeze;split<;>rfl) (by unfold World.freeze;split<;>rfl) (by unfold World.freeze;split<;>rfl) (by unfold World.freeze;split<;>simp) (λk hk=>by
     unfold World.freeze;split
     .  rfl
     .  simp only[Zl9];rw[Za5 (λe=>hk e.symm)])
   refine⟨_,.string ⟨(s'.map UInt8.ofNat).toArray⟩,_,ρ,?_,Yields.value _,λ_ _=>rfl,q1,.str _ _ ?_,q2⟩
   .show((Builtin.unsafeString_ #[t,t2] ty #[.pointer (some ⟨(ρ b).aq,0,none⟩),.int .i64 (n:Int)]).run P w).andThen _=_;rw[bQ];rfl
   . (simp only[Zf8];have e3:s'.map (UInt8.toNat∘UInt8.ofNat)=s'.map id:=Zi8 λc hc=>by have:=e2 c hc;simp only[Function.comp,id,UInt8.toNat_ofNat'];omega);rw[e3,List.map_id]
end
section
variable{P:Program}{tt:TT}{ρ:Pos->Loc}{C:Cells}{st:St}{w w':World}
theorem CZ{n:Nat}{xs:Array Value}{u v:AV}(h:av ρ n C [u,v] xs.toList):∃x y,xs= #[x,y]/\aj ρ n C u x/\aj ρ n C v y:=by
 obtain⟨x,l,h1,h2,h3⟩:=h.cons_inv;obtain⟨y,l',h4,h5,h6⟩:=h3.cons_inv;have:=h6.l7;subst this;exact⟨x,y,by apply Zl1;rw[h1,h4],h2,h5⟩
theorem QL{n:Nat}{xs:Array Value}{u:AV}(h:av ρ n C [u] xs.toList):∃x,xs= #[x]/\aj ρ n C u x:=by
 obtain⟨x,l,h1,h2,h3⟩:=h.cons_inv;have:=h3.l7;subst this;exact⟨x,by apply Zl1;rw[h1],h2⟩
theorem QM{ts:Array TypeId}{t:TypeId}{l:List TypeId}(h:ts.toList=t::l):ts[0]? =some t:=by rw[<-Zg1,h];rfl
theorem arr1{ts:Array TypeId}{t t2:TypeId}{l:List TypeId}(h:ts.toList=t::t2::l):ts[1]? =some t2:=by rw[<-Zg1,h];rfl
theorem ZI(hT:bH P tt){t e:Nat}{ts:Array TypeId}{ti te:TI}(cm:tt.get (key t)=some ti)(hk:ti.k= .slice e)
   (eI:tt.get (key e)=some te) (h0:ts[0]? =some t) (ty:TypeId) {d u:AV} {xd xu:Value} {res:bV} (hW:aV ρ C st w)
   (hd:aj ρ st.next.toNat C d xd) (hu:aj ρ st.next.toNat C u xu) (hr:wu (λb=>st.heap.get b) st.next te.size [d,u]=some res):
   qU P ρ C st w (((Builtin.copy_ ts ty #[xd,xu]).run P w).andThen λv w=>.ok (.value v) w) res:=by
 obtain⟨dd,hdd,bP⟩:=(hT.at cm).und;rw[hk]at bP;rw[kQ bP]at hdd;obtain⟨i0,kG,jQ,_⟩:=(hT.at eI).info;simp only[wu]at hr;split at hr<;>first|(cases hr;done)|skip
 rename_i n m hn hm;have hlen:=J6 (P:=P) (w:=w) hu hm;have Jh:(∃s,d= .str s)\/∃base aG,xd= .slice base n aG/\n<=aG:=by
   unfold cS at hn;split at hn<;>first|(cases hn;done)|skip
   .cases hn;exact .inr ⟨none,0,hd.eO,Za4 _⟩
   .cases hn;obtain⟨a,c,he,hle,_⟩:=hd.cO;exact .inr ⟨_,c,he,hle⟩
   .cases hn;obtain⟨a,c,_,he,hle,_⟩:=hd.qo;exact .inr ⟨_,c,he,hle⟩
   .exact .inl ⟨_,rfl⟩
 have acK:m=0\/n=0->(Builtin.firstCells te.size 0 xu).run P w= .ok #[] w:=by
   intro _;unfold cS at hm;split at hm<;>first|(cases hm;done)|skip
   .rw[hu.eO];simp[Builtin.firstCells]
   .obtain⟨_,_,he,_⟩:=hu.cO;rw[he];simp[Builtin.firstCells,loadCells,loadCellsFrom]
   .obtain⟨_,_,_,he,_⟩:=hu.qo;rw[he];simp[Builtin.firstCells,loadCells,loadCellsFrom]
   .obtain⟨bs,rfl,_⟩:=hu.dN;simp only[Builtin.firstCells,Sem.run_pure];congr 1;apply Zl1;simp
 have mA:∀base aG,xd= .slice base n aG->(Builtin.copy_ ts ty #[xd,xu]).run P w=((Builtin.firstCells te.size (Nat.min m n) xu).run P w).andThen λcells w=>((match base with|some a=>storeCells a cells.toList|none=>pure ()).run P w).andThen λ_ w=>.ok (goInt (Nat.min m n)) w:=by
   intro base aG he;unfold Builtin.copy_;simp only[h0,he,List.getElem?_toArray,Zb0,Zd9,Sem.run_bind,aH hdd,Result.andThen_ok,gH kG,jQ,hlen];cases base<;>simp only[Sem.run_bind,Sem.run_pure,Result.andThen_ok]
 split at hr
 . rename_i tS;have tS:=Za0 tS;(split at hr<;>first|(cases hr;done)|skip);rename_i hns;simp only[H0]at hr;subst hr;rcases Jh with⟨s,rfl⟩|⟨base,aG,he,hle⟩
   .exact absurd rfl (hns s)
   .have hk0':Nat.min m n=0:=tS;refine .pure (x:=goInt 0) ?_ (.int _ _);rw[mA base aG he,hk0',acK (by have:min m n=0:=tS;omega)];cases base<;>simp[storeCells]
 . rename_i tS;have tS:=Zb4 tS;(split at hr<;>first|(cases hr;done)|skip);rename_i b off n' cap es';(split at hr<;>first|(cases hr;done)|skip);rename_i cs fz new hb ku;(split at hr<;>first|(cases hr;done)|skip);rename_i c1 c2 c3;have c1:=Za3 c1;have c2:=Za3 c2;simp only[H0]at hr;subst hr;simp only[cS,H0]at hn;subst hn;obtain⟨aa,aG,he,hle,_,ha⟩:=hd.cO;have ZJ:min m n'<=m/\min m n'<=n':=⟨Nat.min_le_left _ _,Nat.min_le_right _ _⟩
   obtain⟨aU,rfl,_⟩:=ha (by omega);obtain⟨ys,e1,e2,e3⟩:=jW (P:=P) hW hu hm ZJ.1 ku w rfl;have D4:new.length=min m n'*te.size:=by
     rcases e3 with rfl|e3
     .simp[cS]at hm;omega
     .exact e3
   obtain⟨w2,f1,dY,hE⟩:=DX (P:=P) hW hb (by rw[D4];exact c1) c2 c3 e2;refine⟨_,goInt ((min m n':Nat):Int),w2,ρ,?_,Yields.value _,λ_ _=>rfl,dY,.int _ _,hE⟩;rw[mA _ _ he];have hmm:Nat.min m n'=min m n':=rfl;rw[hmm,e1];simp only[Result.andThen_ok];rw[f1];rfl
theorem abM(hT:bH P tt){t:Nat}{ts:Array TypeId}{ti:TI}(cm:tt.get (key t)=some ti){k:LK}(hk:(k= .s/\ti.k= .string)\/(k= .l/\∃e,ti.k= .slice e)\/(k= .m/\∃a b,ti.k= .map a b))
   (h0:ts[0]? =some t) (ty:TypeId) {u:AV} {xu:Value} {res:bV} (hW:aV ρ C st w)
   (hu:aj ρ st.next.toNat C u xu) (hr:CM (λb=>st.heap.get b) st.next k [u]=some res):
   qU P ρ C st w (((Builtin.len_ ts ty #[xu]).run P w).andThen λv w=>.ok (.value v) w) res:=by
 obtain⟨d,hd,bP⟩:=(hT.at cm).und;have mA:∀x,xu=x->(Builtin.len_ ts ty #[xu]).run P w=(Builtin.len_ ts ty #[x]).run P w:=λx e=>by rw[e]
 simp only[CM]at hr;rcases hk with⟨rfl,hk⟩|⟨rfl,e,hk⟩|⟨rfl,a,b,hk⟩<;>rw[hk]at bP
 .rw[kF bP]at hd;(cases u<;>simp only[reduceCtorEq]at hr<;>first|(cases hr;done)|skip);simp only[H0]at hr;subst hr;obtain⟨bs,rfl,hs⟩:=hu.dN;exact .pure (x:=goInt bs.size) (by unfold Builtin.len_;simp[h0,aH hd]) (by rw[tq hs];exact .int _ _)
 . rw[kQ bP]at hd;cases u<;>simp only[reduceCtorEq]at hr<;>first|(cases hr;done)|skip
   .simp only[H0]at hr;subst hr;rw[hu.eO];exact .pure (x:=goInt 0) (by unfold Builtin.len_;simp[h0,aH hd]) (.int _ _)
   .simp only[H0]at hr;subst hr;obtain⟨aa,c,he,_⟩:=hu.cO;rw[he];exact .pure (by unfold Builtin.len_;simp[h0,aH hd];rfl) (.int _ _)
   .simp only[H0]at hr;subst hr;obtain⟨aa,c,_,he,_⟩:=hu.qo;rw[he];exact .pure (by unfold Builtin.len_;simp[h0,aH hd];rfl) (.int _ _)
 . rw[Gm bP]at hd;cases u<;>simp only[reduceCtorEq]at hr<;>first|(cases hr;done)|skip
   .simp only[H0]at hr;subst hr;rw[hu.wC];exact .pure (x:=goInt 0) (by unfold Builtin.len_;simp[h0,aH hd]) (.int _ _)
   . (split at hr<;>first|(cases hr;done)|skip);rename_i es c hb;simp only[H0]at hr;subst hr;obtain⟨_,he⟩:=hu.tQ;obtain⟨_,_,es',dc,hlen,_⟩:=hW.live _ _ hb;rw[he];exact .pure (x:=goInt es'.size) (by unfold Builtin.len_;simp[h0,aH hd,run_getObj_map dc]) (by rw[<-hlen];exact .int _ _)
theorem MT(z:Array Value)(m:Nat):(Builtin.zeroCells z m).toList=bL z.toList m:=by
 unfold Builtin.zeroCells;by_cases h:0<z.size
 .exact QG z m h
 .have h0:z.size=0:=(by omega);have:z= #[]:=Zm4 h0;subst this;have h1:bL ([]:List Value) m=[]:=Zb1 (by rw[gZ];simp);simp[h1]
theorem Xc(hT:bH P tt){t e:Nat}{ts:Array TypeId}{ti te:TI}{z:List AV}(cm:tt.get (key t)=some ti)(hk:ti.k= .slice e)
   (eI:tt.get (key e)=some te) (hz:te.zero=some z) (h0:ts[0]? =some t) (ty:TypeId) {u:AV} {xu:Value} {res:bV} (hW:aV ρ C st w)
   (hu:aj ρ st.next.toNat C u xu) (hr:tM (λb=>st.heap.get b) st.next te.size z [u]=some res):
   qU P ρ C st w (((Builtin.clear_ ts ty #[xu]).run P w).andThen λv w=>.ok (.value v) w) res:=by
 obtain⟨dd,hdd,bP⟩:=(hT.at cm).und;rw[hk]at bP;rw[kQ bP]at hdd;obtain⟨i0,kG,jQ,_,vQ⟩:=(hT.at eI).info;obtain⟨zv0,_,_,Lj,_⟩:=vQ z hz;obtain⟨zv,vR,_,qt⟩:=qq hT eI hz (ρ:=ρ) (n:=st.next.toNat) (C:=C) w;simp only[tM]at hr;split at hr<;>first|(cases hr;done)|skip
 .simp only[H0]at hr;subst hr;rw[hu.eO];exact .pure (x:=undef) (by unfold Builtin.clear_;simp[h0,aH hdd];rfl) aj.tu
 . rename_i b off n cap es';obtain⟨aa,aG,he,hle,_,ha⟩:=hu.cO;rw[he];split at hr
   .rename_i Jl;have:=Za0 Jl;subst this;simp only[H0]at hr;subst hr;exact .pure (x:=undef) (by unfold Builtin.clear_;simp[h0,aH hdd];rfl) aj.tu
   . rename_i Jl;have Jl:=Zb4 Jl;(split at hr<;>first|(cases hr;done)|skip);rename_i cs fz hb;(split at hr<;>first|(cases hr;done)|skip);rename_i c1 c2 c3;have c1:=Za3 c1;have c2:=Za3 c2;simp only[H0]at hr;subst hr;obtain⟨_,rfl,_⟩:=ha (by omega);obtain⟨w2,f1,dY,hE⟩:=DX (P:=P) hW hb (vs:=bL z n) (ys:=bL zv.cells.toList n) (by rw[gZ,Lj];exact c1) c2 c3 (B8 qt n);refine⟨_,undef,w2,ρ,?_,Yields.value _,λ_ _=>rfl,dY,aj.tu,hE⟩;unfold Builtin.clear_;cases n with
     |zero=>exact absurd rfl Jl
     |succ n=>simp[h0,aH hdd,vR,MT,f1,undef]
theorem C2(c:Call)(f:Operand)(hc:c.callee= .value f)(a:Act)(o:Oper)(ho:o.op= .call c){g:FuncId}{x y:Array Value}(he:a.eval f= .func (.func g) x y):
  (execOp a.eval o).run P w=(callFunc g (x++c.args.map a.eval++y)).run P w:=by
 simp[execOp,ho,resolve,hc,he,Deferred.ofValue,invoke]
theorem ZK (hT:bH P tt) (c:Call):cw P tt (.call c):=by
 intro ρ C st w k xs cls fr a o vs res ho hc hW hF hx hr;simp only[fy]at hc;split at hc<;>first|(cases hc;done)|skip
 rename_i l hl;split at hc<;>first|(cases hc;done)|skip
 ·
  rename_i g J7;cases hc;have hv:=dF hl hF hx;simp only[ay.run,JX,H0]at hr;subst hr;refine⟨c.args.toList.map a.eval,?_,hv⟩;rw[C2 c _ J7 a o ho (g:=g) (x:= #[]) (y:= #[]) rfl];congr 2;apply Zl1;simp
 ·
  rename_i f hnf J7;split at hc<;>first|(cases hc;done)|skip
  rename_i ao hao;cases hc;unfold dL at hx;split at hx<;>first|(cases hx;done)|skip
  rename_i fv hfv;split at hx<;>first|(cases hx;done)|skip
  rename_i vs' ZL;simp only[H0]at hx;subst hx;have h1:=oh hao hF hfv;have h2:=dF hl hF ZL;simp only[ay.run,JY]at hr;split at hr<;>first|(cases hr;done)|skip
  rename_i g first captured
  simp only[H0]at hr;subst hr;obtain⟨x,y,he,hx,hy⟩:=h1.wz;refine⟨x.toList++(c.args.toList.map a.eval++y.toList),?_,hx.append (h2.append hy)⟩;rw[C2 c f J7 a o ho he];congr 2;apply Zl1;simp
 ·
  rename_i b J7;have hex:∀(s:Sem Value),(∀consts,builtin b c.argTypes o.type consts (c.args.map a.eval)=(do pure (.value (<-s))))->(execOp a.eval o).run P w=(s.run P w).andThen λv w=>.ok (.value v) w:=by intro s hs;simp only[execOp,ho,resolve,J7,pure_bind,invoke];rw[hs];simp
  split at hc<;>first|(cases hc;done)|skip
  ·
   (split at hc<;>first|(cases hc;done)|skip);rename_i t _ _ b7;(split at hc<;>first|(cases hc;done)|skip);rename_i ti cm;have hv:=dF hl hF (vs:=vs) (by
        split at hc<;>first|(cases hc;done)|skip
        all_goals cases hc;exact hx)
   rw[fI] at hv;rw[hex (Builtin.len_ c.argTypes o.type (c.args.map a.eval)) (λ_=>rfl)];have hu:∃u,vs=[u]      :=by
        have h1:=hv.1;have h2:(c.args.toList).length=1:=by
         have: ∀{xs:List   Operand}{os:List dK},iz xs=some os->xs.length=os.length:=by
            intro xs;induction xs with
            |nil=>intro os h;simp[iz]at h;subst h;rfl
            |cons x xs ih=>intro os h;unfold iz at h;split at h<;>first|(cases h;done)|skip
                           rename_i e1 e2;simp only[H0]at h;subst h;simp[ih e2]
         rw[this hl];rfl
        match vs,h1 with
        |[u],_=>exact⟨u,rfl⟩
        |[],h1=>simp at h1 h2;omega
        |_::_::_,h1=>simp at h1 h2;omega
   obtain⟨u,rfl⟩:=hu;obtain⟨x,fY,hux⟩:=QL hv;rw[fY];split at hc<;>first|(cases hc;done)|skip
   all_goals
        rename_i hk;cases hc;simp only[ay.run]at hr;refine abM hT cm ?_ (QM b7) o.type hW hux hr
   .    exact .inl ⟨rfl,hk⟩
   .    exact .inr (.inl ⟨rfl,_,hk⟩)
   .    exact .inr (.inr ⟨rfl,_,_,hk⟩)
  ·
   (split at hc<;>first|(cases hc;done)|skip);rename_i t t2 _ b7;(split at hc<;>first|(cases hc;done)|skip);rename_i ti Fm cm Gt;split at hc<;>first|(cases hc;done)|skip
   .    rename_i e hk lK;(split at hc<;>first|(cases hc;done)|skip);rename_i te eI;(split at hc<;>first|(cases hc;done)|skip);rename_i z hz WO h8;have h8:=Za0 h8;cases hc;have hv:=dF hl hF hx;rw[fI]at hv;rw[hex (Builtin.append_ c.argTypes o.type (c.args.map a.eval)) (λ_=>rfl)];simp only[ay.run]at hr;have hu:∃s u,vs=[s,u]:=by
         unfold qQ at hr;(split at hr<;>first|(cases hr;done)|skip);exact⟨_,_,rfl⟩
        obtain⟨s,u,rfl⟩:=hu;obtain⟨x,y,fY,h1,h2⟩:=CZ hv;rw[fY];exact Td hT cm Gt hk (λk hk=>by rw[lK]at hk;cases hk) eI hz h8 (QM b7) (arr1 b7) o.type hW h1 h2 hr
   rename_i e hk lK _;(split at hc<;>first|(cases hc;done)|skip);rename_i te eI;(split at hc<;>first|(cases hc;done)|skip);rename_i z hz;cases hc;have hv:=dF hl hF hx;rw[fI]at hv;rw[hex (Builtin.append_ c.argTypes o.type (c.args.map a.eval)) (λ_=>rfl)];simp only[ay.run]at hr;have hu:∃s u,vs=[s,u]:=by
        unfold fu at hr;(split at hr<;>first|(cases hr;done)|skip);exact⟨_,_,rfl⟩
   obtain⟨s,u,rfl⟩:=hu;obtain⟨x,y,fY,h1,h2⟩:=CZ hv;rw[fY];exact D3 hT cm Gt hk (λk hk=>lK k hk) eI hz (QM b7) (arr1 b7) o.type hW h1 h2 hr
  ·
   (split at hc<;>first|(cases hc;done)|skip);rename_i t _ b7;(split at hc<;>first|(cases hc;done)|skip);rename_i ti cm;(split at hc<;>first|(cases hc;done)|skip);rename_i e hk;(split at hc<;>first|(cases hc;done)|skip);rename_i te eI;cases hc;have hv:=dF hl hF hx;rw[fI]at hv;rw[hex (Builtin.copy_ c.argTypes o.type (c.args.map a.eval)) (λ_=>rfl)];simp only[ay.run]at hr;have hu:∃s u,vs=[s,u]:=by
        unfold wu at hr;(split at hr<;>first|(cases hr;done)|skip);exact⟨_,_,rfl⟩
   obtain⟨s,u,rfl⟩:=hu;obtain⟨x,y,fY,h1,h2⟩:=CZ hv;rw[fY];exact ZI hT cm hk eI (QM b7) o.type hW h1 h2 hr
  ·
   (split at hc<;>first|(cases hc;done)|skip);cases hc;have hv:=dF hl hF hx;rw[fI]at hv;rw[hex (Builtin.unsafeSliceData_ c.argTypes o.type (c.args.map a.eval)) (λ_=>rfl)];simp only[ay.run]at hr;have hu:∃s,vs=[s]:=by
        unfold qk at hr;(split at hr<;>first|(cases hr;done)|skip);exact⟨_,rfl⟩
   obtain⟨s,rfl⟩:=hu;obtain⟨x,fY,h1⟩:=QL hv;rw[fY];exact Pt o.type h1 hW hr
  ·
   (split at hc<;>first|(cases hc;done)|skip);rename_i t t2 b7;(split at hc<;>first|(cases hc;done)|skip);rename_i ti cm;(split at hc<;>first|(cases hc;done)|skip);rename_i e hk;(split at hc<;>first|(cases hc;done)|skip);rename_i te eI;(split at hc<;>first|(cases hc;done)|skip);rename_i WO h8;have h8:=Za0 h8;cases hc;have hv:=dF hl hF hx;rw[fI]at hv;rw[hex (Builtin.unsafeString_ c.argTypes o.type (c.args.map a.eval)) (λ_=>rfl)];simp only[ay.run]at hr;have hu:∃s u,vs=[s,u]:=by
        unfold nr at hr;(split at hr<;>first|(cases hr;done)|skip);exact⟨_,_,rfl⟩
   obtain⟨s,u,rfl⟩:=hu;obtain⟨x,y,fY,h1,h2⟩:=CZ hv;rw[fY];exact Pu hT cm hk eI h8 b7 o.type hW h1 h2 hr
  ·
   (split at hc<;>first|(cases hc;done)|skip);cases hc;have hv:=dF hl hF hx;rw[fI]at hv;rw[hex (Builtin.min_ c.argTypes o.type (c.args.map a.eval)) (λ_=>rfl)];simp only[ay.run]at hr;have hu:∃s u r,vs=[s,u]/\res= .val r:=by
        unfold zB at hr;(split at hr<;>first|(cases hr;done)|skip);split at hr<;>first|(cases hr;done)|skip
        all_goals cases hr;exact⟨_,_,_,rfl,rfl⟩
   obtain⟨s,u,r,rfl,rfl⟩:=hu;obtain⟨x,y,fY,h1,h2⟩:=CZ hv;obtain⟨z,hz,hvz⟩:=ZB (P:=P) (w:=w) h1 h2 hr;rw[fY];refine .pure (x:=z) ?_ hvz;simp[Builtin.min_,hz]
  ·
   (split at hc<;>first|(cases hc;done)|skip);cases hc;have hv:=dF hl hF hx;rw[fI]at hv;rw[hex (Builtin.max_ c.argTypes o.type (c.args.map a.eval)) (λ_=>rfl)];simp only[ay.run]at hr;have hu:∃s u r,vs=[s,u]/\res= .val r:=by
        unfold zC at hr;(split at hr<;>first|(cases hr;done)|skip);split at hr<;>first|(cases hr;done)|skip
        all_goals cases hr;exact⟨_,_,_,rfl,rfl⟩
   obtain⟨s,u,r,rfl,rfl⟩:=hu;obtain⟨x,y,fY,h1,h2⟩:=CZ hv;obtain⟨z,hz,hvz⟩:=ZC (P:=P) (w:=w) h1 h2 hr;rw[fY];refine .pure (x:=z) ?_ hvz;simp[Builtin.max_,hz]
  ·
   (split at hc<;>first|(cases hc;done)|skip);rename_i t _ b7;(split at hc<;>first|(cases hc;done)|skip);rename_i ti cm;(split at hc<;>first|(cases hc;done)|skip);rename_i e hk;(split at hc<;>first|(cases hc;done)|skip);rename_i te eI;(split at hc<;>first|(cases hc;done)|skip);rename_i z hz;cases hc;have hv:=dF hl hF hx;rw[fI]at hv;rw[hex (Builtin.clear_ c.argTypes o.type (c.args.map a.eval)) (λ_=>rfl)];simp only[ay.run]at hr;have hu:∃u,vs=[u]:=by
        unfold tM at hr;(split at hr<;>first|(cases hr;done)|skip);exact⟨_,rfl⟩
   obtain⟨u,rfl⟩:=hu;obtain⟨x,fY,hux⟩:=QL hv;rw[fY];exact Xc hT cm hk eI hz (QM b7) o.type hW hux hr
theorem It(hT:bH P tt)(op:Op):cw P tt op:=by
 cases op with
 |move x=>exact Zx x
 |assign x=>exact U5 x
 |pick c x y=>exact Zy c x y
 |alloc t=>exact WV hT t
 |box t x=>exact abK t x
 |build t ps=>exact WU hT t ps
 |buildSlice t n ps=>exact MS hT t n ps
 |insert t m k v=>exact Lm hT _ t m k v (.inr rfl)
 |load t x=>exact ZA hT t x
 |store t x y=>exact WZ hT t x y
 |nilCheck x=>exact QD x
 |binOp op t x y yt=>exact WH hT op t x y yt
 |unOp op t x=>exact Zz op t x
 |convert s d x=>
  by_cases h:∃xs cls,fy tt (.convert s d x)=some (.conv .bytes,xs,cls)
  .exact Pr hT s d x h
  .exact Tb hT s d x λk xs cls hc e=>h ⟨xs,cls,by rw[hc,e]⟩
 |makeInterface t x=>exact S9 hT t x
 |makeFunc f x y=>exact U6 f x y
 |makeMap t r=>exact WW t r hT
 |makeSlice t l c=>exact Tc hT t l c
 |slice t x l h m=>exact WN hT t x l h m
 |fieldAddr t x f=>exact Pp hT t x f
 |field t x f=>exact WI hT t x f
 |indexAddr t x i=>exact Pq hT t x i
 |index t x i=>exact WJ hT t x i
 |lookup t x i ok=>exact U9 hT t x i ok
 |mapUpdate t m k v=>exact Lm hT _ t m k v (.inl rfl)
 |range t x=>exact Vb hT t x
 |next it s=>exact W6 it s
 |extract x i=>exact S8 x i
 |call c=>exact ZK hT c
 |_=>intro ρ C st w k xs cls fr a o vs res ho hc;simp[fy]at hc
end
end
section
open Go
def Reaches(P:Program)(R:Value->World->Prop):Result Next->Prop
 |.ok (.value x) w'=>R x w'
 |.ok .skip w'=>R undef w'
 |.ok (.enter f args) w'=>Calls P f args w' λ|.returned v,w''=>R v w''|_,_=>False
 |.ok (.row row args) w'=>Rows P row args w' R
 |_=>False
theorem Reaches.mono{P:Program}{R R':Value->World->Prop}(h:∀x w,R x w->R' x w):∀{r:Result Next},Reaches P R r->Reaches P R' r
 |.ok (.value _) _,hr=>h _ _ hr
 |.ok .skip _,hr=>h _ _ hr
 |.ok (.enter _ _) _,hr=>Calls.mono hr λe w he=>by cases e<;>first|exact h _ _ he|exact he
 |.ok (.row _ _) _,hr=>Rows.mono hr h
section
variable(P:Program)(ops:Array Oper)
def MU(o:Oper)(K:Act->World->Prop)(a:Act)(w:World):Prop:=Reaches P (λx w'=>K (a.put o.dst x) w') ((execOp a.eval o).run P w)
def zZ(i:Nat)(K:Act->World->Prop)(a:Act)(w:World):Prop:=
 match ops[i]? with
 |none=>K a w
 |some o=>if Region.wanted o (yielded ops a.tmps)then MU P o K a w else K (a.put o.dst undef) w
def oo(K:Act->World->Prop):List Nat->Act->World->Prop
 |[],a,w=>K a w
 |i::l,a,w=>zZ P ops i (oo K l) a w
def P1(K:Act->World->Prop):Nat->Array Bool->Act->World->Prop
 |0,listed,a,w=>Region.ready .any ops listed=[]/\K a w
 |fuel+1,listed,a,w=>(Region.ready .any ops listed=[]->K a w)/\∀i∈Region.ready .any ops listed,zZ P ops i (P1 K fuel (listed.setIfInBounds i true)) a w
end
section
variable{P:Program}{ops:Array Oper}
theorem Ob{i:Nat}{K K':Act->World->Prop}{a:Act}{w:World}(h:∀a w,K a w->K' a w)(hh:zZ P ops i K a w):zZ P ops i K' a w:=by
 unfold zZ at*
 split
 .rename_i ho;rw[ho]at hh;exact h _ _ hh
 . rename_i o ho;rw[ho]at hh;dsimp only at hh;split
   .rename_i hw;rw[Za8 hw]at hh;exact Reaches.mono (λx w' hk=>h _ _ hk) hh
   .rename_i hw;rw[Za5 hw]at hh;exact h _ _ hh
theorem Oc{K:Act->World->Prop}{l2:List Nat}:∀(l1:List Nat)(a:Act)(w:World),oo P ops (oo P ops K l2) l1 a w->oo P ops K (l1++l2) a w
 |[],_,_,h=>h
 |_::l1,_,_,h=>Ob (λa w=>Oc l1 a w) h
end
section
variable(P:Program)
def Gu(R:(Exit->Act->World->Prop)->Act->World->Prop)(Q:Exit->Act->World->Prop):Nat->Act->World->Prop
 |0,_,_=>False
 |n+1,a,w=>R (Exit.then (Gu R Q n) Q) a w
def dZ:Code->(Exit->Act->World->Prop)->Act->World->Prop
 |.skip,Q,a,w=>Q .normal a w
 |  .region _ ops draw,Q,a,w=>match draw with
    |false=>oo P ops (Q .normal) (List.range ops.size) a w
    |true=>P.follows .mixedOrders=true/\P1 P ops (Q .normal) ops.size (Array.replicate ops.size false) a { w with drawn:=w.drawn+1 }
 |.seq x y,Q,a,w=>dZ x (Exit.then (dZ y Q) Q) a w
 |  .cond c x y,Q,a,w=>∃t,a.eval c= .bool t/\match t with
    |true=>dZ x Q a w
    |false=>dZ y Q a w
 |.block id x,Q,a,w=>dZ x (Exit.inBlock id Q) a w
 |.loop x,Q,a,w=>∃n,Gu (dZ x) Q n a w
 |.exit id,Q,a,w=>Q (.exit id) a w
 |.ret,Q,a,w=>Q .ret a w
 |_,_,_,_=>False
end
section
variable{P:Program}{Q:Exit->Act->World->Prop}{a:Act}{w:World}
theorem Xd(h:Q .normal a w):dZ P .skip Q a w:=h
theorem Xe{id:Nat}(h:Q (.exit id) a w):dZ P (.exit id) Q a w:=h
theorem z6{x y:Code}(h:dZ P x (Exit.then (dZ P y Q) Q) a w):dZ P (.seq x y) Q a w:=h
theorem Lp{id:Nat}{x:Code}(h:dZ P x (Exit.inBlock id Q) a w):dZ P (.block id x) Q a w:=h
theorem Cb{id:Nat}{ops:Array Oper}(h:oo P ops (Q .normal) (List.range ops.size) a w):dZ P (.region id ops false) Q a w:=h
theorem MV{c:Operand}{x y:Code}(hc:a.eval c= .bool true)(h:dZ P x Q a w):dZ P (.cond c x y) Q a w:=⟨true,hc,h⟩
theorem Lq{c:Operand}{x y:Code}(hc:a.eval c= .bool false)(h:dZ P y Q a w):dZ P (.cond c x y) Q a w:=⟨false,hc,h⟩
theorem Xf{x:Code}(n:Nat)(h:Gu (dZ P x) Q n a w):dZ P (.loop x) Q a w:=⟨n,h⟩
theorem Od{R:(Exit->Act->World->Prop)->Act->World->Prop}{n:Nat}:Gu R Q (n+1) a w=R (Exit.then (Gu R Q n) Q) a w:=rfl
end
def oq:Code->List Nat
 |.region _ ops _=>ops.toList.filterMap (·.dst)
 |.seq a b=>oq a++oq b
 |.cond _ a b=>oq a++oq b
 |.block _ a=>oq a
 |.loop a=>oq a
 |_=>[]
abbrev Fc(r:Option Nat):Fence:={ Fence.wide with round:=r }
section
variable{P:Program}{r:Option Nat}{n:Nat}{ts:Nat->Prop}{x:Array Value}{ds D:List Deferred}
def InF(D ds:List Deferred)(ts:Nat->Prop)(x:Array Value)(Q:Exit->Act->World->Prop):Exit->Act->World->Prop:=
 λe a w=>a.defers=D/\(∀t,ts t->a.tmps[t]? =x[t]?)/\Q e ⟨a.tmps,ds⟩ w
theorem abN{row:String}{args:Array Value}{w:World}{R:Value->World->Prop}(h:Rows P row args w R):RowsIn (Fc r) n P row args w R:=
 λc cs _=>let⟨v,w',hr,hs⟩:=h c cs;⟨v,w',hr,stepsIn_wide.2 hs⟩
theorem ZM{f:FuncId}{args:Array Value}{w:World}{R:Ending->World->Prop}(h:Calls P f args w R):CallsIn (Fc r) n P f args w R:=callsIn_wide.2 h
theorem C3{T:Array Value}{o:Operand}:(⟨T,ds⟩:Act).eval o=(⟨T,D⟩:Act).eval o:=by cases o<;>rfl
theorem acL{T:Array Value}{d:Option Tmp}{v:Value}:(⟨T,ds⟩:Act).put d v=⟨((⟨T,D⟩:Act).put d v).tmps,ds⟩:=by cases d<;>rfl
theorem abO{T:Array Value}{d:Option Tmp}{v:Value}:(⟨T,ds⟩:Act).put d v=⟨((⟨T,ds⟩:Act).put d v).tmps,ds⟩:=by cases d<;>rfl
theorem ZN{T:Array Value}{d:Option Tmp}{v:Value}{t:Nat}(h:d≠some t):((⟨T,ds⟩:Act).put d v).tmps[t]? =T[t]? :=by
 cases d with
 |none=>rfl
 |some e=>
  show(T.setIfInBounds e v)[t]? =T[t]?;exact Zd6 λh'=>h (by rw[h'])
theorem abP{o:Oper}{K:Act->World->Prop}{K':Act->World->Prop}{Q:Exit->Act->World->Prop}{T:Array Value}{w:World}(h:MU P o K ⟨T,ds⟩ w)
  (hK:∀v w',K ((⟨T,ds⟩:Act).put o.dst v) w'->K' ((⟨T,D⟩:Act).put o.dst v) w'):o.wpIn (Fc r) n P ⟨T,D⟩ w K' Q:=by
 refine⟨λ_ _=>trivial,?_⟩;have he:(⟨T,D⟩:Act).eval=(⟨T,ds⟩:Act).eval:=funext λ_=>C3
 rw[he];unfold MU at h;have hs:o.semAt r (⟨T,ds⟩:Act).eval=execOp (⟨T,ds⟩:Act).eval o:=by
  cases r with
  |none=>rfl
  | some l=>
    unfold Oper.semAt;(cases ho:o.op<;>first|rfl|skip);exfalso;unfold execOp at h;rw[ho]at h;simp only[Sem.run_bind,Sem.run_pure]at h;cases hr:(resolve (⟨T,ds⟩:Act).eval _ o.type).run P w<;>rw[hr]at h<;>simp[Result.andThen,Reaches]at h
 show o.uponIn (Fc r) n P _ _ _ ((o.semAt r (⟨T,ds⟩:Act).eval).run P w);rw[hs];generalize (execOp (⟨T,ds⟩:Act).eval o).run P w=z at h;cases z with
 |ok m w'=>
  cases m<;>simp only[Reaches]at h
  .exact hK _ _ h
  .exact hK _ _ h
  .exact⟨λhd=>by simp[Fence.wide]at hd,(ZM h).mono λe w he=>by cases e<;>first|exact hK _ _ he|exact he.elim⟩
  .exact⟨λhd=>by simp[Fence.wide]at hd,(abN h).mono λv w he=>hK _ _ he⟩
 |halt v w'=>simp only[Reaches]at h
theorem TX{ops:Array Oper}{i:Nat}{K K':Act->World->Prop}{Q:Exit->Act->World->Prop}{T:Array Value}{w:World}(h:zZ P ops i K ⟨T,ds⟩ w)(b7:∀o,ops[i]? =some o->∀t,o.dst=some t->¬ts t)
   (hx:∀t,ts t->T[t]? =x[t]?) (hK:∀T' w',(∀t,ts t->T'[t]? =x[t]?)->K ⟨T',ds⟩ w'->K' ⟨T',D⟩ w'):wpOpIn (Fc r) n P ops Q i K' ⟨T,D⟩ w:=by
 unfold zZ at h;unfold wpOpIn;split at h
 .rename_i ho;rw[ho];exact hK _ _ hx h
 . (rename_i o ho;rw[ho];have Vi:∀v t,ts t->((⟨T,D⟩:Act).put o.dst v).tmps[t]? =x[t]? :=λv t ht=>by rw[ZN (λhd=>b7 o ho t hd ht)];exact hx t ht);have mA:∀v w',K ((⟨T,ds⟩:Act).put o.dst v) w'->K' ((⟨T,D⟩:Act).put o.dst v) w':=λv w' hk=>by rw[acL (D:=D)]at hk;rw[abO];exact hK _ _ (Vi v) hk
   show if Region.wanted o (yielded ops T)=true then _ else _
   dsimp only at h;split at h
   .rename_i hw;rw[Za8 hw];exact abP h mA
   .rename_i hw;rw[Za5 hw];exact⟨λ_ _=>trivial,mA _ _ h⟩
theorem Xg{ops:Array Oper}(b7:∀t∈ops.toList.filterMap (·.dst),¬ts t){i:Nat}:∀o,ops[i]? =some o->∀t,o.dst=some t->¬ts t:=λo ho t ht=>b7 t (by
 rw[Zl2];exact⟨o,by rw[Zk2];exact Zk0 ho,ht⟩)
theorem D5{ops:Array Oper}{K:Act->World->Prop}{Q:Exit->Act->World->Prop}{l2:List Nat}(hK:∀T' w',(∀t,ts t->T'[t]? =x[t]?)->K ⟨T',ds⟩ w'->wpOpsIn (Fc r) n P ops Q l2 ⟨T',D⟩ w'):
  ∀(l:List Nat)(T:Array Value)(w:World),(∀i∈l,∀o,ops[i]? =some o->∀t,o.dst=some t->¬ts t)->(∀t,ts t->T[t]? =x[t]?)->oo P ops K l ⟨T,ds⟩ w->wpOpsIn (Fc r) n P ops Q (l++l2) ⟨T,D⟩ w
 |[],T,w,_,hx,h=>hK T w hx h
 |i::l,T,w,b7,hx,h=>by rw[Zf3,wpOpsIn_cons];exact TX h (b7 i (Zc2 ..)) hx λT' w' pU hk=>D5 hK l T' w' (λj hj=>b7 j (Za6 _ hj)) pU hk
theorem QN{ops:Array Oper}{K K':Act->World->Prop}{Q:Exit->Act->World->Prop}(hQ:Q .normal=K')(b7:∀t∈ops.toList.filterMap (·.dst),¬ts t)(hK:∀T' w',(∀t,ts t->T'[t]? =x[t]?)->K ⟨T',ds⟩ w'->K' ⟨T',D⟩ w'):
  ∀(fuel:Nat)(listed:Array Bool)(T:Array Value)(w:World),(∀t,ts t->T[t]? =x[t]?)->P1 P ops K fuel listed ⟨T,ds⟩ w->wpAnyIn (Fc r) n P .any ops Q fuel listed ⟨T,D⟩ w
 |0,listed,T,w,hx,h=>⟨h.1,by rw[hQ];exact hK T w hx h.2⟩
 |fuel+1,listed,T,w,hx,h=>⟨λhr=>by rw[hQ];exact hK T w hx (h.1 hr),λi hi=>TX (h.2 i hi) (Xg b7) hx λT' w' pU hk=>QN hQ b7 hK fuel _ T' w' pU hk⟩
theorem dZ.TY:∀(c:Code)(Q:Exit->Act->World->Prop)(T:Array Value)(w:World),(∀t∈oq c,¬ts t)->(∀t,ts t->T[t]? =x[t]?)->dZ P c Q ⟨T,ds⟩ w->
  c.wpIn (Fc r) n P (InF D ds ts x Q) ⟨T,D⟩ w:=by
 intro c;induction c with
 |skip=>exact λQ T w _ hx h=>wpIn_skip ⟨rfl,hx,h⟩
 |region i ops d=>
  intro Q T w b7 hx h;cases d
  .refine wpIn_region ?_;rw[<-Ze8 (List.range ops.size)];exact D5 (λT' w' pU hk=>by show InF D ds ts x Q .normal _ _;exact⟨rfl,pU,hk⟩) _ T w (λ_ _=>Xg b7) hx h
  .exact wpIn_region_any h.1 (QN rfl b7 (λT' w' pU hk=>⟨rfl,pU,hk⟩) _ _ T _ hx h.2)
 |seq a b QO QT=>
  intro Q T w b7 hx h;refine wpIn_seq (wpIn_mono (QO _ T w (λt ht=>b7 t (Zg5 _ ht)) hx h) ?_);rintro e ⟨T',D'⟩ w' ⟨h1,h2,h3⟩;dsimp only at h1;subst h1;cases e with
  |normal=>exact QT Q T' w' (λt ht=>b7 t (Zi3 _ ht)) h2 h3
  |_=>exact⟨rfl,h2,h3⟩
 |cond c a b QO QT=>
  intro Q T w b7 hx h;obtain⟨t,ht,h⟩:=h;refine wpIn_cond (t:=t) (by rw[<-ht];exact C3) ?_;cases t
  .exact QT Q T w (λt ht=>b7 t (Zi3 _ ht)) hx h
  .exact QO Q T w (λt ht=>b7 t (Zg5 _ ht)) hx h
 |block id a ih=>
  intro Q T w b7 hx h;refine wpIn_block (wpIn_mono (ih _ T w b7 hx h) ?_);rintro e a' w' ⟨h1,h2,h3⟩;cases e with
  | exit i=>
    simp only[Exit.inBlock]at h3 ⊢;split<;>(rename_i hi;first|rw[Za8 hi]at h3|rw[Za5 hi]at h3)<;>exact⟨h1,h2,h3⟩
  |_=>exact⟨h1,h2,h3⟩
 |loop a ih=>
  intro Q T w b7 hx h;obtain⟨m,h⟩:=h;refine wpIn_loop_rounds m ?_;induction m generalizing T w with
  |zero=>exact h.elim
  | succ m ihm=>
    rw[roundsIn_succ];refine wpIn_mono (ih _ T w b7 hx h) ?_;rintro e ⟨T',D'⟩ w' ⟨h1,h2,h3⟩;dsimp only at h1;subst h1;cases e with
    |normal=>exact ihm T' w' h2 h3
    |_=>exact⟨rfl,h2,h3⟩
 |exit id=>exact λQ T w _ hx h=>wpIn_exit ⟨rfl,hx,h⟩
 |ret=>exact λQ T w _ hx h=>wpIn_ret ⟨rfl,hx,h⟩
 |_=>exact λQ T w _ _ h=>h.elim
theorem dZ.wp{c:Code}{Q:Exit->Act->World->Prop}{a:Act}{w:World}(h:dZ P c Q a w):c.wp P Q a w:=by refine wpIn_wide (n:=0) |>.1 (wpIn_mono (dZ.TY (r:=none) (D:=a.defers) (ds:=a.defers) (ts:=λ_=>False) (x:= #[]) c Q a.tmps w (λ_ _ h=>h) (λ_ h=>h.elim) h) ?_);rintro e ⟨T,D⟩ w' ⟨h1,_,h3⟩;dsimp only at h1;subst h1;exact h3
end
end
section
open Go Go.RowKit
def kT(ρ:Pos->Loc)(C:Cells)(st:St)(w:World)(v:AV)(st':St)(x:Value)(w':World):Prop:=
 ∃ρ',aj ρ' st'.next.toNat C v x/\(∀b:Pos,b.toNat<st.next.toNat->ρ' b=ρ b)/\st.next.toNat<=st'.next.toNat/\aV ρ' C st' w'/\je ρ st w ρ' st' w'
def ey(P:Program)(C:Cells)(call:ai):Prop:=
 ∀  (ρ:Pos->Loc)(st:St)(w:World)(f:FuncId)(args:List AV)(v:AV)(st':St)(bC:List Value),call f args st=some (v,st')->
    aV ρ C st w->av ρ st.next.toNat C args bC->Reaches P (kT ρ C st w v st') ((callFunc f bC.toArray).run P w)
section
variable{P:Program}{tt:TT}{C:Cells}{call:ai}
theorem St.QU(st:St)(del:Option Pos)(set:Option (Pos×AB))(new:Option AB):st.next.toNat<=(st.aD del set new).next.toNat:=by
 cases new with
 |none=>exact Za4 _
 |some x=>simp only[St.aD,Pos.az];omega
theorem Jm(hT:bH P tt)(bE:ey P C call){ρ:Pos->Loc}{st st':St}{w:World}{k:ay}{xs:List dK}{cls:TM}{fr:Fr}{a:Act}{o:Oper}{vs:List AV}{v:AV}
   (hc:fy tt o.op=some (k,xs,cls)) (hW:aV ρ C st w) (hF:eJ ρ st.next.toNat C fr a.tmps) (hx:dL fr xs=some vs)
   (hs:bS call k vs st=some (v,st')):Reaches P (kT ρ C st w v st') ((execOp a.eval o).run P w):=by
 have H:=It hT o.op ρ C st w k xs cls fr a o vs;unfold bS at hs;split at hs
 . rename_i u hr;simp only[H0,Zb3]at hs;obtain⟨rfl,rfl⟩:=hs;obtain⟨N,x,he,hy,hv⟩:=H _ rfl hc hW hF hx hr;have hp:kT ρ C st w u st x w:=⟨ρ,hv,λ_ _=>rfl,Za4 _,hW,je.refl _ _ _⟩
   rw[he];rcases hy with rfl|⟨rfl,rfl⟩<;>exact hp
 . rename_i u del set new hr;simp only[H0,Zb3]at hs;obtain⟨rfl,rfl⟩:=hs;obtain⟨N,x,w',ρ',he,hy,aR,dY,hv,hE⟩:=H _ rfl hc hW hF hx hr;have hp:kT ρ C st w u (st.aD del set new) x w':=⟨ρ',hv,aR,St.QU _ _ _ _,dY,hE⟩
   rw[he];rcases hy with rfl|⟨rfl,rfl⟩<;>exact hp
 .rename_i f args hr;obtain⟨bC,he,hv⟩:=H _ rfl hc hW hF hx hr;rw[he];exact bE ρ st w f args v st' bC hs hW hv
 .cases hs
structure qW(tt:TT)(nt:Nat)(ops:Array Oper)(o:Oper)(ao:bk):Prop where
 dst:ao.dst=o.dst.map key
 lt:∀d,o.dst=some d->d<nt
 guard:K5 ops o.guard=some ao.guard
 op:(fy tt o.op=some (ao.k,ao.xs,ao.cls))\/(ao.k= .bad/\ao.cls= .aD)
theorem mQ{nt:Nat}{ops:Array Oper}:∀{os:List Oper}{bs:List Nat}{l:List bk},mz tt nt ops os bs=some l->
  l.length=os.length/\∀(i:Nat)(o:Oper),os[i]? =some o->∃ao,l[i]? =some ao/\qW tt nt ops o ao/\ao.bu=bs.getD i 0
 |[],bs,l,h=>by simp[mz]at h;subst h;exact⟨rfl,λi o ho=>by simp at ho⟩
 |o ::os,bs,l,h=>by
  unfold mz at h;split at h<;>first|(cases h;done)|skip
  rename_i g l' hg hl hd;obtain⟨h1,h2⟩:=mQ hl;have aU:∀d,o.dst=some d->d<nt:=λd hdd=>by rw[hdd]at hd;simpa [mz.abl]using hd
  have hb:∀i,bs.tail.getD i 0=bs.getD (i+1) 0:=λi=>by cases bs<;>simp
  have hb0:bs.headD 0=bs.getD 0 0:=by cases bs<;>simp
  split at h
  . rename_i k xs cls hc;simp only[H0]at h;subst h;refine⟨by simp[h1],λi o' ho=> ?_⟩;cases i with
    |   zero=>
        simp at ho;subst ho;exact⟨_,rfl,⟨rfl,aU,hg,.inl hc⟩,hb0⟩
    |   succ i=>
        simp at ho;obtain⟨ao,h3,h4,h5⟩:=h2 i o' ho;exact⟨ao,by simpa using h3,h4,by rw[h5,hb]⟩
  . simp only[H0]at h;subst h;refine⟨by simp[h1],λi o' ho=> ?_⟩;cases i with
    |   zero=>
        simp at ho;subst ho;exact⟨_,rfl,⟨rfl,aU,hg,.inr ⟨rfl,rfl⟩⟩,hb0⟩
    |   succ i=>
        simp at ho;obtain⟨ao,h3,h4,h5⟩:=h2 i o' ho;exact⟨ao,by simpa using h3,h4,by rw[h5,hb]⟩
theorem z8{ops:Array Oper}{ρ:Pos->Loc}{n:Nat}{fr:Fr}{a:Act}{o:Oper}{g:Option (Pos×Bool)}{b:Bool}(hg:K5 ops o.guard=some g)
   (hF:∀p v,fr.get p=some v->(∃q,g=some (p,q))->∃x,a.tmps[p.toNat - 1]? =some x/\aj ρ n C v x)
   (hw:bG fr g=some b):Region.wanted o (yielded ops a.tmps)=b:=by
 unfold Region.wanted;unfold K5 at hg;split at hg
 .rename_i hn;simp only[H0]at hg;subst hg;simp only[bG,H0]at hw;subst hw;rw[hn]
 . rename_i j want hn;rw[hn];(split at hg<;>first|(cases hg;done)|skip);rename_i oj hj;(split at hg<;>first|(cases hg;done)|skip);rename_i d hd;simp only[H0]at hg;subst hg;simp only[bG]at hw;split at hw
   .rename_i u hu;simp only[H0]at hw;subst hw;obtain⟨x,hx,hv⟩:=hF _ _ hu ⟨_,rfl⟩;rw[eo,Ze9]at hx;have:=hv.fS;subst this;simp[yielded,hj,hd,hx]
   .rename_i l hu;simp only[H0]at hw;subst hw;obtain⟨x,hx,hv⟩:=hF _ _ hu ⟨_,rfl⟩;rw[eo,Ze9]at hx;obtain⟨cs,rfl,_⟩:=hv.NU;simp[yielded,hj,hd,hx]
   .cases hw
theorem aj.Oe{ρ:Pos->Loc}{n:Nat}:aj ρ n C AV.undef undef:= .tuple [] #[] rfl λ_ _ _ h=>by simp at h
theorem Act.gI(a:Act)(d:Option Tmp)(v:Value):(a.put d v).tmps.size=a.tmps.size:=by cases d<;>simp[Act.put]
theorem Act.iF(a:Act)(d:Option Tmp)(v:Value):(a.put d v).defers=a.defers:=by cases d<;>rfl
theorem eJ.put{ρ:Pos->Loc}{n nt:Nat}{fr:Fr}{a:Act}{d:Option Tmp}{v:AV}{x:Value}(hF:eJ ρ n C fr a.tmps)(hs:a.tmps.size=nt)
  (hd:∀e,d=some e->e<nt) (hv:aj ρ n C v x):eJ ρ n C (cH fr (d.map key) v) (a.put d x).tmps:=by
 cases d with
 |none=>exact hF
 |some e=>
  have he:=hd e rfl;intro p u hp;simp only[Ze5,cH]at hp;simp only[Act.put];by_cases Lr:key e=p
  .subst Lr;rw[T.ee]at hp;simp only[H0]at hp;subst hp;refine⟨x,?_,hv⟩;rw[eo,Ze9,Zj9];simp[hs,he]
  .rw[T.br _ Lr]at hp;obtain⟨y,hy,hr⟩:=hF p u hp;refine⟨y,?_,hr⟩;rw[Zd6,hy];intro h;apply Lr;apply Pos.toNat_inj;rw[eo];have:=p.toNat_pos;omega
theorem eJ.mono{ρ ρ':Pos->Loc}{n n':Nat}{fr:Fr}{tmps:Array Value}(hF:eJ ρ n C fr tmps)(aR:∀b:Pos,b.toNat<n->ρ' b=ρ b)(hn:n<=n'):eJ ρ' n' C fr tmps:=
 λp v hp=>let⟨x,hx,hv⟩:=hF p v hp;⟨x,hx,hv.mono aR hn⟩
structure lS(nt:Nat)(ρ:Pos->Loc)(C:Cells)(fr:Fr)(st:St)(a:Act)(w:World):Prop where
 W:aV ρ C st w
 F:eJ ρ st.next.toNat C fr a.tmps
 size:a.tmps.size=nt
 defers:a.defers=[]
def eP(nt:Nat)(ρ:Pos->Loc)(C:Cells)(st:St)(w:World)(aY:Fr)(st':St)(a':Act)(w':World):Prop:=
 ∃ρ',lS nt ρ' C aY st' a' w'/\(∀b:Pos,b.toNat<st.next.toNat->ρ' b=ρ b)/\st.next.toNat<=st'.next.toNat/\je ρ st w ρ' st' w'
theorem eP.refl{nt:Nat}{ρ:Pos->Loc}{fr:Fr}{st:St}{a:Act}{w:World}(h:lS nt ρ C fr st a w):eP nt ρ C st w fr st a w:=
 ⟨ρ,h,λ_ _=>rfl,Za4 _,je.refl _ _ _⟩
theorem eP.trans{nt:Nat}{ρ dB:Pos->Loc}{rA:Fr}{st aJ jz:St}{a2:Act}{w w1 w2:World}
  (h1:∀b:Pos,b.toNat<st.next.toNat->dB b=ρ b) (h2:st.next.toNat<=aJ.next.toNat) (h3:je ρ st w dB aJ w1)
  (h:eP nt dB C aJ w1 rA jz a2 w2):eP nt ρ C st w rA jz a2 w2:=by
 obtain⟨kO,k1,k2,k3,k4⟩:=h;exact⟨kO,k1,λb hb=>(k2 b (Zc5 hb h2)).trans (h1 b hb),Zc4 h2 k3,h3.trans k4⟩
theorem Reaches.bad{k:ay}{vs:List AV}{st:St}{r:AV×St}(hk:k= .bad)(h:bS call k vs st=some r):False:=by subst hk;simp[bS,ay.run]at h
theorem ot(hT:bH P tt)(bE:ey P C call){nt:Nat}{ops:Array Oper}{K:Act->World->Prop}:∀(QV:List bk)(k:Nat)(fr aY:Fr)(st st':St)(ρ:Pos->Loc)(a:Act)(w:World),
  (∀(i:Nat)(ao:bk),QV[i]? =some ao->∃o,ops[k+i]? =some o/\qW tt nt ops o ao)->
  iA call QV fr st=some (aY,st')->lS nt ρ C fr st a w->(∀a' w',eP nt ρ C st w aY st' a' w'->K a' w')->oo P ops K (List.range' k QV.length) a w
 |[],k,fr,aY,st,st',ρ,a,w,_,h,hS,hQ=>by
  simp only[iA,H0,Zb3]at h;obtain⟨rfl,rfl⟩:=h;exact hQ a w (eP.refl hS)
 |ao::QV,k,fr,aY,st,st',ρ,a,w,ho,h,hS,hQ=>by
  obtain⟨o,dH,hR⟩:=ho 0 ao rfl;rw[Zf0]at dH;have Bw:∀(i:Nat)(Xh:bk),QV[i]? =some Xh->∃o,ops[k+1+i]? =some o/\qW tt nt ops o Xh:=λi Xh hi=>by
    obtain⟨o',h1,h2⟩:=ho (i+1) Xh (by simpa using hi);exact⟨o',by rw[<-h1];congr 1;omega,h2⟩
  simp only[Ze2,Zm5,oo,zZ,dH];unfold iA at h;split at h
  . rename_i hw;rw[Za8 (z8 hR.guard (λp v hp _=>hS.F p v hp) hw)];(split at h<;>first|(cases h;done)|skip);rename_i vs gQ;(split at h<;>first|(cases h;done)|skip);rename_i v aJ jg;rcases hR.op with hc|⟨hk,_⟩
    .   have hr:=Jm hT bE hc hS.W hS.F gQ jg;(refine hr.mono λx w1 hp=> ?_);obtain⟨dB,hv,h1,h2,QW,hE⟩:=hp;rw[hR.dst]at h;refine ot hT bE QV (k+1) _ aY aJ st' dB _ w1 Bw h ⟨QW,eJ.put (hS.F.mono h1 h2) hS.size hR.lt hv,by rw[Act.gI];exact hS.size,by rw[Act.iF];exact hS.defers⟩ λa' w' hp=>hQ a' w' (eP.trans h1 h2 hE hp)
    .   exact(Reaches.bad hk jg).elim
  .rename_i hw;rw[Za5 (by rw[z8 hR.guard (λp v hp _=>hS.F p v hp) hw];simp)];rw[hR.dst]at h;exact ot hT bE QV (k+1) _ aY st st' ρ _ w Bw h ⟨hS.W,eJ.put hS.F hS.size hR.lt .Oe,by rw[Act.gI];exact hS.size,by rw[Act.iF];exact hS.defers⟩ hQ
  .cases h
theorem wD{nt:Nat}{ops:Array Oper}{l:List bk}{bs:List Nat}(h:mz tt nt ops ops.toList bs=some l)(i:Nat)(ao:bk)(hi:l[i]? =some ao):
  ∃o,ops[i]? =some o/\qW tt nt ops o ao/\ao.bu=bs.getD i 0:=by
 obtain⟨h1,h2⟩:=mQ h;have aU:i<ops.toList.length:=by rw[<-h1];exact(Za1.1 hi).1
 obtain⟨Xh,h3,h4,h5⟩:=h2 i _ (H4 aU);rw[hi]at h3;simp only[H0]at h3;subst h3;exact⟨_,by rw[<-Zg1];exact H4 aU,h4,h5⟩
theorem QX(hT:bH P tt)(bE:ey P C call){nt id:Nat}{ops:Array Oper}{bs:List Nat}{l:List bk}{Q:Exit->Act->World->Prop}{fr aY:Fr}{st st':St}{ρ:Pos->Loc}{a:Act}{w:World}
  (hl:mz tt nt ops ops.toList bs=some l) (h:iA call l fr st=some (aY,st')) (hS:lS nt ρ C fr st a w)
  (hQ:∀a' w',eP nt ρ C st w aY st' a' w'->Q .normal a' w'):dZ P (Code.region id ops false) Q a w:=by
 show oo P ops (Q .normal) (List.range ops.size) a w;have hlen:l.length=ops.size:=by rw[(mQ hl).1,Zf1]
 rw[Zk3, <-hlen];exact ot hT bE l 0 fr aY st st' ρ a w (λi ao hi=>by
  obtain⟨o,h1,h2,_⟩:=wD hl i ao hi;exact⟨o,by rw[Zc7];exact h1,h2⟩) h hS hQ
end
section
variable{P:Program}{tt:TT}{C:Cells}{call:ai}
def o7(P:Program)(tt:TT)(C:Cells)(call:ai):Prop:=
 ∀  (nt id:Nat)(ops:Array Oper)(l:List bk)(Q:Exit->Act->World->Prop)(fr aY:Fr)(st st':St)(ρ:Pos->Loc)(a:Act)(w:World),
    mz tt nt ops ops.toList (Qu ops.toList [])=some l->CP l.length 0 (sW (zP 0 l) [])=true->cF call (sW (zP 0 l) []) [] st.heap fr st=some (aY,st')->lS nt ρ C fr st a w->
    (∀a' w',eP nt ρ C st w aY st' a' w'->Q .normal a' w')->dZ P (Code.region id ops true) Q a w
def l9:iL->Exit
 |.normal=>.normal
 |.exit id=>.exit id
 |.ret=>.ret
def Lt(P:Program)(tt:TT)(C:Cells)(call:ai)(nt m:Nat):Prop:=
 ∀  (c:Code)(ac:AC)(fr aY:Fr)(st st':St)(ex:iL)(ρ:Pos->Loc)(a:Act)(w:World)(Q:Exit->Act->World->Prop),
    pS tt nt c=some ac->exec call m ac fr st=some (ex,aY,st')->lS nt ρ C fr st a w->
    (∀a' w',eP nt ρ C st w aY st' a' w'->Q (l9 ex) a' w')->dZ P c Q a w
def Lu(P:Program)(tt:TT)(C:Cells)(call:ai)(nt m:Nat):Prop:=
 ∀  (c:Code)(ac:AC)(fr aY:Fr)(st st':St)(ex:iL)(ρ:Pos->Loc)(a:Act)(w:World)(Q:Exit->Act->World->Prop),
    pS tt nt c=some ac->exec call m (.loop ac) fr st=some (ex,aY,st')->lS nt ρ C fr st a w->
    (∀a' w',eP nt ρ C st w aY st' a' w'->Q (l9 ex) a' w')->Gu (dZ P c) Q m a w
theorem Of{nt m:Nat}(z9:Lt P tt C call nt m)(ihL:Lu P tt C call nt m):Lu P tt C call nt (m+1):=by
 intro c ac fr aY st st' ex ρ a w Q hc h hS hQ;simp only[exec,aZ]at h;show dZ P c (Exit.then (Gu (dZ P c) Q m) Q) a w;split at h
 .rename_i bJ aJ h1;(refine z9 c ac fr bJ st aJ .normal ρ a w _ hc h1 hS λa1 w1 hp=> ?_);obtain⟨dB,qu,k1,k2,k3⟩:=hp;exact ihL c ac bJ aY aJ st' ex dB a1 w1 Q hc h qu λa2 w2 hp=>hQ a2 w2 (eP.trans k1 k2 k3 hp)
 . rename_i cG;cases ex with
   |normal=>exact(cG _ _ h).elim
   |exit id=>exact z9 c ac fr aY st st' (.exit id) ρ a w _ hc h hS λa1 w1 hp=>hQ a1 w1 hp
   |ret=>exact z9 c ac fr aY st st' .ret ρ a w _ hc h hS λa1 w1 hp=>hQ a1 w1 hp
theorem Xi(hT:bH P tt)(bE:ey P C call)(fk:o7 P tt C call){nt m:Nat}(z9:Lt P tt C call nt m)(ihL:Lu P tt C call nt m):Lt P tt C call nt (m+1):=by
 intro c ac fr aY st st' ex ρ a w Q hc h hS hQ;have ads:=Of z9 ihL;unfold pS at hc;split at hc<;>first|(cases hc;done)|skip
 .simp only[H0]at hc;subst hc;simp only[exec,aZ,H0,Zb3]at h;obtain⟨rfl,rfl,rfl⟩:=h;exact hQ _ _ (eP.refl hS)
 . rename_i ix ops draw;(split at hc<;>first|(cases hc;done)|skip);rename_i l hl;split at hc
   .simp only[H0]at hc;subst hc;simp only[exec,aZ]at h;(split at h<;>first|(cases h;done)|skip);rename_i bJ aJ h1;simp only[H0,Zb3]at h;obtain⟨rfl,rfl,rfl⟩:=h;exact QX hT bE hl h1 hS hQ
   . (split at hc<;>first|(cases hc;done)|skip);rename_i ht;simp only[H0]at hc;subst hc;simp only[exec,aZ]at h;(split at h<;>first|(cases h;done)|skip);rename_i bJ aJ h1;simp only[H0,Zb3]at h;obtain⟨rfl,rfl,rfl⟩:=h;exact fk nt _ ops l Q fr bJ st aJ ρ a w hl ht h1 hS hQ
 . (split at hc<;>first|(cases hc;done)|skip);rename_i x y h1 h2;simp only[H0]at hc;subst hc;simp only[exec,aZ]at h;show dZ P _ (Exit.then (dZ P _ Q) Q) a w;split at h
   .rename_i bJ aJ h3;(refine z9 _ _ fr bJ st aJ .normal ρ a w _ h1 h3 hS λa1 w1 hp=> ?_);obtain⟨dB,qu,k1,k2,k3⟩:=hp;exact z9 _ _ bJ aY aJ st' ex dB a1 w1 Q h2 h qu λa2 w2 hp=>hQ a2 w2 (eP.trans k1 k2 k3 hp)
   . rename_i cG;cases ex with
     |normal=>exact(cG _ _ h).elim
     |exit id=>exact z9 _ _ fr aY st st' (.exit id) ρ a w _ h1 h hS λa1 w1 hp=>hQ a1 w1 hp
     |ret=>exact z9 _ _ fr aY st st' .ret ρ a w _ h1 h hS λa1 w1 hp=>hQ a1 w1 hp
 . (split at hc<;>first|(cases hc;done)|skip);rename_i x y z h1 h2 h3;simp only[H0]at hc;subst hc;simp only[exec,aZ]at h;split at h
   .rename_i hx;exact⟨true,(oh h1 hS.F hx).fS,(z9 _ _ fr aY st st' ex ρ a w Q h2 h hS hQ)⟩
   .rename_i hx;exact⟨false,(oh h1 hS.F hx).fS,(z9 _ _ fr aY st st' ex ρ a w Q h3 h hS hQ)⟩
   .cases h
 . (split at hc<;>first|(cases hc;done)|skip);rename_i x h1;simp only[H0]at hc;subst hc;simp only[exec,aZ]at h;show dZ P _ (Exit.inBlock _ Q) a w;split at h
   . rename_i pR bJ aJ h2;split at h
     .  rename_i he;simp only[H0,Zb3]at h;obtain⟨rfl,rfl,rfl⟩:=h;have:=Za0 he;subst this;exact z9 _ _ fr bJ st aJ (.exit pR) ρ a w _ h1 h2 hS λa1 w1 hp=>by simp only[l9,Exit.inBlock,Zg8];exact hQ a1 w1 hp
     .  rename_i he;simp only[H0,Zb3]at h;obtain⟨rfl,rfl,rfl⟩:=h;have:=Zb4 he;exact z9 _ _ fr bJ st aJ (.exit pR) ρ a w _ h1 h2 hS λa1 w1 hp=>by simp only[l9,Exit.inBlock,Za5 this];exact hQ a1 w1 hp
   . rename_i cG;cases ex with
     |normal=>exact z9 _ _ fr aY st st' .normal ρ a w _ h1 h hS λa1 w1 hp=>hQ a1 w1 hp
     |exit id=>exact(cG _ _ _ h).elim
     |ret=>exact z9 _ _ fr aY st st' .ret ρ a w _ h1 h hS λa1 w1 hp=>hQ a1 w1 hp
 . (split at hc<;>first|(cases hc;done)|skip);rename_i x h1;simp only[H0]at hc;subst hc;exact⟨m+1,ads _ _ fr aY st st' ex ρ a w Q h1 h hS hQ⟩
 .simp only[H0]at hc;subst hc;simp only[exec,aZ,H0,Zb3]at h;obtain⟨rfl,rfl,rfl⟩:=h;exact hQ _ _ (eP.refl hS)
 .simp only[H0]at hc;subst hc;simp only[exec,aZ,H0,Zb3]at h;obtain⟨rfl,rfl,rfl⟩:=h;exact hQ _ _ (eP.refl hS)
 .simp only[H0]at hc;subst hc;simp[exec,aZ,iA,bG,dL,bS,ay.run]at h
theorem ou(hT:bH P tt)(bE:ey P C call)(fk:o7 P tt C call){nt:Nat}:∀m,Lt P tt C call nt m/\Lu P tt C call nt m
 |0=>⟨λc ac fr aY st st' ex ρ a w Q hc h=>by simp[exec]at h,λc ac fr aY st st' ex ρ a w Q hc h=>by simp[exec]at h⟩
 |m+1=>let⟨h1,h2⟩:=ou hT bE fk m;⟨Xi hT bE fk h1 h2,Of h1 h2⟩
def Iu(tmps:Array Value):ResultVar->Sem Value
 |.tmp t=>pure (tmps.getD t undef)
 |.cell a t=>do loadVar t (<-asAddr (tmps.getD a undef))
theorem Vj(hT:bH P tt){ρ:Pos->Loc}{st:St}{w:World}{fr:Fr}{a:Act}{x:Tmp}{t:TypeId}{ti:TI}{q v:AV}(cm:tt.get (key t)=some ti)
  (hW:aV ρ C st w) (hF:eJ ρ st.next.toNat C fr a.tmps) (hq:fr.get (key x)=some q) (hr:(ay.load (uy ti)).run (λb=>st.heap.get b) .h [q]=some (.val v)):
  ∃y,(Iu a.tmps (.cell x t)).run P w= .ok y w/\aj ρ st.next.toNat C v y:=by
 have hc:fy tt (.load t (.tmp x))=some (.load (uy ti),[.t (key x)],.read):=by simp[fy,cm,jY]
 have hx:dL fr [.t (key x)]=some [q]:=by simp[dL,xC,hq]
 have o6:(ay.load (uy ti)).run (λb=>st.heap.get b) st.next [q]=some (.val v):=hr;obtain⟨N,y,he,hy,hv⟩:=It hT (.load t (.tmp x)) ρ C st w _ _ _ fr a { dst:=none,op:= .load t (.tmp x),type:=t,pos:=default,after:= #[],guard:=none } _ _ rfl hc hW hF hx o6;refine⟨y,?_,hv⟩;simp only[execOp,Instr.loadAt,Act.eval]at he;simp only[Iu];obtain⟨z,hz,hzq⟩:=hF _ _ hq;rw[eo,Ze9]at hz;have hzd:a.tmps.getD x undef=z:=by simp[Zh7,hz]
 rw[hzd]at he ⊢;have hp:∃ad,z= .pointer (some ad):=by
  simp only[ay.run,qP]at hr;split at hr<;>first|(cases hr;done)|skip
  .obtain⟨_,h⟩:=hzq.ei;exact⟨_,h⟩
  .obtain⟨_,_,_,_,h,_⟩:=hzq.CR;exact⟨_,h⟩
 obtain⟨ad,rfl⟩:=hp;simp only[Instr.sureAddr,asAddr,Sem.run_bind,Sem.run_pure,Result.andThen]at he ⊢;cases hl:(loadVar t ad).run P w with
 |ok u w1=>
  rw[hl]at he;simp at he;obtain⟨h1,h2⟩:=he;subst h2;rcases hy with hy|⟨hy,_⟩
  .rw[hy]at h1;simp at h1;rw[h1]
  .rw[hy]at h1;simp at h1
 |halt u w1=>rw[hl]at he;simp at he
theorem Aa(hT:bH P tt){ρ:Pos->Loc}{st:St}{w:World}{fr:Fr}{a:Act}(hW:aV ρ C st w)(hF:eJ ρ st.next.toNat C fr a.tmps):
   ∀(rs:List ResultVar)(Lv:List xB)(vs:List AV),kL tt rs=some Lv->b9 (λb=>st.heap.get b) fr Lv=some vs->
    ∃ys,(rs.mapM (Iu a.tmps)).run P w= .ok ys w/\av ρ st.next.toNat C vs ys
 | [],Lv,vs,hc,hr=>by
   simp only[kL,H0]at hc;subst hc;simp only[b9,H0]at hr;subst hr;exact⟨[],by simp,av.nil⟩
 | .tmp t::rs,Lv,vs,hc,hr=>by
   simp only[kL]at hc;(split at hc<;>first|(cases hc;done)|skip);rename_i l hl;simp only[H0]at hc;subst hc;simp only[b9]at hr;(split at hr<;>first|(cases hr;done)|skip);rename_i v hv;(split at hr<;>first|(cases hr;done)|skip);rename_i us WM;simp only[H0]at hr;subst hr;obtain⟨ys,h1,h2⟩:=Aa hT hW hF rs l us hl WM;obtain⟨z,hz,hzq⟩:=hF _ _ hv;rw[eo,Ze9]at hz;refine⟨z::ys,?_,av.cons hzq h2⟩;simp[List.mapM_cons,Iu,h1,Zh7,hz]
 | .cell x t::rs,Lv,vs,hc,hr=>by
   simp only[kL]at hc;(split at hc<;>first|(cases hc;done)|skip);rename_i ti l WT hl;simp only[H0]at hc;subst hc;simp only[b9]at hr;(split at hr<;>first|(cases hr;done)|skip);rename_i q hq;(split at hr<;>first|(cases hr;done)|skip);rename_i v hv;(split at hr<;>first|(cases hr;done)|skip);rename_i us WM;simp only[H0]at hr;subst hr;obtain⟨ys,h1,h2⟩:=Aa hT hW hF rs l us hl WM;obtain⟨y,h3,h4⟩:=Vj hT WT hW hF hq hv;refine⟨y::ys,?_,av.cons h4 h2⟩;simp[List.mapM_cons,h1,h3]
theorem o8(hT:bH P tt){ρ:Pos->Loc}{st:St}{w:World}{fr:Fr}{a:Act}{fn:Func}{Lv:List xB}{vs:List AV}(hW:aV ρ C st w)(hF:eJ ρ st.next.toNat C fr a.tmps)
  (hc:kL tt fn.results.toList=some Lv) (hr:b9 (λb=>st.heap.get b) fr Lv=some vs):
  ∃y,(results fn a.tmps).run P w= .ok y w/\aj ρ st.next.toNat C (fR vs) y:=by
 obtain⟨ys,h1,h2⟩:=Aa hT hW hF _ Lv vs hc hr;have h3:(fn.results.mapM (Iu a.tmps)).run P w= .ok ys.toArray w:=by
  rw[Array.mapM_eq_mapM_toList];simp[h1]
 have h4:(results fn a.tmps).run P w= .ok (if h:ys.toArray.size=1 then ys.toArray[0]else .tuple ys.toArray) w:=by
  have hfun:results fn a.tmps=(fn.results.mapM (Iu a.tmps) >>= λvs=>pure (if h:vs.size=1 then vs[0]else .tuple vs)):=by unfold results;congr 2
  rw[hfun,Sem.run_bind,h3];simp
 refine⟨_,h4,?_⟩;cases vs with
 |nil=>have:=h2.l7;subst this;simp[fR];exact .qm (by simpa using av.nil)
 |cons v vs=>
  obtain⟨y,ys',rfl,hv,gQ⟩:=h2.cons_inv;cases vs with
  |nil=>have:=gQ.l7;subst this;simpa [fR]using hv
  |cons v' vs'=>
   obtain⟨y',ys'',rfl,vN,ZL⟩:=gQ.cons_inv;simp[fR];exact .qm (by simpa using av.cons hv (av.cons vN ZL))
def KV(P:Program)(tt:TT)(G:T cj):Prop:=
 ∀p F,G.get p=some F->∃fn,P.funcs[p.toNat - 1]? =some fn/\(fn.name== "runtime.NumGoroutine")=false/\PY tt fn=some F
def oc(P:Program)(C:Cells)(O:dQ):Prop:=
 ∀  (f:FuncId)(s:List AV->St->Option (AV×St)),O f=some s->
    ∀(ρ:Pos->Loc)(st:St)(w:World)(args:List AV)(v:AV)(st':St)(bC:List Value),s args st=some (v,st')->
     aV ρ C st w->av ρ st.next.toNat C args bC->Reaches P (kT ρ C st w v st') ((callFunc f bC.toArray).run P w)
theorem uD{ρ:Pos->Loc}{n:Nat}{tmps:Array Value}:∀(vs:List AV)(xs:List Value)(i:Nat)(fr:Fr),av ρ n C vs xs->
  (∀(j:Nat)(x:Value),xs[j]? =some x->tmps[i+j]? =some x)->eJ ρ n C fr tmps->eJ ρ n C (params i vs fr) tmps
 |[],_,_,_,_,_,hF=>hF
 |v ::vs,xs,i,fr,h,hx,hF=>by
  obtain⟨x,rW,rfl,hv,gQ⟩:=h.cons_inv;unfold params;refine uD vs rW (i+1) _ gQ (λj y hy=>by rw[<-hx (j+1) y (by simpa using hy)];congr 1;omega) λp u hp=> ?_
  by_cases Lr:key i=p
  .subst Lr;rw[T.ee]at hp;simp only[H0]at hp;subst hp;exact⟨x,by rw[eo,Ze9];exact hx 0 x rfl,hv⟩
  .rw[T.br _ Lr]at hp;exact hF p u hp
theorem Jn(hT:bH P tt){O:dQ}{G:T cj}(hO:oc P C O)(hG:KV P tt G)(m:Nat)(fk:∀d,ey P C (oe O G m d)->o7 P tt C (oe O G m d)):∀d,ey P C (oe O G m d)
 |0=>λρ st w f args v st' bC h=>by simp[oe]at h
 |d +   1 =>by
  intro ρ st w f args v st' bC h hW od;have ih:=Jn hT hO hG m fk d;unfold oe at h;split at h
  .rename_i s hs;exact hO f s hs ρ st w args v st' bC h hW od
  . (split at h<;>first|(cases h;done)|skip);rename_i F hF;(split at h<;>first|(cases h;done)|skip);rename_i hlen;have hlen:=Za0 hlen;obtain⟨fn,yE,iH,Ab⟩:=hG _ _ hF;rw[eo,Ze9]at yE;unfold PY at Ab;(split at Ab<;>first|(cases Ab;done)|skip);rename_i c hb;(split at Ab<;>first|(cases Ab;done)|skip);rename_i ac rs QY Xj hle;simp only[H0]at Ab;subst Ab;simp only at h hlen;have hle:=Za3 hle;have bQ:(callFunc f bC.toArray).run P w= .ok (.enter f bC.toArray) w:=by
        have Ac:¬fn.name= "runtime.NumGoroutine" :=(by simpa using iH);simp[callFunc,yE,Ac,hb]
    rw[bQ];simp only[Reaches];refine calls_of_wp yE hb (dZ.wp ?_);have eD:bC.length<=fn.ntmps:=(by rw[<-od.1,hlen];exact hle);have hS:lS fn.ntmps ρ C (params 0 args .e) st { tmps:=bC.toArray++Array.replicate (fn.ntmps - bC.toArray.size) undef,defers:=[] } w:=by
        refine⟨hW,?_,?_,rfl⟩
        .refine uD args bC 0 .e od (λj x hx=> ?_) (λp v hp=>by rw[T.cY]at hp;cases hp);have hj:j<bC.length:=(Za1.1 hx).1;rw[Zc7,Zg6 (by simpa using hj)];simpa using hx
        .simp;omega
    split at h<;>first|(cases h;done)|skip
    .   rename_i bJ aJ h1;(split at h<;>first|(cases h;done)|skip);rename_i vs gQ;simp only[H0,Zb3]at h;obtain⟨rfl,rfl⟩:=h;(refine(ou hT ih (fk _ ih) m).1 c ac _ bJ st aJ .normal ρ _ w _ QY h1 hS λa' w' hp=> ?_);obtain⟨dB,qu,k1,k2,k3⟩:=hp;obtain⟨y,yF,zU⟩:=o8 hT qu.W qu.F Xj gQ;exact⟨qu.defers,y,yF,dB,zU,k1,k2,qu.W,k3⟩
    .   rename_i bJ aJ h1;(split at h<;>first|(cases h;done)|skip);rename_i vs gQ;simp only[H0,Zb3]at h;obtain⟨rfl,rfl⟩:=h;(refine(ou hT ih (fk _ ih) m).1 c ac _ bJ st aJ .ret ρ _ w _ QY h1 hS λa' w' hp=> ?_);obtain⟨dB,qu,k1,k2,k3⟩:=hp;obtain⟨y,yF,zU⟩:=o8 hT qu.W qu.F Xj gQ;exact⟨qu.defers,y,yF,dB,zU,k1,k2,qu.W,k3⟩
end
end
end Go.Ai
