/- Its operations, second part; regions. -/
import Derived.Test.YtlkadmkojjceiaaGreatDoorTEvalB
import Derived.Laws.IdiomStrings
import Derived.Laws.RangeString
import Derived.Lib.UnsafeStr
import Derived.LoopN
import Derived.LoopNIn
import Derived.OrdersIn
set_option linter.all false
namespace Go.Ai
section
open Go Go.RowKit
section
variable{P:Program}{tt:TT}{ρ:Pos->Loc}{C:Cells}{st:St}{w w':World}
theorem uM(del:Option Pos)(h:T AB){b:Pos}{x:AB}(hb:(DR del h).get b=some x):h.get b=some x/\∀c,del=some c->b≠c:=by
 cases del with
 |none=>exact⟨hb,λ_ h=>by cases h⟩
 |some c=>
  by_cases he:c=b
  .subst he;simp only[DR]at hb;rw[T.dP]at hb;cases hb
  .simp only[DR]at hb;rw[T.bn _ he]at hb;exact⟨hb,λd hd=>by cases hd;exact λe=>he e.symm⟩
theorem tE(hW:aP ρ C st w){o:Obj}{x0:AB}{base size:Nat}(del:Option Pos)(hh:w'.heap=w.heap.push o)(h1:w'.os=w.os)(h2:w'.tape=w.tape)(h3:w'.output=w.output)
   (hB:∀ρ' n',(∀b:Pos,b.toNat<st.next.toNat->ρ' b=ρ b)->st.next.toNat<=n'->j7 ρ' n' C ⟨w.heap.size,base,size⟩ w' x0):
   ∃ρ':Pos->Loc,(∀b:Pos,b.toNat<st.next.toNat->ρ' b=ρ b)/\ρ' st.next=⟨w.heap.size,base,size⟩/\aP ρ' C (st.aG del none (some x0)) w'/\iL ρ st w ρ' (st.aG del none (some x0)) w':=by
 let ρ':Pos->Loc:=λb=>if b=st.next then⟨w.heap.size,base,size⟩else ρ b
 have aN:∀b:Pos,b.toNat<st.next.toNat->ρ' b=ρ b:=λb hb=>Za5 (λe=>by rw[e]at hb;omega)
 have dH:ρ' st.next=⟨w.heap.size,base,size⟩:=Za6 rfl;have ei:w'.heap.size=w.heap.size+1:=by rw[hh];simp
 have hold:∀k,k<w.heap.size->w'.heap[k]? =w.heap[k]? :=λk hk=>by rw[hh,Array.getElem?_push,Za5 (by omega)]
 refine⟨ρ',aN,dH,?_,⟨h1,h2,h3,by omega,λk hk _=>hold k hk,λb x hb=> ?_⟩⟩;rotate_left
 . by_cases he:b=st.next
   .right;rw[he,dH];exact Za1 _
   .left;simp only[St.aG,Gd]at hb;rw[T.bn _ (λe=>he e.symm)]at hb;have iz:=(uM del _ hb).1;exact⟨b,x,iz,by rw[aN b (hW.live b x iz).1]⟩
 refine hW.Xd (b0:=st.next) (x0:=x0) (by rw[Pos.aB];omega) (by rw[Pos.aB];omega) (by rw[T.dP]) ?_ aN (by rw[dH];exact hB _ _ aN (by rw[Pos.aB];omega)) ?_ (by rw[dH,ei];simp) (by omega) (λk hk _=>hold k hk)
 .intro b x hb hx;rw[T.bn _ (λe=>hb e.symm)]at hx;have hx:=(uM del _ hx).1;refine⟨hx,?_⟩;rw[dH];have:=(hW.live b x hx).2.1;simp only;omega
 .intro a v ha;have:=World.block_lt_of_cell? _ _ (hW.cO a v ha).1;rw[dH];simp only;omega
theorem NB(hW:aP ρ C st w){b:Pos}{x x0:AB}(hb:st.heap.get b=some x)(h1:w'.os=w.os)(h2:w'.tape=w.tape)(h3:w'.output=w.output)(ei:w'.heap.size=w.heap.size)
   (sY:∀k,k≠(ρ b).au->w'.heap[k]? =w.heap[k]?) (hB:j7 ρ st.next.toNat C (ρ b) w' x0):
   aP ρ C (st.aG none (some (b,x0)) none) w'/\iL ρ st w ρ (st.aG none (some (b,x0)) none) w':=by
 obtain⟨aY,NC,_⟩:=hW.live b x hb;refine⟨?_,⟨h1,h2,h3,by omega,λk _ hk=>sY k (λe=>hk b x hb e.symm),λc y hc=> ?_⟩⟩;rotate_left
 . left;by_cases he:c=b
   .exact⟨b,x,hb,by rw[he]⟩
   .simp only[St.aG,Gd,DR]at hc;rw[T.bn _ (λe=>he e.symm)]at hc;exact⟨c,y,hc,rfl⟩
 refine hW.Xd (b0:=b) (x0:=x0) (Za1 _) aY (by simp only[Gd,DR];rw[T.dP]) ?_ (λ_ _=>rfl) hB ?_ (by omega) (by omega) (λk _ hk=>sY k hk)
 .intro c y hc hy;simp only[Gd,DR]at hy;rw[T.bn _ (λe=>hc e.symm)]at hy;exact⟨hy,λe=>hc (hW.inj _ _ _ _ hy hb e)⟩
 .exact λa v ha e=>(hW.cO a v ha).2 b x hb e.symm
theorem vp{cs:List AV}{c:Array Value}{e:TypeId}{fr:Nat×Nat}{g:Nat}{n:Nat}(hg:w'.heap[g]? =some (.cells c e fr))(hle:cs.length<=c.size)(hv:ak ρ n C cs (c.toList.take cs.length))
  (hf:∀i,i<c.size->¬(fr.1<=i/\i<fr.2)):j7 ρ n C ⟨g,0,c.size⟩ w' (.cells cs 0):=
 ⟨c,e,fr,hg,rfl,by simpa using hle,by simpa using hv,λi _ hi=>by simpa using hf i (by simpa using hi)⟩
theorem YI(hT:bG P tt)(t:TypeId):cw P tt (.alloc t):=by
 intro ρ C st w k xs cls fr a o vs res ho hc hW hF hx hr;simp only[eV]at hc;split at hc<;>first|(cases hc;done)|skip
 rename_i ti cC;split at hc<;>first|(cases hc;done)|skip
 rename_i z hz;split at hc
 . cases hc;simp only[dB,H0]at hx;subst hx;simp only[az.run,Dc,H0]at hr;subst hr;obtain⟨zv,ye,_,qH⟩:=qG hT cC hz (ρ:=ρ) (n:=st.next.toNat) (C:=C) w;have hl:z.length=zv.cells.size:=(by simpa using qH.1);obtain⟨ρ',aN,dH,dN,hE⟩:=tE (w':=w.alloc (.cells zv.cells t)) (o:= .cells zv.cells t) (x0:= .typed t z) (base:=0) (size:=zv.cells.size) hW none rfl rfl rfl rfl (λρ' n' aN hn=>
     ⟨zv.cells,(0,0),by show(w.heap.push _)[w.heap.size]? =_;simp,rfl,by simp only[Zb9];omega,by rw[hl,Zc5,Zf6 (by simp)];exact qH.mono aN hn,λi _=>by simp,rfl⟩)
   refine⟨_,.pointer (some ⟨w.heap.size,0,none⟩),_,ρ',?_,Yields.value _,aN,dN,?_,hE⟩
   .simp[execOp,ho,Instr.alloc,ye,newVar,newRow]
   .have:=aj.ptr (ρ:=ρ') (n:=(st.aG none none (some (.typed t z))).next.toNat) (C:=C) st.next 0 (by simp[St.aG,Pos.aB]);rw[dH]at this;simpa using this
 cases hc;simp only[dB,H0]at hx;subst hx;simp only[az.run,F7,H0]at hr;subst hr;obtain⟨zv,ye,_,qH⟩:=qG hT cC hz (ρ:=ρ) (n:=st.next.toNat) (C:=C) w;have hl:z.length=zv.cells.size:=by simpa using qH.1
 obtain⟨ρ',aN,dH,dN,hE⟩:=tE (w':=w.alloc (.cells zv.cells t)) (o:= .cells zv.cells t) (x0:= .cells z 0) (base:=0) (size:=zv.cells.size) hW none rfl rfl rfl rfl (λρ' n' aN hn=>
   vp (w':=w.alloc (.cells zv.cells t)) (e:=t) (fr:=(0,0)) (by show(w.heap.push _)[w.heap.size]? =_;simp) (by omega) (by rw[hl,Zf6 (by simp)];exact qH.mono aN hn) (λi _=>by simp))
 refine⟨_,.pointer (some ⟨w.heap.size,0,none⟩),_,ρ',?_,Yields.value _,aN,dN,?_,hE⟩
 .simp[execOp,ho,Instr.alloc,ye,newVar,newRow]
 .have:=aj.ptr (ρ:=ρ') (n:=(st.aG none none (some (.cells z 0))).next.toNat) (C:=C) st.next 0 (by simp[St.aG,Pos.aB]);rw[dH]at this;simpa using this
theorem acB(t:TypeId)(x:Operand):cw P tt (.box t x):=by
 intro ρ C st w k xs cls fr a o vs res ho hc hW hF hx hr;simp only[eV]at hc;split at hc<;>first|(cases hc;done)|skip
 rename_i b hb;cases hc;obtain⟨v,rfl,hv⟩:=dV hb hF hx;simp only[az.run,Np,H0]at hr;subst hr;have qH:=hv.cells;have hl:v.cells.length=(a.eval x).cells.size:=by simpa using qH.1
 obtain⟨ρ',aN,dH,dN,hE⟩:=tE (w':=w.alloc (.cells (a.eval x).cells t)) (o:= .cells (a.eval x).cells t) (x0:= .cells v.cells 0) (base:=0) (size:=(a.eval x).cells.size) hW none rfl rfl rfl rfl (λρ' n' aN hn=>
   vp (w':=w.alloc (.cells (a.eval x).cells t)) (e:=t) (fr:=(0,0)) (by show(w.heap.push _)[w.heap.size]? =_;simp) (by omega) (by rw[hl,Zf6 (by simp)];exact qH.mono aN hn) (λi _=>by simp))
 refine⟨_,.pointer (some ⟨w.heap.size,0,none⟩),_,ρ',?_,Yields.value _,aN,dN,?_,hE⟩
 .simp[execOp,ho,Instr.box,newVar,newRow]
 .have:=aj.ptr (ρ:=ρ') (n:=(st.aG none none (some (.cells v.cells 0))).next.toNat) (C:=C) st.next 0 (by simp[St.aG,Pos.aB]);rw[dH]at this;simpa using this
theorem DU{n:Nat}{z:List AV}{zs:List Value}(h:ak ρ n C z zs):∀m,ak ρ n C (bF z m) (bF zs m)
 |0=>ak.nil
 |m+1=>h.append (DU h m)
theorem gP{α:Type}(z:List α):∀m,(bF z m).length=m*z.length
 |0=>by simp[bF]
 |m+1=>by simp[bF,gP z m,Zi1,Nat.add_comm]
theorem Lr{α:Type}(z:List α):∀(m i:Nat),i<m*z.length->(bF z m)[i]? =z[i % z.length]?
 |0,i,h=>by simp at h
 |m +1,i,h=>by
  simp only[bF];by_cases hi:i<z.length
  .rw[Zc7 hi,Zj3 hi]
  .have hi:z.length<=i:=(by omega);rw[Zc8 hi,Lr z m _ (by rw[Zi1]at h;omega)];congr 1;rw[<-Zn3 hi]
theorem SQ(z:Array Value)(m:Nat)(hz:0<z.size):((Array.range (m*z.size)).map (z[· % z.size]!)).toList=bF z.toList m:=by
 apply Zi3;intro i;by_cases hi:i<m*z.size
 .rw[Lr _ _ _ (by simpa using hi)];have aY:i % z.size<z.size:=Nat.mod_lt _ hz;simp[hi,aY]
 .rw[Zb4 (by simp;omega),Zb4 (by rw[gP];simp;omega)]
theorem ze{ρ':Pos->Loc}{b:Pos}{n g len es aH size:Nat}{cap:Option Nat}(hb:b.toNat<n)(aN:ρ' b=⟨g,0,size⟩)(hl:len<=aH)(hc:∀c,cap=some c->c=aH)(hs:aH*es<=size):
  aj ρ' n C (.slice b 0 len cap es) (.slice (some ⟨g,0,none⟩) len aH):=
 .slice _ _ _ _ _ _ _ hl hc (λ_=>⟨hb,by rw[aN],by rw[aN];simpa using hs⟩) (λ_=>hb)
theorem ND{z:List AV}{zv:Value}{n m size:Nat}(qH:ak ρ n C z zv.cells.toList)(hl:z.length=size):
   ak ρ n C (bF z m) ((Array.range (m*size)).map ((if m*size=0 then(#[]:Array Value)else zv.cells)[· % (if m*size=0 then(#[]:Array Value)else zv.cells).size]!)).toList/\
   ((Array.range (m*size)).map ((if m*size=0 then(#[]:Array Value)else zv.cells)[· % (if m*size=0 then(#[]:Array Value)else zv.cells).size]!)).size=m*size:=by
 refine⟨?_,by simp⟩;by_cases h0:m*size=0
 .have:bF z m=[]:=(by apply Za7;rw[gP,hl];exact h0);rw[this];have:(Array.range (m*size))= #[]:=(by rw[h0];rfl);rw[this];simpa using(ak.nil:ak ρ n C [] [])
 . rw[Za5 h0];have V6:zv.cells.size=size:=(by have:=qH.1;simp at this;omega);have Xk:0<zv.cells.size:=by
    rw[V6];rcases Zn4 size with h|h
    .rw[h]at h0;simp at h0
    .exact h
   have:=SQ zv.cells m Xk;rw[V6]at this ⊢;rw[this];exact DU qH m
theorem acC{k:IntKind}{i:Int}(h1:SA k<=i)(h2:i<=SB k):k.wrap i=i:=by
 rw[<-qF];unfold aD;split
 . split
   .rfl
   .exact absurd h2 (by assumption)
 .exact absurd h1 (by assumption)
theorem SR{j:Nat}(h:j<=9223372036854775807):IntKind.i64.wrap (j:Int)=(j:Int):=acC (by simp only[SA];omega) (by simp only[SB];omega)
theorem Vq(hT:bG P tt)(t:TypeId)(l c:Operand):cw P tt (.makeSlice t l c):=by
 intro ρ C st w k xs cls fr a o vs res ho hc hW hF hx hr;simp only[eV]at hc;split at hc<;>first|(cases hc;done)|skip
 rename_i ti l0 cC hl;split at hc<;>first|(cases hc;done)|skip
 rename_i e hk;split at hc<;>first|(cases hc;done)|skip
 rename_i te eo;split at hc<;>first|(cases hc;done)|skip
 rename_i z hz;cases hc;obtain⟨d,hd,bP⟩:=(hT.at cC).und;rw[hk]at bP;rw[ke bP]at hd;obtain⟨i0,jY,jq,hib,yc⟩:=(hT.at eo).info;obtain⟨u,v,rfl,h1,h2⟩:=O4 hl hF hx;simp only[az.run,wq]at hr;split at hr<;>first|(cases hr;done)|skip
 rename_i jl jc hjl hjc;split at hr<;>first|(cases hr;done)|skip
 rename_i e1 e2 e3;have e1:=H4 e1;have e2:=H4 e2;have e3:=H4 e3;simp only[H0]at hr;subst hr;obtain⟨kl,dz⟩:=iA h1 hjl;obtain⟨kc,I8⟩:=iA h2 hjc;obtain⟨zv0,hzv0,_,NF,_⟩:=yc z hz;obtain⟨zv,ye,_,qH⟩:=qG hT eo hz (ρ:=ρ) (n:=st.next.toNat) (C:=C) w;obtain⟨I9,O6⟩:=ND (m:=jc) qH NF;generalize DV:(Array.range (jc*te.size)).map ((if jc*te.size=0 then(#[]:Array Value)else zv.cells)[· % (if jc*te.size=0 then(#[]:Array Value)else zv.cells).size]!)=row at I9 O6;obtain⟨ρ',aN,dH,dN,hE⟩:=tE (w':=w.alloc (.cells row e)) (o:= .cells row e) (x0:= .cells (bF z jc) 0) (base:=0) (size:=row.size) hW none rfl rfl rfl rfl (λρ' n' aN hn=>
   vp (w':=w.alloc (.cells row e)) (e:=e) (fr:=(0,0)) (by show(w.heap.push _)[w.heap.size]? =_;simp) (by rw[gP,O6,NF];exact Za1 _)
    (by rw[gP,NF, <-O6, <-Ze7,Zk4];exact I9.mono aN hn) (λi _=>by simp))
 refine⟨_,.slice (some ⟨w.heap.size,0,none⟩) jl jc,_,ρ',?_,Yields.value _,aN,dN,?_,hE⟩
 . have bR:=SR (Zc4 e1 e3);have eM:=SR e3;have hb:¬((te.bytes:Int)*(jc:Int)>2 ^ 48):=(by have h:=Int.ofNat_le.2 e2;rw[Int.natCast_mul]at h;exact Int.not_lt.2 h);have bQ:(Instr.makeSlice t (.int kl jl) (.int kc jc)).run P w= .ok (.slice (some ⟨w.heap.size,0,none⟩) jl jc) (w.alloc (.cells row e)):=by
    unfold Instr.makeSlice;simp only[Sem.run_bind,aJ hd,Result.andThen_ok,asInt,asIntOf,Sem.run_pure,SH jY,bR,eM,hib];have W7:¬((decide ((jc:Int)<0)||decide ((te.bytes:Int)*(jc:Int)>2 ^ 48)||decide ((jl:Int)<0)||decide ((jl:Int)>(jc:Int)))=true):=by
        simp only[Zg6,Zc6];rintro(((h|h)|h)|h)
        .omega
        .exact hb h
        .omega
        .omega
    rw[Za5 W7];simp only[Sem.run_bind,run_askRoom,Result.andThen_ok,fW jY,jq,Zi8];rw[<-DV];by_cases h0:jc*te.size=0
    .   simp only[h0,Ze8,Sem.run_bind,Sem.run_pure,Result.andThen_ok,newRow,run_newObj,World.alloc_eq]
    .   simp only[h0,Zd7,Sem.run_bind,Sem.run_pure,Result.andThen_ok,ye,newRow,run_newObj,World.alloc_eq]
   simp[execOp,ho,dz,I8,bQ]
 .exact ze (by simp[St.aG,Pos.aB]) dH e1 (λc hc=>by cases hc;rfl) (by rw[O6];exact Za1 _)
theorem O7(hT:bG P tt)(t:TypeId)(len:Nat)(ps:Array (Nat×Operand)):cw P tt (.buildSlice t len ps):=by
 intro ρ C st w k xs cls fr a o vs res ho hc hW hF hx hr;simp only[eV]at hc;split at hc<;>first|(cases hc;done)|skip
 rename_i ti l0 cC hl;split at hc<;>first|(cases hc;done)|skip
 rename_i e hk;split at hc<;>first|(cases hc;done)|skip
 rename_i te eo;split at hc<;>first|(cases hc;done)|skip
 rename_i z hz hlim;have hlim:=H4 hlim;cases hc;obtain⟨d,hd,bP⟩:=(hT.at cC).und;rw[hk]at bP;rw[ke bP]at hd;obtain⟨i0,jY,jq,hib,yc⟩:=(hT.at eo).info;have hv:=di hl hF hx;simp only[az.run,oZ]at hr;split at hr<;>first|(cases hr;done)|skip
 rename_i cs wE;simp only[H0]at hr;subst hr;obtain⟨zv0,hzv0,_,NF,_⟩:=yc z hz;obtain⟨zv,ye,_,qH⟩:=qG hT eo hz (ρ:=ρ) (n:=st.next.toNat) (C:=C) w;obtain⟨I9,O6⟩:=ND (m:=len) qH NF;generalize DV:(Array.range (len*te.size)).map ((if len*te.size=0 then(#[]:Array Value)else zv.cells)[· % (if len*te.size=0 then(#[]:Array Value)else zv.cells).size]!)=row at I9 O6;have V0:(ps.map λ(i,x)=>(i,a.eval x)).toList=ps.toList.map λx=>(x.1,a.eval x.2):=by simp
 obtain⟨jZ,e1,e2⟩:=Mw (λi=>some (i*te.size,te.size)) wE I9 (ps:=ps.toList.map λx=>(x.1,a.eval x.2)) (by simpa [Zf8,Zi7]using hv) (by simp[Zf8,Zi7]);have hlen:cs.length=jZ.size:=by simpa using e2.1
 have aeg:∀{pp:List (Nat×Nat)}{vs cells r:List AV},bS cells pp vs=some r->r.length=cells.length:=by
   intro pp;induction pp with
   |nil=>intro vs cells r h;unfold bS at h;split at h<;>first|(cases h;done)|(simp only[H0]at h;subst h;rfl)|(rename_i hh;cases hh)
   |cons p pp ih=>
    intro vs cells r h;unfold bS at h;(split at h<;>first|(cases h;done)|(rename_i hh;cases hh;done)|skip);rename_i hh;simp only[Zh6]at hh;obtain⟨rfl,rfl⟩:=hh;(split at h<;>first|(cases h;done)|skip);rename_i g1 g2;have g1:=H2 g1;have g2:=H4 g2;rw[ih h];simp[aK];omega
 have hcsl:=aeg wE;rw[gP,NF]at hcsl;obtain⟨ρ',aN,dH,dN,hE⟩:=tE (w':=w.alloc (.cells jZ e)) (o:= .cells jZ e) (x0:= .cells cs 0) (base:=0) (size:=jZ.size) hW none rfl rfl rfl rfl (λρ' n' aN hn=>
   vp (w':=w.alloc (.cells jZ e)) (e:=e) (fr:=(0,0)) (by show(w.heap.push _)[w.heap.size]? =_;simp) (by omega)
    (by rw[hlen, <-Ze7,Zk4];exact e2.mono aN hn) (λi _=>by simp))
 refine⟨_,.slice (some ⟨w.heap.size,0,none⟩) len len,_,ρ',?_,Yields.value _,aN,dN,?_,hE⟩
 . have bQ:(Instr.buildSlice t len (ps.map λ(i,x)=>(i,a.eval x))).run P w= .ok (.slice (some ⟨w.heap.size,0,none⟩) len len) (w.alloc (.cells jZ e)):=by
    unfold Instr.buildSlice;simp only[Sem.run_bind,aJ hd,Result.andThen_ok,fW jY,jq];rw[Za5 (by omega)];by_cases h0:len*te.size=0
    .   simp only[h0,Ze8,Sem.run_bind,Sem.run_pure,Result.andThen_ok];simp only[h0,Ze8]at DV;rw[DV,V0,e1];simp only[newRow,Sem.run_bind,run_newObj,World.alloc_eq,Result.andThen_ok,Sem.run_pure]
    .   simp only[h0,Zd7,Sem.run_bind,Sem.run_pure,Result.andThen_ok,ye];simp only[h0,Zd7]at DV;rw[DV,V0,e1];simp only[newRow,Sem.run_bind,run_newObj,World.alloc_eq,Result.andThen_ok,Sem.run_pure]
   simp only[execOp,ho,Sem.run_bind];rw[bQ];rfl
 .exact ze (by simp[St.aG,Pos.aB]) dH (Za1 _) (λc hc=>by cases hc;rfl) (by omega)
theorem YJ(t:TypeId)(r:Option Operand)(hT:bG P tt):cw P tt (.makeMap t r):=by
 intro ρ C st w k xs cls fr a o vs res ho hc hW hF hx hr;have key:k= .mkMap/\(execOp a.eval o).run P w= .ok (.value (.map (some w.heap.size))) (w.alloc (.map #[] 0)):=by
  simp only[eV]at hc;split at hc<;>first|(cases hc;done)|skip
  rename_i ti cC;obtain⟨d,hd,bP⟩:=(hT.at cC).und;split at hc<;>first|(cases hc;done)|skip
  .cases hc;exact⟨rfl,by simp[execOp,ho,Instr.makeMap]⟩
  .rename_i hk;rw[hk]at bP;rw[I4 bP]at hd;cases hc;exact⟨rfl,by simp[execOp,ho,Instr.makeMap,aJ hd,Act.eval,asInt,asIntOf]⟩
 obtain⟨rfl,bQ⟩:=key;simp only[az.run,Ga,H0]at hr;subst hr;obtain⟨ρ',aN,dH,dN,hE⟩:=tE (w':=w.alloc (.map #[] 0)) (o:= .map #[] 0) (x0:= .map [] 0) (base:=0) (size:=0) hW none rfl rfl rfl rfl (λρ' n' aN hn=>
  ⟨#[],by show(w.heap.push _)[w.heap.size]? =_;simp,rfl,λi e e' h=>by simp at h⟩)
 refine⟨_,_,_,ρ',bQ,Yields.value _,aN,dN,?_,hE⟩;have:=aj.map (ρ:=ρ') (n:=(st.aG none none (some (.map [] 0))).next.toNat) (C:=C) st.next (by simp[St.aG,Pos.aB]);rw[dH]at this;exact this
theorem Xl(hT:bG P tt)(t:TypeId)(x:Operand):cw P tt (.range t x):=by
 intro ρ C st w k xs cls fr a o vs res ho hc hW hF hx hr;simp only[eV]at hc;split at hc<;>first|(cases hc;done)|skip
 rename_i ti b cC hb;split at hc<;>first|(cases hc;done)|skip
 rename_i hk;cases hc;obtain⟨d,hd,bP⟩:=(hT.at cC).und;rw[hk]at bP;rw[jX bP]at hd;obtain⟨v,rfl,hv⟩:=dV hb hF hx;simp only[az.run,Db]at hr;split at hr<;>first|(cases hr;done)|skip
 rename_i s;simp only[H0]at hr;subst hr;obtain⟨bs,he,hs⟩:=hv.dD;obtain⟨ρ',aN,dH,dN,hE⟩:=tE (w':=w.alloc (.stringIter bs 0)) (o:= .stringIter bs 0) (x0:= .iu s 0) (base:=0) (size:=0) hW none rfl rfl rfl rfl (λρ' n' aN hn=>
   ⟨bs,by show(w.heap.push _)[w.heap.size]? =_;simp,hs,rfl⟩)
 refine⟨_,.pointer (some ⟨w.heap.size,0,none⟩),_,ρ',?_,Yields.value _,aN,dN,?_,hE⟩
 .simp[execOp,ho,he,Instr.range,aJ hd]
 .have:=aj.ptr (ρ:=ρ') (n:=(st.aG none none (some (.iu s 0))).next.toNat) (C:=C) st.next 0 (by simp[St.aG,Pos.aB]);rw[dH]at this;simpa using this
theorem RD(hT:bG P tt)(src dst:TypeId)(x:Operand)(hb:∃xs cls,eV tt (.convert src dst x)=some (.conv .bytes,xs,cls)):cw P tt (.convert src dst x):=by
 intro ρ C st w k xs cls fr a o vs res ho hc hW hF hx hr;obtain⟨_,_,iz⟩:=hb;rw[hc]at iz;simp only[H0,Za8]at iz;obtain⟨rfl,_⟩:=iz;simp only[eV]at hc;split at hc<;>first|(cases hc;done)|skip
 rename_i s d b hs hd hb;obtain⟨ds,sw,Ag⟩:=(hT.at hs).und;obtain⟨dd,hdd,bP⟩:=(hT.at hd).und;split at hc<;>first|(cases hc;done)|skip
 . rename_i e h1 h2;(split at hc<;>first|(cases hc;done)|skip);rename_i te eo;(split at hc<;>first|(cases hc;done)|skip);rename_i YE;cases hc;rw[h1]at Ag;rw[h2]at bP;rw[jX Ag]at sw;rw[ke bP]at hdd;obtain⟨de,YF,YG⟩:=(hT.at eo).und;rw[YE]at YG;rw[EL YG]at YF;obtain⟨v,rfl,hv⟩:=dV hb hF hx;simp only[az.run,yw]at hr;split at hr<;>first|(cases hr;done)|(rename_i heq;cases heq;done)|(rename_i heq;cases heq)
   (rename_i u;simp only[H0]at hr;subst hr;obtain⟨bs,he,hs⟩:=hv.dD;have bQ:=run_bytes_of_string (P:=P) w src dst e bs sw hdd YF;have O5:bs.size<=grownCap w bs.size 0 e:=(by unfold grownCap Question.cut;exact Zl9 _ _);generalize grownCap w bs.size 0 e=cap at bQ O5;have ei:(bytesRow bs cap).size=cap:=by have:bs.data.size=bs.size:=rfl;simp[bytesRow,this];omega);have hul:u.length=bs.size:=(uL hs).symm;have hrel:∀ρ' n',ak ρ' n' C (u.map λc=>AV.int .u8 (.ofNat c)) ((bytesRow bs cap).toList.take (u.map λc=>AV.int .u8 (.ofNat c)).length):=by
     (intro ρ' n';have h1:(bytesRow bs cap).toList.take (u.map λc=>AV.int .u8 (.ofNat c)).length=u.map λc=>Value.int .u8 (.ofNat c):=by have hdl:bs.data.toList.length=bs.size:=(by simp);rw[Zb3,hul];simp only[bytesRow,Array.toList_append,Zn6];rw[Zj6 (by simp), <-hs,Zf8];rfl);rw[h1];refine⟨by simp,λi v x hv hx=> ?_⟩;simp only[Zb6,Zf0]at hv hx;obtain⟨c,hc,rfl⟩:=hv;obtain⟨c',tF,rfl⟩:=hx;rw[hc]at tF;cases tF;exact .int _ _
   obtain⟨ρ',aN,dH,dN,hE⟩:=tE (w':=w.drew.alloc (.cells (bytesRow bs cap) e ((bytesRow bs cap).size,(bytesRow bs cap).size+1))) (o:= .cells (bytesRow bs cap) e ((bytesRow bs cap).size,(bytesRow bs cap).size+1))
     (x0:= .cells (u.map λc=>AV.int .u8 (.ofNat c)) 0) (base:=0) (size:=(bytesRow bs cap).size) hW none rfl rfl rfl rfl (λρ' n' aN hn=>
     vp (e:=e) (fr:=((bytesRow bs cap).size,(bytesRow bs cap).size+1)) (by show(w.heap.push _)[w.heap.size]? =_;simp) (by rw[Zb3,hul,ei];exact O5) (hrel _ _) (λi hi=>by simp;omega))
   refine⟨_,.slice (some ⟨w.heap.size,0,none⟩) u.length cap,_,ρ',?_,Yields.value _,aN,dN,?_,hE⟩
   .simp only[execOp,ho,he,Sem.run_bind];rw[bQ,hul];rfl
   .exact ze (by simp[St.aG,Pos.aB]) dH (by omega) (λc hc=>by cases hc) (by omega)
 all_goals
   repeat' split at hc
   all_goals (cases hc;done)
end
section
variable{P:Program}{tt:TT}{ρ:Pos->Loc}{C:Cells}{st:St}{w w':World}
theorem wF{n:Nat}:∀{l:List AV}{ys:List Value},aU l=true->ak ρ n C l ys->∀y∈ys,y.oneCell'=true
 |[],ys,_,h=>by have:=h.k8;subst this;simp
 |v::l,ys,h1,h=>by
  unfold aU at h1;split at h1<;>first|(cases h1;done)|skip
  rename_i ho;obtain⟨y,ys',rfl,hv,hs⟩:=h.cons_inv;intro z hz;simp at hz;rcases hz with rfl|hz
  .cases hv<;>first|rfl|(simp[AV.one]at ho;done)
  .exact wF h1 hs z hz
theorem AI{α:Type}(l:List α){i:Nat}(vs:List α)(hi:i<=l.length)(k:Nat):(aK l i vs)[k]? =if k<i then l[k]? else if k<i+vs.length then vs[k - i]? else l[k]? :=by
 unfold aK;have hl:(l.take i).length=i:=by simp;omega
 split
 .rename_i h;rw[Zc7 (by omega),Za9,Za6 h]
 . rename_i h;rw[Zc8 (by omega),hl];split
   .rename_i h';rw[Zc7 (by omega)]
   .rename_i h';rw[Zc8 (by omega),Zc9];congr 1;omega
theorem DW{α:Type}(l:List α)(b off:Nat)(vs:List α)(h:b+off<=l.length):(aK l (b+off) vs).drop b=aK (l.drop b) off vs:=by
 apply Zi3;intro k;rw[Zc9,AI l vs h,AI (l.drop b) vs (by simp;omega),Zc9];by_cases h1:k<off
 .rw[Za6 (by omega),Za6 h1]
 . rw[Za5 (by omega),Za5 h1];by_cases h2:k<off+vs.length
   .rw[Za6 (by omega),Za6 h2];congr 1;omega
   .rw[Za5 (by omega),Za5 h2]
theorem Lt{α:Type}(l:List α)(off m:Nat)(vs:List α)(h:off+vs.length<=m)(h':m<=l.length):(aK l off vs).take m=aK (l.take m) off vs:=by
 apply Zi3;intro k;rw[Za9,AI l vs (by omega),AI (l.take m) vs (by simp;omega),Za9];by_cases h1:k<off
 .rw[Za6 (by omega),Za6 h1,Za6 h1,Za6 (by omega)]
 . by_cases h2:k<off+vs.length
   .rw[Za6 (by omega),Za5 h1,Za6 h2,Za5 h1,Za6 h2]
   .rw[Za5 h1,Za5 h2,Za5 h1,Za5 h2]
theorem Gm(hW:aP ρ C st w){b:Pos}{cs vs:List AV}{fz off:Nat}{ys:List Value}(hb:st.heap.get b=some (.cells cs fz))(hle:off+vs.length<=cs.length)(Yi:fz<=off)
   (h1:aU vs=true) (hv:ak ρ st.next.toNat C vs ys):
   ∃w',(storeCells ⟨(ρ b).au,(ρ b).base+off,none⟩ ys).run P w= .ok () w'/\aP ρ C (st.aG none (some (b,.cells (aK cs off vs) fz)) none) w'/\iL ρ st w ρ (st.aG none (some (b,.cells (aK cs off vs) fz)) none) w':=by
 obtain⟨_,_,c,e,fr,g1,g2,g3,g4,g5⟩:=hW.live b _ hb;have hl:vs.length=ys.length:=hv.1;obtain⟨w',e1,e2,e3,e4,e5,e6,e7⟩:=iW (P:=P) (ρ b).au e fr ys 0 ((ρ b).base+off) c w g1 (by omega) (wF h1 hv) (λk hk jy=>by
   have:=g5 (k - (ρ b).base) (by omega) (by omega)
   rwa [show(ρ b).base+(k - (ρ b).base)=k from by omega]at this)
 simp only[Zh1]at e1 e2;refine⟨w',e1,?_⟩;have hlen:(aK cs off vs).length=cs.length:=by simp[aK];omega
 refine NB hW hb e5 e6 e7 e3 e4 ⟨_,e,fr,e2,?_,?_,?_,λi hi NG=>g5 i hi ?_⟩
 .simp[aK];omega
 .rw[hlen];simp[aK];omega
 .rw[hlen];rw[DW _ _ _ _ (by simp;omega),Lt _ _ _ _ (by omega) (by simp;omega)];exact g4.aK hv off
 .simp[aK]at NG;omega
theorem YK(hW:aP ρ C st w){b:Pos}{cs vs:List AV}{t:TypeId}{off:Nat}{ys:List Value}(hb:st.heap.get b=some (.typed t cs))(hle:off+vs.length<=cs.length)
   (h1:aU vs=true) (hv:ak ρ st.next.toNat C vs ys):
   ∃w',(storeCells ⟨(ρ b).au,(ρ b).base+off,none⟩ ys).run P w= .ok () w'/\aP ρ C (st.aG none (some (b,.typed t (aK cs off vs))) none) w'/\iL ρ st w ρ (st.aG none (some (b,.typed t (aK cs off vs))) none) w':=by
 obtain⟨_,_,c,fr,g1,g2,g3,g4,g5,g6⟩:=hW.live b _ hb;have hl:vs.length=ys.length:=hv.1;obtain⟨w',e1,e2,e3,e4,e5,e6,e7⟩:=iW (P:=P) (ρ b).au t fr ys 0 ((ρ b).base+off) c w g1 (by omega) (wF h1 hv) (λk hk jy=>by
   have:=g5 (k - (ρ b).base) (by omega) (by omega)
   rwa [show(ρ b).base+(k - (ρ b).base)=k from by omega]at this)
 simp only[Zh1]at e1 e2;refine⟨w',e1,?_⟩;have hlen:(aK cs off vs).length=cs.length:=by simp[aK];omega
 refine NB hW hb e5 e6 e7 e3 e4 ⟨_,fr,e2,?_,?_,?_,λi hi NG=>g5 i hi ?_,g6⟩
 .simp[aK];omega
 .rw[hlen];simp[aK];omega
 .rw[hlen];rw[DW _ _ _ _ (by simp;omega),Lt _ _ _ _ (by omega) (by simp;omega)];exact g4.aK hv off
 .simp[aK]at NG;omega
theorem aj.uN{n:Nat}:aj ρ n C .undef undef:= .tuple [] #[] rfl (λ_ _ _ h=>by simp at h)
theorem YL(hT:bG P tt)(t:TypeId)(x y:Operand):cw P tt (.store t x y):=by
 intro ρ C st w k xs cls fr a o vs res ho hc hW hF hx hr;simp only[eV]at hc;split at hc<;>first|(cases hc;done)|skip
 rename_i ti l cC hl;cases hc;obtain⟨p,v,rfl,h1,h2⟩:=O4 hl hF hx;obtain⟨i0,jY,jq,_⟩:=(hT.at cC).info;simp only[az.run,Bn]at hr;split at hr<;>first|(cases hr;done)|skip
 rename_i b off;split at hr<;>first|(cases hr;done)|skip
 rotate_left
 .rename_i t0 cs hb;(split at hr<;>first|(cases hr;done)|skip);rename_i e1 e2 e4;have e1:=H2 e1;have e2:=H4 e2;simp only[H0]at hr;subst hr;obtain⟨_,he⟩:=h1.dQ;have hc:=h2.cells;obtain⟨w',bQ,dN,hE⟩:=YK (P:=P) (vs:=v.cells) (off:=off) hW hb (by omega) e4 hc;refine⟨.skip,undef,w',ρ,?_,.inr ⟨rfl,rfl⟩,λ_ _=>rfl,dN,aj.uN,hE⟩;have ei:(a.eval y).cells.size=ti.size:=(by have:=hc.1;simp at this;omega);simp[execOp,ho,he,Instr.storeAt,Instr.sureAddr,storeVar,fW jY,jq,ei,bQ]
 rename_i cs fz hb;split at hr<;>first|(cases hr;done)|skip
 rename_i e1 e2 e3 e4;have e1:=H2 e1;have e2:=H4 e2;have e3:=H4 e3;simp only[H0]at hr;subst hr;obtain⟨_,he⟩:=h1.dQ;have hc:=h2.cells;obtain⟨w',bQ,dN,hE⟩:=Gm (P:=P) hW hb (by omega) e3 e4 hc;refine⟨.skip,undef,w',ρ,?_,.inr ⟨rfl,rfl⟩,λ_ _=>rfl,dN,aj.uN,hE⟩;have ei:(a.eval y).cells.size=ti.size:=by have:=hc.1;simp at this;omega
 simp[execOp,ho,he,Instr.storeAt,Instr.sureAddr,storeVar,fW jY,jq,ei,bQ]
theorem run_setObj_map{r:Nat}{es:Array MapEntry}{c:Nat}{o:Obj}{w:World}(h:w.heap[r]? =some (.map es c)):(setObj r o).run P w= .ok () { w with heap:=w.heap.setIfInBounds r o }:=by
 simp[setObj,Sem.run,h]
theorem NH(hW:aP ρ C st w){b:Pos}{es:List (AV×AV×Nat)}{clock:Nat}(hb:st.heap.get b=some (.map es clock)){H7:List (AV×AV×Nat)}{Xm:Array MapEntry}{ET:Nat}
  (hE:Dk ρ st.next.toNat C H7 Xm.toList):
  aP ρ C (st.aG none (some (b,.map H7 ET)) none) { w with heap:=w.heap.setIfInBounds (ρ b).au (.map Xm ET) }/\iL ρ st w ρ (st.aG none (some (b,.map H7 ET)) none) { w with heap:=w.heap.setIfInBounds (ρ b).au (.map Xm ET) }:=by
 have aY:=(hW.live b _ hb).2.1;refine NB hW hb rfl rfl rfl (by simp) (λk hk=>by simp[Zd1 (Ne.symm hk)]) ⟨Xm,by simp[aY],by simpa using hE.1,λi e e' h1 h2=>hE.2 i e e' h1 (by simpa using h2)⟩
theorem Mx{n:Nat}{pk:PK}{u v:AV}{x y:Value}(h1:aj ρ n C u x)(h2:aj ρ n C v y)(h:uJ pk u v=some true)(m:Nat):Instr.sameBits m y x=true:=by
 unfold uJ at h;split at h<;>first|(cases h;done)|skip
 .simp only[H0]at h;rw[h1.fD,h2.fD];rename_i p q;have:p=q:=(by simpa using h);subst this;cases m<;>simp[Instr.sameBits]
 . (split at h<;>first|(cases h;done)|skip);rename_i Af;have:=vk Af;subst this;simp only[H0,kf]at h;rw[h1.gh,h2.gh];rename_i p q _;have:p=q:=(by simpa using h);subst this;cases m<;>simp[Instr.sameBits]
 .simp only[H0]at h;obtain⟨bx,rfl,e1⟩:=h1.dD;obtain⟨bz,rfl,e2⟩:=h2.dD;have:bz==bx:=(by rw[beq_toListBytes,EO e2 e1,lD];exact(lD.1 h).symm);cases m<;>simpa [Instr.sameBits]using this
theorem Qt{pk:PK}{u:AV}:∀{es:List (AV×AV×Nat)}{i j:Nat}{v:AV},iw pk u es i=some (some (j,v))->∃e,i<=j/\es[j - i]? =some e/\uJ pk u e.1=some true
 |[],i,j,v,h=>by simp[iw]at h
 |(k',v',born)::es,i,j,v,h=>by
  unfold iw at h;split at h<;>first|(cases h;done)|skip
  .rename_i hq;simp only[H0,Za8]at h;obtain⟨rfl,_⟩:=h;exact⟨(k',v',born),Za1 _,by simp,hq⟩
  .obtain⟨e,h1,h2,h3⟩:=Qt h;refine⟨e,by omega,?_,h3⟩;rw[show j - i=(j - (i+1))+1 from by omega];simpa using h2
theorem Ja(k v:AV):∀(es:List (AV×AV×Nat))(i j:Nat),(lN k v es i)[j]? =if j=i then(es[i]?).map (λe=>(k,v,e.2.2))else es[j]?
 |[],i,j=>by cases i<;>cases j<;>simp[lN]
 |(a,b,born)::es,0,j=>by cases j<;>simp[lN]
 |e::es,i+1,j=>by
  cases j with
  |zero=>simp[lN]
  |succ j=>simp[lN,Ja k v es i j]
theorem NI (hT:bG P tt)(op:Op)(t:TypeId)(m k0 v0:Operand)(hop:op= .mapUpdate t m k0 v0\/op= .insert t m k0 v0):cw P tt op:=by
 intro ρ C st w k xs cls fr a o vs res ho hc hW hF hx hr;have hc:eV.Xb tt t m k0 v0=some (k,xs,cls):=by rcases hop with rfl|rfl<;>simpa only[eV]using hc
 have hex:(execOp a.eval o).run P w=((Instr.mapUpdate t (a.eval m) (a.eval k0) (a.eval v0)).run P w).andThen λ_ w=>.ok .skip w:=by
   rcases hop with rfl|rfl<;>simp[execOp,ho]
 unfold eV.Xb at hc;split at hc<;>first|(cases hc;done)|skip
 rename_i ti l cC hl;split at hc<;>first|(cases hc;done)|skip
 rename_i kt et hk;split at hc<;>first|(cases hc;done)|skip
 rename_i tk yd;obtain⟨d,hd,bP⟩:=(hT.at cC).und;rw[hk]at bP;rw[I4 bP]at hd;obtain⟨dk,Qq,Af⟩:=(hT.at yd).und;have key:∃pk,k= .mapSet pk/\xs=l/\pk.fits dk=true:=by
   split at hc<;>first|(cases hc;done)|skip
   all_goals
     rename_i h1;cases hc;refine⟨_,rfl,rfl,acd tk.k Af ?_⟩
   .exact .inr (.inl ⟨⟨_,h1⟩,rfl⟩)
   .exact .inr (.inr ⟨h1,rfl⟩)
   .exact .inl ⟨h1,rfl⟩
 obtain⟨pk,rfl,rfl,DS⟩:=key;obtain⟨mm,kk,vv,rfl,h1,h2,h3⟩:=evs3 hl hF hx;have HY:∀e w,(Instr.checkKey e 10000 kt (a.eval k0)).run P w= .ok () w:=λe w=>ER Qq DS e 9999 _ w
 simp only[az.run,ve]at hr;split at hr<;>first|(cases hr;done)|skip
 rename_i b;split at hr<;>first|(cases hr;done)|skip
 rename_i es clock hb;obtain⟨_,he⟩:=h1.vn;obtain⟨_,_,es',cX,hlen,fE⟩:=hW.live _ _ hb;have hE:Dk ρ st.next.toNat C es es'.toList:=⟨by simpa using hlen,λi e e' h1 h2=>fE i e e' h1 (by simpa using h2)⟩
 split at hr<;>first|(cases hr;done)|skip
 . rename_i i v hpk hf;simp only[H0]at hr;subst hr;obtain⟨r',hf',o8⟩:=zc DS h2 hE hf;rcases o8 with⟨e1,_⟩|⟨j',v',y,e1,e2,e3,_,e5⟩
   .cases e1
   . cases  e1;subst e2;obtain⟨e,_,hei,hek⟩:=Qt hf;rw[Zl1]at hei;have hi:i<es'.size:=(by omega);have Xn:es'[i]? =some es'[i]:=Ze2 hi;have hkey:=(fE i e es'[i] hei Xn).1;have hsb:=Mx h2 hkey hek 10000;have YM  :Dk ρ st.next.toNat C (lN kk vv es i) (es'.modify i λe=>{ e with key:=a.eval k0,val:=a.eval v0 }).toList:=by
        refine⟨?_,λj e e' g1 g2=> ?_⟩
        . have Lu:∀(es:List (AV×AV×Nat))(i:Nat),(lN kk vv es i).length=es.length:=by
            intro es;induction es with
            |nil=>intro i;cases i<;>rfl
            | cons e es ih=>intro i;cases i with
              |zero=>obtain⟨a,b,c⟩:=e;rfl
              |succ i=>simp[lN,ih i]
          rw[Lu];simpa using hlen
        . rw[Ja]at g1;simp only[Zf1,Zl7]at g2;by_cases hji:j=i
          .subst hji;rw[Za6 rfl,hei]at g1;simp[Xn]at g1 g2;subst g1;subst g2;exact⟨h2,h3,(fE j e es'[j] hei Xn).2.2⟩
          .rw[Za5 hji]at g1;rw[Za5 (λe=>hji e.symm)]at g2;exact fE j e e' g1 g2
     obtain⟨dN,YN⟩:=NH hW hb (ET:=clock) YM;refine⟨.skip,undef,_,ρ,?_,.inr ⟨rfl,rfl⟩,λ_ _=>rfl,dN,aj.uN,YN⟩;rw[hex];simp only[Instr.mapUpdate,Sem.run_bind,aJ hd,Result.andThen_ok,he,run_getObj_map cX,HY,run_findKey Qq hf',Xn,Zd9,Zi5,Instr.keyThatStays,hsb,Ze8,Sem.run_pure,run_setObj_map cX]
 . rename_i hpk hf;simp only[H0]at hr;subst hr;obtain⟨r',hf',o8⟩:=zc DS h2 hE hf;rcases o8 with⟨_,e2⟩|⟨j',v',y,e1,_⟩
   . subst  e2;have YM:Dk ρ st.next.toNat C (es++[(kk,vv,clock)]) (es'.push { key:=a.eval k0,val:=a.eval v0,born:=clock }).toList:=by
        refine⟨by simp[hlen],λj e e' g1 g2=> ?_⟩;simp only[Array.toList_push]at g2;rcases Zi0 j es.length with hj|hj
        .rw[Zc7 hj]at g1;rw[Zc7 (by simp;omega)]at g2;exact fE j e e' g1 (by simpa using g2)
        .rw[Zc8 hj]at g1;rw[Zc8 (by simp;omega)]at g2;have:j - es.length=0:=(by have:=(H3.1 g1).1;simp at this;omega);rw[this]at g1;have:j - es'.toList.length=0:=(by simp;omega);rw[this]at g2;simp at g1 g2;subst g1;subst g2;exact⟨h2,h3,rfl⟩
     obtain⟨dN,YN⟩:=NH hW hb (ET:=clock+1) YM;refine⟨.skip,undef,_,ρ,?_,.inr ⟨rfl,rfl⟩,λ_ _=>rfl,dN,aj.uN,YN⟩;rw[hex];simp only[Instr.mapUpdate,Sem.run_bind,aJ hd,Result.andThen_ok,he,run_getObj_map cX,HY,run_findKey Qq hf',run_setObj_map cX]
   .cases e1
theorem YO(it:Operand)(isS:Bool):cw P tt (.next it isS):=by
 intro ρ C st w k xs cls fr a o vs res ho hc hW hF hx hr;simp only[eV]at hc;split at hc<;>first|(cases hc;done)|skip
 rename_i b hb;cases hc;obtain⟨v,rfl,hv⟩:=dV hb hF hx;simp only[az.run,Gb]at hr;split at hr<;>first|(cases hr;done)|skip
 rename_i bb;split at hr<;>first|(cases hr;done)|skip
 rename_i s pos iX;obtain⟨_,he⟩:=hv.dQ;obtain⟨_,_,bs,HX,hs,Sc⟩:=hW.live _ _ iX;have ei:=uL hs;have pP:(getObj (ρ bb).au).run P w= .ok (.stringIter bs pos) w:=by simp[getObj,Sem.run,HX]
 rw[Sc]at he;split at hr
 . (rename_i aY;have aY:pos<s.length:=(by simpa using aY);(split at hr<;>first|(cases hr;done)|skip);rename_i c wd My;simp only[H0]at hr;subst hr;have Gk:pos<bs.size:=(by omega);unfold VU at My;(split at My<;>first|(cases My;done)|skip);rename_i c' tF;(split at My<;>first|(cases My;done)|skip);rename_i aaE;simp only[H0,Za8]at My;obtain⟨rfl,rfl⟩:=My;have aaE:c'<128:=(by simpa using aaE);have hcb:(bs[pos]'Gk).toNat=c':=by rw[jL, <-hs,Zb6]at tF;obtain⟨b',u7,EU⟩:=Zf0.1 tF;obtain⟨hl,hbb'⟩:=H3.1 u7;rw[<-EU, <-hbb'];rfl);have V7:=decode_ascii bs pos Gk (by rw[hcb];exact aaE);rw[hcb]at V7;have Gn:(setObj (ρ bb).au (.stringIter bs (pos+1))).run P w= .ok () { w with heap:=w.heap.setIfInBounds (ρ bb).au (.stringIter bs (pos+1)) }:=(by simp[setObj,Sem.run,HX]);have hltb:=(hW.live _ _ iX).2.1
   obtain⟨dN,YN⟩:=NB (w':={ w with heap:=w.heap.setIfInBounds (ρ bb).au (.stringIter bs (pos+1)) }) (x0:= .iu s (pos+1)) hW iX rfl rfl rfl (by simp)
     (λk hk=>by simp[Zd1 (Ne.symm hk)]) ⟨bs,by simp[hltb],hs,Sc⟩
   refine⟨.value (.tuple #[.bool true,goInt pos,.int .i32 (c':Int)]),_,_,ρ,?_,Yields.value _,λ_ _=>rfl,dN,?_,YN⟩
   .simp only[execOp,ho,he,Instr.next,Sem.run_bind,pP,Result.andThen_ok,Gk,Ze8,V7,Gn,Sem.run_pure]
   .exact .qC (ak.cons (.bool true) (ak.cons (.int _ _) (ak.cons (.int _ _) ak.nil)))
 . (rename_i aY;have aY:¬pos<s.length:=λh=>by have:Nat.blt pos s.length=true:=(by simpa using h);rw[this]at aY;cases aY);simp only[H0]at hr;subst hr;have Gk:¬pos<bs.size:=(by omega);refine .pure (x:= .tuple #[.bool false]) ?_ (.qC (ak.cons (.bool false) ak.nil));simp only[execOp,ho,he,Instr.next,Sem.run_bind,pP,Result.andThen_ok,Gk,Zd7,Sem.run_pure]
end
section
variable{P:Program}{tt:TT}{ρ:Pos->Loc}{C:Cells}{st:St}{w w':World}
theorem aP.of_heap(hW:aP ρ C st w)(h:w'.heap=w.heap):aP ρ C st w' where
 live b x hb:=let⟨h1,h2,h3⟩:=hW.live b x hb;⟨h1,by rw[h];exact h2,h3.of_heap (by rw[h])⟩
 inj:=hW.inj
 cO a v ha:=let⟨h1,h2⟩:=hW.cO a v ha;⟨by unfold World.cell? at h1 ⊢; rw[h];exact h1,h2⟩
 whole a v ha o ho:=by have:=hW.whole a v ha o ho;unfold World.cell? at this ⊢; rw[h];exact this
theorem Lv{es:Nat}:∀{xs:List (List AV)}(_h:∀(i:Nat)(cs:List AV),xs[i]? =some cs->cs.length=es)(q:Nat)(v:AV),
  xs.flatten[q]? =some v->∃cs,xs[q / es]? =some cs/\cs[q % es]? =some v
 |[],_,q,v,hv=>by simp at hv
 |c ::xs,h,q,v,hv=>by
  have hc:c.length=es:=h 0 c rfl;have fM:∀(i:Nat)(cs:List AV),xs[i]? =some cs->cs.length=es:=λi cs hi=>h (i+1) cs (by simpa using hi)
  rw[Zf9]at hv;rcases Zi0 q c.length with hq|hq
  . rw[Zc7 hq]at hv;refine⟨c,?_,?_⟩
    .   rw[Nat.div_eq_of_lt (by omega)];rfl
    .   rw[Zj3 (by omega)];exact hv
  . rw[   Zc8 hq]at hv;obtain⟨cs,h1,h2⟩:=Lv fM (q - c.length) v hv;rw[hc]at hq h1 h2;have Xk:0<es:=by
        rcases Zn4 es with h0|h0
        .subst h0;have hl:=fM _ _ h1;have:=(H3.1 h2).1;omega
        .exact h0
    refine⟨cs,?_,?_⟩
    .   rw[Nat.div_eq_sub_div Xk hq];simpa using h1
    .   rw[Zn3 hq];exact h2
theorem Lw{es:Nat}:∀{xs:List (List AV)}(_h:∀(i:Nat)(cs:List AV),xs[i]? =some cs->cs.length=es),xs.flatten.length=xs.length*es
 |[],_=>by simp
 |c::xs,h=>by have hc:c.length=es:=h 0 c rfl;rw[Zf9,Zd8,Lw (λi cs hi=>h (i+1) cs (by simpa using hi)),hc,Ze3,Zi1];omega
theorem js(hW:aP ρ C st w){es m:Nat}{u:AV}{x:Value}{new:List AV}{k:Nat}(hu:aj ρ st.next.toNat C u x)(hk:cN u=some k)(hmk:m<=k)(h:bX es m (λb=>st.heap.get b) u=some new)(w2:World)(eM:w2.heap=w.heap):
   ∃ys:List Value,(Builtin.firstCells es m x).run P w2= .ok ys.toArray w2/\ak ρ st.next.toNat C new ys/\(u= .ax\/new.length=m*es):=by
 have EV:=hW.of_heap (w':=w2) eM;unfold bX at h;split at h
 .simp only[H0]at h;subst h;rw[hu.eF];exact⟨[],by simp[Builtin.firstCells],ak.nil,.inl rfl⟩
 . rename_i b off len cap es';simp only[cN,H0]at hk;subst hk;obtain⟨aa,aH,he,hle,_,ha⟩:=hu.cK;rw[he];split at h
   .rename_i h0;have h0:=H2 h0;simp only[H0]at h;subst h;exact⟨[],by simp[Builtin.firstCells,h0,loadCells,loadCellsFrom],ak.nil,.inr (by simp[h0])⟩
   .rename_i h0;have h0:=Zb0 h0;(split at h<;>first|(cases h;done)|skip);rename_i cs fz hb;have hm:m≠0:=(by intro e;subst e;simp at h0);obtain⟨_,rfl,_⟩:=ha (by omega);obtain⟨ys,h1,h2⟩:=EV.loadCells (P:=P) hb h;exact⟨ys,by simp only[Builtin.firstCells];exact h1,h2,.inr (rV h)⟩
 . rename_i xs es';simp only[cN,H0]at hk;subst hk;(split at h<;>first|(cases h;done)|skip);rename_i SS Lx;have SS:=H2 SS;have Lx:=H4 Lx;subst SS;simp only[H0]at h;subst h;obtain⟨aa,aH,cell,he,hle,wD,g1,g2,g3⟩:=hu.qE;rw[he];have cX:∀(i:Nat)(cs:List AV),(xs.take m)[i]? =some cs->cs.length=es:=λi cs hi=>by
     rw[Za9]at hi;split at hi
     .exact g1 i cs hi
     .cases hi
   have SU:=Lw cX;rw[Zh9,Zj5 Lx]at SU;have ace:∀q v,(xs.take m).flatten[q]? =some v->∃cs,xs[q / es]? =some cs/\cs[q % es]? =some v:=λq v hv=>by
     obtain⟨cs,h1,h2⟩:=Lv cX q v hv;rw[Za9]at h1;split at h1
     .exact⟨cs,h1,h2⟩
     .cases h1
   refine⟨(List.range (m*es)).map λq=>cell (q / es) (q % es),?_,⟨by simp[SU],λq v y hv hy=> ?_⟩,.inr SU⟩
   .simp only[Builtin.firstCells];(refine run_loadCells w2 _ _ _ λq hq=> ?_);have aY:q<(xs.take m).flatten.length:=(by rw[SU];exact hq);obtain⟨cs,h1,h2⟩:=ace q _ (H1 aY);have wD:=wD (by intro e;rw[e]at h1;simp at h1);obtain⟨ab,ao,asp⟩:=aa;simp only at wD;subst wD;have:=(EV.cO _ _ (g2 _ _ _ _ h1 h2)).1;rw[jM];simp only at this;rw[show ao+q=ao+q / es*es+q % es from by rw[Zg5,Nat.mul_comm,Nat.div_add_mod]];exact this
   .obtain⟨cs,h1,h2⟩:=ace q v hv;have hq:q<m*es:=(by rw[<-SU];exact(H3.1 hv).1);simp[hq]at hy;subst hy;exact g3 _ _ _ _ h1 h2
 . rename_i s;simp only[cN,H0]at hk;subst hk;(split at h<;>first|(cases h;done)|skip);rename_i SS Lx;have SS:=H2 SS;have Lx:=H4 Lx;subst SS;simp only[H0]at h;subst h;obtain⟨bs,rfl,hs⟩:=hu.dD;refine⟨(s.take m).map λ(c:Nat)=>Value.int .u8 (.ofNat c),?_,⟨by simp,λq v y hv hy=> ?_⟩,.inr (by simp;omega)⟩
   .simp only[Builtin.firstCells,Sem.run_pure];congr 1;apply Zk6;simp only[Zn6,ByteArray.data_extract,Zm7,List.extract,Zc5,Zl1];rw[<-hs, <-Zm4,Zf8];rfl
   .simp only[Zb6,Zf0]at hv hy;obtain⟨c,hc,rfl⟩:=hv;obtain⟨c',tF,rfl⟩:=hy;rw[hc]at tF;cases tF;exact .int _ _
 .cases h
theorem Mz{n:Nat}{u:AV}{x:Value}{k:Nat}(hu:aj ρ n C u x)(hk:cN u=some k):(Builtin.lenOf x).run P w= .ok k w:=by
 unfold cN at hk;split at hk<;>first|(cases hk;done)|skip
 all_goals simp only[H0]at hk;subst hk
 .rw[hu.eF];rfl
 .obtain⟨_,_,he,_⟩:=hu.cK;rw[he];rfl
 .obtain⟨_,_,_,he,_⟩:=hu.qE;rw[he];rfl
 .obtain⟨bs,rfl,hs⟩:=hu.dD;rw[<-uL hs];rfl
theorem Qu(nl:Nat):∀(r c:Nat),c<=nl+(nl+768) / 4->Builtin.growBy nl r c<=nl+(nl+768) / 4
 |0,c,h=>h
 |r+1,c,h=>by
  unfold Builtin.growBy;split
  .exact h
  .exact Qu nl r _ (by omega)
theorem nextslicecap_le{Xo cW:Nat}(h:cW<Xo):Builtin.nextslicecap Xo cW<=2*Xo+768:=by
 unfold Builtin.nextslicecap;split
 .omega
 . split
   .omega
   .have:=Qu Xo 4 cW (by omega);omega
theorem Gp(hT:bG P tt){t t2 e:Nat}{ts:Array TypeId}{ti HW te:TI}(cC:tt.get (key t)=some ti)(Jb:tt.get (key t2)=some HW)(hk:ti.k= .slice e)(mU:∀k,HW.k≠ .int k)
  (eo:tt.get (key e)=some te) (h0:ts[0]? =some t) (h1:ts[1]? =some t2) (ty:TypeId) (base:Option Addr) (n cap m:Nat) (x:Value) (w:World)
  (hx:(Builtin.lenOf x).run P w= .ok m w) (hb:(2*(n+m)+768)*te.bytes<=281474976710656) (hi:n+m<=9223372036854775807):
  (Builtin.append_ ts ty #[.slice base n cap,x]).run P w=
    if n+m<=cap then((Builtin.firstCells te.size m x).run P w).andThen λnew w=>((match base with|some a=>storeCells (a.add (n*te.size)) new.toList|none=>pure ()).run P w).andThen λ_ w=>.ok (.slice base (n+m) cap) w
    else((Builtin.firstCells te.size n (.slice base n cap)).run P w.drew).andThen λcW w1=>((Builtin.firstCells te.size m x).run P w1).andThen λnew w2=>((zeroValue e).run P w2).andThen λz w3=>
        .ok (.slice (some ⟨w3.heap.size,0,none⟩) (n+m) (grownCap w (n+m) cap e)) (w3.alloc (.cells (cW++new++Builtin.zeroCells z.cells (grownCap w (n+m) cap e - (n+m))) e)):=by
 obtain⟨d,hd,bP⟩:=(hT.at cC).und;rw[hk]at bP;rw[ke bP]at hd;obtain⟨d2,hd2,aaF⟩:=(hT.at Jb).und;obtain⟨i0,jY,jq,hib,_⟩:=(hT.at eo).info;have aeh:∀k,d2≠ .int k:=by
  rintro k rfl;cases Af:HW.k<;>rw[Af]at aaF<;>first|(simp[bt]at aaF;done)|exact absurd Af (mU _)
 have Xp:¬(((n+m:Nat):Int)>IntKind.i64.max):=by
  have:IntKind.i64.max=9223372036854775807:=by decide
  rw[this];omega
 have aei:¬(n+m<=cap)->¬(Builtin.nextslicecap (n+m) cap*te.bytes>2 ^ 48):=λhc=>by
  have h1:=nextslicecap_le (Nat.lt_of_not_le hc);have h2:=Zh3 te.bytes h1;have:(2:Nat) ^ 48=281474976710656:=by decide
  omega
 have O5:∀q,(Question.appendCap (n+m) cap e).forced=q->q=false:=by rintro q rfl;rfl
 clear aaF;cases d2<;>first|(exact absurd rfl (aeh _))|skip
 all_goals
  unfold Builtin.append_;simp only[h0,h1,List.getElem?_toArray,Ze6,Zg0,Sem.run_bind,aJ hd,Result.andThen_ok,fW jY,jq,aJ hd2,Sem.run_pure,hx,Zd4,Zd7,Zl2,Ze8,Sem.run_ite];by_cases hc:n+m<=cap
  .rw[Za6 hc,Za6 hc];cases base<;>simp only[Sem.run_bind,Sem.run_pure,Result.andThen_ok]
  .rw[Za5 hc,Za5 hc];simp only[Sem.run_bind,SH jY,hib,Result.andThen_ok,Xp,false_and,Zd7,aei hc,run_choose,Question.forced,Zd4,World.drew_eq,run_askRoom,Sem.run_pure,newRow,run_newObj,World.alloc_eq];rfl
end
section
variable{P:Program}{tt:TT}{ρ:Pos->Loc}{C:Cells}{st:St}{w w':World}
theorem aaG{L:Loc}{cs:List AV}{n:Nat}(fz:Nat)(h:j7 ρ n C L w' (.cells cs 0)):j7 ρ n C L w' (.cells cs fz):=
 let⟨c,e,fr,h1,h2,h3,h4,h5⟩:=h
 ⟨c,e,fr,h1,h2,h3,h4,λi _ hi=>h5 i (Zk8 _) hi⟩
theorem Xq(hW:aP ρ C st w)(del:Option Pos)(fz:Nat){cW new rest:List Value}{ol nl:List AV}{e:TypeId}{n m es aH:Nat}(h1:ak ρ st.next.toNat C ol cW)(h2:ak ρ st.next.toNat C nl new)
  (tG:ol.length=n*es) (H8:nl.length=m*es) (hr:rest.length=(aH - (n+m))*es) (hc:n+m<=aH) {w2:World} (eM:w2=w.drew.alloc (.cells (cW++new++rest).toArray e)):
  ∃ρ':Pos->Loc,(∀b:Pos,b.toNat<st.next.toNat->ρ' b=ρ b)/\aP ρ' C (st.aG del none (some (.cells (ol++nl) fz))) w2/\iL ρ st w ρ' (st.aG del none (some (.cells (ol++nl) fz))) w2/\
   aj ρ' (st.aG del none (some (.cells (ol++nl) fz))).next.toNat C (.slice st.next 0 (n+m) none es) (.slice (some ⟨w.heap.size,0,none⟩) (n+m) aH):=by
 subst eM;have tH:cW.length=n*es:=by rw[<-h1.1,tG]
 have jE:new.length=m*es:=by rw[<-h2.1,H8]
 have ei:(cW++new++rest).length=aH*es:=by simp only[Zd8,tH,jE,hr];rw[<-Zi1, <-Zi1];congr 1;omega
 obtain ⟨ρ',aN,dH,dN,hE⟩:=tE (w':=w.drew.alloc (.cells (cW++new++rest).toArray e)) (o:= .cells (cW++new++rest).toArray e) (x0:= .cells (ol++nl) fz) (base:=0) (size:=(cW++new++rest).toArray.size) hW del rfl rfl rfl rfl (λρ' n' aN hn=>
  aaG   fz <| vp (e:=e) (fr:=(0,0)) (by show(w.heap.push _)[w.heap.size]? =_;simp) (by simp[tG,H8,tH,jE])
   (by
        have:(cW++new++rest).toArray.toList.take (ol++nl).length=cW++new:=by
         rw[Zj6 (by simp[tG,H8,tH,jE])]
        rw[this];exact(h1.append h2).mono aN hn) (λi _=>by simp))
 refine⟨ρ',aN,dN,hE,ze (by simp[St.aG,Pos.aB]) dH hc (λc hc=>by cases hc) (by simp only[Zl3,ei];exact Za1 _)⟩
theorem zK(z:Array Value)(m:Nat):(Builtin.zeroCells z m).toList.length=m*z.size:=by simp[Builtin.zeroCells]
theorem aaH{m:Nat}(h:Nat.beq m 0=false):m≠0:=Zb0 h
theorem Gq (hT:bG P tt){t t2 e:Nat}{ts:Array TypeId}{ti HW te:TI}{z:List AV}(cC:tt.get (key t)=some ti)(Jb:tt.get (key t2)=some HW)(hk:ti.k= .slice e)(mU:∀k,HW.k≠ .int k)
   (eo:tt.get (key e)=some te) (hz:te.zero=some z) (h0:ts[0]? =some t) (h1:ts[1]? =some t2) (ty:TypeId) {s u:AV} {xs xu:Value} {res:bV} (hW:aP ρ C st w)
   (hs:aj ρ st.next.toNat C s xs) (hu:aj ρ st.next.toNat C u xu) (hr:eU (λb=>st.heap.get b) st.next te.size te.bytes [s,u]=some res):
   rU P ρ C st w (((Builtin.append_ ts ty #[xs,xu]).run P w).andThen λv w=>.ok (.value v) w) res:=by
 simp only[eU]at hr;split at hr<;>first|(cases hr;done)|skip
 rename_i n m hn hm;split at hr<;>first|(cases hr;done)|skip
 rename_i b1 b2;have b1:=H4 b1;have b2:=H4 b2;have hlen:=Mz (P:=P) (w:=w) hu hm;obtain⟨i0,jY,jq,_,yc⟩:=(hT.at eo).info;obtain⟨zv0,hzv0,_,NF,_⟩:=yc z hz;have Nz:=λw=>qG hT eo hz (ρ:=ρ) (n:=st.next.toNat) (C:=C) w
 have Lu:∃base aH,xs= .slice base n aH/\n<=aH:=by
   unfold cN at hn;split at hn<;>first|(cases hn;done)|skip
   .cases hn;exact⟨none,0,hs.eF,Za1 _⟩
   .cases hn;obtain⟨a,c,he,hle,_⟩:=hs.cK;exact⟨_,c,he,hle⟩
   .cases hn;obtain⟨a,c,_,he,hle,_⟩:=hs.qE;exact⟨_,c,he,hle⟩
   .rename_i s';exfalso;cases hbm:Nat.beq m 0<;>simp[hbm]at hr
 obtain⟨base,aH,fM,hle⟩:=Lu;have bQ:=Gp hT cC Jb hk mU eo h0 h1 ty base n aH m xu w hlen b1 b2;rw[fM,bQ];have hg:∀c,n+m<=grownCap w (n+m) c e:=λc=>by unfold grownCap Question.cut;exact Zl9 _ _
 have SV:∀(del:Option Pos)(fz:Nat)(ol nl:List AV),¬(n+m<=aH)->bX te.size n (λb=>st.heap.get b) s=some ol->bX te.size m (λb=>st.heap.get b) u=some nl->ol.length=n*te.size->nl.length=m*te.size->
     rU P ρ C st w ((if n+m<=aH then((Builtin.firstCells te.size m xu).run P w).andThen λnew w=>((match base with|some a=>storeCells (a.add (n*te.size)) new.toList|none=>pure ()).run P w).andThen λ_ w=>.ok (.slice base (n+m) aH) w
     else((Builtin.firstCells te.size n (.slice base n aH)).run P w.drew).andThen λcW w1=>((Builtin.firstCells te.size m xu).run P w1).andThen λnew w2=>((zeroValue e).run P w2).andThen λz w3=>
        .ok (.slice (some ⟨w3.heap.size,0,none⟩) (n+m) (grownCap w (n+m) aH e)) (w3.alloc (.cells (cW++new++Builtin.zeroCells z.cells (grownCap w (n+m) aH e - (n+m))) e))).andThen λv w=>.ok (.value v) w)
        (.aG (.slice st.next 0 (n+m) none te.size) del none (some (.cells (ol++nl) fz))):=by
   intro del fz ol nl hc ho qI tG H8;obtain⟨cW,e1,e2,_⟩:=js (P:=P) hW hs hn (Za1 _) ho w.drew rfl;obtain⟨new,e3,e4,_⟩:=js (P:=P) hW hu hm (Za1 _) qI w.drew rfl;obtain⟨zv,ye,_,qH⟩:=Nz w.drew;rw[fM]at e1;have Dh:(Builtin.zeroCells zv.cells (grownCap w (n+m) aH e - (n+m))).toList.length=(grownCap w (n+m) aH e - (n+m))*te.size:=(by rw[zK];congr 1;have:=qH.1;simp at this;omega);obtain⟨ρ',aN,dN,hE,hv⟩:=Xq hW del fz e2 e4 tG H8 Dh (hg aH) (e:=e) rfl;refine⟨_,_,_,ρ',?_,Yields.value _,aN,dN,hv,hE⟩;rw[Za5 hc];simp only[e1,e3,ye,Result.andThen_ok,World.size_drew];congr 2;simp
 have YP:∀nl,bX te.size m (λb=>st.heap.get b) u=some nl->m≠0->nl.length=m*te.size:=by
   intro nl qI hm0;obtain⟨_,_,_,h⟩:=js (P:=P) hW hu hm (Za1 _) qI w rfl;rcases h with rfl|h
   .simp[cN]at hm;omega
   .exact h
 have hls:∀ol,bX te.size n (λb=>st.heap.get b) s=some ol->ol.length=n*te.size:=by
   intro ol tI;obtain⟨ys,_,Bp,h⟩:=js (P:=P) hW hs hn (Za1 _) tI w rfl;rcases h with rfl|h
   .simp[cN]at hn;subst hn;simp[bX]at tI;subst tI;simp
   .exact h
 have hzero:m=0->aj ρ st.next.toNat C s xs->rU P ρ C st w ((if n+m<=aH then((Builtin.firstCells te.size m xu).run P w).andThen λnew w=>((match base with|some a=>storeCells (a.add (n*te.size)) new.toList|none=>pure ()).run P w).andThen λ_ w=>.ok (.slice base (n+m) aH) w
     else((Builtin.firstCells te.size n (.slice base n aH)).run P w.drew).andThen λcW w1=>((Builtin.firstCells te.size m xu).run P w1).andThen λnew w2=>((zeroValue e).run P w2).andThen λz w3=>
        .ok (.slice (some ⟨w3.heap.size,0,none⟩) (n+m) (grownCap w (n+m) aH e)) (w3.alloc (.cells (cW++new++Builtin.zeroCells z.cells (grownCap w (n+m) aH e - (n+m))) e))).andThen λv w=>.ok (.value v) w) (.val s):=by
   rintro rfl hsx;have hf:(Builtin.firstCells te.size 0 xu).run P w= .ok #[] w:=by
     unfold cN at hm;split at hm<;>first|(cases hm;done)|skip
     .  rw[hu.eF];simp[Builtin.firstCells]
     .  obtain⟨_,_,he,_⟩:=hu.cK;rw[he];simp[Builtin.firstCells,loadCells,loadCellsFrom]
     .  obtain⟨_,_,_,he,_⟩:=hu.qE;rw[he];simp[Builtin.firstCells,loadCells,loadCellsFrom]
     .  obtain⟨bs,rfl,_⟩:=hu.dD;simp only[Builtin.firstCells,Sem.run_pure];congr 1;apply Zk6;simp
   rw[fM]at hsx;refine .pure (x:= .slice base n aH) ?_ hsx;rw[Za6 (by omega),hf];cases base<;>simp[storeCells]
 split at hr<;>first|(cases hr;done)|skip
 .rename_i wG;simp only[H0]at hr;subst hr;exact hzero (H2 wG) hs
 .rename_i wG;simp only[H0]at hr;subst hr;exact hzero (H2 wG) hs
 .rename_i wG;simp only[H0]at hr;subst hr;exact hzero (H2 wG) hs
 ·
   rename_i wG;have wG:=aaH wG;(split at hr<;>first|(cases hr;done)|skip);rename_i new qI;simp only[H0]at hr;subst hr;have he:=hs.eF;rw[he]at fM;simp only[Value.slice.injEq]at fM;obtain⟨rfl,rfl,rfl⟩:=fM;have:=SV none 0 [] new (by omega) rfl qI (by simp) (YP new qI wG);simpa using this
 ·
   rename_i b off n' c es' wG;have wG:=aaH wG;simp only[cN,H0]at hn;subst hn;obtain⟨aa,cc,he,hlec,YQ,ha⟩:=hs.cK;rw[he]at fM;simp only[Value.slice.injEq]at fM;obtain⟨rfl,_,rfl⟩:=fM;have:=YQ c rfl;subst this;split at hr
   . rename_i qh;have qh:=H4 qh;(split at hr<;>first|(cases hr;done)|skip);rename_i cs fz new hb qI;(split at hr<;>first|(cases hr;done)|skip);rename_i c1 c2 c3;have c1:=H4 c1;simp only[Za4]at c2;have c2a:=H4 c2.1;have c2b:=H2 c2.2;subst c2b;simp only[H0]at hr;subst hr;obtain⟨aY,rfl,hbound⟩:=ha (by omega);obtain⟨ys,e1,e2,_⟩:=js (P:=P) hW hu hm (Za1 _) qI w rfl;have Gr:=YP new qI wG;obtain⟨w2,e3,dN,hE⟩:=Gm (P:=P) hW hb (by rw[Gr];rw[Zi1]at c1;omega) c2a c3 e2;refine⟨_,.slice (some ⟨(ρ b).au,(ρ b).base+off,none⟩) (n'+m) c,w2,ρ,?_,Yields.value _,λ_ _=>rfl,dN,?_,hE⟩
     .  rw[Za6 qh,e1];simp only[Result.andThen_ok,jM];rw[Zg5,e3];rfl
     .  exact .slice _ _ _ _ _ _ _ qh (λc hc=>by cases hc;rfl) (λ_=>⟨aY,rfl,hbound⟩) (λh=>by cases h)
   . rename_i qh;have qh:¬(n'+m<=c):=λh=>by rw[Nat.ble_eq_true_of_le h]at qh;cases qh
     (split at hr<;>first|(cases hr;done)|skip);rename_i cW new tI qI;simp only[H0]at hr;subst hr;exact SV none 0 cW new qh tI qI (hls cW tI) (YP new qI wG)
 ·
   rename_i b off n' es' wG;have wG:=aaH wG;simp only[cN,H0]at hn;subst hn;(split at hr<;>first|(cases hr;done)|skip);rename_i cs fz cW new hb tI qI;(split at hr<;>first|(cases hr;done)|skip);rename_i c2 c3;simp only[Za4]at c2;have c2a:=H4 c2.1;have c2b:=H2 c2.2;subst c2b;simp only[H0]at hr;subst hr;by_cases qh:n'+m<=aH
   ·
     obtain ⟨aa,cc,he,hlec,YQ,ha⟩:=hs.cK;rw[he]at fM;simp only[Value.slice.injEq]at fM;obtain⟨rfl,_,rfl⟩:=fM;obtain⟨aY,rfl,hbound⟩:=ha (by omega);obtain⟨ys,e1,e2,_⟩:=js (P:=P) hW hu hm (Za1 _) qI w rfl;have Gr:=YP new qI wG;have acf:=hls cW tI;obtain⟨NC,HX,c,ce,fr,g1,g2,g3,g4,g5⟩:=hW.live b _ hb;have hmul:(n'+m)*te.size<=cc*te.size:=Zh3 _ qh;have hmul2:(n'+m)*te.size=n'*te.size+m*te.size:=Zi1 _ _ _;have hyl:ys.length=m*te.size:=(by rw[<-e2.1,Gr]);have hold:ak ρ st.next.toNat C cW ((c.toList.drop ((ρ b).base+off)).take (n'*te.size)):=by
        simp only[bX]at tI;split at tI
        .rename_i hz0;have hz0:=H2 hz0;simp only[H0]at tI;subst tI;rw[hz0];simpa using(ak.nil:ak ρ st.next.toNat C [] [])
        . rw[hb]at tI;simp only at tI;obtain⟨ho1,Bx⟩:=Bs tI;have h:=(g4.drop off).take (n'*te.size);rw[<-ho1]at h;have:List.take (n'*te.size) (List.drop off (List.take cs.length (List.drop (ρ b).base c.toList)))=(c.toList.drop ((ρ b).base+off)).take (n'*te.size):=by
            rw[List.drop_take,Zn5,Zl4,Zj5 (by omega)]
          rw[this]at h;exact h
     obtain⟨w2,s1,s2,s3,s4,s5,s6,s7⟩:=iW (P:=P) (ρ b).au ce fr ys 0 ((ρ b).base+off+n'*te.size) c w g1 (by omega) (wF c3 e2) (λk hk jy=>by
        have:=g5 (k - (ρ b).base) (by omega) (by omega)
        rwa [show(ρ b).base+(k - (ρ b).base)=k from by omega]at this)
     simp only[Zh1]at s1 s2
     let ρ':Pos->Loc:=λq=>if q=st.next then⟨(ρ b).au,(ρ b).base+off,(ρ b).size⟩else ρ q
     have aN:∀q:Pos,q.toNat<st.next.toNat->ρ' q=ρ q:=λq hq=>Za5 (λe=>by rw[e]at hq;omega)
     have dH:ρ' st.next=⟨(ρ b).au,(ρ b).base+off,(ρ b).size⟩:=Za6 rfl;have hcl:c.toList.length=c.size:=(by simp);have hWn:aP ρ' C (st.aG (some b) none (some (.cells (cW++new) (fz - off)))) w2:=by
        refine hW.Xd (b0:=st.next) (x0:= .cells (cW++new) (fz - off)) (by rw[Pos.aB];omega) (by rw[Pos.aB];omega) (by rw[T.dP]) ?_ aN ?_ ?_ (by rw[dH,s3];exact HX) (by omega) (λk hk jy=>s4 k (by rw[dH]at jy;exact jy))
        .intro q x hq hx;rw[T.bn _ (λe=>hq e.symm)]at hx;obtain⟨h1,h2⟩:=uM (some b) _ hx;refine⟨h1,?_⟩;rw[dH];exact λe=>h2 b rfl (hW.inj _ _ _ _ h1 hb e)
        . rw[dH];refine⟨_,ce,fr,s2,by simp[aK];omega,by simp[aK,acf,Gr];omega,?_,λi jY hi=> ?_⟩
          . (simp only;rw[DW _ _ _ _ (by omega)];have yd:(aK (c.toList.drop ((ρ b).base+off)) (n'*te.size) ys).take (cW++new).length=(c.toList.drop ((ρ b).base+off)).take (n'*te.size)++ys:=by unfold aK;rw[<-Zi2,Zj6];simp[acf,Gr,hyl];omega);rw[yd];exact(hold.append e2).mono aN (by rw[Pos.aB];omega)
          . have NG:(ρ b).base+off+i<c.size:=(by simp only[Zl3]at hi;have:(aK c.toList ((ρ b).base+off+n'*te.size) ys).length=c.size:=(by simp[aK];omega);omega);have:=g5 (off+i) (by omega) (by omega);simp only
            rwa [<-Zg5]at this
        .intro ad v hv;rw[dH];exact λe=>(hW.cO ad v hv).2 b _ hb e.symm
     refine⟨_,(.slice (some ⟨(ρ b).au,(ρ b).base+off,none⟩) (n'+m) cc),w2,ρ',?_,Yields.value _,aN,hWn,?_,⟨s5,s6,s7,by omega,λk _ hk=>s4 k (λe=>hk b _ hb e.symm),λq x hx=> ?_⟩⟩;rotate_left;rotate_left
     .  left;by_cases hq:q=st.next
        .exact⟨b,_,hb,by rw[hq,dH]⟩
        .simp only[St.aG,Gd]at hx;rw[T.bn _ (λe=>hq e.symm)]at hx;obtain⟨h1,_⟩:=uM (some b) _ hx;exact⟨q,x,h1,by rw[aN q (hW.live q x h1).1]⟩
     .  rw[Za6 qh,e1];simp only[Result.andThen_ok,jM];rw[s1];rfl
     .  refine .slice _ _ _ _ _ _ _ qh (λc hc=>by cases hc) (λ_=>⟨by simp[St.aG,Pos.aB],by rw[dH];rfl,?_⟩) (λ_=>by simp[St.aG,Pos.aB]);rw[dH];simp only;omega
   .exact SV (some b) _ cW new qh tI qI (hls cW tI) (YP new qI wG)
end
section
variable{P:Program}{tt:TT}{ρ:Pos->Loc}{C:Cells}{st:St}{w w':World}
theorem Qv:∀l:List Nat,aU (l.map λc=>AV.int .u8 (.ofNat c))=true
 |[]=>rfl
 |a::l=>by simpa [aU,AV.one]using Qv l
theorem Ly(hW:aP ρ C st w)(del:Option Pos){cW new rest:List Value}{ol nl:List AV}{e:TypeId}{n m aH:Nat}(h1:ak ρ st.next.toNat C ol cW)(h2:ak ρ st.next.toNat C nl new)
  (tG:ol.length=n) (H8:nl.length=m) (hr:rest.length=aH - (n+m)) (hc:n+m<=aH) {w2:World} (eM:w2=w.drew.alloc (.cells (cW++new++rest).toArray e)):
  ∃ρ':Pos->Loc,(∀b:Pos,b.toNat<st.next.toNat->ρ' b=ρ b)/\aP ρ' C (st.aG del none (some (.typed e (ol++nl)))) w2/\iL ρ st w ρ' (st.aG del none (some (.typed e (ol++nl)))) w2/\
   aj ρ' (st.aG del none (some (.typed e (ol++nl)))).next.toNat C (.slice st.next 0 (n+m) none 1) (.slice (some ⟨w.heap.size,0,none⟩) (n+m) aH):=by
 subst eM;have tH:cW.length=n:=by rw[<-h1.1,tG]
 have jE:new.length=m:=by rw[<-h2.1,H8]
 have ei:(cW++new++rest).length=aH:=by simp only[Zd8,tH,jE,hr];omega
 obtain ⟨ ρ',aN,dH,dN,hE⟩:=tE (w':=w.drew.alloc (.cells (cW++new++rest).toArray e)) (o:= .cells (cW++new++rest).toArray e) (x0:= .typed e (ol++nl)) (base:=0) (size:=(cW++new++rest).toArray.size) hW del rfl rfl rfl rfl (λρ' n' aN hn=>
  ⟨_,   (0,0),by show(w.heap.push _)[w.heap.size]? =_;simp,rfl,by simp[tG,H8,tH,jE],by
        have:(cW++new++rest).toArray.toList.take (ol++nl).length=cW++new:=by
          rw[Zj6 (by simp[tG,H8,tH,jE])]
        rw[Zc5,this];exact(h1.append h2).mono aN hn,λi _=>by simp,rfl⟩)
 refine⟨ρ',aN,dN,hE,ze (by simp[St.aG,Pos.aB]) dH hc (λc hc=>by cases hc) (by simp only[Zl3,ei,Zj4];exact Za1 _)⟩
theorem Vr (hT:bG P tt){t t2 e:Nat}{ts:Array TypeId}{ti HW te:TI}{z:List AV}(cC:tt.get (key t)=some ti)(Jb:tt.get (key t2)=some HW)(hk:ti.k= .slice e)(mU:∀k,HW.k≠ .int k)
  (eo:tt.get (key e)=some te) (hz:te.zero=some z) (h8:te.size=1) (h0:ts[0]? =some t) (h1:ts[1]? =some t2) (ty:TypeId) {s u:AV} {xs xu:Value} {res:bV} (hW:aP ρ C st w)
  (hs:aj ρ st.next.toNat C s xs) (hu:aj ρ st.next.toNat C u xu) (hr:rS (λb=>st.heap.get b) st.next e te.bytes [s,u]=some res):
  rU P ρ C st w (((Builtin.append_ ts ty #[xs,xu]).run P w).andThen λv w=>.ok (.value v) w) res:=by
 have Nz:=λw=>qG hT eo hz (ρ:=ρ) (n:=st.next.toNat) (C:=C) w
 simp only[rS]at hr;split at hr<;>first|(cases hr;done)|skip
 rename_i us;obtain⟨bs,rfl,HX⟩:=hu.dD;have hm:cN (AV.str us)=some us.length:=rfl;have hlen:=Mz (P:=P) (w:=w) hu hm
 have YS:∀{n:Nat}{s:AV},cN s=some n->Nat.ble ((2*(n+us.length)+768)*te.bytes) 281474976710656=true->Nat.ble (n+us.length) 9223372036854775807=true->us.length=0->(s= .ax\/∃b,s= .slice b 0 n none 1)->
    eU (λb=>st.heap.get b) st.next te.size te.bytes [s,.str us]=some (.val s):=by
  intro n s h1 h2 h3 h4 h5;rw[h4]at h2 h3;rcases h5 with rfl|⟨b,rfl⟩
  .simp only[eU,h1,hm,h2,h3,h4];try rfl
  .simp only[eU,h1,hm,h2,h3,h4];try rfl
 have qI:bX te.size us.length (λb=>st.heap.get b) (.str us)=some (us.map λc=>AV.int .u8 (.ofNat c)):=by
  have e1:Nat.beq te.size 1=true:=by rw[h8];rfl
  have e2:Nat.ble us.length us.length=true:=Nat.ble_self_eq_true _;simp only[bX,e1,e2,Zk4]
 split at hr<;>first|(cases hr;done)|skip
 ·
  split at hr<;>first|(cases hr;done)|skip
  rename_i b1 b2;split at hr
  .rename_i hb;simp only[H0]at hr;subst hr;exact Gq hT cC Jb hk mU eo hz h0 h1 ty hW hs hu (YS rfl b1 b2 (H2 hb) (.inl rfl))
  . rename_i hb;have hb:=Zb0 hb;simp only[H0]at hr;subst hr;have fM:=hs.eF;subst fM;have bQ:=Gp hT cC Jb hk mU eo h0 h1 ty none 0 0 us.length (.string bs) w hlen (H4 b1) (H4 b2);rw[bQ,Za5 (by omega)];have hg:0+us.length<=grownCap w (0+us.length) 0 e:=(by unfold grownCap Question.cut;exact Zl9 _ _);obtain⟨new,e3,e4,_⟩:=js (P:=P) hW hu hm (Za1 _) qI w.drew rfl;obtain⟨zv,ye,_,qH⟩:=Nz w.drew;have V6:zv.cells.size=1:=(by have:=qH.1;have h2:=(hT.at eo).info;obtain⟨i0,jY,jq,_,yc⟩:=h2;obtain⟨v0,ES,_,YT,_⟩:=yc z hz;simp at this;omega);have Dh:(Builtin.zeroCells zv.cells (grownCap w (0+us.length) 0 e - (0+us.length))).toList.length=grownCap w (0+us.length) 0 e - (0+us.length):=by
        rw[zK,V6,Zj4]
    obtain⟨ρ',aN,dN,hE,hv⟩:=Ly hW none (ak.nil (ρ:=ρ)) e4 (by simp) (by simp) Dh hg (e:=e) rfl;refine⟨_,_,_,ρ',?_,Yields.value _,aN,dN,hv,hE⟩;have e0:(Builtin.firstCells te.size 0 (.slice none 0 0)).run P w.drew= .ok #[] w.drew:=(by simp[Builtin.firstCells]);simp only[e0,e3,ye,Result.andThen_ok,World.size_drew];congr 2;simp
 ·
  rename_i b n;split at hr<;>first|(cases hr;done)|skip
  rename_i b1 b2;split at hr
  .rename_i hb;simp only[H0]at hr;subst hr;exact Gq hT cC Jb hk mU eo hz h0 h1 ty hW hs hu (YS rfl b1 b2 (H2 hb) (.inr ⟨_,rfl⟩))
  . rename_i hbm;have hbm:=Zb0 hbm;(split at hr<;>first|(cases hr;done)|skip);rename_i e' cs hb;(split at hr<;>first|(cases hr;done)|skip);rename_i cW ji tI;have ji:=H2 ji;subst ji;simp only[H0]at hr;subst hr;obtain⟨aa,aH,fM,hle,YQ,ha⟩:=hs.cK;subst fM;have bQ:=Gp hT cC Jb hk mU eo h0 h1 ty (some aa) n aH us.length (.string bs) w hlen (H4 b1) (H4 b2);rw[bQ];obtain⟨ho1,Bx⟩:=Bs tI;have Xr:=rV tI;obtain⟨NC,hbs2,c,fr,g1,g2,g3,g4,g5,g6⟩:=hW.live b _ hb;by_cases qh:n+us.length<=aH
    ·
        obtain⟨aY,rfl,hbound⟩:=ha (by omega);rw[Zj4,g6,Zh1,Zb9]at hbound;rw[g6]at g3 g4 g5;simp only[Zb9,Zc5]at g3 g4 g5;obtain⟨ys,e1,e2,_⟩:=js (P:=P) hW hu hm (Za1 _) qI w rfl;have hyl:ys.length=us.length:=(by rw[<-e2.1];simp);have hold:ak ρ st.next.toNat C cW (c.toList.take n):=(by have h:=(g4.drop 0).take n;rw[<-ho1,Zc5,Zn5,Zj5 (by omega)]at h;exact h);obtain⟨w2,s1,s2,s3,s4,s5,s6,s7⟩:=iW (P:=P) (ρ b).au e fr ys 0 n c w g1 (by omega) (wF (Qv us) e2) (λk hk jy=>g5 k (Zk8 _) jy);simp only[Zh1]at s1 s2
        let ρ':Pos->Loc:=λq=>if q=st.next then⟨(ρ b).au,0,(ρ b).size⟩else ρ q
        have aN:∀q:Pos,q.toNat<st.next.toNat->ρ' q=ρ q:=λq hq=>Za5 (λe=>by rw[e]at hq;omega)
        have dH:ρ' st.next=⟨(ρ b).au,0,(ρ b).size⟩:=Za6 rfl;have hcl:c.toList.length=c.size:=(by simp);have hWn:aP ρ' C (st.aG (some b) none (some (.typed e (cW++us.map λc=>AV.int .u8 (.ofNat c))))) w2:=by
          refine hW.Xd (b0:=st.next) (x0:= .typed e (cW++us.map λc=>AV.int .u8 (.ofNat c))) (by rw[Pos.aB];omega) (by rw[Pos.aB];omega) (by rw[T.dP]) ?_ aN ?_ ?_ (by rw[dH,s3];exact hbs2) (by omega) (λk hk jy=>s4 k (by rw[dH]at jy;exact jy))
          .intro q x hq hx;rw[T.bn _ (λe=>hq e.symm)]at hx;obtain⟨h1,h2⟩:=uM (some b) _ hx;refine⟨h1,?_⟩;rw[dH];exact λe=>h2 b rfl (hW.inj _ _ _ _ h1 hb e)
          . rw[dH];refine⟨_,fr,s2,by simp[aK];omega,by simp[aK,Xr];omega,?_,λi jY hi=> ?_,rfl⟩
            . (simp only[Zc5];have yd:(aK c.toList n ys).take (cW++us.map λc=>AV.int .u8 (.ofNat c)).length=c.toList.take n++ys:=by unfold aK;rw[<-Zi2,Zj6];simp[Xr,hyl];omega);rw[yd];exact(hold.append e2).mono aN (by rw[Pos.aB];omega)
            .have NG:i<c.size:=(by simp only[Zl3,Zb9]at hi;have:(aK c.toList n ys).length=c.size:=(by simp[aK];omega);omega);simpa using g5 i (Zk8 _) NG
          .intro ad v hv;rw[dH];exact λe=>(hW.cO ad v hv).2 b _ hb e.symm
        refine⟨_,(.slice (some ⟨(ρ b).au,(ρ b).base+0,none⟩) (n+us.length) aH),w2,ρ',?_,Yields.value _,aN,hWn,?_,⟨s5,s6,s7,by omega,λk _ hk=>s4 k (λe=>hk b _ hb e.symm),λq x hx=> ?_⟩⟩;rotate_left;rotate_left
        . left;by_cases hq:q=st.next
          .exact⟨b,_,hb,by rw[hq,dH]⟩
          .simp only[St.aG,Gd]at hx;rw[T.bn _ (λe=>hq e.symm)]at hx;obtain⟨h1,_⟩:=uM (some b) _ hx;exact⟨q,x,h1,by rw[aN q (hW.live q x h1).1]⟩
        .rw[Za6 qh,e1];simp only[Result.andThen_ok,jM,h8,Zj4,g6,Zb9];rw[s1];rfl
        .refine .slice _ _ _ _ _ _ _ qh (λc hc=>by cases hc) (λ_=>⟨by simp[St.aG,Pos.aB],by rw[dH,g6],?_⟩) (λ_=>by simp[St.aG,Pos.aB]);rw[dH];simp only;omega
    .   rw[ Za5 qh];have hg:n+us.length<=grownCap w (n+us.length) aH e:=(by unfold grownCap Question.cut;exact Zl9 _ _);obtain⟨new,e3,e4,_⟩:=js (P:=P) hW hu hm (Za1 _) qI w.drew rfl;obtain⟨zv,ye,_,qH⟩:=Nz w.drew;have V6:zv.cells.size=1:=(by have:=qH.1;have h2:=(hT.at eo).info;obtain⟨i0,jY,jq,_,yc⟩:=h2;obtain⟨v0,ES,_,YT,_⟩:=yc z hz;simp at this;omega);have Dh:(Builtin.zeroCells zv.cells (grownCap w (n+us.length) aH e - (n+us.length))).toList.length=grownCap w (n+us.length) aH e - (n+us.length):=by
          rw[zK,V6,Zj4]
        have hold:∃os:List Value,(Builtin.firstCells te.size n (.slice (some aa) n aH)).run P w.drew= .ok os.toArray w.drew/\ak ρ st.next.toNat C cW os:=by
          by_cases Lz:n=0
          .subst Lz;have:cW=[]:=Za7 Xr;subst this;exact⟨[],by simp[Builtin.firstCells,loadCells,loadCellsFrom],ak.nil⟩
          .obtain⟨aY,rfl,hbound⟩:=ha (by omega);obtain⟨ys,Bp,gu⟩:=(show aP ρ C st w.drew from⟨λb x hb=>hW.live b x hb,hW.inj,hW.cO,hW.whole⟩).Nv (P:=P) hb tI;exact⟨ys,by simpa [Builtin.firstCells,h8]using Bp,gu⟩
        obtain⟨os,e5,e6⟩:=hold;obtain⟨ρ',aN,dN,hE,hv⟩:=Ly hW (some b) e6 e4 Xr (by simp) Dh hg (e:=e) rfl;refine⟨_,_,_,ρ',?_,Yields.value _,aN,dN,hv,hE⟩;simp only[e5,e3,ye,Result.andThen_ok,World.size_drew];congr 2;simp
theorem RE{ts:Array TypeId}(ty:TypeId){s:AV}{xs:Value}{res:bV}(hs:aj ρ st.next.toNat C s xs)(hW:aP ρ C st w)(hr:qA (λb=>st.heap.get b) st.next [s]=some res):
   rU P ρ C st w (((Builtin.unsafeSliceData_ ts ty #[xs]).run P w).andThen λv w=>.ok (.value v) w) res:=by
 simp only[qA]at hr;split at hr<;>first|(cases hr;done)|skip
 .simp only[H0]at hr;subst hr;have:=hs.eF;subst this;exact .pure (x:= .pointer none) rfl .gq
 .rename_i b off n cap es;(split at hr<;>first|(cases hr;done)|skip);rename_i h0;have h0:=Zb0 h0;simp only[H0]at hr;subst hr;obtain⟨aa,aH,fM,hle,_,ha⟩:=hs.cK;subst fM;have hc:aH≠0:=(by omega);obtain⟨h1,h2,_⟩:=ha hc;refine .pure (x:= .pointer (some aa)) (by rw[Lib.run_unsafeSliceData_row w ts ty aa n aH hc];rfl) ?_;rw[h2];exact .ptr b off h1
theorem adA(hW:aP ρ C st w){b:Pos}{x:AB}(hb:st.heap.get b=some x)(h1:w'.os=w.os)(h2:w'.tape=w.tape)(h3:w'.output=w.output)(ei:w'.heap.size=w.heap.size)
   (sY:∀k,k≠(ρ b).au->w'.heap[k]? =w.heap[k]?):
   aP ρ C (st.aG (some b) none none) w'/\iL ρ st w ρ (st.aG (some b) none none) w':=by
 have pP:∀c y,(st.aG (some b) none none).heap.get c=some y->st.heap.get c=some y/\c≠b:=λc y hc=>by
   obtain⟨g1,g2⟩:=uM (some b) _ (show(DR (some b) st.heap).get c=some y from hc);exact⟨g1,λe=>g2 b rfl e⟩
 refine⟨⟨λc y hc=> ?_,λc c' y y' hc tF e=>hW.inj c c' y y' (pP c y hc).1 (pP c' y' tF).1 e,λa v ha=> ?_,λa v ha o ho=> ?_⟩,⟨h1,h2,h3,by omega,λk _ hk=>sY k (λe=>hk b x hb e.symm),λc y hc=>.inl ⟨c,y,(pP c y hc).1,rfl⟩⟩⟩
 .obtain⟨g1,g2⟩:=pP c y hc;obtain⟨k1,k2,k3⟩:=hW.live c y g1;exact⟨k1,by omega,k3.of_heap (sY _ λe=>g2 (hW.inj _ _ _ _ g1 hb e))⟩
 .obtain⟨g1,g2⟩:=hW.cO a v ha;refine⟨?_,λc y hc=>g2 c y (pP c y hc).1⟩;have:=sY a.block (λe=>g2 b x hb e.symm);rw[<-g1];simp only[World.cell?,this]
 .have:=sY a.block (λe=>(hW.cO a v ha).2 b x hb e.symm);rw[<-hW.whole a v ha o ho];simp only[World.cell?,this]
theorem RF(hT:bG P tt){t t2 e:Nat}{ts:Array TypeId}{ti te:TI}(cC:tt.get (key t)=some ti)(hk:ti.k= .ptr e)(eo:tt.get (key e)=some te)(h8:te.size=1)(cL:ts.toList=[t,t2])
   (ty:TypeId) {s u:AV} {xs xu:Value} {res:bV} (hW:aP ρ C st w)
   (hs:aj ρ st.next.toNat C s xs) (hu:aj ρ st.next.toNat C u xu) (hr:mR (λb=>st.heap.get b) st.next e [s,u]=some res):
   rU P ρ C st w (((Builtin.unsafeString_ ts ty #[xs,xu]).run P w).andThen λv w=>.ok (.value v) w) res:=by
 obtain rfl:ts= #[t,t2]:=by apply Zk6;rw[cL]
 simp only[mR]at hr;split at hr<;>first|(cases hr;done)|skip
 rename_i n;have:=hu.gh;subst this;split at hr
 . rename_i h0;have:=H2 h0;subst this;split at hr<;>first|(cases hr;done)|skip
   .simp only[H0]at hr;subst hr;have:=hs.n9;subst this;exact .pure (x:= .string .empty) (by rw[show(Int.ofNat 0)=(0:Int)from rfl,Lib.run_unsafeString_none];rfl) (.str _ _ rfl)
   .simp only[H0]at hr;subst hr;obtain⟨_,he⟩:=hs.dQ;subst he;exact .pure (x:= .string .empty) (by rw[show(Int.ofNat 0)=(0:Int)from rfl,Lib.run_unsafeString_none];rfl) (.str _ _ rfl)
 . (rename_i h0;have h0:=Zb0 h0;(split at hr<;>first|(cases hr;done)|skip);rename_i b;(split at hr<;>first|(cases hr;done)|skip);rename_i e' cs hb;(split at hr<;>first|(cases hr;done)|skip);rename_i l he hcut Xp;have he:=H2 he;have Xp:=H4 Xp;subst he;(split at hr<;>first|(cases hr;done)|skip);rename_i s' SN;simp only[H0]at hr;subst hr;obtain⟨_,fM⟩:=hs.dQ;subst fM;obtain⟨d,hd,bP⟩:=(hT.at cC).und;rw[hk]at bP;rw[Nu bP]at hd;obtain⟨i0,jY,jq,_⟩:=(hT.at eo).info;have Dg:P.cellsOf e=1:=(by simp[Program.cellsOf,jY,jq,h8]);obtain⟨NC,hbs2,c,fr,g1,g2,g3,g4,g5,g6⟩:=hW.live b _ hb;rw[g6]at g3 g4 ⊢;simp only[Zb9,Zc5]at g3 g4;have Ni:w.shape? (ρ b).au=some (e,c.size):=(by simp[World.shape?,g1]);obtain⟨tH,jE⟩:=Bs hcut;have H8:=rV hcut;have gu:ak ρ st.next.toNat C l (c.toList.take n):=by have h:=(g4.drop 0).take n;rw[<-tH,Zc5,Zn5,Zj5 (by omega)]at h;exact h);obtain⟨e1,e2⟩:=DT SN gu;have Lu:s'.length=n:=(by have:=congrArg List.length e1;simp at this;omega);have bQ:=Lib.run_unsafeString_row (P:=P) w t t2 ty e hd Dg (ρ b).au c.size Ni (s'.map UInt8.ofNat) (by intro h;simp at h;rw[h]at Lu;simp at Lu;omega) (by simp;omega) (by simp;omega) (λj x hj=>by simp only[Zb6,Zf0]at hj;obtain⟨k,hk,rfl⟩:=hj;have hjn:j<n:=(by rw[<-Lu];exact(H3.1 hk).1);have h2:(c.toList.take n)[j]? =some (.int .u8 (k:Int)):=(by rw[e1];simp[hk]);rw[Za9,Za6 hjn]at h2;have hk256:=e2 k (Zc1 hk);rw[jM];simp only[World.cell?,g1,Zb9];rw[<-Zf1,h2];congr 2;simp;omega);have hlen:(s'.map UInt8.ofNat).length=n:=(by simp[Lu]);rw[hlen]at bQ;obtain⟨q1,q2⟩:=adA (w':=w.freeze ⟨(ρ b).au,0,none⟩ n) hW hb (by unfold World.freeze;split<;>rfl) (by unfold World.freeze;split<;>rfl) (by unfold World.freeze;split<;>rfl) (by unfold World.freeze;split<;>simp) (λk hk=>by
     unfold World.freeze;split
     .  rfl
     .  simp only[Zl7];rw[Za5 (λe=>hk e.symm)])
   refine⟨_,.string ⟨(s'.map UInt8.ofNat).toArray⟩,_,ρ,?_,Yields.value _,λ_ _=>rfl,q1,.str _ _ ?_,q2⟩
   .show((Builtin.unsafeString_ #[t,t2] ty #[.pointer (some ⟨(ρ b).au,0,none⟩),.int .i64 (n:Int)]).run P w).andThen _=_;rw[bQ];rfl
   . (simp only[Zf8];have e3:s'.map (UInt8.toNat∘UInt8.ofNat)=s'.map id:=Zi4 λc hc=>by have:=e2 c hc;simp only[Function.comp,id,UInt8.toNat_ofNat'];omega);rw[e3,List.map_id]
end
section
variable{P:Program}{tt:TT}{ρ:Pos->Loc}{C:Cells}{st:St}{w w':World}
theorem EW{n:Nat}{xs:Array Value}{u v:AV}(h:ak ρ n C [u,v] xs.toList):∃x y,xs= #[x,y]/\aj ρ n C u x/\aj ρ n C v y:=by
 obtain⟨x,l,h1,h2,h3⟩:=h.cons_inv;obtain⟨y,l',h4,h5,h6⟩:=h3.cons_inv;have:=h6.k8;subst this;exact⟨x,y,by apply Zk6;rw[h1,h4],h2,h5⟩
theorem SW{n:Nat}{xs:Array Value}{u:AV}(h:ak ρ n C [u] xs.toList):∃x,xs= #[x]/\aj ρ n C u x:=by
 obtain⟨x,l,h1,h2,h3⟩:=h.cons_inv;have:=h3.k8;subst this;exact⟨x,by apply Zk6;rw[h1],h2⟩
theorem SX{ts:Array TypeId}{t:TypeId}{l:List TypeId}(h:ts.toList=t::l):ts[0]? =some t:=by rw[<-Zf1,h];rfl
theorem arr1{ts:Array TypeId}{t t2:TypeId}{l:List TypeId}(h:ts.toList=t::t2::l):ts[1]? =some t2:=by rw[<-Zf1,h];rfl
theorem aaI(hT:bG P tt){t e:Nat}{ts:Array TypeId}{ti te:TI}(cC:tt.get (key t)=some ti)(hk:ti.k= .slice e)
   (eo:tt.get (key e)=some te) (h0:ts[0]? =some t) (ty:TypeId) {d u:AV} {xd xu:Value} {res:bV} (hW:aP ρ C st w)
   (hd:aj ρ st.next.toNat C d xd) (hu:aj ρ st.next.toNat C u xu) (hr:yx (λb=>st.heap.get b) st.next te.size [d,u]=some res):
   rU P ρ C st w (((Builtin.copy_ ts ty #[xd,xu]).run P w).andThen λv w=>.ok (.value v) w) res:=by
 obtain⟨dd,hdd,bP⟩:=(hT.at cC).und;rw[hk]at bP;rw[ke bP]at hdd;obtain⟨i0,jY,jq,_⟩:=(hT.at eo).info;simp only[yx]at hr;split at hr<;>first|(cases hr;done)|skip
 rename_i n m hn hm;have hlen:=Mz (P:=P) (w:=w) hu hm;have Lu:(∃s,d= .str s)\/∃base aH,xd= .slice base n aH/\n<=aH:=by
   unfold cN at hn;split at hn<;>first|(cases hn;done)|skip
   .cases hn;exact .inr ⟨none,0,hd.eF,Za1 _⟩
   .cases hn;obtain⟨a,c,he,hle,_⟩:=hd.cK;exact .inr ⟨_,c,he,hle⟩
   .cases hn;obtain⟨a,c,_,he,hle,_⟩:=hd.qE;exact .inr ⟨_,c,he,hle⟩
   .exact .inl ⟨_,rfl⟩
 have adB:m=0\/n=0->(Builtin.firstCells te.size 0 xu).run P w= .ok #[] w:=by
   intro _;unfold cN at hm;split at hm<;>first|(cases hm;done)|skip
   .rw[hu.eF];simp[Builtin.firstCells]
   .obtain⟨_,_,he,_⟩:=hu.cK;rw[he];simp[Builtin.firstCells,loadCells,loadCellsFrom]
   .obtain⟨_,_,_,he,_⟩:=hu.qE;rw[he];simp[Builtin.firstCells,loadCells,loadCellsFrom]
   .obtain⟨bs,rfl,_⟩:=hu.dD;simp only[Builtin.firstCells,Sem.run_pure];congr 1;apply Zk6;simp
 have lF:∀base aH,xd= .slice base n aH->(Builtin.copy_ ts ty #[xd,xu]).run P w=((Builtin.firstCells te.size (Nat.min m n) xu).run P w).andThen λcells w=>((match base with|some a=>storeCells a cells.toList|none=>pure ()).run P w).andThen λ_ w=>.ok (goInt (Nat.min m n)) w:=by
   intro base aH he;unfold Builtin.copy_;simp only[h0,he,List.getElem?_toArray,Ze6,Zg0,Sem.run_bind,aJ hdd,Result.andThen_ok,fW jY,jq,hlen];cases base<;>simp only[Sem.run_bind,Sem.run_pure,Result.andThen_ok]
 split at hr
 . rename_i vq;have vq:=H2 vq;(split at hr<;>first|(cases hr;done)|skip);rename_i hns;simp only[H0]at hr;subst hr;rcases Lu with⟨s,rfl⟩|⟨base,aH,he,hle⟩
   .exact absurd rfl (hns s)
   .have hk0':Nat.min m n=0:=vq;refine .pure (x:=goInt 0) ?_ (.int _ _);rw[lF base aH he,hk0',adB (by have:min m n=0:=vq;omega)];cases base<;>simp[storeCells]
 . rename_i vq;have vq:=Zb0 vq;(split at hr<;>first|(cases hr;done)|skip);rename_i b off n' cap es';(split at hr<;>first|(cases hr;done)|skip);rename_i cs fz new hb qI;(split at hr<;>first|(cases hr;done)|skip);rename_i c1 c2 c3;have c1:=H4 c1;have c2:=H4 c2;simp only[H0]at hr;subst hr;simp only[cN,H0]at hn;subst hn;obtain⟨aa,aH,he,hle,_,ha⟩:=hd.cK;have hmin:min m n'<=m/\min m n'<=n':=⟨Nat.min_le_left _ _,Nat.min_le_right _ _⟩
   obtain⟨aY,rfl,_⟩:=ha (by omega);obtain⟨ys,e1,e2,e3⟩:=js (P:=P) hW hu hm hmin.1 qI w rfl;have Gr:new.length=min m n'*te.size:=by
     rcases e3 with rfl|e3
     .simp[cN]at hm;omega
     .exact e3
   obtain⟨w2,f1,dN,hE⟩:=Gm (P:=P) hW hb (by rw[Gr];exact c1) c2 c3 e2;refine⟨_,goInt ((min m n':Nat):Int),w2,ρ,?_,Yields.value _,λ_ _=>rfl,dN,.int _ _,hE⟩;rw[lF _ _ he];have hmm:Nat.min m n'=min m n':=rfl;rw[hmm,e1];simp only[Result.andThen_ok];rw[f1];rfl
theorem acD(hT:bG P tt){t:Nat}{ts:Array TypeId}{ti:TI}(cC:tt.get (key t)=some ti){k:LK}(hk:(k= .s/\ti.k= .string)\/(k= .l/\∃e,ti.k= .slice e)\/(k= .m/\∃a b,ti.k= .map a b))
   (h0:ts[0]? =some t) (ty:TypeId) {u:AV} {xu:Value} {res:bV} (hW:aP ρ C st w)
   (hu:aj ρ st.next.toNat C u xu) (hr:EH (λb=>st.heap.get b) st.next k [u]=some res):
   rU P ρ C st w (((Builtin.len_ ts ty #[xu]).run P w).andThen λv w=>.ok (.value v) w) res:=by
 obtain⟨d,hd,bP⟩:=(hT.at cC).und;have lF:∀x,xu=x->(Builtin.len_ ts ty #[xu]).run P w=(Builtin.len_ ts ty #[x]).run P w:=λx e=>by rw[e]
 simp only[EH]at hr;rcases hk with⟨rfl,hk⟩|⟨rfl,e,hk⟩|⟨rfl,a,b,hk⟩<;>rw[hk]at bP
 .rw[jX bP]at hd;(cases u<;>simp only[reduceCtorEq]at hr<;>first|(cases hr;done)|skip);simp only[H0]at hr;subst hr;obtain⟨bs,rfl,hs⟩:=hu.dD;exact .pure (x:=goInt bs.size) (by unfold Builtin.len_;simp[h0,aJ hd]) (by rw[uL hs];exact .int _ _)
 . rw[ke bP]at hd;cases u<;>simp only[reduceCtorEq]at hr<;>first|(cases hr;done)|skip
   .simp only[H0]at hr;subst hr;rw[hu.eF];exact .pure (x:=goInt 0) (by unfold Builtin.len_;simp[h0,aJ hd]) (.int _ _)
   .simp only[H0]at hr;subst hr;obtain⟨aa,c,he,_⟩:=hu.cK;rw[he];exact .pure (by unfold Builtin.len_;simp[h0,aJ hd];rfl) (.int _ _)
   .simp only[H0]at hr;subst hr;obtain⟨aa,c,_,he,_⟩:=hu.qE;rw[he];exact .pure (by unfold Builtin.len_;simp[h0,aJ hd];rfl) (.int _ _)
 . rw[I4 bP]at hd;cases u<;>simp only[reduceCtorEq]at hr<;>first|(cases hr;done)|skip
   .simp only[H0]at hr;subst hr;rw[hu.yD];exact .pure (x:=goInt 0) (by unfold Builtin.len_;simp[h0,aJ hd]) (.int _ _)
   . (split at hr<;>first|(cases hr;done)|skip);rename_i es c hb;simp only[H0]at hr;subst hr;obtain⟨_,he⟩:=hu.vn;obtain⟨_,_,es',cX,hlen,_⟩:=hW.live _ _ hb;rw[he];exact .pure (x:=goInt es'.size) (by unfold Builtin.len_;simp[h0,aJ hd,run_getObj_map cX]) (by rw[<-hlen];exact .int _ _)
theorem O8(z:Array Value)(m:Nat):(Builtin.zeroCells z m).toList=bF z.toList m:=by
 unfold Builtin.zeroCells;by_cases h:0<z.size
 .exact SQ z m h
 .have h0:z.size=0:=(by omega);have:z= #[]:=Zm0 h0;subst this;have h1:bF ([]:List Value) m=[]:=Za7 (by rw[gP];simp);simp[h1]
theorem YU(hT:bG P tt){t e:Nat}{ts:Array TypeId}{ti te:TI}{z:List AV}(cC:tt.get (key t)=some ti)(hk:ti.k= .slice e)
   (eo:tt.get (key e)=some te) (hz:te.zero=some z) (h0:ts[0]? =some t) (ty:TypeId) {u:AV} {xu:Value} {res:bV} (hW:aP ρ C st w)
   (hu:aj ρ st.next.toNat C u xu) (hr:vg (λb=>st.heap.get b) st.next te.size z [u]=some res):
   rU P ρ C st w (((Builtin.clear_ ts ty #[xu]).run P w).andThen λv w=>.ok (.value v) w) res:=by
 obtain⟨dd,hdd,bP⟩:=(hT.at cC).und;rw[hk]at bP;rw[ke bP]at hdd;obtain⟨i0,jY,jq,_,yc⟩:=(hT.at eo).info;obtain⟨zv0,_,_,NF,_⟩:=yc z hz;obtain⟨zv,ye,_,qH⟩:=qG hT eo hz (ρ:=ρ) (n:=st.next.toNat) (C:=C) w;simp only[vg]at hr;split at hr<;>first|(cases hr;done)|skip
 .simp only[H0]at hr;subst hr;rw[hu.eF];exact .pure (x:=undef) (by unfold Builtin.clear_;simp[h0,aJ hdd];rfl) aj.uN
 . rename_i b off n cap es';obtain⟨aa,aH,he,hle,_,ha⟩:=hu.cK;rw[he];split at hr
   .rename_i Lz;have:=H2 Lz;subst this;simp only[H0]at hr;subst hr;exact .pure (x:=undef) (by unfold Builtin.clear_;simp[h0,aJ hdd];rfl) aj.uN
   . rename_i Lz;have Lz:=Zb0 Lz;(split at hr<;>first|(cases hr;done)|skip);rename_i cs fz hb;(split at hr<;>first|(cases hr;done)|skip);rename_i c1 c2 c3;have c1:=H4 c1;have c2:=H4 c2;simp only[H0]at hr;subst hr;obtain⟨_,rfl,_⟩:=ha (by omega);obtain⟨w2,f1,dN,hE⟩:=Gm (P:=P) hW hb (vs:=bF z n) (ys:=bF zv.cells.toList n) (by rw[gP,NF];exact c1) c2 c3 (DU qH n);refine⟨_,undef,w2,ρ,?_,Yields.value _,λ_ _=>rfl,dN,aj.uN,hE⟩;unfold Builtin.clear_;cases n with
     |zero=>exact absurd rfl Lz
     |succ n=>simp[h0,aJ hdd,ye,O8,f1,undef]
theorem EX(c:Call)(f:Operand)(hc:c.callee= .value f)(a:Act)(o:Oper)(ho:o.op= .call c){g:FuncId}{x y:Array Value}(he:a.eval f= .func (.func g) x y):
  (execOp a.eval o).run P w=(callFunc g (x++c.args.map a.eval++y)).run P w:=by
 simp[execOp,ho,resolve,hc,he,Deferred.ofValue,invoke]
theorem aaJ (hT:bG P tt) (c:Call):cw P tt (.call c):=by
 intro ρ C st w k xs cls fr a o vs res ho hc hW hF hx hr;simp only[eV]at hc;split at hc<;>first|(cases hc;done)|skip
 rename_i l hl;split at hc<;>first|(cases hc;done)|skip
 ·
  rename_i g MA;cases hc;have hv:=di hl hF hx;simp only[az.run,Mp,H0]at hr;subst hr;refine⟨c.args.toList.map a.eval,?_,hv⟩;rw[EX c _ MA a o ho (g:=g) (x:= #[]) (y:= #[]) rfl];congr 2;apply Zk6;simp
 ·
  rename_i f hnf MA;split at hc<;>first|(cases hc;done)|skip
  rename_i ao hao;cases hc;unfold dB at hx;split at hx<;>first|(cases hx;done)|skip
  rename_i fv hfv;split at hx<;>first|(cases hx;done)|skip
  rename_i vs' aaK;simp only[H0]at hx;subst hx;have h1:=n8 hao hF hfv;have h2:=di hl hF aaK;simp only[az.run,Mq]at hr;split at hr<;>first|(cases hr;done)|skip
  rename_i g first captured
  simp only[H0]at hr;subst hr;obtain⟨x,y,he,hx,hy⟩:=h1.yA;refine⟨x.toList++(c.args.toList.map a.eval++y.toList),?_,hx.append (h2.append hy)⟩;rw[EX c f MA a o ho he];congr 2;apply Zk6;simp
 ·
  rename_i b MA;have hex:∀(s:Sem Value),(∀consts,builtin b c.argTypes o.type consts (c.args.map a.eval)=(do pure (.value (<-s))))->(execOp a.eval o).run P w=(s.run P w).andThen λv w=>.ok (.value v) w:=by intro s hs;simp only[execOp,ho,resolve,MA,pure_bind,invoke];rw[hs];simp
  split at hc<;>first|(cases hc;done)|skip
  ·
   (split at hc<;>first|(cases hc;done)|skip);rename_i t _ _ cL;(split at hc<;>first|(cases hc;done)|skip);rename_i ti cC;have hv:=di hl hF (vs:=vs) (by
        split at hc<;>first|(cases hc;done)|skip
        all_goals cases hc;exact hx)
   rw[e9] at hv;rw[hex (Builtin.len_ c.argTypes o.type (c.args.map a.eval)) (λ_=>rfl)];have hu:∃u,vs=[u]      :=by
        have h1:=hv.1;have h2:(c.args.toList).length=1:=by
         have: ∀{xs:List   Operand}{os:List dA},gZ xs=some os->xs.length=os.length:=by
            intro xs;induction xs with
            |nil=>intro os h;simp[gZ]at h;subst h;rfl
            |cons x xs ih=>intro os h;unfold gZ at h;split at h<;>first|(cases h;done)|skip
                           rename_i e1 e2;simp only[H0]at h;subst h;simp[ih e2]
         rw[this hl];rfl
        match vs,h1 with
        |[u],_=>exact⟨u,rfl⟩
        |[],h1=>simp at h1 h2;omega
        |_::_::_,h1=>simp at h1 h2;omega
   obtain⟨u,rfl⟩:=hu;obtain⟨x,fM,hux⟩:=SW hv;rw[fM];split at hc<;>first|(cases hc;done)|skip
   all_goals
        rename_i hk;cases hc;simp only[az.run]at hr;refine acD hT cC ?_ (SX cL) o.type hW hux hr
   .    exact .inl ⟨rfl,hk⟩
   .    exact .inr (.inl ⟨rfl,_,hk⟩)
   .    exact .inr (.inr ⟨rfl,_,_,hk⟩)
  ·
   (split at hc<;>first|(cases hc;done)|skip);rename_i t t2 _ cL;(split at hc<;>first|(cases hc;done)|skip);rename_i ti HW cC Jb;split at hc<;>first|(cases hc;done)|skip
   .    rename_i e hk mU;(split at hc<;>first|(cases hc;done)|skip);rename_i te eo;(split at hc<;>first|(cases hc;done)|skip);rename_i z hz YE h8;have h8:=H2 h8;cases hc;have hv:=di hl hF hx;rw[e9]at hv;rw[hex (Builtin.append_ c.argTypes o.type (c.args.map a.eval)) (λ_=>rfl)];simp only[az.run]at hr;have hu:∃s u,vs=[s,u]:=by
         unfold rS at hr;(split at hr<;>first|(cases hr;done)|skip);exact⟨_,_,rfl⟩
        obtain⟨s,u,rfl⟩:=hu;obtain⟨x,y,fM,h1,h2⟩:=EW hv;rw[fM];exact Vr hT cC Jb hk (λk hk=>by rw[mU]at hk;cases hk) eo hz h8 (SX cL) (arr1 cL) o.type hW h1 h2 hr
   rename_i e hk mU _;(split at hc<;>first|(cases hc;done)|skip);rename_i te eo;(split at hc<;>first|(cases hc;done)|skip);rename_i z hz;cases hc;have hv:=di hl hF hx;rw[e9]at hv;rw[hex (Builtin.append_ c.argTypes o.type (c.args.map a.eval)) (λ_=>rfl)];simp only[az.run]at hr;have hu:∃s u,vs=[s,u]:=by
        unfold eU at hr;(split at hr<;>first|(cases hr;done)|skip);exact⟨_,_,rfl⟩
   obtain⟨s,u,rfl⟩:=hu;obtain⟨x,y,fM,h1,h2⟩:=EW hv;rw[fM];exact Gq hT cC Jb hk (λk hk=>mU k hk) eo hz (SX cL) (arr1 cL) o.type hW h1 h2 hr
  ·
   (split at hc<;>first|(cases hc;done)|skip);rename_i t _ cL;(split at hc<;>first|(cases hc;done)|skip);rename_i ti cC;(split at hc<;>first|(cases hc;done)|skip);rename_i e hk;(split at hc<;>first|(cases hc;done)|skip);rename_i te eo;cases hc;have hv:=di hl hF hx;rw[e9]at hv;rw[hex (Builtin.copy_ c.argTypes o.type (c.args.map a.eval)) (λ_=>rfl)];simp only[az.run]at hr;have hu:∃s u,vs=[s,u]:=by
        unfold yx at hr;(split at hr<;>first|(cases hr;done)|skip);exact⟨_,_,rfl⟩
   obtain⟨s,u,rfl⟩:=hu;obtain⟨x,y,fM,h1,h2⟩:=EW hv;rw[fM];exact aaI hT cC hk eo (SX cL) o.type hW h1 h2 hr
  ·
   (split at hc<;>first|(cases hc;done)|skip);cases hc;have hv:=di hl hF hx;rw[e9]at hv;rw[hex (Builtin.unsafeSliceData_ c.argTypes o.type (c.args.map a.eval)) (λ_=>rfl)];simp only[az.run]at hr;have hu:∃s,vs=[s]:=by
        unfold qA at hr;(split at hr<;>first|(cases hr;done)|skip);exact⟨_,rfl⟩
   obtain⟨s,rfl⟩:=hu;obtain⟨x,fM,h1⟩:=SW hv;rw[fM];exact RE o.type h1 hW hr
  ·
   (split at hc<;>first|(cases hc;done)|skip);rename_i t t2 cL;(split at hc<;>first|(cases hc;done)|skip);rename_i ti cC;(split at hc<;>first|(cases hc;done)|skip);rename_i e hk;(split at hc<;>first|(cases hc;done)|skip);rename_i te eo;(split at hc<;>first|(cases hc;done)|skip);rename_i YE h8;have h8:=H2 h8;cases hc;have hv:=di hl hF hx;rw[e9]at hv;rw[hex (Builtin.unsafeString_ c.argTypes o.type (c.args.map a.eval)) (λ_=>rfl)];simp only[az.run]at hr;have hu:∃s u,vs=[s,u]:=by
        unfold mR at hr;(split at hr<;>first|(cases hr;done)|skip);exact⟨_,_,rfl⟩
   obtain⟨s,u,rfl⟩:=hu;obtain⟨x,y,fM,h1,h2⟩:=EW hv;rw[fM];exact RF hT cC hk eo h8 cL o.type hW h1 h2 hr
  ·
   (split at hc<;>first|(cases hc;done)|skip);cases hc;have hv:=di hl hF hx;rw[e9]at hv;rw[hex (Builtin.min_ c.argTypes o.type (c.args.map a.eval)) (λ_=>rfl)];simp only[az.run]at hr;have hu:∃s u r,vs=[s,u]/\res= .val r:=by
        unfold A0 at hr;(split at hr<;>first|(cases hr;done)|skip);split at hr<;>first|(cases hr;done)|skip
        all_goals cases hr;exact⟨_,_,_,rfl,rfl⟩
   obtain⟨s,u,r,rfl,rfl⟩:=hu;obtain⟨x,y,fM,h1,h2⟩:=EW hv;obtain⟨z,hz,hvz⟩:=aaB (P:=P) (w:=w) h1 h2 hr;rw[fM];refine .pure (x:=z) ?_ hvz;simp[Builtin.min_,hz]
  ·
   (split at hc<;>first|(cases hc;done)|skip);cases hc;have hv:=di hl hF hx;rw[e9]at hv;rw[hex (Builtin.max_ c.argTypes o.type (c.args.map a.eval)) (λ_=>rfl)];simp only[az.run]at hr;have hu:∃s u r,vs=[s,u]/\res= .val r:=by
        unfold A3 at hr;(split at hr<;>first|(cases hr;done)|skip);split at hr<;>first|(cases hr;done)|skip
        all_goals cases hr;exact⟨_,_,_,rfl,rfl⟩
   obtain⟨s,u,r,rfl,rfl⟩:=hu;obtain⟨x,y,fM,h1,h2⟩:=EW hv;obtain⟨z,hz,hvz⟩:=aaC (P:=P) (w:=w) h1 h2 hr;rw[fM];refine .pure (x:=z) ?_ hvz;simp[Builtin.max_,hz]
  ·
   (split at hc<;>first|(cases hc;done)|skip);rename_i t _ cL;(split at hc<;>first|(cases hc;done)|skip);rename_i ti cC;(split at hc<;>first|(cases hc;done)|skip);rename_i e hk;(split at hc<;>first|(cases hc;done)|skip);rename_i te eo;(split at hc<;>first|(cases hc;done)|skip);rename_i z hz;cases hc;have hv:=di hl hF hx;rw[e9]at hv;rw[hex (Builtin.clear_ c.argTypes o.type (c.args.map a.eval)) (λ_=>rfl)];simp only[az.run]at hr;have hu:∃u,vs=[u]:=by
        unfold vg at hr;(split at hr<;>first|(cases hr;done)|skip);exact⟨_,rfl⟩
   obtain⟨u,rfl⟩:=hu;obtain⟨x,fM,hux⟩:=SW hv;rw[fM];exact YU hT cC hk eo hz (SX cL) o.type hW hux hr
theorem KO(hT:bG P tt)(op:Op):cw P tt op:=by
 cases op with
 |move x=>exact aax x
 |assign x=>exact Xg x
 |pick c x y=>exact aay c x y
 |alloc t=>exact YI hT t
 |box t x=>exact acB t x
 |build t ps=>exact YH hT t ps
 |buildSlice t n ps=>exact O7 hT t n ps
 |insert t m k v=>exact NI hT _ t m k v (.inr rfl)
 |load t x=>exact aaA hT t x
 |store t x y=>exact YL hT t x y
 |nilCheck x=>exact SM x
 |binOp op t x y yt=>exact Yz hT op t x y yt
 |unOp op t x=>exact aaz op t x
 |convert s d x=>
  by_cases h:∃xs cls,eV tt (.convert s d x)=some (.conv .bytes,xs,cls)
  .exact RD hT s d x h
  .exact Vp hT s d x λk xs cls hc e=>h ⟨xs,cls,by rw[hc,e]⟩
 |makeInterface t x=>exact Vn hT t x
 |makeFunc f x y=>exact Xh f x y
 |makeMap t r=>exact YJ t r hT
 |makeSlice t l c=>exact Vq hT t l c
 |slice t x l h m=>exact YD hT t x l h m
 |fieldAddr t x f=>exact RA hT t x f
 |field t x f=>exact YA hT t x f
 |indexAddr t x i=>exact RB hT t x i
 |index t x i=>exact YB hT t x i
 |lookup t x i ok=>exact Xj hT t x i ok
 |mapUpdate t m k v=>exact NI hT _ t m k v (.inl rfl)
 |range t x=>exact Xl hT t x
 |next it s=>exact YO it s
 |extract x i=>exact Vm x i
 |call c=>exact aaJ hT c
 |_=>intro ρ C st w k xs cls fr a o vs res ho hc;simp[eV]at hc
end
end
section
open Go
def Reaches(P:Program)(R:Value->World->Prop):Result Next->Prop
 |.ok (.value x) w'=>R x w'
 |.ok .skip w'=>R undef w'
 |.ok (.enter f args) w'=>Calls P f args w' λ|.returned v,w''=>R v w''|_,_=>False
 |.ok (.row row args) w'=>Rows P row args w' R
 |_=>False
theorem Reaches.mono{P:Program}{R R':Value->World->Prop}(h:∀x w,R x w->R' x w):∀{r:Result Next},Reaches P R r->Reaches P R' r
 |.ok (.value _) _,hr=>h _ _ hr
 |.ok .skip _,hr=>h _ _ hr
 |.ok (.enter _ _) _,hr=>Calls.mono hr λe w he=>by cases e<;>first|exact h _ _ he|exact he
 |.ok (.row _ _) _,hr=>Rows.mono hr h
section
variable(P:Program)(ops:Array Oper)
def O9(o:Oper)(K:Act->World->Prop)(a:Act)(w:World):Prop:=Reaches P (λx w'=>K (a.put o.dst x) w') ((execOp a.eval o).run P w)
def By(i:Nat)(K:Act->World->Prop)(a:Act)(w:World):Prop:=
 match ops[i]? with
 |none=>K a w
 |some o=>if Region.wanted o (yielded ops a.tmps)then O9 P o K a w else K (a.put o.dst undef) w
def oa(K:Act->World->Prop):List Nat->Act->World->Prop
 |[],a,w=>K a w
 |i::l,a,w=>By P ops i (oa K l) a w
def Sd(K:Act->World->Prop):Nat->Array Bool->Act->World->Prop
 |0,listed,a,w=>Region.ready .any ops listed=[]/\K a w
 |fuel+1,listed,a,w=>(Region.ready .any ops listed=[]->K a w)/\∀i∈Region.ready .any ops listed,By P ops i (Sd K fuel (listed.setIfInBounds i true)) a w
end
section
variable{P:Program}{ops:Array Oper}
theorem Qw{i:Nat}{K K':Act->World->Prop}{a:Act}{w:World}(h:∀a w,K a w->K' a w)(hh:By P ops i K a w):By P ops i K' a w:=by
 unfold By at*
 split
 .rename_i ho;rw[ho]at hh;exact h _ _ hh
 . rename_i o ho;rw[ho]at hh;dsimp only at hh;split
   .rename_i hw;rw[Za6 hw]at hh;exact Reaches.mono (λx w' hk=>h _ _ hk) hh
   .rename_i hw;rw[Za5 hw]at hh;exact h _ _ hh
theorem Qx{K:Act->World->Prop}{l2:List Nat}:∀(l1:List Nat)(a:Act)(w:World),oa P ops (oa P ops K l2) l1 a w->oa P ops K (l1++l2) a w
 |[],_,_,h=>h
 |_::l1,_,_,h=>Qw (λa w=>Qx l1 a w) h
end
section
variable(P:Program)
def Jc(R:(Exit->Act->World->Prop)->Act->World->Prop)(Q:Exit->Act->World->Prop):Nat->Act->World->Prop
 |0,_,_=>False
 |n+1,a,w=>R (Exit.then (Jc R Q n) Q) a w
def dO:Code->(Exit->Act->World->Prop)->Act->World->Prop
 |.skip,Q,a,w=>Q .normal a w
 |  .region _ ops draw,Q,a,w=>match draw with
    |false=>oa P ops (Q .normal) (List.range ops.size) a w
    |true=>P.follows .mixedOrders=true/\Sd P ops (Q .normal) ops.size (Array.replicate ops.size false) a { w with drawn:=w.drawn+1 }
 |.seq x y,Q,a,w=>dO x (Exit.then (dO y Q) Q) a w
 |  .cond c x y,Q,a,w=>∃t,a.eval c= .bool t/\match t with
    |true=>dO x Q a w
    |false=>dO y Q a w
 |.block id x,Q,a,w=>dO x (Exit.inBlock id Q) a w
 |.loop x,Q,a,w=>∃n,Jc (dO x) Q n a w
 |.exit id,Q,a,w=>Q (.exit id) a w
 |.ret,Q,a,w=>Q .ret a w
 |_,_,_,_=>False
end
section
variable{P:Program}{Q:Exit->Act->World->Prop}{a:Act}{w:World}
theorem YV(h:Q .normal a w):dO P .skip Q a w:=h
theorem YW{id:Nat}(h:Q (.exit id) a w):dO P (.exit id) Q a w:=h
theorem Bz{x y:Code}(h:dO P x (Exit.then (dO P y Q) Q) a w):dO P (.seq x y) Q a w:=h
theorem NJ{id:Nat}{x:Code}(h:dO P x (Exit.inBlock id Q) a w):dO P (.block id x) Q a w:=h
theorem DX{id:Nat}{ops:Array Oper}(h:oa P ops (Q .normal) (List.range ops.size) a w):dO P (.region id ops false) Q a w:=h
theorem Pa{c:Operand}{x y:Code}(hc:a.eval c= .bool true)(h:dO P x Q a w):dO P (.cond c x y) Q a w:=⟨true,hc,h⟩
theorem NK{c:Operand}{x y:Code}(hc:a.eval c= .bool false)(h:dO P y Q a w):dO P (.cond c x y) Q a w:=⟨false,hc,h⟩
theorem YX{x:Code}(n:Nat)(h:Jc (dO P x) Q n a w):dO P (.loop x) Q a w:=⟨n,h⟩
theorem Qy{R:(Exit->Act->World->Prop)->Act->World->Prop}{n:Nat}:Jc R Q (n+1) a w=R (Exit.then (Jc R Q n) Q) a w:=rfl
end
def ob:Code->List Nat
 |.region _ ops _=>ops.toList.filterMap (·.dst)
 |.seq a b=>ob a++ob b
 |.cond _ a b=>ob a++ob b
 |.block _ a=>ob a
 |.loop a=>ob a
 |_=>[]
abbrev Fc(r:Option Nat):Fence:={ Fence.wide with round:=r }
section
variable{P:Program}{r:Option Nat}{n:Nat}{ts:Nat->Prop}{x:Array Value}{ds D:List Deferred}
def InF(D ds:List Deferred)(ts:Nat->Prop)(x:Array Value)(Q:Exit->Act->World->Prop):Exit->Act->World->Prop:=
 λe a w=>a.defers=D/\(∀t,ts t->a.tmps[t]? =x[t]?)/\Q e ⟨a.tmps,ds⟩ w
theorem acE{row:String}{args:Array Value}{w:World}{R:Value->World->Prop}(h:Rows P row args w R):RowsIn (Fc r) n P row args w R:=
 λc cs _=>let⟨v,w',hr,hs⟩:=h c cs;⟨v,w',hr,stepsIn_wide.2 hs⟩
theorem aaL{f:FuncId}{args:Array Value}{w:World}{R:Ending->World->Prop}(h:Calls P f args w R):CallsIn (Fc r) n P f args w R:=callsIn_wide.2 h
theorem EY{T:Array Value}{o:Operand}:(⟨T,ds⟩:Act).eval o=(⟨T,D⟩:Act).eval o:=by cases o<;>rfl
theorem adC{T:Array Value}{d:Option Tmp}{v:Value}:(⟨T,ds⟩:Act).put d v=⟨((⟨T,D⟩:Act).put d v).tmps,ds⟩:=by cases d<;>rfl
theorem acF{T:Array Value}{d:Option Tmp}{v:Value}:(⟨T,ds⟩:Act).put d v=⟨((⟨T,ds⟩:Act).put d v).tmps,ds⟩:=by cases d<;>rfl
theorem aaM{T:Array Value}{d:Option Tmp}{v:Value}{t:Nat}(h:d≠some t):((⟨T,ds⟩:Act).put d v).tmps[t]? =T[t]? :=by
 cases d with
 |none=>rfl
 |some e=>
  show(T.setIfInBounds e v)[t]? =T[t]?;exact Zd1 λh'=>h (by rw[h'])
theorem acG{o:Oper}{K:Act->World->Prop}{K':Act->World->Prop}{Q:Exit->Act->World->Prop}{T:Array Value}{w:World}(h:O9 P o K ⟨T,ds⟩ w)
  (hK:∀v w',K ((⟨T,ds⟩:Act).put o.dst v) w'->K' ((⟨T,D⟩:Act).put o.dst v) w'):o.wpIn (Fc r) n P ⟨T,D⟩ w K' Q:=by
 refine⟨λ_ _=>trivial,?_⟩;have he:(⟨T,D⟩:Act).eval=(⟨T,ds⟩:Act).eval:=funext λ_=>EY
 rw[he];unfold O9 at h;have hs:o.semAt r (⟨T,ds⟩:Act).eval=execOp (⟨T,ds⟩:Act).eval o:=by
  cases r with
  |none=>rfl
  | some l=>
    unfold Oper.semAt;(cases ho:o.op<;>first|rfl|skip);exfalso;unfold execOp at h;rw[ho]at h;simp only[Sem.run_bind,Sem.run_pure]at h;cases hr:(resolve (⟨T,ds⟩:Act).eval _ o.type).run P w<;>rw[hr]at h<;>simp[Result.andThen,Reaches]at h
 show o.uponIn (Fc r) n P _ _ _ ((o.semAt r (⟨T,ds⟩:Act).eval).run P w);rw[hs];generalize (execOp (⟨T,ds⟩:Act).eval o).run P w=z at h;cases z with
 |ok m w'=>
  cases m<;>simp only[Reaches]at h
  .exact hK _ _ h
  .exact hK _ _ h
  .exact⟨λhd=>by simp[Fence.wide]at hd,(aaL h).mono λe w he=>by cases e<;>first|exact hK _ _ he|exact he.elim⟩
  .exact⟨λhd=>by simp[Fence.wide]at hd,(acE h).mono λv w he=>hK _ _ he⟩
 |halt v w'=>simp only[Reaches]at h
theorem V8{ops:Array Oper}{i:Nat}{K K':Act->World->Prop}{Q:Exit->Act->World->Prop}{T:Array Value}{w:World}(h:By P ops i K ⟨T,ds⟩ w)(cL:∀o,ops[i]? =some o->∀t,o.dst=some t->¬ts t)
   (hx:∀t,ts t->T[t]? =x[t]?) (hK:∀T' w',(∀t,ts t->T'[t]? =x[t]?)->K ⟨T',ds⟩ w'->K' ⟨T',D⟩ w'):wpOpIn (Fc r) n P ops Q i K' ⟨T,D⟩ w:=by
 unfold By at h;unfold wpOpIn;split at h
 .rename_i ho;rw[ho];exact hK _ _ hx h
 . (rename_i o ho;rw[ho];have Xs:∀v t,ts t->((⟨T,D⟩:Act).put o.dst v).tmps[t]? =x[t]? :=λv t ht=>by rw[aaM (λhd=>cL o ho t hd ht)];exact hx t ht);have lF:∀v w',K ((⟨T,ds⟩:Act).put o.dst v) w'->K' ((⟨T,D⟩:Act).put o.dst v) w':=λv w' hk=>by rw[adC (D:=D)]at hk;rw[acF];exact hK _ _ (Xs v) hk
   show if Region.wanted o (yielded ops T)=true then _ else _
   dsimp only at h;split at h
   .rename_i hw;rw[Za6 hw];exact acG h lF
   .rename_i hw;rw[Za5 hw];exact⟨λ_ _=>trivial,lF _ _ h⟩
theorem YY{ops:Array Oper}(cL:∀t∈ops.toList.filterMap (·.dst),¬ts t){i:Nat}:∀o,ops[i]? =some o->∀t,o.dst=some t->¬ts t:=λo ho t ht=>cL t (by
 rw[Zk7];exact⟨o,by rw[Zk1];exact Zj8 ho,ht⟩)
theorem Gs{ops:Array Oper}{K:Act->World->Prop}{Q:Exit->Act->World->Prop}{l2:List Nat}(hK:∀T' w',(∀t,ts t->T'[t]? =x[t]?)->K ⟨T',ds⟩ w'->wpOpsIn (Fc r) n P ops Q l2 ⟨T',D⟩ w'):
  ∀(l:List Nat)(T:Array Value)(w:World),(∀i∈l,∀o,ops[i]? =some o->∀t,o.dst=some t->¬ts t)->(∀t,ts t->T[t]? =x[t]?)->oa P ops K l ⟨T,ds⟩ w->wpOpsIn (Fc r) n P ops Q (l++l2) ⟨T,D⟩ w
 |[],T,w,_,hx,h=>hK T w hx h
 |i::l,T,w,cL,hx,h=>by rw[Ze9,wpOpsIn_cons];exact V8 h (cL i (Zc2 ..)) hx λT' w' nT hk=>Gs hK l T' w' (λj hj=>cL j (Za3 _ hj)) nT hk
theorem SY{ops:Array Oper}{K K':Act->World->Prop}{Q:Exit->Act->World->Prop}(hQ:Q .normal=K')(cL:∀t∈ops.toList.filterMap (·.dst),¬ts t)(hK:∀T' w',(∀t,ts t->T'[t]? =x[t]?)->K ⟨T',ds⟩ w'->K' ⟨T',D⟩ w'):
  ∀(fuel:Nat)(listed:Array Bool)(T:Array Value)(w:World),(∀t,ts t->T[t]? =x[t]?)->Sd P ops K fuel listed ⟨T,ds⟩ w->wpAnyIn (Fc r) n P .any ops Q fuel listed ⟨T,D⟩ w
 |0,listed,T,w,hx,h=>⟨h.1,by rw[hQ];exact hK T w hx h.2⟩
 |fuel+1,listed,T,w,hx,h=>⟨λhr=>by rw[hQ];exact hK T w hx (h.1 hr),λi hi=>V8 (h.2 i hi) (YY cL) hx λT' w' nT hk=>SY hQ cL hK fuel _ T' w' nT hk⟩
theorem dO.V9:∀(c:Code)(Q:Exit->Act->World->Prop)(T:Array Value)(w:World),(∀t∈ob c,¬ts t)->(∀t,ts t->T[t]? =x[t]?)->dO P c Q ⟨T,ds⟩ w->
  c.wpIn (Fc r) n P (InF D ds ts x Q) ⟨T,D⟩ w:=by
 intro c;induction c with
 |skip=>exact λQ T w _ hx h=>wpIn_skip ⟨rfl,hx,h⟩
 |region i ops d=>
  intro Q T w cL hx h;cases d
  .refine wpIn_region ?_;rw[<-Zf7 (List.range ops.size)];exact Gs (λT' w' nT hk=>by show InF D ds ts x Q .normal _ _;exact⟨rfl,nT,hk⟩) _ T w (λ_ _=>YY cL) hx h
  .exact wpIn_region_any h.1 (SY rfl cL (λT' w' nT hk=>⟨rfl,nT,hk⟩) _ _ T _ hx h.2)
 |seq a b SZ S0=>
  intro Q T w cL hx h;refine wpIn_seq (wpIn_mono (SZ _ T w (λt ht=>cL t (Zg2 _ ht)) hx h) ?_);rintro e ⟨T',D'⟩ w' ⟨h1,h2,h3⟩;dsimp only at h1;subst h1;cases e with
  |normal=>exact S0 Q T' w' (λt ht=>cL t (Zh8 _ ht)) h2 h3
  |_=>exact⟨rfl,h2,h3⟩
 |cond c a b SZ S0=>
  intro Q T w cL hx h;obtain⟨t,ht,h⟩:=h;refine wpIn_cond (t:=t) (by rw[<-ht];exact EY) ?_;cases t
  .exact S0 Q T w (λt ht=>cL t (Zh8 _ ht)) hx h
  .exact SZ Q T w (λt ht=>cL t (Zg2 _ ht)) hx h
 |block id a ih=>
  intro Q T w cL hx h;refine wpIn_block (wpIn_mono (ih _ T w cL hx h) ?_);rintro e a' w' ⟨h1,h2,h3⟩;cases e with
  | exit i=>
    simp only[Exit.inBlock]at h3 ⊢;split<;>(rename_i hi;first|rw[Za6 hi]at h3|rw[Za5 hi]at h3)<;>exact⟨h1,h2,h3⟩
  |_=>exact⟨h1,h2,h3⟩
 |loop a ih=>
  intro Q T w cL hx h;obtain⟨m,h⟩:=h;refine wpIn_loop_rounds m ?_;induction m generalizing T w with
  |zero=>exact h.elim
  | succ m ihm=>
    rw[roundsIn_succ];refine wpIn_mono (ih _ T w cL hx h) ?_;rintro e ⟨T',D'⟩ w' ⟨h1,h2,h3⟩;dsimp only at h1;subst h1;cases e with
    |normal=>exact ihm T' w' h2 h3
    |_=>exact⟨rfl,h2,h3⟩
 |exit id=>exact λQ T w _ hx h=>wpIn_exit ⟨rfl,hx,h⟩
 |ret=>exact λQ T w _ hx h=>wpIn_ret ⟨rfl,hx,h⟩
 |_=>exact λQ T w _ _ h=>h.elim
theorem dO.wp{c:Code}{Q:Exit->Act->World->Prop}{a:Act}{w:World}(h:dO P c Q a w):c.wp P Q a w:=by refine wpIn_wide (n:=0) |>.1 (wpIn_mono (dO.V9 (r:=none) (D:=a.defers) (ds:=a.defers) (ts:=λ_=>False) (x:= #[]) c Q a.tmps w (λ_ _ h=>h) (λ_ h=>h.elim) h) ?_);rintro e ⟨T,D⟩ w' ⟨h1,_,h3⟩;dsimp only at h1;subst h1;exact h3
end
end
section
open Go Go.RowKit
def ki(ρ:Pos->Loc)(C:Cells)(st:St)(w:World)(v:AV)(st':St)(x:Value)(w':World):Prop:=
 ∃ρ',aj ρ' st'.next.toNat C v x/\(∀b:Pos,b.toNat<st.next.toNat->ρ' b=ρ b)/\st.next.toNat<=st'.next.toNat/\aP ρ' C st' w'/\iL ρ st w ρ' st' w'
def eg(P:Program)(C:Cells)(call:ah):Prop:=
 ∀  (ρ:Pos->Loc)(st:St)(w:World)(f:FuncId)(args:List AV)(v:AV)(st':St)(bu:List Value),call f args st=some (v,st')->
    aP ρ C st w->ak ρ st.next.toNat C args bu->Reaches P (ki ρ C st w v st') ((callFunc f bu.toArray).run P w)
section
variable{P:Program}{tt:TT}{C:Cells}{call:ah}
theorem St.S6(st:St)(del:Option Pos)(set:Option (Pos×AB))(new:Option AB):st.next.toNat<=(st.aG del set new).next.toNat:=by
 cases new with
 |none=>exact Za1 _
 |some x=>simp only[St.aG,Pos.aB];omega
theorem LA(hT:bG P tt)(bB:eg P C call){ρ:Pos->Loc}{st st':St}{w:World}{k:az}{xs:List dA}{cls:VV}{fr:Fr}{a:Act}{o:Oper}{vs:List AV}{v:AV}
   (hc:eV tt o.op=some (k,xs,cls)) (hW:aP ρ C st w) (hF:eB ρ st.next.toNat C fr a.tmps) (hx:dB fr xs=some vs)
   (hs:bT call k vs st=some (v,st')):Reaches P (ki ρ C st w v st') ((execOp a.eval o).run P w):=by
 have H:=KO hT o.op ρ C st w k xs cls fr a o vs;unfold bT at hs;split at hs
 . rename_i u hr;simp only[H0,Za8]at hs;obtain⟨rfl,rfl⟩:=hs;obtain⟨N,x,he,hy,hv⟩:=H _ rfl hc hW hF hx hr;have hp:ki ρ C st w u st x w:=⟨ρ,hv,λ_ _=>rfl,Za1 _,hW,iL.refl _ _ _⟩
   rw[he];rcases hy with rfl|⟨rfl,rfl⟩<;>exact hp
 . rename_i u del set new hr;simp only[H0,Za8]at hs;obtain⟨rfl,rfl⟩:=hs;obtain⟨N,x,w',ρ',he,hy,aN,dN,hv,hE⟩:=H _ rfl hc hW hF hx hr;have hp:ki ρ C st w u (st.aG del set new) x w':=⟨ρ',hv,aN,St.S6 _ _ _ _,dN,hE⟩
   rw[he];rcases hy with rfl|⟨rfl,rfl⟩<;>exact hp
 .rename_i f args hr;obtain⟨bu,he,hv⟩:=H _ rfl hc hW hF hx hr;rw[he];exact bB ρ st w f args v st' bu hs hW hv
 .cases hs
structure rW(tt:TT)(nt:Nat)(ops:Array Oper)(o:Oper)(ao:aX):Prop where
 dst:ao.dst=o.dst.map key
 lt:∀d,o.dst=some d->d<nt
 guard:Nr ops o.guard=some ao.guard
 op:(eV tt o.op=some (ao.k,ao.xs,ao.cls))\/(ao.k= .bad/\ao.cls= .aG)
theorem lS{nt:Nat}{ops:Array Oper}:∀{os:List Oper}{bs:List Nat}{l:List aX},lC tt nt ops os bs=some l->
  l.length=os.length/\∀(i:Nat)(o:Oper),os[i]? =some o->∃ao,l[i]? =some ao/\rW tt nt ops o ao/\ao.br=bs.getD i 0
 |[],bs,l,h=>by simp[lC]at h;subst h;exact⟨rfl,λi o ho=>by simp at ho⟩
 |o ::os,bs,l,h=>by
  unfold lC at h;split at h<;>first|(cases h;done)|skip
  rename_i g l' hg hl hd;obtain⟨h1,h2⟩:=lS hl;have aY:∀d,o.dst=some d->d<nt:=λd hdd=>by rw[hdd]at hd;simpa [lC.ab8]using hd
  have hb:∀i,bs.tail.getD i 0=bs.getD (i+1) 0:=λi=>by cases bs<;>simp
  have VQ:bs.headD 0=bs.getD 0 0:=by cases bs<;>simp
  split at h
  . rename_i k xs cls hc;simp only[H0]at h;subst h;refine⟨by simp[h1],λi o' ho=> ?_⟩;cases i with
    |   zero=>
        simp at ho;subst ho;exact⟨_,rfl,⟨rfl,aY,hg,.inl hc⟩,VQ⟩
    |   succ i=>
        simp at ho;obtain⟨ao,h3,h4,h5⟩:=h2 i o' ho;exact⟨ao,by simpa using h3,h4,by rw[h5,hb]⟩
  . simp only[H0]at h;subst h;refine⟨by simp[h1],λi o' ho=> ?_⟩;cases i with
    |   zero=>
        simp at ho;subst ho;exact⟨_,rfl,⟨rfl,aY,hg,.inr ⟨rfl,rfl⟩⟩,VQ⟩
    |   succ i=>
        simp at ho;obtain⟨ao,h3,h4,h5⟩:=h2 i o' ho;exact⟨ao,by simpa using h3,h4,by rw[h5,hb]⟩
theorem BA{ops:Array Oper}{ρ:Pos->Loc}{n:Nat}{fr:Fr}{a:Act}{o:Oper}{g:Option (Pos×Bool)}{b:Bool}(hg:Nr ops o.guard=some g)
   (hF:∀p v,fr.get p=some v->(∃q,g=some (p,q))->∃x,a.tmps[p.toNat - 1]? =some x/\aj ρ n C v x)
   (hw:bC fr g=some b):Region.wanted o (yielded ops a.tmps)=b:=by
 unfold Region.wanted;unfold Nr at hg;split at hg
 .rename_i hn;simp only[H0]at hg;subst hg;simp only[bC,H0]at hw;subst hw;rw[hn]
 . rename_i j want hn;rw[hn];(split at hg<;>first|(cases hg;done)|skip);rename_i oj hj;(split at hg<;>first|(cases hg;done)|skip);rename_i d hd;simp only[H0]at hg;subst hg;simp only[bC]at hw;split at hw
   .rename_i u hu;simp only[H0]at hw;subst hw;obtain⟨x,hx,hv⟩:=hF _ _ hu ⟨_,rfl⟩;rw[dU,Ze1]at hx;have:=hv.fD;subst this;simp[yielded,hj,hd,hx]
   .rename_i l hu;simp only[H0]at hw;subst hw;obtain⟨x,hx,hv⟩:=hF _ _ hu ⟨_,rfl⟩;rw[dU,Ze1]at hx;obtain⟨cs,rfl,_⟩:=hv.Ql;simp[yielded,hj,hd,hx]
   .cases hw
theorem aj.Qz{ρ:Pos->Loc}{n:Nat}:aj ρ n C AV.undef undef:= .tuple [] #[] rfl λ_ _ _ h=>by simp at h
theorem Act.fY(a:Act)(d:Option Tmp)(v:Value):(a.put d v).tmps.size=a.tmps.size:=by cases d<;>simp[Act.put]
theorem Act.iq(a:Act)(d:Option Tmp)(v:Value):(a.put d v).defers=a.defers:=by cases d<;>rfl
theorem eB.put{ρ:Pos->Loc}{n nt:Nat}{fr:Fr}{a:Act}{d:Option Tmp}{v:AV}{x:Value}(hF:eB ρ n C fr a.tmps)(hs:a.tmps.size=nt)
  (hd:∀e,d=some e->e<nt) (hv:aj ρ n C v x):eB ρ n C (cE fr (d.map key) v) (a.put d x).tmps:=by
 cases d with
 |none=>exact hF
 |some e=>
  have he:=hd e rfl;intro p u hp;simp only[Zd9,cE]at hp;simp only[Act.put];by_cases NL:key e=p
  .subst NL;rw[T.dP]at hp;simp only[H0]at hp;subst hp;refine⟨x,?_,hv⟩;rw[dU,Ze1,Zj7];simp[hs,he]
  .rw[T.bn _ NL]at hp;obtain⟨y,hy,hr⟩:=hF p u hp;refine⟨y,?_,hr⟩;rw[Zd1,hy];intro h;apply NL;apply Pos.toNat_inj;rw[dU];have:=p.toNat_pos;omega
theorem eB.mono{ρ ρ':Pos->Loc}{n n':Nat}{fr:Fr}{tmps:Array Value}(hF:eB ρ n C fr tmps)(aN:∀b:Pos,b.toNat<n->ρ' b=ρ b)(hn:n<=n'):eB ρ' n' C fr tmps:=
 λp v hp=>let⟨x,hx,hv⟩:=hF p v hp;⟨x,hx,hv.mono aN hn⟩
structure kL(nt:Nat)(ρ:Pos->Loc)(C:Cells)(fr:Fr)(st:St)(a:Act)(w:World):Prop where
 W:aP ρ C st w
 F:eB ρ st.next.toNat C fr a.tmps
 size:a.tmps.size=nt
 defers:a.defers=[]
def eG(nt:Nat)(ρ:Pos->Loc)(C:Cells)(st:St)(w:World)(aQ:Fr)(st':St)(a':Act)(w':World):Prop:=
 ∃ρ',kL nt ρ' C aQ st' a' w'/\(∀b:Pos,b.toNat<st.next.toNat->ρ' b=ρ b)/\st.next.toNat<=st'.next.toNat/\iL ρ st w ρ' st' w'
theorem eG.refl{nt:Nat}{ρ:Pos->Loc}{fr:Fr}{st:St}{a:Act}{w:World}(h:kL nt ρ C fr st a w):eG nt ρ C st w fr st a w:=
 ⟨ρ,h,λ_ _=>rfl,Za1 _,iL.refl _ _ _⟩
theorem eG.trans{nt:Nat}{ρ cY:Pos->Loc}{sx:Fr}{st aL jk:St}{a2:Act}{w w1 w2:World}
  (h1:∀b:Pos,b.toNat<st.next.toNat->cY b=ρ b) (h2:st.next.toNat<=aL.next.toNat) (h3:iL ρ st w cY aL w1)
  (h:eG nt cY C aL w1 sx jk a2 w2):eG nt ρ C st w sx jk a2 w2:=by
 obtain⟨j8,k1,k2,k3,k4⟩:=h;exact⟨j8,k1,λb hb=>(k2 b (Zb7 hb h2)).trans (h1 b hb),Zc4 h2 k3,h3.trans k4⟩
theorem Reaches.bad{k:az}{vs:List AV}{st:St}{r:AV×St}(hk:k= .bad)(h:bT call k vs st=some r):False:=by subst hk;simp[bT,az.run]at h
theorem oc(hT:bG P tt)(bB:eg P C call){nt:Nat}{ops:Array Oper}{K:Act->World->Prop}:∀(S7:List aX)(k:Nat)(fr aQ:Fr)(st st':St)(ρ:Pos->Loc)(a:Act)(w:World),
  (∀(i:Nat)(ao:aX),S7[i]? =some ao->∃o,ops[k+i]? =some o/\rW tt nt ops o ao)->
  g7 call S7 fr st=some (aQ,st')->kL nt ρ C fr st a w->(∀a' w',eG nt ρ C st w aQ st' a' w'->K a' w')->oa P ops K (List.range' k S7.length) a w
 |[],k,fr,aQ,st,st',ρ,a,w,_,h,hS,hQ=>by
  simp only[g7,H0,Za8]at h;obtain⟨rfl,rfl⟩:=h;exact hQ a w (eG.refl hS)
 |ao::S7,k,fr,aQ,st,st',ρ,a,w,ho,h,hS,hQ=>by
  obtain⟨o,ct,hR⟩:=ho 0 ao rfl;rw[Zh1]at ct;have Dl:∀(i:Nat)(YZ:aX),S7[i]? =some YZ->∃o,ops[k+1+i]? =some o/\rW tt nt ops o YZ:=λi YZ hi=>by
    obtain⟨o',h1,h2⟩:=ho (i+1) YZ (by simpa using hi);exact⟨o',by rw[<-h1];congr 1;omega,h2⟩
  simp only[Ze3,Zm1,oa,By,ct];unfold g7 at h;split at h
  . rename_i hw;rw[Za6 (BA hR.guard (λp v hp _=>hS.F p v hp) hw)];(split at h<;>first|(cases h;done)|skip);rename_i vs gu;(split at h<;>first|(cases h;done)|skip);rename_i v aL nU;rcases hR.op with hc|⟨hk,_⟩
    .   have hr:=LA hT bB hc hS.W hS.F gu nU;(refine hr.mono λx w1 hp=> ?_);obtain⟨cY,hv,h1,h2,S8,hE⟩:=hp;rw[hR.dst]at h;refine oc hT bB S7 (k+1) _ aQ aL st' cY _ w1 Dl h ⟨S8,eB.put (hS.F.mono h1 h2) hS.size hR.lt hv,by rw[Act.fY];exact hS.size,by rw[Act.iq];exact hS.defers⟩ λa' w' hp=>hQ a' w' (eG.trans h1 h2 hE hp)
    .   exact(Reaches.bad hk nU).elim
  .rename_i hw;rw[Za5 (by rw[BA hR.guard (λp v hp _=>hS.F p v hp) hw];simp)];rw[hR.dst]at h;exact oc hT bB S7 (k+1) _ aQ st st' ρ _ w Dl h ⟨hS.W,eB.put hS.F hS.size hR.lt .Qz,by rw[Act.fY];exact hS.size,by rw[Act.iq];exact hS.defers⟩ hQ
  .cases h
theorem yE{nt:Nat}{ops:Array Oper}{l:List aX}{bs:List Nat}(h:lC tt nt ops ops.toList bs=some l)(i:Nat)(ao:aX)(hi:l[i]? =some ao):
  ∃o,ops[i]? =some o/\rW tt nt ops o ao/\ao.br=bs.getD i 0:=by
 obtain⟨h1,h2⟩:=lS h;have aY:i<ops.toList.length:=by rw[<-h1];exact(H3.1 hi).1
 obtain⟨YZ,h3,h4,h5⟩:=h2 i _ (H1 aY);rw[hi]at h3;simp only[H0]at h3;subst h3;exact⟨_,by rw[<-Zf1];exact H1 aY,h4,h5⟩
theorem S9(hT:bG P tt)(bB:eg P C call){nt id:Nat}{ops:Array Oper}{bs:List Nat}{l:List aX}{Q:Exit->Act->World->Prop}{fr aQ:Fr}{st st':St}{ρ:Pos->Loc}{a:Act}{w:World}
  (hl:lC tt nt ops ops.toList bs=some l) (h:g7 call l fr st=some (aQ,st')) (hS:kL nt ρ C fr st a w)
  (hQ:∀a' w',eG nt ρ C st w aQ st' a' w'->Q .normal a' w'):dO P (Code.region id ops false) Q a w:=by
 show oa P ops (Q .normal) (List.range ops.size) a w;have hlen:l.length=ops.size:=by rw[(lS hl).1,Ze7]
 rw[Zk2, <-hlen];exact oc hT bB l 0 fr aQ st st' ρ a w (λi ao hi=>by
  obtain⟨o,h1,h2,_⟩:=yE hl i ao hi;exact⟨o,by rw[Zb9];exact h1,h2⟩) h hS hQ
end
section
variable{P:Program}{tt:TT}{C:Cells}{call:ah}
def o9(P:Program)(tt:TT)(C:Cells)(call:ah):Prop:=
 ∀  (nt id:Nat)(ops:Array Oper)(l:List aX)(Q:Exit->Act->World->Prop)(fr aQ:Fr)(st st':St)(ρ:Pos->Loc)(a:Act)(w:World),
    lC tt nt ops ops.toList (SC ops.toList [])=some l->EK l.length 0 (uz (Bo 0 l) [])=true->cB call (uz (Bo 0 l) []) [] st.heap fr st=some (aQ,st')->kL nt ρ C fr st a w->
    (∀a' w',eG nt ρ C st w aQ st' a' w'->Q .normal a' w')->dO P (Code.region id ops true) Q a w
def k9:iy->Exit
 |.normal=>.normal
 |.exit id=>.exit id
 |.ret=>.ret
def NM(P:Program)(tt:TT)(C:Cells)(call:ah)(nt m:Nat):Prop:=
 ∀  (c:Code)(ac:AC)(fr aQ:Fr)(st st':St)(ex:iy)(ρ:Pos->Loc)(a:Act)(w:World)(Q:Exit->Act->World->Prop),
    qg tt nt c=some ac->exec call m ac fr st=some (ex,aQ,st')->kL nt ρ C fr st a w->
    (∀a' w',eG nt ρ C st w aQ st' a' w'->Q (k9 ex) a' w')->dO P c Q a w
def NN(P:Program)(tt:TT)(C:Cells)(call:ah)(nt m:Nat):Prop:=
 ∀  (c:Code)(ac:AC)(fr aQ:Fr)(st st':St)(ex:iy)(ρ:Pos->Loc)(a:Act)(w:World)(Q:Exit->Act->World->Prop),
    qg tt nt c=some ac->exec call m (.loop ac) fr st=some (ex,aQ,st')->kL nt ρ C fr st a w->
    (∀a' w',eG nt ρ C st w aQ st' a' w'->Q (k9 ex) a' w')->Jc (dO P c) Q m a w
theorem QA{nt m:Nat}(BB:NM P tt C call nt m)(ihL:NN P tt C call nt m):NN P tt C call nt (m+1):=by
 intro c ac fr aQ st st' ex ρ a w Q hc h hS hQ;simp only[exec,aR]at h;show dO P c (Exit.then (Jc (dO P c) Q m) Q) a w;split at h
 .rename_i bI aL h1;(refine BB c ac fr bI st aL .normal ρ a w _ hc h1 hS λa1 w1 hp=> ?_);obtain⟨cY,qJ,k1,k2,k3⟩:=hp;exact ihL c ac bI aQ aL st' ex cY a1 w1 Q hc h qJ λa2 w2 hp=>hQ a2 w2 (eG.trans k1 k2 k3 hp)
 . rename_i c9;cases ex with
   |normal=>exact(c9 _ _ h).elim
   |exit id=>exact BB c ac fr aQ st st' (.exit id) ρ a w _ hc h hS λa1 w1 hp=>hQ a1 w1 hp
   |ret=>exact BB c ac fr aQ st st' .ret ρ a w _ hc h hS λa1 w1 hp=>hQ a1 w1 hp
theorem Y0(hT:bG P tt)(bB:eg P C call)(eS:o9 P tt C call){nt m:Nat}(BB:NM P tt C call nt m)(ihL:NN P tt C call nt m):NM P tt C call nt (m+1):=by
 intro c ac fr aQ st st' ex ρ a w Q hc h hS hQ;have aej:=QA BB ihL;unfold qg at hc;split at hc<;>first|(cases hc;done)|skip
 .simp only[H0]at hc;subst hc;simp only[exec,aR,H0,Za8]at h;obtain⟨rfl,rfl,rfl⟩:=h;exact hQ _ _ (eG.refl hS)
 . rename_i ix ops draw;(split at hc<;>first|(cases hc;done)|skip);rename_i l hl;split at hc
   .simp only[H0]at hc;subst hc;simp only[exec,aR]at h;(split at h<;>first|(cases h;done)|skip);rename_i bI aL h1;simp only[H0,Za8]at h;obtain⟨rfl,rfl,rfl⟩:=h;exact S9 hT bB hl h1 hS hQ
   . (split at hc<;>first|(cases hc;done)|skip);rename_i ht;simp only[H0]at hc;subst hc;simp only[exec,aR]at h;(split at h<;>first|(cases h;done)|skip);rename_i bI aL h1;simp only[H0,Za8]at h;obtain⟨rfl,rfl,rfl⟩:=h;exact eS nt _ ops l Q fr bI st aL ρ a w hl ht h1 hS hQ
 . (split at hc<;>first|(cases hc;done)|skip);rename_i x y h1 h2;simp only[H0]at hc;subst hc;simp only[exec,aR]at h;show dO P _ (Exit.then (dO P _ Q) Q) a w;split at h
   .rename_i bI aL h3;(refine BB _ _ fr bI st aL .normal ρ a w _ h1 h3 hS λa1 w1 hp=> ?_);obtain⟨cY,qJ,k1,k2,k3⟩:=hp;exact BB _ _ bI aQ aL st' ex cY a1 w1 Q h2 h qJ λa2 w2 hp=>hQ a2 w2 (eG.trans k1 k2 k3 hp)
   . rename_i c9;cases ex with
     |normal=>exact(c9 _ _ h).elim
     |exit id=>exact BB _ _ fr aQ st st' (.exit id) ρ a w _ h1 h hS λa1 w1 hp=>hQ a1 w1 hp
     |ret=>exact BB _ _ fr aQ st st' .ret ρ a w _ h1 h hS λa1 w1 hp=>hQ a1 w1 hp
 . (split at hc<;>first|(cases hc;done)|skip);rename_i x y z h1 h2 h3;simp only[H0]at hc;subst hc;simp only[exec,aR]at h;split at h
   .rename_i hx;exact⟨true,(n8 h1 hS.F hx).fD,(BB _ _ fr aQ st st' ex ρ a w Q h2 h hS hQ)⟩
   .rename_i hx;exact⟨false,(n8 h1 hS.F hx).fD,(BB _ _ fr aQ st st' ex ρ a w Q h3 h hS hQ)⟩
   .cases h
 . (split at hc<;>first|(cases hc;done)|skip);rename_i x h1;simp only[H0]at hc;subst hc;simp only[exec,aR]at h;show dO P _ (Exit.inBlock _ Q) a w;split at h
   . rename_i qf bI aL h2;split at h
     .  rename_i he;simp only[H0,Za8]at h;obtain⟨rfl,rfl,rfl⟩:=h;have:=H2 he;subst this;exact BB _ _ fr bI st aL (.exit qf) ρ a w _ h1 h2 hS λa1 w1 hp=>by simp only[k9,Exit.inBlock,Ze8];exact hQ a1 w1 hp
     .  rename_i he;simp only[H0,Za8]at h;obtain⟨rfl,rfl,rfl⟩:=h;have:=Zb0 he;exact BB _ _ fr bI st aL (.exit qf) ρ a w _ h1 h2 hS λa1 w1 hp=>by simp only[k9,Exit.inBlock,Za5 this];exact hQ a1 w1 hp
   . rename_i c9;cases ex with
     |normal=>exact BB _ _ fr aQ st st' .normal ρ a w _ h1 h hS λa1 w1 hp=>hQ a1 w1 hp
     |exit id=>exact(c9 _ _ _ h).elim
     |ret=>exact BB _ _ fr aQ st st' .ret ρ a w _ h1 h hS λa1 w1 hp=>hQ a1 w1 hp
 . (split at hc<;>first|(cases hc;done)|skip);rename_i x h1;simp only[H0]at hc;subst hc;exact⟨m+1,aej _ _ fr aQ st st' ex ρ a w Q h1 h hS hQ⟩
 .simp only[H0]at hc;subst hc;simp only[exec,aR,H0,Za8]at h;obtain⟨rfl,rfl,rfl⟩:=h;exact hQ _ _ (eG.refl hS)
 .simp only[H0]at hc;subst hc;simp only[exec,aR,H0,Za8]at h;obtain⟨rfl,rfl,rfl⟩:=h;exact hQ _ _ (eG.refl hS)
 .simp only[H0]at hc;subst hc;simp[exec,aR,g7,bC,dB,bT,az.run]at h
theorem od(hT:bG P tt)(bB:eg P C call)(eS:o9 P tt C call){nt:Nat}:∀m,NM P tt C call nt m/\NN P tt C call nt m
 |0=>⟨λc ac fr aQ st st' ex ρ a w Q hc h=>by simp[exec]at h,λc ac fr aQ st st' ex ρ a w Q hc h=>by simp[exec]at h⟩
 |m+1=>let⟨h1,h2⟩:=od hT bB eS m;⟨Y0 hT bB eS h1 h2,QA h1 h2⟩
def KP(tmps:Array Value):ResultVar->Sem Value
 |.tmp t=>pure (tmps.getD t undef)
 |.cell a t=>do loadVar t (<-asAddr (tmps.getD a undef))
theorem Xt(hT:bG P tt){ρ:Pos->Loc}{st:St}{w:World}{fr:Fr}{a:Act}{x:Tmp}{t:TypeId}{ti:TI}{q v:AV}(cC:tt.get (key t)=some ti)
  (hW:aP ρ C st w) (hF:eB ρ st.next.toNat C fr a.tmps) (hq:fr.get (key x)=some q) (hr:(az.load (wA ti)).run (λb=>st.heap.get b) .h [q]=some (.val v)):
  ∃y,(KP a.tmps (.cell x t)).run P w= .ok y w/\aj ρ st.next.toNat C v y:=by
 have hc:eV tt (.load t (.tmp x))=some (.load (wA ti),[.t (key x)],.read):=by simp[eV,cC,jx]
 have hx:dB fr [.t (key x)]=some [q]:=by simp[dB,zb,hq]
 have o8:(az.load (wA ti)).run (λb=>st.heap.get b) st.next [q]=some (.val v):=hr;obtain⟨N,y,he,hy,hv⟩:=KO hT (.load t (.tmp x)) ρ C st w _ _ _ fr a { dst:=none,op:= .load t (.tmp x),type:=t,pos:=default,after:= #[],guard:=none } _ _ rfl hc hW hF hx o8;refine⟨y,?_,hv⟩;simp only[execOp,Instr.loadAt,Act.eval]at he;simp only[KP];obtain⟨z,hz,hzq⟩:=hF _ _ hq;rw[dU,Ze1]at hz;have hzd:a.tmps.getD x undef=z:=by simp[Zh4,hz]
 rw[hzd]at he ⊢;have hp:∃ad,z= .pointer (some ad):=by
  simp only[az.run,rR]at hr;split at hr<;>first|(cases hr;done)|skip
  .obtain⟨_,h⟩:=hzq.dQ;exact⟨_,h⟩
  .obtain⟨_,_,_,_,h,_⟩:=hzq.EM;exact⟨_,h⟩
 obtain⟨ad,rfl⟩:=hp;simp only[Instr.sureAddr,asAddr,Sem.run_bind,Sem.run_pure,Result.andThen]at he ⊢;cases hl:(loadVar t ad).run P w with
 |ok u w1=>
  rw[hl]at he;simp at he;obtain⟨h1,h2⟩:=he;subst h2;rcases hy with hy|⟨hy,_⟩
  .rw[hy]at h1;simp at h1;rw[h1]
  .rw[hy]at h1;simp at h1
 |halt u w1=>rw[hl]at he;simp at he
theorem BC(hT:bG P tt){ρ:Pos->Loc}{st:St}{w:World}{fr:Fr}{a:Act}(hW:aP ρ C st w)(hF:eB ρ st.next.toNat C fr a.tmps):
   ∀(rs:List ResultVar)(NO:List za)(vs:List AV),j6 tt rs=some NO->cm (λb=>st.heap.get b) fr NO=some vs->
    ∃ys,(rs.mapM (KP a.tmps)).run P w= .ok ys w/\ak ρ st.next.toNat C vs ys
 | [],NO,vs,hc,hr=>by
   simp only[j6,H0]at hc;subst hc;simp only[cm,H0]at hr;subst hr;exact⟨[],by simp,ak.nil⟩
 | .tmp t::rs,NO,vs,hc,hr=>by
   simp only[j6]at hc;(split at hc<;>first|(cases hc;done)|skip);rename_i l hl;simp only[H0]at hc;subst hc;simp only[cm]at hr;(split at hr<;>first|(cases hr;done)|skip);rename_i v hv;(split at hr<;>first|(cases hr;done)|skip);rename_i us YC;simp only[H0]at hr;subst hr;obtain⟨ys,h1,h2⟩:=BC hT hW hF rs l us hl YC;obtain⟨z,hz,hzq⟩:=hF _ _ hv;rw[dU,Ze1]at hz;refine⟨z::ys,?_,ak.cons hzq h2⟩;simp[List.mapM_cons,KP,h1,Zh4,hz]
 | .cell x t::rs,NO,vs,hc,hr=>by
   simp only[j6]at hc;(split at hc<;>first|(cases hc;done)|skip);rename_i ti l Qr hl;simp only[H0]at hc;subst hc;simp only[cm]at hr;(split at hr<;>first|(cases hr;done)|skip);rename_i q hq;(split at hr<;>first|(cases hr;done)|skip);rename_i v hv;(split at hr<;>first|(cases hr;done)|skip);rename_i us YC;simp only[H0]at hr;subst hr;obtain⟨ys,h1,h2⟩:=BC hT hW hF rs l us hl YC;obtain⟨y,h3,h4⟩:=Xt hT Qr hW hF hq hv;refine⟨y::ys,?_,ak.cons h4 h2⟩;simp[List.mapM_cons,h1,h3]
theorem pg(hT:bG P tt){ρ:Pos->Loc}{st:St}{w:World}{fr:Fr}{a:Act}{fn:Func}{NO:List za}{vs:List AV}(hW:aP ρ C st w)(hF:eB ρ st.next.toNat C fr a.tmps)
  (hc:j6 tt fn.results.toList=some NO) (hr:cm (λb=>st.heap.get b) fr NO=some vs):
  ∃y,(results fn a.tmps).run P w= .ok y w/\aj ρ st.next.toNat C (fC vs) y:=by
 obtain⟨ys,h1,h2⟩:=BC hT hW hF _ NO vs hc hr;have h3:(fn.results.mapM (KP a.tmps)).run P w= .ok ys.toArray w:=by
  rw[Array.mapM_eq_mapM_toList];simp[h1]
 have h4:(results fn a.tmps).run P w= .ok (if h:ys.toArray.size=1 then ys.toArray[0]else .tuple ys.toArray) w:=by
  have hfun:results fn a.tmps=(fn.results.mapM (KP a.tmps) >>= λvs=>pure (if h:vs.size=1 then vs[0]else .tuple vs)):=by unfold results;congr 2
  rw[hfun,Sem.run_bind,h3];simp
 refine⟨_,h4,?_⟩;cases vs with
 |nil=>have:=h2.k8;subst this;simp[fC];exact .qC (by simpa using ak.nil)
 |cons v vs=>
  obtain⟨y,ys',rfl,hv,gu⟩:=h2.cons_inv;cases vs with
  |nil=>have:=gu.k8;subst this;simpa [fC]using hv
  |cons v' vs'=>
   obtain⟨y',ys'',rfl,xZ,aaK⟩:=gu.cons_inv;simp[fC];exact .qC (by simpa using ak.cons hv (ak.cons xZ aaK))
def Nk(P:Program)(tt:TT)(G:T cq):Prop:=
 ∀p F,G.get p=some F->∃fn,P.funcs[p.toNat - 1]? =some fn/\(fn.name== "runtime.NumGoroutine")=false/\Sa tt fn=some F
def nY(P:Program)(C:Cells)(O:dG):Prop:=
 ∀  (f:FuncId)(s:List AV->St->Option (AV×St)),O f=some s->
    ∀(ρ:Pos->Loc)(st:St)(w:World)(args:List AV)(v:AV)(st':St)(bu:List Value),s args st=some (v,st')->
     aP ρ C st w->ak ρ st.next.toNat C args bu->Reaches P (ki ρ C st w v st') ((callFunc f bu.toArray).run P w)
theorem wH{ρ:Pos->Loc}{n:Nat}{tmps:Array Value}:∀(vs:List AV)(xs:List Value)(i:Nat)(fr:Fr),ak ρ n C vs xs->
  (∀(j:Nat)(x:Value),xs[j]? =some x->tmps[i+j]? =some x)->eB ρ n C fr tmps->eB ρ n C (params i vs fr) tmps
 |[],_,_,_,_,_,hF=>hF
 |v ::vs,xs,i,fr,h,hx,hF=>by
  obtain⟨x,tD,rfl,hv,gu⟩:=h.cons_inv;unfold params;refine wH vs tD (i+1) _ gu (λj y hy=>by rw[<-hx (j+1) y (by simpa using hy)];congr 1;omega) λp u hp=> ?_
  by_cases NL:key i=p
  .subst NL;rw[T.dP]at hp;simp only[H0]at hp;subst hp;exact⟨x,by rw[dU,Ze1];exact hx 0 x rfl,hv⟩
  .rw[T.bn _ NL]at hp;exact hF p u hp
theorem LB(hT:bG P tt){O:dG}{G:T cq}(hO:nY P C O)(hG:Nk P tt G)(m:Nat)(eS:∀d,eg P C (n6 O G m d)->o9 P tt C (n6 O G m d)):∀d,eg P C (n6 O G m d)
 |0=>λρ st w f args v st' bu h=>by simp[n6]at h
 |d +   1 =>by
  intro ρ st w f args v st' bu h hW nZ;have ih:=LB hT hO hG m eS d;unfold n6 at h;split at h
  .rename_i s hs;exact hO f s hs ρ st w args v st' bu h hW nZ
  . (split at h<;>first|(cases h;done)|skip);rename_i F hF;(split at h<;>first|(cases h;done)|skip);rename_i hlen;have hlen:=H2 hlen;obtain⟨fn,Ac,gH,BD⟩:=hG _ _ hF;rw[dU,Ze1]at Ac;unfold Sa at BD;(split at BD<;>first|(cases BD;done)|skip);rename_i c hb;(split at BD<;>first|(cases BD;done)|skip);rename_i ac rs Ta Y3 hle;simp only[H0]at BD;subst BD;simp only at h hlen;have hle:=H4 hle;have bQ:(callFunc f bu.toArray).run P w= .ok (.enter f bu.toArray) w:=by
        have BE:¬fn.name= "runtime.NumGoroutine" :=(by simpa using gH);simp[callFunc,Ac,BE,hb]
    rw[bQ];simp only[Reaches];refine calls_of_wp Ac hb (dO.wp ?_);have ei:bu.length<=fn.ntmps:=(by rw[<-nZ.1,hlen];exact hle);have hS:kL fn.ntmps ρ C (params 0 args .e) st { tmps:=bu.toArray++Array.replicate (fn.ntmps - bu.toArray.size) undef,defers:=[] } w:=by
        refine⟨hW,?_,?_,rfl⟩
        .refine wH args bu 0 .e nZ (λj x hx=> ?_) (λp v hp=>by rw[T.cT]at hp;cases hp);have hj:j<bu.length:=(H3.1 hx).1;rw[Zb9,Zg3 (by simpa using hj)];simpa using hx
        .simp;omega
    split at h<;>first|(cases h;done)|skip
    .   rename_i bI aL h1;(split at h<;>first|(cases h;done)|skip);rename_i vs gu;simp only[H0,Za8]at h;obtain⟨rfl,rfl⟩:=h;(refine(od hT ih (eS _ ih) m).1 c ac _ bI st aL .normal ρ _ w _ Ta h1 hS λa' w' hp=> ?_);obtain⟨cY,qJ,k1,k2,k3⟩:=hp;obtain⟨y,Ae,Bt⟩:=pg hT qJ.W qJ.F Y3 gu;exact⟨qJ.defers,y,Ae,cY,Bt,k1,k2,qJ.W,k3⟩
    .   rename_i bI aL h1;(split at h<;>first|(cases h;done)|skip);rename_i vs gu;simp only[H0,Za8]at h;obtain⟨rfl,rfl⟩:=h;(refine(od hT ih (eS _ ih) m).1 c ac _ bI st aL .ret ρ _ w _ Ta h1 hS λa' w' hp=> ?_);obtain⟨cY,qJ,k1,k2,k3⟩:=hp;obtain⟨y,Ae,Bt⟩:=pg hT qJ.W qJ.F Y3 gu;exact⟨qJ.defers,y,Ae,cY,Bt,k1,k2,qJ.W,k3⟩
end
end
end Go.Ai
