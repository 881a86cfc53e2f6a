/- The evaluator's operations answer as the model's do, second part; regions and calls. -/
import Derived.Test.YtehbdakjkjkekaaGreatDoorEvalB
import Derived.Laws.IdiomStrings
import Derived.Laws.RangeString
import Derived.Laws.AppendOwn
import Derived.Lib.UnsafeStr
import Derived.Test.YtehbdakjkjkekaaGreatDoorEvalA
import Derived.Calls
import Derived.LoopN
set_option linter.all false
set_option linter.unusedSectionVars false
set_option linter.deprecated false
section
namespace Go.Ai
open Go Go.RowKit
section
variable {P : Program} {tt : TT} {ρ : Pos -> Loc} {C : Cells} {st : St} {w w' : World}
theorem qG (del:Option Pos) (h:T AB) {b:Pos} {x:AB} (hb:(uV del h).get b=some x):h.get b=some x/\ ∀c,del=some c->b≠c:=by
 cases del with
 |none=>exact ⟨hb,fun _ h=>by cases h⟩
 |some c=>
  by_cases he:c=b
  . subst he;simp only[uV] at hb;rw[T.dZ] at hb;cases hb
  . simp only[uV] at hb;rw[T.bq _ he] at hb
    exact ⟨hb,fun d hd=>by cases hd;exact fun e=>he e.symm⟩
theorem pZ (hW:bn ρ C st w) {o:Obj} {x0:AB} {base size:Nat} (del:Option Pos) (hh:w'.heap=w.heap.push o) (h1:w'.os=w.os) (h2:w'.tape=w.tape) (h3:w'.output=w.output)
   (hB: ∀ρ' n',(∀b:Pos,b.toNat<st.next.toNat->ρ' b=ρ b)->st.next.toNat<=n'->kj ρ' n' C ⟨w.heap.size,base,size⟩ w' x0):
   ∃ρ':Pos->Loc,(∀b:Pos,b.toNat<st.next.toNat->ρ' b=ρ b)/\ρ' st.next=⟨w.heap.size,base,size⟩/\bn ρ' C (st.aE del none (some x0)) w'/\jY ρ st w ρ' (st.aE del none (some x0)) w':=by
 let ρ':Pos->Loc:=fun b=>if b=st.next then ⟨w.heap.size,base,size⟩ else ρ b
 have aL: ∀b:Pos,b.toNat<st.next.toNat->ρ' b=ρ b:=fun b hb=>if_neg (fun e=>by rw[e] at hb;omega)
 have ck:ρ' st.next=⟨w.heap.size,base,size⟩:=if_pos rfl
 have dM:w'.heap.size=w.heap.size+1:=by rw[hh];simp
 have hold: ∀k,k<w.heap.size->w'.heap[k]? =w.heap[k]? :=fun k hk=>by rw[hh,Array.getElem?_push,if_neg (by omega)]
 refine ⟨ρ',aL,ck,?_,⟨h1,h2,h3,by omega,fun k hk _=>hold k hk,fun b x hb=> ?_⟩⟩
 rotate_left
 . by_cases he:b=st.next
   . right;rw[he,ck];exact Nat.le_refl _
   . left
     simp only[St.aE,wk] at hb
     rw[T.bq _ (fun e=>he e.symm)] at hb
     have dX:=(qG del _ hb).1
     exact ⟨b,x,dX,by rw[aL b (hW.live b x dX).1]⟩
 refine hW.Lz (b0:=st.next) (x0:=x0) (by rw[Pos.az];omega) (by rw[Pos.az];omega) (by rw[T.dZ]) ?_ aL (by rw[ck];exact hB _ _ aL (by rw[Pos.az];omega)) ?_ (by rw[ck,dM];simp) (by omega) (fun k hk _=>hold k hk)
 . intro b x hb hx
   rw[T.bq _ (fun e=>hb e.symm)] at hx
   have hx:=(qG del _ hx).1
   refine ⟨hx,?_⟩
   rw[ck]
   have:=(hW.live b x hx).2.1
   simp only;omega
 . intro a v ha
   have:=World.block_lt_of_cell? _ _ (hW.cj a v ha).1
   rw[ck];simp only;omega
theorem Hr (hW:bn ρ C st w) {b:Pos} {x x0:AB} (hb:st.heap.get b=some x) (h1:w'.os=w.os) (h2:w'.tape=w.tape) (h3:w'.output=w.output) (dM:w'.heap.size=w.heap.size)
   (qE: ∀k,k≠(ρ b).aA->w'.heap[k]? =w.heap[k]?) (hB:kj ρ st.next.toNat C (ρ b) w' x0):
   bn ρ C (st.aE none (some (b,x0)) none) w'/\jY ρ st w ρ (st.aE none (some (b,x0)) none) w':=by
 obtain ⟨aZ,iH,_⟩:=hW.live b x hb
 refine ⟨?_,⟨h1,h2,h3,by omega,fun k _ hk=>qE k (fun e=>hk b x hb e.symm),fun c y hc=> ?_⟩⟩
 rotate_left
 . left
   by_cases he:c=b
   . exact ⟨b,x,hb,by rw[he]⟩
   . simp only[St.aE,wk,uV] at hc
     rw[T.bq _ (fun e=>he e.symm)] at hc
     exact ⟨c,y,hc,rfl⟩
 refine hW.Lz (b0:=b) (x0:=x0) (Nat.le_refl _) aZ (by simp only[wk,uV];rw[T.dZ]) ?_ (fun _ _=>rfl) hB ?_ (by omega) (by omega) (fun k _ hk=>qE k hk)
 . intro c y hc hy
   simp only[wk,uV] at hy
   rw[T.bq _ (fun e=>hc e.symm)] at hy
   exact ⟨hy,fun e=>hc (hW.inj _ _ _ _ hy hb e)⟩
 . exact fun a v ha e=>(hW.cj a v ha).2 b x hb e.symm
theorem nJ {cs:List AV} {c:Array Value} {e:TypeId} {fr:Nat×Nat} {g:Nat} {n:Nat} (hg:w'.heap[g]? =some (.cells c e fr)) (hle:cs.length<=c.size) (hv:aq ρ n C cs (c.toList.take cs.length))
  (hf: ∀i,i<c.size-> ¬(fr.1<=i/\i<fr.2)):kj ρ n C ⟨g,0,c.size⟩ w' (.cells cs 0):=
 ⟨c,e,fr,hg,rfl,by simpa using hle,by simpa using hv,fun i _ hi=>by simpa using hf i (by simpa using hi)⟩
theorem R7 (hT:bZ P tt) (t:TypeId):cw P tt (.alloc t):=by
 intro ρ C st w k xs cls fr a o vs res ho hc hW hF hx hr
 simp only[fA] at hc
 split at hc<;>first|(cases hc;done)|skip
 rename_i ti b7
 split at hc<;>first|(cases hc;done)|skip
 rename_i z hz
 split at hc
 . cases hc
   simp only[dK,Option.some.injEq] at hx;subst hx
   simp only[aB.run,xV,Option.some.injEq] at hr;subst hr
   obtain ⟨zv,sM,_,ov⟩:=oW hT b7 hz (ρ:=ρ) (n:=st.next.toNat) (C:=C) w
   have hl:z.length=zv.cells.size:=by simpa using ov.1
   obtain ⟨ρ',aL,ck,di,hE⟩:=pZ (w':=w.alloc (.cells zv.cells t)) (o:= .cells zv.cells t) (x0:= .typed t z) (base:=0) (size:=zv.cells.size) hW none rfl rfl rfl rfl (fun ρ' n' aL hn=>
     ⟨zv.cells,(0,0),by show (w.heap.push _)[w.heap.size]? =_;simp,rfl,by simp only[Nat.zero_add];omega,by rw[hl,List.drop_zero,List.take_of_length_le (by simp)];exact ov.mono aL hn,fun i _=>by simp,rfl⟩)
   refine ⟨_,.pointer (some ⟨w.heap.size,0,none⟩),_,ρ',?_,Yields.value _,aL,di,?_,hE⟩
   . simp[execOp,ho,Instr.alloc,sM,newVar,newRow]
   . have:=ax.ptr (ρ:=ρ') (n:=(st.aE none none (some (.typed t z))).next.toNat) (C:=C) st.next 0 (by simp[St.aE,Pos.az])
     rw[ck] at this;simpa using this
 cases hc
 simp only[dK,Option.some.injEq] at hx;subst hx
 simp only[aB.run,Bh,Option.some.injEq] at hr;subst hr
 obtain ⟨zv,sM,_,ov⟩:=oW hT b7 hz (ρ:=ρ) (n:=st.next.toNat) (C:=C) w
 have hl:z.length=zv.cells.size:=by simpa using ov.1
 obtain ⟨ρ',aL,ck,di,hE⟩:=pZ (w':=w.alloc (.cells zv.cells t)) (o:= .cells zv.cells t) (x0:= .cells z 0) (base:=0) (size:=zv.cells.size) hW none rfl rfl rfl rfl (fun ρ' n' aL hn=>
   nJ (w':=w.alloc (.cells zv.cells t)) (e:=t) (fr:=(0,0)) (by show (w.heap.push _)[w.heap.size]? =_;simp) (by omega) (by rw[hl,List.take_of_length_le (by simp)];exact ov.mono aL hn) (fun i _=>by simp))
 refine ⟨_,.pointer (some ⟨w.heap.size,0,none⟩),_,ρ',?_,Yields.value _,aL,di,?_,hE⟩
 . simp[execOp,ho,Instr.alloc,sM,newVar,newRow]
 . have:=ax.ptr (ρ:=ρ') (n:=(st.aE none none (some (.cells z 0))).next.toNat) (C:=C) st.next 0 (by simp[St.aE,Pos.az])
   rw[ck] at this;simpa using this
theorem YR (t:TypeId) (x:Operand):cw P tt (.box t x):=by
 intro ρ C st w k xs cls fr a o vs res ho hc hW hF hx hr
 simp only[fA] at hc
 split at hc<;>first|(cases hc;done)|skip
 rename_i b hb
 cases hc
 obtain ⟨v,rfl,hv⟩:=eu hb hF hx
 simp only[aB.run,G8,Option.some.injEq] at hr;subst hr
 have ov:=hv.cells
 have hl:v.cells.length=(a.eval x).cells.size:=by simpa using ov.1
 obtain ⟨ρ',aL,ck,di,hE⟩:=pZ (w':=w.alloc (.cells (a.eval x).cells t)) (o:= .cells (a.eval x).cells t) (x0:= .cells v.cells 0) (base:=0) (size:=(a.eval x).cells.size) hW none rfl rfl rfl rfl (fun ρ' n' aL hn=>
   nJ (w':=w.alloc (.cells (a.eval x).cells t)) (e:=t) (fr:=(0,0)) (by show (w.heap.push _)[w.heap.size]? =_;simp) (by omega) (by rw[hl,List.take_of_length_le (by simp)];exact ov.mono aL hn) (fun i _=>by simp))
 refine ⟨_,.pointer (some ⟨w.heap.size,0,none⟩),_,ρ',?_,Yields.value _,aL,di,?_,hE⟩
 . simp[execOp,ho,Instr.box,newVar,newRow]
 . have:=ax.ptr (ρ:=ρ') (n:=(st.aE none none (some (.cells v.cells 0))).next.toNat) (C:=C) st.next 0 (by simp[St.aE,Pos.az])
   rw[ck] at this;simpa using this
theorem yT {n:Nat} {z:List AV} {zs:List Value} (h:aq ρ n C z zs): ∀m,aq ρ n C (cV z m) (cV zs m)
 |0=>aq.nil
 |m+1=>h.append (yT h m)
theorem gY {α:Type} (z:List α): ∀m,(cV z m).length=m*z.length
 |0=>by simp[cV]
 |m+1=>by simp[cV,gY z m,Nat.add_mul,Nat.add_comm]
theorem Fp {α:Type} (z:List α): ∀(m i:Nat),i<m*z.length->(cV z m)[i]? =z[i % z.length]?
 |0,i,h=>by simp at h
 |m +1,i,h=>by
  simp only[cV]
  by_cases hi:i<z.length
  . rw[List.getElem?_append_left hi,Nat.mod_eq_of_lt hi]
  . have hi:z.length<=i:=by omega
    rw[List.getElem?_append_right hi,Fp z m _ (by rw[Nat.add_mul] at h;omega)]
    congr 1
    rw[<-Nat.mod_eq_sub_mod hi]
theorem LM (z:Array Value) (m:Nat) (hz:0<z.size):((Array.range (m*z.size)).map (z[· % z.size]!)).toList=cV z.toList m:=by
 apply List.ext_getElem?
 intro i
 by_cases hi:i<m*z.size
 . rw[Fp _ _ _ (by simpa using hi)]
   have aZ:i % z.size<z.size:=Nat.mod_lt _ hz
   simp[hi,aZ]
 . rw[List.getElem?_eq_none (by simp;omega),List.getElem?_eq_none (by rw[gY];simp;omega)]
theorem oX {ρ':Pos->Loc} {b:Pos} {n g len es aH size:Nat} {cap:Option Nat} (hb:b.toNat<n) (aL:ρ' b=⟨g,0,size⟩) (hl:len<=aH) (hc: ∀c,cap=some c->c=aH) (hs:aH*es<=size):
  ax ρ' n C (.slice b 0 len cap es) (.slice (some ⟨g,0,none⟩) len aH):=
 .slice _ _ _ _ _ _ _ hl hc (fun _=>⟨hb,by rw[aL],by rw[aL];simpa using hs⟩) (fun _=>hb)
theorem Hs {z:List AV} {zv:Value} {n m size:Nat} (ov:aq ρ n C z zv.cells.toList) (hl:z.length=size):
   aq ρ n C (cV z m) ((Array.range (m*size)).map ((if m*size=0 then (#[]:Array Value) else zv.cells)[· % (if m*size=0 then (#[]:Array Value) else zv.cells).size]!)).toList/\
   ((Array.range (m*size)).map ((if m*size=0 then (#[]:Array Value) else zv.cells)[· % (if m*size=0 then (#[]:Array Value) else zv.cells).size]!)).size=m*size:=by
 refine ⟨?_,by simp⟩
 by_cases h0:m*size=0
 . have:cV z m=[]:=by apply List.eq_nil_of_length_eq_zero;rw[gY,hl];exact h0
   rw[this]
   have:(Array.range (m*size))= #[]:=by rw[h0];rfl
   rw[this];simpa using (aq.nil:aq ρ n C [] [])
 . rw[if_neg h0]
   have JO:zv.cells.size=size:=by have:=ov.1;simp at this;omega
   have LN:0<zv.cells.size:=by
    rw[JO];rcases Nat.eq_zero_or_pos size with h|h
    . rw[h] at h0;simp at h0
    . exact h
   have:=LM zv.cells m LN
   rw[JO] at this ⊢
   rw[this]
   exact yT ov m
theorem YS {k:IntKind} {i:Int} (h1:sI k<=i) (h2:i<=OI k):k.wrap i=i:=by
 rw[<-oV]
 unfold aW
 split
 . split
   . rfl
   . exact absurd h2 (by assumption)
 . exact absurd h1 (by assumption)
theorem LO {j:Nat} (h:j<=9223372036854775807):IntKind.i64.wrap (j:Int)=(j:Int):=YS (by simp only[sI];omega) (by simp only[OI];omega)
theorem Oe (hT:bZ P tt) (t:TypeId) (l c:Operand):cw P tt (.makeSlice t l c):=by
 intro ρ C st w k xs cls fr a o vs res ho hc hW hF hx hr
 simp only[fA] at hc
 split at hc<;>first|(cases hc;done)|skip
 rename_i ti l0 b7 hl
 split at hc<;>first|(cases hc;done)|skip
 rename_i e hk
 split at hc<;>first|(cases hc;done)|skip
 rename_i te eK
 split at hc<;>first|(cases hc;done)|skip
 rename_i z hz
 cases hc
 obtain ⟨d,hd,bM⟩:=(hT.at b7).und
 rw[hk] at bM;rw[kL bM] at hd
 obtain ⟨i0,jI,je,XF,sK⟩:=(hT.at eK).info
 obtain ⟨u,v,rfl,h1,h2⟩:=Jd hl hF hx
 simp only[aB.run,vE] at hr
 split at hr<;>first|(cases hr;done)|skip
 rename_i jl jc XG hjc
 split at hr<;>first|(cases hr;done)|skip
 rename_i e1 e2 e3
 have e1:=Nat.le_of_ble_eq_true e1
 have e2:=Nat.le_of_ble_eq_true e2
 have e3:=Nat.le_of_ble_eq_true e3
 simp only[Option.some.injEq] at hr;subst hr
 obtain ⟨kl,XH⟩:=iz h1 XG
 obtain ⟨kc,hkc⟩:=iz h2 hjc
 obtain ⟨zv0,hzv0,_,Ht,_⟩:=sK z hz
 obtain ⟨zv,sM,_,ov⟩:=oW hT eK hz (ρ:=ρ) (n:=st.next.toNat) (C:=C) w
 obtain ⟨rO,Je⟩:=Hs (m:=jc) ov Ht
 generalize eX:(Array.range (jc*te.size)).map ((if jc*te.size=0 then (#[]:Array Value) else zv.cells)[· % (if jc*te.size=0 then (#[]:Array Value) else zv.cells).size]!)=row at rO Je
 obtain ⟨ρ',aL,ck,di,hE⟩:=pZ (w':=w.alloc (.cells row e)) (o:= .cells row e) (x0:= .cells (cV z jc) 0) (base:=0) (size:=row.size) hW none rfl rfl rfl rfl (fun ρ' n' aL hn=>
   nJ (w':=w.alloc (.cells row e)) (e:=e) (fr:=(0,0)) (by show (w.heap.push _)[w.heap.size]? =_;simp) (by rw[gY,Je,Ht];exact Nat.le_refl _)
    (by rw[gY,Ht, <-Je, <-Array.length_toList,List.take_length];exact rO.mono aL hn) (fun i _=>by simp))
 refine ⟨_,.slice (some ⟨w.heap.size,0,none⟩) jl jc,_,ρ',?_,Yields.value _,aL,di,?_,hE⟩
 . have fK:=LO (Nat.le_trans e1 e3)
   have mJ:=LO e3
   have hb: ¬((te.bytes:Int)*(jc:Int)>2 ^ 48):=by
    have h:=Int.ofNat_le.2 e2
    rw[Int.natCast_mul] at h
    exact Int.not_lt.2 h
   have bH:(Instr.makeSlice t (.int kl jl) (.int kc jc)).run P w= .ok (.slice (some ⟨w.heap.size,0,none⟩) jl jc) (w.alloc (.cells row e)):=by
    unfold Instr.makeSlice
    simp only[Sem.run_bind,aK hd,Result.andThen_ok,asInt,asIntOf,Sem.run_pure,Lx jI,fK,mJ,XF]
    have afy: ¬((decide ((jc:Int)<0)||decide ((te.bytes:Int)*(jc:Int)>2 ^ 48)||decide ((jl:Int)<0)||decide ((jl:Int)>(jc:Int)))=true):=by
        simp only[Bool.or_eq_true,decide_eq_true_eq]
        rintro (((h|h)|h)|h)
        . omega
        . exact hb h
        . omega
        . omega
    rw[if_neg afy]
    simp only[Sem.run_bind,run_askRoom,Result.andThen_ok,gi jI,je,Int.toNat_natCast]
    rw[<-eX]
    by_cases h0:jc*te.size=0
    .   simp only[h0,if_true,Sem.run_bind,Sem.run_pure,Result.andThen_ok,newRow,run_newObj,World.alloc_eq]
    .   simp only[h0,if_false,Sem.run_bind,Sem.run_pure,Result.andThen_ok,sM,newRow,run_newObj,World.alloc_eq]
   simp[execOp,ho,XH,hkc,bH]
 . exact oX (by simp[St.aE,Pos.az]) ck e1 (fun c hc=>by cases hc;rfl) (by rw[Je];exact Nat.le_refl _)
theorem Jf (hT:bZ P tt) (t:TypeId) (len:Nat) (ps:Array (Nat×Operand)):cw P tt (.buildSlice t len ps):=by
 intro ρ C st w k xs cls fr a o vs res ho hc hW hF hx hr
 simp only[fA] at hc
 split at hc<;>first|(cases hc;done)|skip
 rename_i ti l0 b7 hl
 split at hc<;>first|(cases hc;done)|skip
 rename_i e hk
 split at hc<;>first|(cases hc;done)|skip
 rename_i te eK
 split at hc<;>first|(cases hc;done)|skip
 rename_i z hz hlim
 have hlim:=Nat.le_of_ble_eq_true hlim
 cases hc
 obtain ⟨d,hd,bM⟩:=(hT.at b7).und
 rw[hk] at bM;rw[kL bM] at hd
 obtain ⟨i0,jI,je,XF,sK⟩:=(hT.at eK).info
 have hv:=dO hl hF hx
 simp only[aB.run,oq] at hr
 split at hr<;>first|(cases hr;done)|skip
 rename_i cs EM
 simp only[Option.some.injEq] at hr;subst hr
 obtain ⟨zv0,hzv0,_,Ht,_⟩:=sK z hz
 obtain ⟨zv,sM,_,ov⟩:=oW hT eK hz (ρ:=ρ) (n:=st.next.toNat) (C:=C) w
 obtain ⟨rO,Je⟩:=Hs (m:=len) ov Ht
 generalize eX:(Array.range (len*te.size)).map ((if len*te.size=0 then (#[]:Array Value) else zv.cells)[· % (if len*te.size=0 then (#[]:Array Value) else zv.cells).size]!)=row at rO Je
 have OT:(ps.map fun (i,x)=>(i,a.eval x)).toList=ps.toList.map fun x=>(x.1,a.eval x.2):=by simp
 obtain ⟨mT,e1,e2⟩:=F7 (fun i=>some (i*te.size,te.size)) EM rO (ps:=ps.toList.map fun x=>(x.1,a.eval x.2)) (by simpa [List.map_map,Function.comp_def] using hv) (by simp[List.map_map,Function.comp_def])
 have hlen:cs.length=mT.size:=by simpa using e2.1
 have EN: ∀{pp:List (Nat×Nat)} {vs cells r:List AV},fk cells pp vs=some r->r.length=cells.length:=by
   intro pp
   induction pp with
   |nil=>intro vs cells r h;unfold fk at h;split at h<;>first|(cases h;done)|(simp only[Option.some.injEq] at h;subst h;rfl)|(rename_i hh;cases hh)
   |cons p pp ih=>
    intro vs cells r h
    unfold fk at h
    split at h<;>first|(cases h;done)|(rename_i hh;cases hh;done)|skip
    rename_i hh
    simp only[List.cons.injEq] at hh
    obtain ⟨rfl,rfl⟩:=hh
    split at h<;>first|(cases h;done)|skip
    rename_i g1 g2
    have g1:=Nat.eq_of_beq_eq_true g1
    have g2:=Nat.le_of_ble_eq_true g2
    rw[ih h];simp[aO];omega
 have hcsl:=EN EM
 rw[gY,Ht] at hcsl
 obtain ⟨ρ',aL,ck,di,hE⟩:=pZ (w':=w.alloc (.cells mT e)) (o:= .cells mT e) (x0:= .cells cs 0) (base:=0) (size:=mT.size) hW none rfl rfl rfl rfl (fun ρ' n' aL hn=>
   nJ (w':=w.alloc (.cells mT e)) (e:=e) (fr:=(0,0)) (by show (w.heap.push _)[w.heap.size]? =_;simp) (by omega)
    (by rw[hlen, <-Array.length_toList,List.take_length];exact e2.mono aL hn) (fun i _=>by simp))
 refine ⟨_,.slice (some ⟨w.heap.size,0,none⟩) len len,_,ρ',?_,Yields.value _,aL,di,?_,hE⟩
 . have bH:(Instr.buildSlice t len (ps.map fun (i,x)=>(i,a.eval x))).run P w= .ok (.slice (some ⟨w.heap.size,0,none⟩) len len) (w.alloc (.cells mT e)):=by
    unfold Instr.buildSlice
    simp only[Sem.run_bind,aK hd,Result.andThen_ok,gi jI,je]
    rw[if_neg (by omega)]
    by_cases h0:len*te.size=0
    .   simp only[h0,if_true,Sem.run_bind,Sem.run_pure,Result.andThen_ok]
        simp only[h0,if_true] at eX
        rw[eX,OT,e1]
        simp only[newRow,Sem.run_bind,run_newObj,World.alloc_eq,Result.andThen_ok,Sem.run_pure]
    .   simp only[h0,if_false,Sem.run_bind,Sem.run_pure,Result.andThen_ok,sM]
        simp only[h0,if_false] at eX
        rw[eX,OT,e1]
        simp only[newRow,Sem.run_bind,run_newObj,World.alloc_eq,Result.andThen_ok,Sem.run_pure]
   simp only[execOp,ho,Sem.run_bind]
   rw[bH];rfl
 . exact oX (by simp[St.aE,Pos.az]) ck (Nat.le_refl _) (fun c hc=>by cases hc;rfl) (by omega)
theorem R8 (t:TypeId) (r:Option Operand) (hT:bZ P tt):cw P tt (.makeMap t r):=by
 intro ρ C st w k xs cls fr a o vs res ho hc hW hF hx hr
 have key:k= .mkMap/\(execOp a.eval o).run P w= .ok (.value (.map (some w.heap.size))) (w.alloc (.map #[] 0)):=by
  simp only[fA] at hc
  split at hc<;>first|(cases hc;done)|skip
  rename_i ti b7
  obtain ⟨d,hd,bM⟩:=(hT.at b7).und
  split at hc<;>first|(cases hc;done)|skip
  . cases hc
    exact ⟨rfl,by simp[execOp,ho,Instr.makeMap]⟩
  . rename_i hk
    rw[hk] at bM;rw[Dp bM] at hd
    cases hc
    exact ⟨rfl,by simp[execOp,ho,Instr.makeMap,aK hd,Act.eval,asInt,asIntOf]⟩
 obtain ⟨rfl,bH⟩:=key
 simp only[aB.run,Bk,Option.some.injEq] at hr;subst hr
 obtain ⟨ρ',aL,ck,di,hE⟩:=pZ (w':=w.alloc (.map #[] 0)) (o:= .map #[] 0) (x0:= .map [] 0) (base:=0) (size:=0) hW none rfl rfl rfl rfl (fun ρ' n' aL hn=>
  ⟨#[],by show (w.heap.push _)[w.heap.size]? =_;simp,rfl,fun i e e' h=>by simp at h⟩)
 refine ⟨_,_,_,ρ',bH,Yields.value _,aL,di,?_,hE⟩
 have:=ax.map (ρ:=ρ') (n:=(st.aE none none (some (.map [] 0))).next.toNat) (C:=C) st.next (by simp[St.aE,Pos.az])
 rw[ck] at this;exact this
theorem Qa (hT:bZ P tt) (t:TypeId) (x:Operand):cw P tt (.range t x):=by
 intro ρ C st w k xs cls fr a o vs res ho hc hW hF hx hr
 simp only[fA] at hc
 split at hc<;>first|(cases hc;done)|skip
 rename_i ti b b7 hb
 split at hc<;>first|(cases hc;done)|skip
 rename_i hk
 cases hc
 obtain ⟨d,hd,bM⟩:=(hT.at b7).und
 rw[hk] at bM;rw[kC bM] at hd
 obtain ⟨v,rfl,hv⟩:=eu hb hF hx
 simp only[aB.run,xU] at hr
 split at hr<;>first|(cases hr;done)|skip
 rename_i s
 simp only[Option.some.injEq] at hr;subst hr
 obtain ⟨bs,he,hs⟩:=hv.cv
 obtain ⟨ρ',aL,ck,di,hE⟩:=pZ (w':=w.alloc (.stringIter bs 0)) (o:= .stringIter bs 0) (x0:= .iK s 0) (base:=0) (size:=0) hW none rfl rfl rfl rfl (fun ρ' n' aL hn=>
   ⟨bs,by show (w.heap.push _)[w.heap.size]? =_;simp,hs,rfl⟩)
 refine ⟨_,.pointer (some ⟨w.heap.size,0,none⟩),_,ρ',?_,Yields.value _,aL,di,?_,hE⟩
 . simp[execOp,ho,he,Instr.range,aK hd]
 . have:=ax.ptr (ρ:=ρ') (n:=(st.aE none none (some (.iK s 0))).next.toNat) (C:=C) st.next 0 (by simp[St.aE,Pos.az])
   rw[ck] at this;simpa using this
theorem KT (hT:bZ P tt) (src dst:TypeId) (x:Operand) (hb: ∃xs cls,fA tt (.convert src dst x)=some (.conv .bytes,xs,cls)):cw P tt (.convert src dst x):=by
 intro ρ C st w k xs cls fr a o vs res ho hc hW hF hx hr
 obtain ⟨_,_,dX⟩:=hb
 rw[hc] at dX
 simp only[Option.some.injEq,Prod.mk.injEq] at dX
 obtain ⟨rfl,_⟩:=dX
 simp only[fA] at hc
 split at hc<;>first|(cases hc;done)|skip
 rename_i s d b hs hd hb
 obtain ⟨ds,wB,zN⟩:=(hT.at hs).und
 obtain ⟨dd,hdd,bM⟩:=(hT.at hd).und
 split at hc<;>first|(cases hc;done)|skip
 . rename_i e h1 h2
   split at hc<;>first|(cases hc;done)|skip
   rename_i te eK
   split at hc<;>first|(cases hc;done)|skip
   rename_i RW
   cases hc
   rw[h1] at zN;rw[h2] at bM
   rw[kC zN] at wB;rw[kL bM] at hdd
   obtain ⟨de,RX,RY⟩:=(hT.at eK).und
   rw[RW] at RY;rw[zH RY] at RX
   obtain ⟨v,rfl,hv⟩:=eu hb hF hx
   simp only[aB.run,qQ] at hr
   split at hr<;>first|(cases hr;done)|(rename_i heq;cases heq;done)|(rename_i heq;cases heq)
   rename_i u
   simp only[Option.some.injEq] at hr;subst hr
   obtain ⟨bs,he,hs⟩:=hv.cv
   have bH:=run_bytes_of_string (P:=P) w src dst e bs wB hdd RX
   have tE:bs.size<=grownCap w bs.size 0 e:=by unfold grownCap Question.cut;exact Nat.le_add_right _ _
   generalize grownCap w bs.size 0 e=cap at bH tE
   have dM:(bytesRow bs cap).size=cap:=by
     have:bs.data.size=bs.size:=rfl
     simp[bytesRow,this];omega
   have OU:u.length=bs.size:=(qF hs).symm
   have hrel: ∀ρ' n',aq ρ' n' C (u.map fun c=>AV.int .u8 (.ofNat c)) ((bytesRow bs cap).toList.take (u.map fun c=>AV.int .u8 (.ofNat c)).length):=by
     intro ρ' n'
     have h1:(bytesRow bs cap).toList.take (u.map fun c=>AV.int .u8 (.ofNat c)).length=u.map fun c=>Value.int .u8 (.ofNat c):=by
        have hdl:bs.data.toList.length=bs.size:=by simp
        rw[List.length_map,OU]
        simp only[bytesRow,Array.toList_append,Array.toList_map]
        rw[List.take_left' (by simp), <-hs,List.map_map]
        rfl
     rw[h1]
     refine ⟨by simp,fun i v x hv hx=> ?_⟩
     simp only[List.getElem?_map,Option.map_eq_some_iff] at hv hx
     obtain ⟨c,hc,rfl⟩:=hv
     obtain ⟨c',p7,rfl⟩:=hx
     rw[hc] at p7;cases p7
     exact .int _ _
   obtain ⟨ρ',aL,ck,di,hE⟩:=pZ (w':=w.drew.alloc (.cells (bytesRow bs cap) e ((bytesRow bs cap).size,(bytesRow bs cap).size+1))) (o:= .cells (bytesRow bs cap) e ((bytesRow bs cap).size,(bytesRow bs cap).size+1))
     (x0:= .cells (u.map fun c=>AV.int .u8 (.ofNat c)) 0) (base:=0) (size:=(bytesRow bs cap).size) hW none rfl rfl rfl rfl (fun ρ' n' aL hn=>
     nJ (e:=e) (fr:=((bytesRow bs cap).size,(bytesRow bs cap).size+1)) (by show (w.heap.push _)[w.heap.size]? =_;simp) (by rw[List.length_map,OU,dM];exact tE) (hrel _ _) (fun i hi=>by simp;omega))
   refine ⟨_,.slice (some ⟨w.heap.size,0,none⟩) u.length cap,_,ρ',?_,Yields.value _,aL,di,?_,hE⟩
   . simp only[execOp,ho,he,Sem.run_bind]
     rw[bH,OU];rfl
   . exact oX (by simp[St.aE,Pos.az]) ck (by omega) (fun c hc=>by cases hc) (by omega)
 all_goals
   repeat' split at hc
   all_goals (cases hc;done)
end
end Go.Ai
end
section
namespace Go.Ai
open Go Go.RowKit
section
variable {P : Program} {tt : TT} {ρ : Pos -> Loc} {C : Cells} {st : St} {w w' : World}
theorem rP {n:Nat}: ∀{l:List AV} {ys:List Value},aX l=true->aq ρ n C l ys-> ∀y∈ys,y.oneCell'=true
 |[],ys,_,h=>by have:=h.iE;subst this;simp
 |v::l,ys,h1,h=>by
  unfold aX at h1
  split at h1<;>first|(cases h1;done)|skip
  rename_i ho
  obtain ⟨y,ys',rfl,hv,hs⟩:=h.cons_inv
  intro z hz
  simp at hz
  rcases hz with rfl|hz
  . cases hv<;>first|rfl|(simp[AV.one] at ho;done)
  . exact rP h1 hs z hz
theorem vH {α:Type} (l:List α) {i:Nat} (vs:List α) (hi:i<=l.length) (k:Nat):(aO l i vs)[k]? =if k<i then l[k]? else if k<i+vs.length then vs[k - i]? else l[k]? :=by
 unfold aO
 have hl:(l.take i).length=i:=by simp;omega
 split
 . rename_i h;rw[List.getElem?_append_left (by omega),List.getElem?_take,if_pos h]
 . rename_i h
   rw[List.getElem?_append_right (by omega),hl]
   split
   . rename_i h';rw[List.getElem?_append_left (by omega)]
   . rename_i h'
     rw[List.getElem?_append_right (by omega),List.getElem?_drop]
     congr 1;omega
theorem yU {α:Type} (l:List α) (b off:Nat) (vs:List α) (h:b+off<=l.length):(aO l (b+off) vs).drop b=aO (l.drop b) off vs:=by
 apply List.ext_getElem?
 intro k
 rw[List.getElem?_drop,vH l vs h,vH (l.drop b) vs (by simp;omega),List.getElem?_drop]
 by_cases h1:k<off
 . rw[if_pos (by omega),if_pos h1]
 . rw[if_neg (by omega),if_neg h1]
   by_cases h2:k<off+vs.length
   . rw[if_pos (by omega),if_pos h2];congr 1;omega
   . rw[if_neg (by omega),if_neg h2]
theorem Fq {α:Type} (l:List α) (off m:Nat) (vs:List α) (h:off+vs.length<=m) (h':m<=l.length):(aO l off vs).take m=aO (l.take m) off vs:=by
 apply List.ext_getElem?
 intro k
 rw[List.getElem?_take,vH l vs (by omega),vH (l.take m) vs (by simp;omega),List.getElem?_take]
 by_cases h1:k<off
 . rw[if_pos (by omega),if_pos h1,if_pos h1,if_pos (by omega)]
 . by_cases h2:k<off+vs.length
   . rw[if_pos (by omega),if_neg h1,if_pos h2,if_neg h1,if_pos h2]
   . rw[if_neg h1,if_neg h2,if_neg h1,if_neg h2]
theorem Bv (hW:bn ρ C st w) {b:Pos} {cs vs:List AV} {fz off:Nat} {ys:List Value} (hb:st.heap.get b=some (.cells cs fz)) (hle:off+vs.length<=cs.length) (RF:fz<=off)
   (h1:aX vs=true) (hv:aq ρ st.next.toNat C vs ys):
   ∃w',(storeCells ⟨(ρ b).aA,(ρ b).base+off,none⟩ ys).run P w= .ok () w'/\bn ρ C (st.aE none (some (b,.cells (aO cs off vs) fz)) none) w'/\jY ρ st w ρ (st.aE none (some (b,.cells (aO cs off vs) fz)) none) w':=by
 obtain ⟨_,_,c,e,fr,g1,g2,g3,g4,g5⟩:=hW.live b _ hb
 have hl:vs.length=ys.length:=hv.1
 obtain ⟨w',e1,e2,e3,e4,e5,e6,e7⟩:=iP (P:=P) (ρ b).aA e fr ys 0 ((ρ b).base+off) c w g1 (by omega) (rP h1 hv) (fun k hk nH=>by
   have:=g5 (k - (ρ b).base) (by omega) (by omega)
   rwa [show (ρ b).base+(k - (ρ b).base)=k from by omega] at this)
 simp only[Nat.add_zero] at e1 e2
 refine ⟨w',e1,?_⟩
 have hlen:(aO cs off vs).length=cs.length:=by simp[aO];omega
 refine Hr hW hb e5 e6 e7 e3 e4 ⟨_,e,fr,e2,?_,?_,?_,fun i hi LP=>g5 i hi ?_⟩
 . simp[aO];omega
 . rw[hlen];simp[aO];omega
 . rw[hlen]
   rw[yU _ _ _ _ (by simp;omega),Fq _ _ _ _ (by omega) (by simp;omega)]
   exact g4.aO hv off
 . simp[aO] at LP;omega
theorem R9 (hW:bn ρ C st w) {b:Pos} {cs vs:List AV} {t:TypeId} {off:Nat} {ys:List Value} (hb:st.heap.get b=some (.typed t cs)) (hle:off+vs.length<=cs.length)
   (h1:aX vs=true) (hv:aq ρ st.next.toNat C vs ys):
   ∃w',(storeCells ⟨(ρ b).aA,(ρ b).base+off,none⟩ ys).run P w= .ok () w'/\bn ρ C (st.aE none (some (b,.typed t (aO cs off vs))) none) w'/\jY ρ st w ρ (st.aE none (some (b,.typed t (aO cs off vs))) none) w':=by
 obtain ⟨_,_,c,fr,g1,g2,g3,g4,g5,g6⟩:=hW.live b _ hb
 have hl:vs.length=ys.length:=hv.1
 obtain ⟨w',e1,e2,e3,e4,e5,e6,e7⟩:=iP (P:=P) (ρ b).aA t fr ys 0 ((ρ b).base+off) c w g1 (by omega) (rP h1 hv) (fun k hk nH=>by
   have:=g5 (k - (ρ b).base) (by omega) (by omega)
   rwa [show (ρ b).base+(k - (ρ b).base)=k from by omega] at this)
 simp only[Nat.add_zero] at e1 e2
 refine ⟨w',e1,?_⟩
 have hlen:(aO cs off vs).length=cs.length:=by simp[aO];omega
 refine Hr hW hb e5 e6 e7 e3 e4 ⟨_,fr,e2,?_,?_,?_,fun i hi LP=>g5 i hi ?_,g6⟩
 . simp[aO];omega
 . rw[hlen];simp[aO];omega
 . rw[hlen]
   rw[yU _ _ _ _ (by simp;omega),Fq _ _ _ _ (by omega) (by simp;omega)]
   exact g4.aO hv off
 . simp[aO] at LP;omega
theorem ax.qH {n:Nat}:ax ρ n C .undef undef:= .tuple [] #[] rfl (fun _ _ _ h=>by simp at h)
theorem Sa (hT:bZ P tt) (t:TypeId) (x y:Operand):cw P tt (.store t x y):=by
 intro ρ C st w k xs cls fr a o vs res ho hc hW hF hx hr
 simp only[fA] at hc
 split at hc<;>first|(cases hc;done)|skip
 rename_i ti l b7 hl
 cases hc
 obtain ⟨p,v,rfl,h1,h2⟩:=Jd hl hF hx
 obtain ⟨i0,jI,je,_⟩:=(hT.at b7).info
 simp only[aB.run,tj] at hr
 split at hr<;>first|(cases hr;done)|skip
 rename_i b off
 split at hr<;>first|(cases hr;done)|skip
 rotate_left
 . rename_i t0 cs hb
   split at hr<;>first|(cases hr;done)|skip
   rename_i e1 e2 e4
   have e1:=Nat.eq_of_beq_eq_true e1
   have e2:=Nat.le_of_ble_eq_true e2
   simp only[Option.some.injEq] at hr;subst hr
   obtain ⟨_,he⟩:=h1.eN
   have hc:=h2.cells
   obtain ⟨w',bH,di,hE⟩:=R9 (P:=P) (vs:=v.cells) (off:=off) hW hb (by omega) e4 hc
   refine ⟨.skip,undef,w',ρ,?_,.inr ⟨rfl,rfl⟩,fun _ _=>rfl,di,ax.qH,hE⟩
   have dM:(a.eval y).cells.size=ti.size:=by have:=hc.1;simp at this;omega
   simp[execOp,ho,he,Instr.storeAt,Instr.sureAddr,storeVar,gi jI,je,dM,bH]
 rename_i cs fz hb
 split at hr<;>first|(cases hr;done)|skip
 rename_i e1 e2 e3 e4
 have e1:=Nat.eq_of_beq_eq_true e1
 have e2:=Nat.le_of_ble_eq_true e2
 have e3:=Nat.le_of_ble_eq_true e3
 simp only[Option.some.injEq] at hr;subst hr
 obtain ⟨_,he⟩:=h1.eN
 have hc:=h2.cells
 obtain ⟨w',bH,di,hE⟩:=Bv (P:=P) hW hb (by omega) e3 e4 hc
 refine ⟨.skip,undef,w',ρ,?_,.inr ⟨rfl,rfl⟩,fun _ _=>rfl,di,ax.qH,hE⟩
 have dM:(a.eval y).cells.size=ti.size:=by have:=hc.1;simp at this;omega
 simp[execOp,ho,he,Instr.storeAt,Instr.sureAddr,storeVar,gi jI,je,dM,bH]
theorem run_setObj_map {r:Nat} {es:Array MapEntry} {c:Nat} {o:Obj} {w:World} (h:w.heap[r]? =some (.map es c)):(setObj r o).run P w= .ok () { w with heap:=w.heap.setIfInBounds r o }:=by
 simp[setObj,Sem.run,h]
theorem Hu (hW:bn ρ C st w) {b:Pos} {es:List (AV×AV×Nat)} {clock:Nat} (hb:st.heap.get b=some (.map es clock)) {es2:List (AV×AV×Nat)} {Qb:Array MapEntry} {zP:Nat}
  (hE:yb ρ st.next.toNat C es2 Qb.toList):
  bn ρ C (st.aE none (some (b,.map es2 zP)) none) { w with heap:=w.heap.setIfInBounds (ρ b).aA (.map Qb zP) }/\jY ρ st w ρ (st.aE none (some (b,.map es2 zP)) none) { w with heap:=w.heap.setIfInBounds (ρ b).aA (.map Qb zP) }:=by
 have aZ:=(hW.live b _ hb).2.1
 refine Hr hW hb rfl rfl rfl (by simp) (fun k hk=>by simp[Array.getElem?_setIfInBounds_ne (Ne.symm hk)]) ⟨Qb,by simp[aZ],by simpa using hE.1,fun i e e' h1 h2=>hE.2 i e e' h1 (by simpa using h2)⟩
theorem F8 {n:Nat} {pk:PK} {u v:AV} {x y:Value} (h1:ax ρ n C u x) (h2:ax ρ n C v y) (h:uU pk u v=some true) (m:Nat):Instr.sameBits m y x=true:=by
 unfold uU at h
 split at h<;>first|(cases h;done)|skip
 . simp only[Option.some.injEq] at h
   rw[h1.gQ,h2.gQ]
   rename_i p q
   have:p=q:=by simpa using h
   subst this
   cases m<;>simp[Instr.sameBits]
 . split at h<;>first|(cases h;done)|skip
   rename_i xY
   have:=qV xY;subst this
   simp only[Option.some.injEq,gR] at h
   rw[h1.gy,h2.gy]
   rename_i p q _
   have:p=q:=by simpa using h
   subst this
   cases m<;>simp[Instr.sameBits]
 . simp only[Option.some.injEq] at h
   obtain ⟨bx,rfl,e1⟩:=h1.cv
   obtain ⟨bz,rfl,e2⟩:=h2.cv
   have:bz==bx:=by rw[beq_toListBytes,zK e2 e1,fU];exact (fU.1 h).symm
   cases m<;>simpa [Instr.sameBits] using this
theorem JP {pk:PK} {u:AV}: ∀{es:List (AV×AV×Nat)} {i j:Nat} {v:AV},qo pk u es i=some (some (j,v))-> ∃e,i<=j/\es[j - i]? =some e/\uU pk u e.1=some true
 |[],i,j,v,h=>by simp[qo] at h
 |(k',v',born)::es,i,j,v,h=>by
  unfold qo at h
  split at h<;>first|(cases h;done)|skip
  . rename_i hq
    simp only[Option.some.injEq,Prod.mk.injEq] at h
    obtain ⟨rfl,_⟩:=h
    exact ⟨(k',v',born),Nat.le_refl _,by simp,hq⟩
  . obtain ⟨e,h1,h2,h3⟩:=JP h
    refine ⟨e,by omega,?_,h3⟩
    rw[show j - i=(j - (i+1))+1 from by omega]
    simpa using h2
theorem Du (k v:AV): ∀(es:List (AV×AV×Nat)) (i j:Nat),(mA k v es i)[j]? =if j=i then (es[i]?).map (fun e=>(k,v,e.2.2)) else es[j]?
 |[],i,j=>by cases i<;>cases j<;>simp[mA]
 |(a,b,born)::es,0,j=>by cases j<;>simp[mA]
 |e::es,i+1,j=>by
  cases j with
  |zero=>simp[mA]
  |succ j=>simp[mA,Du k v es i j]
theorem Hv (hT:bZ P tt) (op:Op) (t:TypeId) (m k0 v0:Operand) (LQ:op= .mapUpdate t m k0 v0\/op= .insert t m k0 v0):cw P tt op:=by
 intro ρ C st w k xs cls fr a o vs res ho hc hW hF hx hr
 have hc:fA.PW tt t m k0 v0=some (k,xs,cls):=by rcases LQ with rfl|rfl<;>simpa only[fA] using hc
 have hex:(execOp a.eval o).run P w=((Instr.mapUpdate t (a.eval m) (a.eval k0) (a.eval v0)).run P w).andThen fun _ w=> .ok .skip w:=by
   rcases LQ with rfl|rfl<;>simp[execOp,ho]
 unfold fA.PW at hc
 split at hc<;>first|(cases hc;done)|skip
 rename_i ti l b7 hl
 split at hc<;>first|(cases hc;done)|skip
 rename_i kt et hk
 split at hc<;>first|(cases hc;done)|skip
 rename_i tk LH
 obtain ⟨d,hd,bM⟩:=(hT.at b7).und
 rw[hk] at bM;rw[Dp bM] at hd
 obtain ⟨dk,JN,xY⟩:=(hT.at LH).und
 have key: ∃pk,k= .mapSet pk/\xs=l/\pk.fits dk=true:=by
   split at hc<;>first|(cases hc;done)|skip
   all_goals
     rename_i h1
     cases hc
     refine ⟨_,rfl,rfl,XE tk.k xY ?_⟩
   . exact .inr (.inl ⟨⟨_,h1⟩,rfl⟩)
   . exact .inr (.inr ⟨h1,rfl⟩)
   . exact .inl ⟨h1,rfl⟩
 obtain ⟨pk,rfl,rfl,lq⟩:=key
 obtain ⟨mm,kk,vv,rfl,h1,h2,h3⟩:=evs3 hl hF hx
 have OR: ∀e w,(Instr.checkKey e 10000 kt (a.eval k0)).run P w= .ok () w:=fun e w=>zO JN lq e 9999 _ w
 simp only[aB.run,uk] at hr
 split at hr<;>first|(cases hr;done)|skip
 rename_i b
 split at hr<;>first|(cases hr;done)|skip
 rename_i es clock hb
 obtain ⟨_,he⟩:=h1.tD
 obtain ⟨_,_,es',fE,hlen,lu⟩:=hW.live _ _ hb
 have hE:yb ρ st.next.toNat C es es'.toList:=⟨by simpa using hlen,fun i e e' h1 h2=>lu i e e' h1 (by simpa using h2)⟩
 split at hr<;>first|(cases hr;done)|skip
 . rename_i i v hpk hf
   simp only[Option.some.injEq] at hr;subst hr
   obtain ⟨r',OV,jB⟩:=ur lq h2 hE hf
   rcases jB with ⟨e1,_⟩|⟨j',v',y,e1,e2,e3,_,e5⟩
   . cases e1
   . cases  e1;subst e2
     obtain ⟨e,_,XI,hek⟩:=JP hf
     rw[Nat.sub_zero] at XI
     have hi:i<es'.size:=by omega
     have Qc:es'[i]? =some es'[i]:=Array.getElem?_eq_getElem hi
     have hkey:=(lu i e es'[i] XI Qc).1
     have hsb:=F8 h2 hkey hek 10000
     have hE2:yb ρ st.next.toNat C (mA kk vv es i) (es'.modify i fun e=>{ e with key:=a.eval k0,val:=a.eval v0 }).toList:=by
        refine ⟨?_,fun j e e' g1 g2=> ?_⟩
        . have Fs: ∀(es:List (AV×AV×Nat)) (i:Nat),(mA kk vv es i).length=es.length:=by
            intro es
            induction es with
            |nil=>intro i;cases i<;>rfl
            | cons e es ih=>intro i;cases i with
              |zero=>obtain ⟨a,b,c⟩:=e;rfl
              |succ i=>simp[mA,ih i]
          rw[Fs];simpa using hlen
        . rw[Du] at g1
          simp only[Array.getElem?_toList,Array.getElem?_modify] at g2
          by_cases hji:j=i
          . subst hji
            rw[if_pos rfl,XI] at g1
            simp[Qc] at g1 g2
            subst g1;subst g2
            exact ⟨h2,h3,(lu j e es'[j] XI Qc).2.2⟩
          . rw[if_neg hji] at g1
            rw[if_neg (fun e=>hji e.symm)] at g2
            exact lu j e e' g1 g2
     obtain ⟨di,Sb⟩:=Hu hW hb (zP:=clock) hE2
     refine ⟨.skip,undef,_,ρ,?_,.inr ⟨rfl,rfl⟩,fun _ _=>rfl,di,ax.qH,Sb⟩
     rw[hex]
     simp only[Instr.mapUpdate,Sem.run_bind,aK hd,Result.andThen_ok,he,run_getObj_map fE,OR,run_findKey JN OV,Qc,Option.map_some,Option.getD_some,Instr.keyThatStays,hsb,if_true,Sem.run_pure,run_setObj_map fE]
 . rename_i hpk hf
   simp only[Option.some.injEq] at hr;subst hr
   obtain ⟨r',OV,jB⟩:=ur lq h2 hE hf
   rcases jB with ⟨_,e2⟩|⟨j',v',y,e1,_⟩
   . subst  e2
     have hE2:yb ρ st.next.toNat C (es++[(kk,vv,clock)]) (es'.push { key:=a.eval k0,val:=a.eval v0,born:=clock }).toList:=by
        refine ⟨by simp[hlen],fun j e e' g1 g2=> ?_⟩
        simp only[Array.toList_push] at g2
        rcases Nat.lt_or_ge j es.length with hj|hj
        . rw[List.getElem?_append_left hj] at g1
          rw[List.getElem?_append_left (by simp;omega)] at g2
          exact lu j e e' g1 (by simpa using g2)
        . rw[List.getElem?_append_right hj] at g1
          rw[List.getElem?_append_right (by simp;omega)] at g2
          have:j - es.length=0:=by
            have:=(List.getElem?_eq_some_iff.1 g1).1;simp at this;omega
          rw[this] at g1
          have:j - es'.toList.length=0:=by simp;omega
          rw[this] at g2
          simp at g1 g2
          subst g1;subst g2
          exact ⟨h2,h3,rfl⟩
     obtain ⟨di,Sb⟩:=Hu hW hb (zP:=clock+1) hE2
     refine ⟨.skip,undef,_,ρ,?_,.inr ⟨rfl,rfl⟩,fun _ _=>rfl,di,ax.qH,Sb⟩
     rw[hex]
     simp only[Instr.mapUpdate,Sem.run_bind,aK hd,Result.andThen_ok,he,run_getObj_map fE,OR,run_findKey JN OV,run_setObj_map fE]
   . cases e1
theorem Sc (it:Operand) (isS:Bool):cw P tt (.next it isS):=by
 intro ρ C st w k xs cls fr a o vs res ho hc hW hF hx hr
 simp only[fA] at hc
 split at hc<;>first|(cases hc;done)|skip
 rename_i b hb
 cases hc
 obtain ⟨v,rfl,hv⟩:=eu hb hF hx
 simp only[aB.run,Bl] at hr
 split at hr<;>first|(cases hr;done)|skip
 rename_i bb
 split at hr<;>first|(cases hr;done)|skip
 rename_i s pos iQ
 obtain ⟨_,he⟩:=hv.eN
 obtain ⟨_,_,bs,jJ,hs,Le⟩:=hW.live _ _ iQ
 have dM:=qF hs
 have jR:(getObj (ρ bb).aA).run P w= .ok (.stringIter bs pos) w:=by simp[getObj,Sem.run,jJ]
 rw[Le] at he
 split at hr
 . rename_i aZ
   have aZ:pos<s.length:=by simpa using aZ
   split at hr<;>first|(cases hr;done)|skip
   rename_i c wd F9
   simp only[Option.some.injEq] at hr;subst hr
   have Bt:pos<bs.size:=by omega
   unfold OJ at F9
   split at F9<;>first|(cases F9;done)|skip
   rename_i c' p7
   split at F9<;>first|(cases F9;done)|skip
   rename_i U1
   simp only[Option.some.injEq,Prod.mk.injEq] at F9
   obtain ⟨rfl,rfl⟩:=F9
   have U1:c'<128:=by simpa using U1
   have hcb:(bs[pos]'Bt).toNat=c':=by
     rw[jZ, <-hs,List.getElem?_map] at p7
     obtain ⟨b',bR,bC⟩:=Option.map_eq_some_iff.1 p7
     obtain ⟨hl,hbb'⟩:=List.getElem?_eq_some_iff.1 bR
     rw[<-bC, <-hbb'];rfl
   have OW:=decode_ascii bs pos Bt (by rw[hcb];exact U1)
   rw[hcb] at OW
   have tF:(setObj (ρ bb).aA (.stringIter bs (pos+1))).run P w= .ok () { w with heap:=w.heap.setIfInBounds (ρ bb).aA (.stringIter bs (pos+1)) }:=by simp[setObj,Sem.run,jJ]
   have hltb:=(hW.live _ _ iQ).2.1
   obtain ⟨di,Sb⟩:=Hr (w':={ w with heap:=w.heap.setIfInBounds (ρ bb).aA (.stringIter bs (pos+1)) }) (x0:= .iK s (pos+1)) hW iQ rfl rfl rfl (by simp)
     (fun k hk=>by simp[Array.getElem?_setIfInBounds_ne (Ne.symm hk)]) ⟨bs,by simp[hltb],hs,Le⟩
   refine ⟨.value (.tuple #[.bool true,goInt pos,.int .i32 (c':Int)]),_,_,ρ,?_,Yields.value _,fun _ _=>rfl,di,?_,Sb⟩
   . simp only[execOp,ho,he,Instr.next,Sem.run_bind,jR,Result.andThen_ok,Bt,if_true,OW,tF,Sem.run_pure]
   . exact .jQ (aq.cons (.bool true) (aq.cons (.int _ _) (aq.cons (.int _ _) aq.nil)))
 . rename_i aZ
   have aZ: ¬pos<s.length:=fun h=>by
     have:Nat.blt pos s.length=true:=by simpa using h
     rw[this] at aZ;cases aZ
   simp only[Option.some.injEq] at hr;subst hr
   have Bt: ¬pos<bs.size:=by omega
   refine .pure (x:= .tuple #[.bool false]) ?_ (.jQ (aq.cons (.bool false) aq.nil))
   simp only[execOp,ho,he,Instr.next,Sem.run_bind,jR,Result.andThen_ok,Bt,if_false,Sem.run_pure]
end
end Go.Ai
end
section
namespace Go.Ai
open Go Go.RowKit
section
variable {P : Program} {tt : TT} {ρ : Pos -> Loc} {C : Cells} {st : St} {w w' : World}
theorem bn.of_heap (hW:bn ρ C st w) (h:w'.heap=w.heap):bn ρ C st w' where
 live b x hb:=let ⟨h1,h2,h3⟩:=hW.live b x hb;⟨h1,by rw[h];exact h2,h3.of_heap (by rw[h])⟩
 inj:=hW.inj
 cj a v ha:=let ⟨h1,h2⟩:=hW.cj a v ha;⟨by unfold World.cell? at h1 ⊢; rw[h];exact h1,h2⟩
 whole a v ha o ho:=by have:=hW.whole a v ha o ho;unfold World.cell? at this ⊢; rw[h];exact this
theorem Ft {es:Nat}: ∀{xs:List (List AV)} (_h: ∀(i:Nat) (cs:List AV),xs[i]? =some cs->cs.length=es) (q:Nat) (v:AV),
  xs.flatten[q]? =some v-> ∃cs,xs[q / es]? =some cs/\cs[q % es]? =some v
 |[],_,q,v,hv=>by simp at hv
 |c ::xs,h,q,v,hv=>by
  have hc:c.length=es:=h 0 c rfl
  have gv: ∀(i:Nat) (cs:List AV),xs[i]? =some cs->cs.length=es:=fun i cs hi=>h (i+1) cs (by simpa using hi)
  rw[List.flatten_cons] at hv
  rcases Nat.lt_or_ge q c.length with hq|hq
  . rw[List.getElem?_append_left hq] at hv
    refine ⟨c,?_,?_⟩
    .   rw[Nat.div_eq_of_lt (by omega)];rfl
    .   rw[Nat.mod_eq_of_lt (by omega)];exact hv
  . rw[   List.getElem?_append_right hq] at hv
    obtain ⟨cs,h1,h2⟩:=Ft gv (q - c.length) v hv
    rw[hc] at hq h1 h2
    have LN:0<es:=by
        rcases Nat.eq_zero_or_pos es with h0|h0
        . subst h0
          have hl:=gv _ _ h1
          have:=(List.getElem?_eq_some_iff.1 h2).1
          omega
        . exact h0
    refine ⟨cs,?_,?_⟩
    .   rw[Nat.div_eq_sub_div LN hq];simpa using h1
    .   rw[Nat.mod_eq_sub_mod hq];exact h2
theorem Fu {es:Nat}: ∀{xs:List (List AV)} (_h: ∀(i:Nat) (cs:List AV),xs[i]? =some cs->cs.length=es),xs.flatten.length=xs.length*es
 |[],_=>by simp
 |c::xs,h=>by
  have hc:c.length=es:=h 0 c rfl
  rw[List.flatten_cons,List.length_append,Fu (fun i cs hi=>h (i+1) cs (by simpa using hi)),hc,List.length_cons,Nat.add_mul];omega
theorem jq (hW:bn ρ C st w) {es m:Nat} {u:AV} {x:Value} {new:List AV} {k:Nat} (hu:ax ρ st.next.toNat C u x) (hk:fH u=some k) (hmk:m<=k) (h:ec es m (fun b=>st.heap.get b) u=some new) (w2:World) (mJ:w2.heap=w.heap):
   ∃ys:List Value,(Builtin.firstCells es m x).run P w2= .ok ys.toArray w2/\aq ρ st.next.toNat C new ys/\(u= .ai\/new.length=m*es):=by
 have hW2:=hW.of_heap (w':=w2) mJ
 unfold ec at h
 split at h
 . simp only[Option.some.injEq] at h;subst h
   rw[hu.eW]
   exact ⟨[],by simp[Builtin.firstCells],aq.nil,.inl rfl⟩
 . rename_i b off len cap es'
   simp only[fH,Option.some.injEq] at hk;subst hk
   obtain ⟨aa,aH,he,hle,_,ha⟩:=hu.cE
   rw[he]
   split at h
   . rename_i h0
     have h0:=Nat.eq_of_beq_eq_true h0
     simp only[Option.some.injEq] at h;subst h
     exact ⟨[],by simp[Builtin.firstCells,h0,loadCells,loadCellsFrom],aq.nil,.inr (by simp[h0])⟩
   . rename_i h0
     have h0:=Nat.ne_of_beq_eq_false h0
     split at h<;>first|(cases h;done)|skip
     rename_i cs fz hb
     have hm:m≠0:=by intro e;subst e;simp at h0
     obtain ⟨_,rfl,_⟩:=ha (by omega)
     obtain ⟨ys,h1,h2⟩:=hW2.loadCells (P:=P) hb h
     exact ⟨ys,by simp only[Builtin.firstCells];exact h1,h2,.inr (nY h)⟩
 . rename_i xs es'
   simp only[fH,Option.some.injEq] at hk;subst hk
   split at h<;>first|(cases h;done)|skip
   rename_i LR OX
   have LR:=Nat.eq_of_beq_eq_true LR
   have OX:=Nat.le_of_ble_eq_true OX
   subst LR
   simp only[Option.some.injEq] at h;subst h
   obtain ⟨aa,aH,cell,he,hle,rM,g1,g2,g3⟩:=hu.oU
   rw[he]
   have fE: ∀(i:Nat) (cs:List AV),(xs.take m)[i]? =some cs->cs.length=es:=fun i cs hi=>by
     rw[List.getElem?_take] at hi;split at hi
     . exact g1 i cs hi
     . cases hi
   have JQ:=Fu fE
   rw[List.length_take,Nat.min_eq_left OX] at JQ
   have XJ: ∀q v,(xs.take m).flatten[q]? =some v-> ∃cs,xs[q / es]? =some cs/\cs[q % es]? =some v:=fun q v hv=>by
     obtain ⟨cs,h1,h2⟩:=Ft fE q v hv
     rw[List.getElem?_take] at h1;split at h1
     . exact ⟨cs,h1,h2⟩
     . cases h1
   refine ⟨(List.range (m*es)).map fun q=>cell (q / es) (q % es),?_,⟨by simp[JQ],fun q v y hv hy=> ?_⟩,.inr JQ⟩
   . simp only[Builtin.firstCells]
     refine run_loadCells w2 _ _ _ fun q hq=> ?_
     have aZ:q<(xs.take m).flatten.length:=by rw[JQ];exact hq
     obtain ⟨cs,h1,h2⟩:=XJ q _ (List.getElem?_eq_getElem aZ)
     have rM:=rM (by intro e;rw[e] at h1;simp at h1)
     obtain ⟨ab,ao,asp⟩:=aa
     simp only at rM;subst rM
     have:=(hW2.cj _ _ (g2 _ _ _ _ h1 h2)).1
     rw[j0]
     simp only at this
     rw[show ao+q=ao+q / es*es+q % es from by rw[Nat.add_assoc,Nat.mul_comm,Nat.div_add_mod]]
     exact this
   . obtain ⟨cs,h1,h2⟩:=XJ q v hv
     have hq:q<m*es:=by rw[<-JQ];exact (List.getElem?_eq_some_iff.1 hv).1
     simp[hq] at hy
     subst hy
     exact g3 _ _ _ _ h1 h2
 . rename_i s
   simp only[fH,Option.some.injEq] at hk;subst hk
   split at h<;>first|(cases h;done)|skip
   rename_i LR OX
   have LR:=Nat.eq_of_beq_eq_true LR
   have OX:=Nat.le_of_ble_eq_true OX
   subst LR
   simp only[Option.some.injEq] at h;subst h
   obtain ⟨bs,rfl,hs⟩:=hu.cv
   refine ⟨(s.take m).map fun (c:Nat)=>Value.int .u8 (.ofNat c),?_,⟨by simp,fun q v y hv hy=> ?_⟩,.inr (by simp;omega)⟩
   . simp only[Builtin.firstCells,Sem.run_pure]
     congr 1
     apply Array.ext'
     simp only[Array.toList_map,ByteArray.data_extract,Array.toList_extract,List.extract,List.drop_zero,Nat.sub_zero]
     rw[<-hs, <-List.map_take,List.map_map];rfl
   . simp only[List.getElem?_map,Option.map_eq_some_iff] at hv hy
     obtain ⟨c,hc,rfl⟩:=hv
     obtain ⟨c',p7,rfl⟩:=hy
     rw[hc] at p7;cases p7
     exact .int _ _
 . cases h
theorem Ga {n:Nat} {u:AV} {x:Value} {k:Nat} (hu:ax ρ n C u x) (hk:fH u=some k):(Builtin.lenOf x).run P w= .ok k w:=by
 unfold fH at hk
 split at hk<;>first|(cases hk;done)|skip
 all_goals simp only[Option.some.injEq] at hk;subst hk
 . rw[hu.eW];rfl
 . obtain ⟨_,_,he,_⟩:=hu.cE;rw[he];rfl
 . obtain ⟨_,_,_,he,_⟩:=hu.oU;rw[he];rfl
 . obtain ⟨bs,rfl,hs⟩:=hu.cv;rw[<-qF hs];rfl
theorem JR (nl:Nat): ∀(r c:Nat),c<=nl+(nl+768) / 4->Builtin.growBy nl r c<=nl+(nl+768) / 4
 |0,c,h=>h
 |r+1,c,h=>by
  unfold Builtin.growBy
  split
  . exact h
  . exact JR nl r _ (by omega)
theorem nextslicecap_le {Qd cm:Nat} (h:cm<Qd):Builtin.nextslicecap Qd cm<=2*Qd+768:=by
 unfold Builtin.nextslicecap
 split
 . omega
 . split
   . omega
   . have:=JR Qd 4 cm (by omega)
     omega
theorem Bw (hT:bZ P tt) {t t2 e:Nat} {ts:Array TypeId} {ti CJ te:TI} (b7:tt.get (key t)=some ti) (Dv:tt.get (key t2)=some CJ) (hk:ti.k= .slice e) (jC: ∀k,CJ.k≠ .int k)
  (eK:tt.get (key e)=some te) (h0:ts[0]? =some t) (h1:ts[1]? =some t2) (ty:TypeId) (base:Option Addr) (n cap m:Nat) (x:Value) (w:World)
  (hx:(Builtin.lenOf x).run P w= .ok m w) (hb:(2*(n+m)+768)*te.bytes<=281474976710656) (hi:n+m<=9223372036854775807):
  (Builtin.append_ ts ty #[.slice base n cap,x]).run P w=
    if n+m<=cap then ((Builtin.firstCells te.size m x).run P w).andThen fun new w=>((match base with|some a=>storeCells (a.add (n*te.size)) new.toList|none=>pure ()).run P w).andThen fun _ w=> .ok (.slice base (n+m) cap) w
    else ((Builtin.firstCells te.size n (.slice base n cap)).run P w.drew).andThen fun cm w1=>((Builtin.firstCells te.size m x).run P w1).andThen fun new w2=>((zeroValue e).run P w2).andThen fun z w3=>
        .ok (.slice (some ⟨w3.heap.size,0,none⟩) (n+m) (grownCap w (n+m) cap e)) (w3.alloc (.cells (cm++new++Builtin.zeroCells z.cells (grownCap w (n+m) cap e - (n+m))) e)):=by
 obtain ⟨d,hd,bM⟩:=(hT.at b7).und
 rw[hk] at bM;rw[kL bM] at hd
 obtain ⟨d2,xS,U2⟩:=(hT.at Dv).und
 obtain ⟨i0,jI,je,XF,_⟩:=(hT.at eK).info
 have afz: ∀k,d2≠ .int k:=by
  rintro k rfl
  cases xY:CJ.k<;>rw[xY] at U2<;>first|(simp[bw] at U2;done)|exact absurd xY (jC _)
 have Qe: ¬(((n+m:Nat):Int)>IntKind.i64.max):=by
  have:IntKind.i64.max=9223372036854775807:=by decide
  rw[this];omega
 have afA: ¬(n+m<=cap)-> ¬(Builtin.nextslicecap (n+m) cap*te.bytes>2 ^ 48):=fun hc=>by
  have h1:=nextslicecap_le (Nat.lt_of_not_le hc)
  have h2:=Nat.mul_le_mul_right te.bytes h1
  have:(2:Nat) ^ 48=281474976710656:=by decide
  omega
 have tE: ∀q,(Question.appendCap (n+m) cap e).forced=q->q=false:=by rintro q rfl;rfl
 clear U2
 cases d2<;>first|(exact absurd rfl (afz _))|skip
 all_goals
  unfold Builtin.append_
  simp only[h0,h1,List.getElem?_toArray,List.getElem?_cons_zero,List.getElem?_cons_succ,Sem.run_bind,aK hd,Result.andThen_ok,gi jI,je,aK xS,Sem.run_pure,hx,Bool.false_eq_true,if_false,Bool.not_false,if_true,Sem.run_ite]
  by_cases hc:n+m<=cap
  . rw[if_pos hc,if_pos hc]
    cases base<;>simp only[Sem.run_bind,Sem.run_pure,Result.andThen_ok]
  . rw[if_neg hc,if_neg hc]
    simp only[Sem.run_bind,Lx jI,XF,Result.andThen_ok,Qe,false_and,if_false,afA hc,run_choose,Question.forced,Bool.false_eq_true,World.drew_eq,run_askRoom,Sem.run_pure,newRow,run_newObj,World.alloc_eq]
    rfl
end
end Go.Ai
end
section
namespace Go.Ai
open Go Go.RowKit
section
variable {P : Program} {tt : TT} {ρ : Pos -> Loc} {C : Cells} {st : St} {w w' : World}
theorem U3 {L:Loc} {cs:List AV} {n:Nat} (fz:Nat) (h:kj ρ n C L w' (.cells cs 0)):kj ρ n C L w' (.cells cs fz):=
 let ⟨c,e,fr,h1,h2,h3,h4,h5⟩:=h
 ⟨c,e,fr,h1,h2,h3,h4,fun i _ hi=>h5 i (Nat.zero_le _) hi⟩
theorem Qf (hW:bn ρ C st w) (del:Option Pos) (fz:Nat) {cm new rest:List Value} {ol nl:List AV} {e:TypeId} {n m es aH:Nat} (h1:aq ρ st.next.toNat C ol cm) (h2:aq ρ st.next.toNat C nl new)
  (Fv:ol.length=n*es) (Fw:nl.length=m*es) (hr:rest.length=(aH - (n+m))*es) (hc:n+m<=aH) {w2:World} (mJ:w2=w.drew.alloc (.cells (cm++new++rest).toArray e)):
  ∃ρ':Pos->Loc,(∀b:Pos,b.toNat<st.next.toNat->ρ' b=ρ b)/\bn ρ' C (st.aE del none (some (.cells (ol++nl) fz))) w2/\jY ρ st w ρ' (st.aE del none (some (.cells (ol++nl) fz))) w2/\
   ax ρ' (st.aE del none (some (.cells (ol++nl) fz))).next.toNat C (.slice st.next 0 (n+m) none es) (.slice (some ⟨w.heap.size,0,none⟩) (n+m) aH):=by
 subst mJ
 have mQ:cm.length=n*es:=by rw[<-h1.1,Fv]
 have jv:new.length=m*es:=by rw[<-h2.1,Fw]
 have dM:(cm++new++rest).length=aH*es:=by
  simp only[List.length_append,mQ,jv,hr]
  rw[<-Nat.add_mul, <-Nat.add_mul];congr 1;omega
 obtain ⟨ρ',aL,ck,di,hE⟩:=pZ (w':=w.drew.alloc (.cells (cm++new++rest).toArray e)) (o:= .cells (cm++new++rest).toArray e) (x0:= .cells (ol++nl) fz) (base:=0) (size:=(cm++new++rest).toArray.size) hW del rfl rfl rfl rfl (fun ρ' n' aL hn=>
  U3 fz  <| nJ (e:=e) (fr:=(0,0)) (by show (w.heap.push _)[w.heap.size]? =_;simp) (by simp[Fv,Fw,mQ,jv])
   (by
        have:(cm++new++rest).toArray.toList.take (ol++nl).length=cm++new:=by
         rw[List.take_left' (by simp[Fv,Fw,mQ,jv])]
        rw[this];exact (h1.append h2).mono aL hn) (fun i _=>by simp))
 refine ⟨ρ',aL,di,hE,oX (by simp[St.aE,Pos.az]) ck hc (fun c hc=>by cases hc) (by simp only[List.size_toArray,dM];exact Nat.le_refl _)⟩
theorem uX (z:Array Value) (m:Nat):(Builtin.zeroCells z m).toList.length=m*z.size:=by simp[Builtin.zeroCells]
theorem U4 {m:Nat} (h:Nat.beq m 0=false):m≠0:=Nat.ne_of_beq_eq_false h
theorem Bx (hT:bZ P tt) {t t2 e:Nat} {ts:Array TypeId} {ti CJ te:TI} {z:List AV} (b7:tt.get (key t)=some ti) (Dv:tt.get (key t2)=some CJ) (hk:ti.k= .slice e) (jC: ∀k,CJ.k≠ .int k)
   (eK:tt.get (key e)=some te) (hz:te.zero=some z) (h0:ts[0]? =some t) (h1:ts[1]? =some t2) (ty:TypeId) {s u:AV} {xs xu:Value} {res:b6} (hW:bn ρ C st w)
   (hs:ax ρ st.next.toNat C s xs) (hu:ax ρ st.next.toNat C u xu) (hr:gW (fun b=>st.heap.get b) st.next te.size te.bytes [s,u]=some res):
   pE P ρ C st w (((Builtin.append_ ts ty #[xs,xu]).run P w).andThen fun v w=> .ok (.value v) w) res:=by
 simp only[gW] at hr
 split at hr<;>first|(cases hr;done)|skip
 rename_i n m hn hm
 split at hr<;>first|(cases hr;done)|skip
 rename_i b1 b2
 have b1:=Nat.le_of_ble_eq_true b1
 have b2:=Nat.le_of_ble_eq_true b2
 have hlen:=Ga (P:=P) (w:=w) hu hm
 obtain ⟨i0,jI,je,_,sK⟩:=(hT.at eK).info
 obtain ⟨zv0,hzv0,_,Ht,_⟩:=sK z hz
 have Hp:=fun w=>oW hT eK hz (ρ:=ρ) (n:=st.next.toNat) (C:=C) w
 have Fs: ∃base aH,xs= .slice base n aH/\n<=aH:=by
   unfold fH at hn
   split at hn<;>first|(cases hn;done)|skip
   . cases hn;exact ⟨none,0,hs.eW,Nat.le_refl _⟩
   . cases hn;obtain ⟨a,c,he,hle,_⟩:=hs.cE;exact ⟨_,c,he,hle⟩
   . cases hn;obtain ⟨a,c,_,he,hle,_⟩:=hs.oU;exact ⟨_,c,he,hle⟩
   . rename_i s'
     exfalso
     cases XK:Nat.beq m 0<;>simp[XK] at hr
 obtain ⟨base,aH,gv,hle⟩:=Fs
 have bH:=Bw hT b7 Dv hk jC eK h0 h1 ty base n aH m xu w hlen b1 b2
 rw[gv,bH]
 have hg: ∀c,n+m<=grownCap w (n+m) c e:=fun c=>by unfold grownCap Question.cut;exact Nat.le_add_right _ _
 have Gb: ∀(del:Option Pos) (fz:Nat) (ol nl:List AV),¬(n+m<=aH)->ec te.size n (fun b=>st.heap.get b) s=some ol->ec te.size m (fun b=>st.heap.get b) u=some nl->ol.length=n*te.size->nl.length=m*te.size->
     pE P ρ C st w ((if n+m<=aH then ((Builtin.firstCells te.size m xu).run P w).andThen fun new w=>((match base with|some a=>storeCells (a.add (n*te.size)) new.toList|none=>pure ()).run P w).andThen fun _ w=> .ok (.slice base (n+m) aH) w
     else ((Builtin.firstCells te.size n (.slice base n aH)).run P w.drew).andThen fun cm w1=>((Builtin.firstCells te.size m xu).run P w1).andThen fun new w2=>((zeroValue e).run P w2).andThen fun z w3=>
        .ok (.slice (some ⟨w3.heap.size,0,none⟩) (n+m) (grownCap w (n+m) aH e)) (w3.alloc (.cells (cm++new++Builtin.zeroCells z.cells (grownCap w (n+m) aH e - (n+m))) e))).andThen fun v w=> .ok (.value v) w)
        (.aE (.slice st.next 0 (n+m) none te.size) del none (some (.cells (ol++nl) fz))):=by
   intro del fz ol nl hc ho jD Fv Fw
   obtain ⟨cm,e1,e2,_⟩:=jq (P:=P) hW hs hn (Nat.le_refl _) ho w.drew rfl
   obtain ⟨new,e3,e4,_⟩:=jq (P:=P) hW hu hm (Nat.le_refl _) jD w.drew rfl
   obtain ⟨zv,sM,_,ov⟩:=Hp w.drew
   rw[gv] at e1
   have xX:(Builtin.zeroCells zv.cells (grownCap w (n+m) aH e - (n+m))).toList.length=(grownCap w (n+m) aH e - (n+m))*te.size:=by
     rw[uX];congr 1;have:=ov.1;simp at this;omega
   obtain ⟨ρ',aL,di,hE,hv⟩:=Qf hW del fz e2 e4 Fv Fw xX (hg aH) (e:=e) rfl
   refine ⟨_,_,_,ρ',?_,Yields.value _,aL,di,hv,hE⟩
   rw[if_neg hc]
   simp only[e1,e3,sM,Result.andThen_ok,World.size_drew]
   congr 2
   simp
 have Sd: ∀nl,ec te.size m (fun b=>st.heap.get b) u=some nl->m≠0->nl.length=m*te.size:=by
   intro nl jD hm0
   obtain ⟨_,_,_,h⟩:=jq (P:=P) hW hu hm (Nat.le_refl _) jD w rfl
   rcases h with rfl|h
   . simp[fH] at hm;omega
   . exact h
 have hls: ∀ol,ec te.size n (fun b=>st.heap.get b) s=some ol->ol.length=n*te.size:=by
   intro ol p9
   obtain ⟨ys,_,pO,h⟩:=jq (P:=P) hW hs hn (Nat.le_refl _) p9 w rfl
   rcases h with rfl|h
   . simp[fH] at hn;subst hn
     simp[ec] at p9;subst p9;simp
   . exact h
 have hzero:m=0->ax ρ st.next.toNat C s xs->pE P ρ C st w ((if n+m<=aH then ((Builtin.firstCells te.size m xu).run P w).andThen fun new w=>((match base with|some a=>storeCells (a.add (n*te.size)) new.toList|none=>pure ()).run P w).andThen fun _ w=> .ok (.slice base (n+m) aH) w
     else ((Builtin.firstCells te.size n (.slice base n aH)).run P w.drew).andThen fun cm w1=>((Builtin.firstCells te.size m xu).run P w1).andThen fun new w2=>((zeroValue e).run P w2).andThen fun z w3=>
        .ok (.slice (some ⟨w3.heap.size,0,none⟩) (n+m) (grownCap w (n+m) aH e)) (w3.alloc (.cells (cm++new++Builtin.zeroCells z.cells (grownCap w (n+m) aH e - (n+m))) e))).andThen fun v w=> .ok (.value v) w) (.val s):=by
   rintro rfl hsx
   have hf:(Builtin.firstCells te.size 0 xu).run P w= .ok #[] w:=by
     unfold fH at hm
     split at hm<;>first|(cases hm;done)|skip
     .  rw[hu.eW];simp[Builtin.firstCells]
     .  obtain ⟨_,_,he,_⟩:=hu.cE;rw[he];simp[Builtin.firstCells,loadCells,loadCellsFrom]
     .  obtain ⟨_,_,_,he,_⟩:=hu.oU;rw[he];simp[Builtin.firstCells,loadCells,loadCellsFrom]
     .  obtain ⟨bs,rfl,_⟩:=hu.cv
        simp only[Builtin.firstCells,Sem.run_pure]
        congr 1
        apply Array.ext'
        simp
   rw[gv] at hsx
   refine .pure (x:= .slice base n aH) ?_ hsx
   rw[if_pos (by omega),hf]
   cases base<;>simp[storeCells]
 split at hr<;>first|(cases hr;done)|skip
 . rename_i rQ;simp only[Option.some.injEq] at hr;subst hr;exact hzero (Nat.eq_of_beq_eq_true rQ) hs
 . rename_i rQ;simp only[Option.some.injEq] at hr;subst hr;exact hzero (Nat.eq_of_beq_eq_true rQ) hs
 . rename_i rQ;simp only[Option.some.injEq] at hr;subst hr;exact hzero (Nat.eq_of_beq_eq_true rQ) hs
 ·
   rename_i rQ
   have rQ:=U4 rQ
   split at hr<;>first|(cases hr;done)|skip
   rename_i new jD
   simp only[Option.some.injEq] at hr;subst hr
   have he:=hs.eW
   rw[he] at gv
   simp only[Value.slice.injEq] at gv
   obtain ⟨rfl,rfl,rfl⟩:=gv
   have:=Gb none 0 [] new (by omega) rfl jD (by simp) (Sd new jD rQ)
   simpa using this
 ·
   rename_i b off n' c es' rQ
   have rQ:=U4 rQ
   simp only[fH,Option.some.injEq] at hn;subst hn
   obtain ⟨aa,cc,he,hlec,Se,ha⟩:=hs.cE
   rw[he] at gv
   simp only[Value.slice.injEq] at gv
   obtain ⟨rfl,_,rfl⟩:=gv
   have:=Se c rfl;subst this
   split at hr
   . rename_i qX
     have qX:=Nat.le_of_ble_eq_true qX
     split at hr<;>first|(cases hr;done)|skip
     rename_i cs fz new hb jD
     split at hr<;>first|(cases hr;done)|skip
     rename_i c1 c2 c3
     have c1:=Nat.le_of_ble_eq_true c1
     simp only[Bool.and_eq_true] at c2
     have c2a:=Nat.le_of_ble_eq_true c2.1
     have c2b:=Nat.eq_of_beq_eq_true c2.2
     subst c2b
     simp only[Option.some.injEq] at hr;subst hr
     obtain ⟨aZ,rfl,hbound⟩:=ha (by omega)
     obtain ⟨ys,e1,e2,_⟩:=jq (P:=P) hW hu hm (Nat.le_refl _) jD w rfl
     have By:=Sd new jD rQ
     obtain ⟨w2,e3,di,hE⟩:=Bv (P:=P) hW hb (by rw[By];rw[Nat.add_mul] at c1;omega) c2a c3 e2
     refine ⟨_,.slice (some ⟨(ρ b).aA,(ρ b).base+off,none⟩) (n'+m) c,w2,ρ,?_,Yields.value _,fun _ _=>rfl,di,?_,hE⟩
     .  rw[if_pos qX,e1]
        simp only[Result.andThen_ok,j0]
        rw[Nat.add_assoc,e3];rfl
     .  exact .slice _ _ _ _ _ _ _ qX (fun c hc=>by cases hc;rfl) (fun _=>⟨aZ,rfl,hbound⟩) (fun h=>by cases h)
   . rename_i qX
     have qX: ¬(n'+m<=c):=fun h=>by rw[Nat.ble_eq_true_of_le h] at qX;cases qX
     split at hr<;>first|(cases hr;done)|skip
     rename_i cm new p9 jD
     simp only[Option.some.injEq] at hr;subst hr
     exact Gb none 0 cm new qX p9 jD (hls cm p9) (Sd new jD rQ)
 ·
   rename_i b off n' es' rQ
   have rQ:=U4 rQ
   simp only[fH,Option.some.injEq] at hn;subst hn
   split at hr<;>first|(cases hr;done)|skip
   rename_i cs fz cm new hb p9 jD
   split at hr<;>first|(cases hr;done)|skip
   rename_i c2 c3
   simp only[Bool.and_eq_true] at c2
   have c2a:=Nat.le_of_ble_eq_true c2.1
   have c2b:=Nat.eq_of_beq_eq_true c2.2
   subst c2b
   simp only[Option.some.injEq] at hr;subst hr
   by_cases qX:n'+m<=aH
   ·
     obtain ⟨aa,cc,he,hlec,Se,ha⟩:=hs.cE
     rw[he] at gv
     simp only[Value.slice.injEq] at gv
     obtain ⟨rfl,_,rfl⟩:=gv
     obtain ⟨aZ,rfl,hbound⟩:=ha (by omega)
     obtain ⟨ys,e1,e2,_⟩:=jq (P:=P) hW hu hm (Nat.le_refl _) jD w rfl
     have By:=Sd new jD rQ
     have XL:=hls cm p9
     obtain ⟨iH,jJ,c,ce,fr,g1,g2,g3,g4,g5⟩:=hW.live b _ hb
     have hmul:(n'+m)*te.size<=cc*te.size:=Nat.mul_le_mul_right _ qX
     have hmul2:(n'+m)*te.size=n'*te.size+m*te.size:=Nat.add_mul _ _ _
     have hyl:ys.length=m*te.size:=by rw[<-e2.1,By]
     have hold:aq ρ st.next.toNat C cm ((c.toList.drop ((ρ b).base+off)).take (n'*te.size)):=by
        simp only[ec] at p9
        split at p9
        . rename_i Sf
          have Sf:=Nat.eq_of_beq_eq_true Sf
          simp only[Option.some.injEq] at p9;subst p9
          rw[Sf];simpa using (aq.nil:aq ρ st.next.toNat C [] [])
        . rw[hb] at p9
          simp only at p9
          obtain ⟨ho1,ho2⟩:=uq p9
          have h:=(g4.drop off).take (n'*te.size)
          rw[<-ho1] at h
          have:List.take (n'*te.size) (List.drop off (List.take cs.length (List.drop (ρ b).base c.toList)))=(c.toList.drop ((ρ b).base+off)).take (n'*te.size):=by
            rw[List.drop_take,List.take_take,List.drop_drop,Nat.min_eq_left (by omega)]
          rw[this] at h
          exact h
     obtain ⟨w2,s1,s2,s3,s4,s5,s6,s7⟩:=iP (P:=P) (ρ b).aA ce fr ys 0 ((ρ b).base+off+n'*te.size) c w g1 (by omega) (rP c3 e2) (fun k hk nH=>by
        have:=g5 (k - (ρ b).base) (by omega) (by omega)
        rwa [show (ρ b).base+(k - (ρ b).base)=k from by omega] at this)
     simp only[Nat.add_zero] at s1 s2
     let ρ':Pos->Loc:=fun q=>if q=st.next then ⟨(ρ b).aA,(ρ b).base+off,(ρ b).size⟩ else ρ q
     have aL: ∀q:Pos,q.toNat<st.next.toNat->ρ' q=ρ q:=fun q hq=>if_neg (fun e=>by rw[e] at hq;omega)
     have ck:ρ' st.next=⟨(ρ b).aA,(ρ b).base+off,(ρ b).size⟩:=if_pos rfl
     have RV:c.toList.length=c.size:=by simp
     have hWn:bn ρ' C (st.aE (some b) none (some (.cells (cm++new) (fz - off)))) w2:=by
        refine hW.Lz (b0:=st.next) (x0:= .cells (cm++new) (fz - off)) (by rw[Pos.az];omega) (by rw[Pos.az];omega) (by rw[T.dZ]) ?_ aL ?_ ?_ (by rw[ck,s3];exact jJ) (by omega) (fun k hk nH=>s4 k (by rw[ck] at nH;exact nH))
        . intro q x hq hx
          rw[T.bq _ (fun e=>hq e.symm)] at hx
          obtain ⟨h1,h2⟩:=qG (some b) _ hx
          refine ⟨h1,?_⟩
          rw[ck]
          exact fun e=>h2 b rfl (hW.inj _ _ _ _ h1 hb e)
        . rw[ck]
          refine ⟨_,ce,fr,s2,by simp[aO];omega,by simp[aO,XL,By];omega,?_,fun i jI hi=> ?_⟩
          . simp only
            rw[yU _ _ _ _ (by omega)]
            have LH:(aO (c.toList.drop ((ρ b).base+off)) (n'*te.size) ys).take (cm++new).length=(c.toList.drop ((ρ b).base+off)).take (n'*te.size)++ys:=by
             unfold aO
             rw[<-List.append_assoc,List.take_left']
             simp[XL,By,hyl];omega
            rw[LH]
            exact (hold.append e2).mono aL (by rw[Pos.az];omega)
          . have LP:(ρ b).base+off+i<c.size:=by
             simp only[List.size_toArray] at hi
             have:(aO c.toList ((ρ b).base+off+n'*te.size) ys).length=c.size:=by simp[aO];omega
             omega
            have:=g5 (off+i) (by omega) (by omega)
            simp only
            rwa [<-Nat.add_assoc] at this
        . intro ad v hv
          rw[ck]
          exact fun e=>(hW.cj ad v hv).2 b _ hb e.symm
     refine ⟨_,(.slice (some ⟨(ρ b).aA,(ρ b).base+off,none⟩) (n'+m) cc),w2,ρ',?_,Yields.value _,aL,hWn,?_,⟨s5,s6,s7,by omega,fun k _ hk=>s4 k (fun e=>hk b _ hb e.symm),fun q x hx=> ?_⟩⟩
     rotate_left
     rotate_left
     .  left
        by_cases hq:q=st.next
        . exact ⟨b,_,hb,by rw[hq,ck]⟩
        . simp only[St.aE,wk] at hx
          rw[T.bq _ (fun e=>hq e.symm)] at hx
          obtain ⟨h1,_⟩:=qG (some b) _ hx
          exact ⟨q,x,h1,by rw[aL q (hW.live q x h1).1]⟩
     .  rw[if_pos qX,e1]
        simp only[Result.andThen_ok,j0]
        rw[s1];rfl
     .  refine .slice _ _ _ _ _ _ _ qX (fun c hc=>by cases hc) (fun _=>⟨by simp[St.aE,Pos.az],by rw[ck];rfl,?_⟩) (fun _=>by simp[St.aE,Pos.az])
        rw[ck];simp only;omega
   . exact Gb (some b) _ cm new qX p9 jD (hls cm p9) (Sd new jD rQ)
end
end Go.Ai
end
section
namespace Go.Ai
open Go Go.RowKit
section
variable {P : Program} {tt : TT} {ρ : Pos -> Loc} {C : Cells} {st : St} {w w' : World}
theorem ags {u:List Nat} {ρ':Pos->Loc} {n':Nat}:aq ρ' n' C (u.map fun c=>AV.int .u8 (.ofNat c)) (u.map fun c=>Value.int .u8 (.ofNat c)):=
 ⟨by simp,fun i v x hv hx=>by
  simp only[List.getElem?_map,Option.map_eq_some_iff] at hv hx
  obtain ⟨c,hc,rfl⟩:=hv
  obtain ⟨c',p7,rfl⟩:=hx
  rw[hc] at p7;cases p7
  exact .int _ _⟩
theorem JS: ∀l:List Nat,aX (l.map fun c=>AV.int .u8 (.ofNat c))=true
 |[]=>rfl
 |a::l=>by simpa [aX,AV.one] using JS l
theorem Fx (hW:bn ρ C st w) (del:Option Pos) {cm new rest:List Value} {ol nl:List AV} {e:TypeId} {n m aH:Nat} (h1:aq ρ st.next.toNat C ol cm) (h2:aq ρ st.next.toNat C nl new)
  (Fv:ol.length=n) (Fw:nl.length=m) (hr:rest.length=aH - (n+m)) (hc:n+m<=aH) {w2:World} (mJ:w2=w.drew.alloc (.cells (cm++new++rest).toArray e)):
  ∃ρ':Pos->Loc,(∀b:Pos,b.toNat<st.next.toNat->ρ' b=ρ b)/\bn ρ' C (st.aE del none (some (.typed e (ol++nl)))) w2/\jY ρ st w ρ' (st.aE del none (some (.typed e (ol++nl)))) w2/\
   ax ρ' (st.aE del none (some (.typed e (ol++nl)))).next.toNat C (.slice st.next 0 (n+m) none 1) (.slice (some ⟨w.heap.size,0,none⟩) (n+m) aH):=by
 subst mJ
 have mQ:cm.length=n:=by rw[<-h1.1,Fv]
 have jv:new.length=m:=by rw[<-h2.1,Fw]
 have dM:(cm++new++rest).length=aH:=by
  simp only[List.length_append,mQ,jv,hr];omega
 obtain ⟨ ρ',aL,ck,di,hE⟩:=pZ (w':=w.drew.alloc (.cells (cm++new++rest).toArray e)) (o:= .cells (cm++new++rest).toArray e) (x0:= .typed e (ol++nl)) (base:=0) (size:=(cm++new++rest).toArray.size) hW del rfl rfl rfl rfl (fun ρ' n' aL hn=>
  ⟨_,   (0,0),by show (w.heap.push _)[w.heap.size]? =_;simp,rfl,by simp[Fv,Fw,mQ,jv],by
        have:(cm++new++rest).toArray.toList.take (ol++nl).length=cm++new:=by
          rw[List.take_left' (by simp[Fv,Fw,mQ,jv])]
        rw[List.drop_zero,this];exact (h1.append h2).mono aL hn,fun i _=>by simp,rfl⟩)
 refine ⟨ρ',aL,di,hE,oX (by simp[St.aE,Pos.az]) ck hc (fun c hc=>by cases hc) (by simp only[List.size_toArray,dM,Nat.mul_one];exact Nat.le_refl _)⟩
theorem Of (hT:bZ P tt) {t t2 e:Nat} {ts:Array TypeId} {ti CJ te:TI} {z:List AV} (b7:tt.get (key t)=some ti) (Dv:tt.get (key t2)=some CJ) (hk:ti.k= .slice e) (jC: ∀k,CJ.k≠ .int k)
  (eK:tt.get (key e)=some te) (hz:te.zero=some z) (h8:te.size=1) (h0:ts[0]? =some t) (h1:ts[1]? =some t2) (ty:TypeId) {s u:AV} {xs xu:Value} {res:b6} (hW:bn ρ C st w)
  (hs:ax ρ st.next.toNat C s xs) (hu:ax ρ st.next.toNat C u xu) (hr:lO (fun b=>st.heap.get b) st.next e te.bytes [s,u]=some res):
  pE P ρ C st w (((Builtin.append_ ts ty #[xs,xu]).run P w).andThen fun v w=> .ok (.value v) w) res:=by
 have Hp:=fun w=>oW hT eK hz (ρ:=ρ) (n:=st.next.toNat) (C:=C) w
 simp only[lO] at hr
 split at hr<;>first|(cases hr;done)|skip
 rename_i us
 obtain ⟨bs,rfl,jJ⟩:=hu.cv
 have hm:fH (AV.str us)=some us.length:=rfl
 have hlen:=Ga (P:=P) (w:=w) hu hm
 have Sg: ∀{n:Nat} {s:AV},fH s=some n->Nat.ble ((2*(n+us.length)+768)*te.bytes) 281474976710656=true->Nat.ble (n+us.length) 9223372036854775807=true->us.length=0->(s= .ai\/ ∃b,s= .slice b 0 n none 1)->
    gW (fun b=>st.heap.get b) st.next te.size te.bytes [s,.str us]=some (.val s):=by
  intro n s h1 h2 h3 h4 h5
  rw[h4] at h2 h3
  rcases h5 with rfl|⟨b,rfl⟩
  . simp only[gW,h1,hm,h2,h3,h4];try rfl
  . simp only[gW,h1,hm,h2,h3,h4];try rfl
 have jD:ec te.size us.length (fun b=>st.heap.get b) (.str us)=some (us.map fun c=>AV.int .u8 (.ofNat c)):=by
  have e1:Nat.beq te.size 1=true:=by rw[h8];rfl
  have e2:Nat.ble us.length us.length=true:=Nat.ble_self_eq_true _
  simp only[ec,e1,e2,List.take_length]
 split at hr<;>first|(cases hr;done)|skip
 ·
  split at hr<;>first|(cases hr;done)|skip
  rename_i b1 b2
  split at hr
  . rename_i hb
    simp only[Option.some.injEq] at hr;subst hr
    exact Bx hT b7 Dv hk jC eK hz h0 h1 ty hW hs hu (Sg rfl b1 b2 (Nat.eq_of_beq_eq_true hb) (.inl rfl))
  . rename_i hb
    have hb:=Nat.ne_of_beq_eq_false hb
    simp only[Option.some.injEq] at hr;subst hr
    have gv:=hs.eW
    subst gv
    have bH:=Bw hT b7 Dv hk jC eK h0 h1 ty none 0 0 us.length (.string bs) w hlen (Nat.le_of_ble_eq_true b1) (Nat.le_of_ble_eq_true b2)
    rw[bH,if_neg (by omega)]
    have hg:0+us.length<=grownCap w (0+us.length) 0 e:=by unfold grownCap Question.cut;exact Nat.le_add_right _ _
    obtain ⟨new,e3,e4,_⟩:=jq (P:=P) hW hu hm (Nat.le_refl _) jD w.drew rfl
    obtain ⟨zv,sM,_,ov⟩:=Hp w.drew
    have JO:zv.cells.size=1:=by have:=ov.1;have h2:=(hT.at eK).info;obtain ⟨i0,jI,je,_,sK⟩:=h2;obtain ⟨v0,u7,_,om,_⟩:=sK z hz;simp at this;omega
    have xX:(Builtin.zeroCells zv.cells (grownCap w (0+us.length) 0 e - (0+us.length))).toList.length=grownCap w (0+us.length) 0 e - (0+us.length):=by
        rw[uX,JO,Nat.mul_one]
    obtain ⟨ρ',aL,di,hE,hv⟩:=Fx hW none (aq.nil (ρ:=ρ)) e4 (by simp) (by simp) xX hg (e:=e) rfl
    refine ⟨_,_,_,ρ',?_,Yields.value _,aL,di,hv,hE⟩
    have e0:(Builtin.firstCells te.size 0 (.slice none 0 0)).run P w.drew= .ok #[] w.drew:=by simp[Builtin.firstCells]
    simp only[e0,e3,sM,Result.andThen_ok,World.size_drew]
    congr 2
    simp
 ·
  rename_i b n
  split at hr<;>first|(cases hr;done)|skip
  rename_i b1 b2
  split at hr
  . rename_i hb
    simp only[Option.some.injEq] at hr;subst hr
    exact Bx hT b7 Dv hk jC eK hz h0 h1 ty hW hs hu (Sg rfl b1 b2 (Nat.eq_of_beq_eq_true hb) (.inr ⟨_,rfl⟩))
  . rename_i XK
    have XK:=Nat.ne_of_beq_eq_false XK
    split at hr<;>first|(cases hr;done)|skip
    rename_i e' cs hb
    split at hr<;>first|(cases hr;done)|skip
    rename_i cm kJ p9
    have kJ:=Nat.eq_of_beq_eq_true kJ
    subst kJ
    simp only[Option.some.injEq] at hr;subst hr
    obtain ⟨aa,aH,gv,hle,Se,ha⟩:=hs.cE
    subst gv
    have bH:=Bw hT b7 Dv hk jC eK h0 h1 ty (some aa) n aH us.length (.string bs) w hlen (Nat.le_of_ble_eq_true b1) (Nat.le_of_ble_eq_true b2)
    rw[bH]
    obtain ⟨ho1,ho2⟩:=uq p9
    have Qg:=nY p9
    obtain ⟨iH,hbs2,c,fr,g1,g2,g3,g4,g5,g6⟩:=hW.live b _ hb
    by_cases qX:n+us.length<=aH
    ·
        obtain ⟨aZ,rfl,hbound⟩:=ha (by omega)
        rw[Nat.mul_one,g6,Nat.add_zero,Nat.zero_add] at hbound
        rw[g6] at g3 g4 g5
        simp only[Nat.zero_add,List.drop_zero] at g3 g4 g5
        obtain ⟨ys,e1,e2,_⟩:=jq (P:=P) hW hu hm (Nat.le_refl _) jD w rfl
        have hyl:ys.length=us.length:=by rw[<-e2.1];simp
        have hold:aq ρ st.next.toNat C cm (c.toList.take n):=by
          have h:=(g4.drop 0).take n
          rw[<-ho1,List.drop_zero,List.take_take,Nat.min_eq_left (by omega)] at h
          exact h
        obtain ⟨w2,s1,s2,s3,s4,s5,s6,s7⟩:=iP (P:=P) (ρ b).aA e fr ys 0 n c w g1 (by omega) (rP (JS us) e2) (fun k hk nH=>g5 k (Nat.zero_le _) nH)
        simp only[Nat.add_zero] at s1 s2
        let ρ':Pos->Loc:=fun q=>if q=st.next then ⟨(ρ b).aA,0,(ρ b).size⟩ else ρ q
        have aL: ∀q:Pos,q.toNat<st.next.toNat->ρ' q=ρ q:=fun q hq=>if_neg (fun e=>by rw[e] at hq;omega)
        have ck:ρ' st.next=⟨(ρ b).aA,0,(ρ b).size⟩:=if_pos rfl
        have RV:c.toList.length=c.size:=by simp
        have hWn:bn ρ' C (st.aE (some b) none (some (.typed e (cm++us.map fun c=>AV.int .u8 (.ofNat c))))) w2:=by
          refine hW.Lz (b0:=st.next) (x0:= .typed e (cm++us.map fun c=>AV.int .u8 (.ofNat c))) (by rw[Pos.az];omega) (by rw[Pos.az];omega) (by rw[T.dZ]) ?_ aL ?_ ?_ (by rw[ck,s3];exact hbs2) (by omega) (fun k hk nH=>s4 k (by rw[ck] at nH;exact nH))
          . intro q x hq hx
            rw[T.bq _ (fun e=>hq e.symm)] at hx
            obtain ⟨h1,h2⟩:=qG (some b) _ hx
            refine ⟨h1,?_⟩
            rw[ck]
            exact fun e=>h2 b rfl (hW.inj _ _ _ _ h1 hb e)
          . rw[ck]
            refine ⟨_,fr,s2,by simp[aO];omega,by simp[aO,Qg];omega,?_,fun i jI hi=> ?_,rfl⟩
            . simp only[List.drop_zero]
              have LH:(aO c.toList n ys).take (cm++us.map fun c=>AV.int .u8 (.ofNat c)).length=c.toList.take n++ys:=by
               unfold aO
               rw[<-List.append_assoc,List.take_left']
               simp[Qg,hyl];omega
              rw[LH]
              exact (hold.append e2).mono aL (by rw[Pos.az];omega)
            . have LP:i<c.size:=by
               simp only[List.size_toArray,Nat.zero_add] at hi
               have:(aO c.toList n ys).length=c.size:=by simp[aO];omega
               omega
              simpa using g5 i (Nat.zero_le _) LP
          . intro ad v hv
            rw[ck]
            exact fun e=>(hW.cj ad v hv).2 b _ hb e.symm
        refine ⟨_,(.slice (some ⟨(ρ b).aA,(ρ b).base+0,none⟩) (n+us.length) aH),w2,ρ',?_,Yields.value _,aL,hWn,?_,⟨s5,s6,s7,by omega,fun k _ hk=>s4 k (fun e=>hk b _ hb e.symm),fun q x hx=> ?_⟩⟩
        rotate_left
        rotate_left
        . left
          by_cases hq:q=st.next
          . exact ⟨b,_,hb,by rw[hq,ck]⟩
          . simp only[St.aE,wk] at hx
            rw[T.bq _ (fun e=>hq e.symm)] at hx
            obtain ⟨h1,_⟩:=qG (some b) _ hx
            exact ⟨q,x,h1,by rw[aL q (hW.live q x h1).1]⟩
        . rw[if_pos qX,e1]
          simp only[Result.andThen_ok,j0,h8,Nat.mul_one,g6,Nat.zero_add]
          rw[s1];rfl
        . refine .slice _ _ _ _ _ _ _ qX (fun c hc=>by cases hc) (fun _=>⟨by simp[St.aE,Pos.az],by rw[ck,g6],?_⟩) (fun _=>by simp[St.aE,Pos.az])
          rw[ck];simp only;omega
    .   rw[ if_neg qX]
        have hg:n+us.length<=grownCap w (n+us.length) aH e:=by unfold grownCap Question.cut;exact Nat.le_add_right _ _
        obtain ⟨new,e3,e4,_⟩:=jq (P:=P) hW hu hm (Nat.le_refl _) jD w.drew rfl
        obtain ⟨zv,sM,_,ov⟩:=Hp w.drew
        have JO:zv.cells.size=1:=by have:=ov.1;have h2:=(hT.at eK).info;obtain ⟨i0,jI,je,_,sK⟩:=h2;obtain ⟨v0,u7,_,om,_⟩:=sK z hz;simp at this;omega
        have xX:(Builtin.zeroCells zv.cells (grownCap w (n+us.length) aH e - (n+us.length))).toList.length=grownCap w (n+us.length) aH e - (n+us.length):=by
          rw[uX,JO,Nat.mul_one]
        have hold: ∃os:List Value,(Builtin.firstCells te.size n (.slice (some aa) n aH)).run P w.drew= .ok os.toArray w.drew/\aq ρ st.next.toNat C cm os:=by
          by_cases Fy:n=0
          . subst Fy
            have:cm=[]:=List.eq_nil_of_length_eq_zero Qg
            subst this
            exact ⟨[],by simp[Builtin.firstCells,loadCells,loadCellsFrom],aq.nil⟩
          . obtain ⟨aZ,rfl,hbound⟩:=ha (by omega)
            obtain ⟨ys,pO,lS⟩:=(show bn ρ C st w.drew from ⟨fun b x hb=>hW.live b x hb,hW.inj,hW.cj,hW.whole⟩).Hi (P:=P) hb p9
            exact ⟨ys,by simpa [Builtin.firstCells,h8] using pO,lS⟩
        obtain ⟨os,e5,e6⟩:=hold
        obtain ⟨ρ',aL,di,hE,hv⟩:=Fx hW (some b) e6 e4 Qg (by simp) xX hg (e:=e) rfl
        refine ⟨_,_,_,ρ',?_,Yields.value _,aL,di,hv,hE⟩
        simp only[e5,e3,sM,Result.andThen_ok,World.size_drew]
        congr 2
        simp
theorem KU {ts:Array TypeId} (ty:TypeId) {s:AV} {xs:Value} {res:b6} (hs:ax ρ st.next.toNat C s xs) (hW:bn ρ C st w) (hr:mR (fun b=>st.heap.get b) st.next [s]=some res):
   pE P ρ C st w (((Builtin.unsafeSliceData_ ts ty #[xs]).run P w).andThen fun v w=> .ok (.value v) w) res:=by
 simp only[mR] at hr
 split at hr<;>first|(cases hr;done)|skip
 . simp only[Option.some.injEq] at hr;subst hr
   have:=hs.eW;subst this
   exact .pure (x:= .pointer none) rfl .bF
 . rename_i b off n cap es
   split at hr<;>first|(cases hr;done)|skip
   rename_i h0
   have h0:=Nat.ne_of_beq_eq_false h0
   simp only[Option.some.injEq] at hr;subst hr
   obtain ⟨aa,aH,gv,hle,_,ha⟩:=hs.cE
   subst gv
   have hc:aH≠0:=by omega
   obtain ⟨h1,h2,_⟩:=ha hc
   refine .pure (x:= .pointer (some aa)) (by rw[Lib.run_unsafeSliceData_row w ts ty aa n aH hc];rfl) ?_
   rw[h2]
   exact .ptr b off h1
theorem adj (hW:bn ρ C st w) {b:Pos} {x:AB} (hb:st.heap.get b=some x) (h1:w'.os=w.os) (h2:w'.tape=w.tape) (h3:w'.output=w.output) (dM:w'.heap.size=w.heap.size)
   (qE: ∀k,k≠(ρ b).aA->w'.heap[k]? =w.heap[k]?):
   bn ρ C (st.aE (some b) none none) w'/\jY ρ st w ρ (st.aE (some b) none none) w':=by
 have jR: ∀c y,(st.aE (some b) none none).heap.get c=some y->st.heap.get c=some y/\c≠b:=fun c y hc=>by
   obtain ⟨g1,g2⟩:=qG (some b) _ (show (uV (some b) st.heap).get c=some y from hc)
   exact ⟨g1,fun e=>g2 b rfl e⟩
 refine ⟨⟨fun c y hc=> ?_,fun c c' y y' hc p7 e=>hW.inj c c' y y' (jR c y hc).1 (jR c' y' p7).1 e,fun a v ha=> ?_,fun a v ha o ho=> ?_⟩,⟨h1,h2,h3,by omega,fun k _ hk=>qE k (fun e=>hk b x hb e.symm),fun c y hc=> .inl ⟨c,y,(jR c y hc).1,rfl⟩⟩⟩
 . obtain ⟨g1,g2⟩:=jR c y hc
   obtain ⟨k1,k2,k3⟩:=hW.live c y g1
   exact ⟨k1,by omega,k3.of_heap (qE _ fun e=>g2 (hW.inj _ _ _ _ g1 hb e))⟩
 . obtain ⟨g1,g2⟩:=hW.cj a v ha
   refine ⟨?_,fun c y hc=>g2 c y (jR c y hc).1⟩
   have:=qE a.block (fun e=>g2 b x hb e.symm)
   rw[<-g1]
   simp only[World.cell?,this]
 . have:=qE a.block (fun e=>(hW.cj a v ha).2 b x hb e.symm)
   rw[<-hW.whole a v ha o ho]
   simp only[World.cell?,this]
theorem KV (hT:bZ P tt) {t t2 e:Nat} {ts:Array TypeId} {ti te:TI} (b7:tt.get (key t)=some ti) (hk:ti.k= .ptr e) (eK:tt.get (key e)=some te) (h8:te.size=1) (uu:ts.toList=[t,t2])
   (ty:TypeId) {s u:AV} {xs xu:Value} {res:b6} (hW:bn ρ C st w)
   (hs:ax ρ st.next.toNat C s xs) (hu:ax ρ st.next.toNat C u xu) (hr:jx (fun b=>st.heap.get b) st.next e [s,u]=some res):
   pE P ρ C st w (((Builtin.unsafeString_ ts ty #[xs,xu]).run P w).andThen fun v w=> .ok (.value v) w) res:=by
 obtain rfl:ts= #[t,t2]:=by apply Array.ext';rw[uu]
 simp only[jx] at hr
 split at hr<;>first|(cases hr;done)|skip
 rename_i n
 have:=hu.gy;subst this
 split at hr
 . rename_i h0
   have:=Nat.eq_of_beq_eq_true h0;subst this
   split at hr<;>first|(cases hr;done)|skip
   . simp only[Option.some.injEq] at hr;subst hr
     have:=hs.nZ;subst this
     exact .pure (x:= .string .empty) (by rw[show (Int.ofNat 0)=(0:Int) from rfl,Lib.run_unsafeString_none];rfl) (.str _ _ rfl)
   . simp only[Option.some.injEq] at hr;subst hr
     obtain ⟨_,he⟩:=hs.eN
     subst he
     exact .pure (x:= .string .empty) (by rw[show (Int.ofNat 0)=(0:Int) from rfl,Lib.run_unsafeString_none];rfl) (.str _ _ rfl)
 . rename_i h0
   have h0:=Nat.ne_of_beq_eq_false h0
   split at hr<;>first|(cases hr;done)|skip
   rename_i b
   split at hr<;>first|(cases hr;done)|skip
   rename_i e' cs hb
   split at hr<;>first|(cases hr;done)|skip
   rename_i l he hcut Qe
   have he:=Nat.eq_of_beq_eq_true he
   have Qe:=Nat.le_of_ble_eq_true Qe
   subst he
   split at hr<;>first|(cases hr;done)|skip
   rename_i s' LG
   simp only[Option.some.injEq] at hr;subst hr
   obtain ⟨_,gv⟩:=hs.eN
   subst gv
   obtain ⟨d,hd,bM⟩:=(hT.at b7).und
   rw[hk] at bM;rw[Hg bM] at hd
   obtain ⟨i0,jI,je,_⟩:=(hT.at eK).info
   have tV:P.cellsOf e=1:=by simp[Program.cellsOf,jI,je,h8]
   obtain ⟨iH,hbs2,c,fr,g1,g2,g3,g4,g5,g6⟩:=hW.live b _ hb
   rw[g6] at g3 g4 ⊢
   simp only[Nat.zero_add,List.drop_zero] at g3 g4
   have Fi:w.shape? (ρ b).aA=some (e,c.size):=by simp[World.shape?,g1]
   obtain ⟨mQ,jv⟩:=uq hcut
   have Fw:=nY hcut
   have lS:aq ρ st.next.toNat C l (c.toList.take n):=by
     have h:=(g4.drop 0).take n
     rw[<-mQ,List.drop_zero,List.take_take,Nat.min_eq_left (by omega)] at h
     exact h
   obtain ⟨e1,e2⟩:=yS LG lS
   have Fs:s'.length=n:=by
     have:=congrArg List.length e1
     simp at this;omega
   have bH:=Lib.run_unsafeString_row (P:=P) w t t2 ty e hd tV (ρ b).aA c.size Fi (s'.map UInt8.ofNat) (by intro h;simp at h;rw[h] at Fs;simp at Fs;omega) (by simp;omega) (by simp;omega) (fun j x hj=>by
     simp only[List.getElem?_map,Option.map_eq_some_iff] at hj
     obtain ⟨k,hk,rfl⟩:=hj
     have hjn:j<n:=by rw[<-Fs];exact (List.getElem?_eq_some_iff.1 hk).1
     have h2:(c.toList.take n)[j]? =some (.int .u8 (k:Int)):=by rw[e1];simp[hk]
     rw[List.getElem?_take,if_pos hjn] at h2
     have hk256:=e2 k (List.mem_of_getElem? hk)
     rw[j0]
     simp only[World.cell?,g1,Nat.zero_add]
     rw[<-Array.getElem?_toList,h2]
     congr 2
     simp
     omega)
   have hlen:(s'.map UInt8.ofNat).length=n:=by simp[Fs]
   rw[hlen] at bH
   obtain ⟨q1,q2⟩:=adj (w':=w.freeze ⟨(ρ b).aA,0,none⟩ n) hW hb (by unfold World.freeze;split<;>rfl) (by unfold World.freeze;split<;>rfl) (by unfold World.freeze;split<;>rfl) (by unfold World.freeze;split<;>simp) (fun k hk=>by
     unfold World.freeze
     split
     .  rfl
     .  simp only[Array.getElem?_modify]
        rw[if_neg (fun e=>hk e.symm)])
   refine ⟨_,.string ⟨(s'.map UInt8.ofNat).toArray⟩,_,ρ,?_,Yields.value _,fun _ _=>rfl,q1,.str _ _ ?_,q2⟩
   . show ((Builtin.unsafeString_ #[t,t2] ty #[.pointer (some ⟨(ρ b).aA,0,none⟩),.int .i64 (n:Int)]).run P w).andThen _=_
     rw[bH];rfl
   . simp only[List.map_map]
     have e3:s'.map (UInt8.toNat∘UInt8.ofNat)=s'.map id:=List.map_congr_left fun c hc=>by
        have:=e2 c hc
        simp only[Function.comp,id,UInt8.toNat_ofNat']
        omega
     rw[e3,List.map_id]
end
end Go.Ai
end
section
namespace Go.Ai
open Go Go.RowKit
section
variable {P : Program} {tt : TT} {ρ : Pos -> Loc} {C : Cells} {st : St} {w w' : World}
theorem zQ {n:Nat} {xs:Array Value} {u v:AV} (h:aq ρ n C [u,v] xs.toList): ∃x y,xs= #[x,y]/\ax ρ n C u x/\ax ρ n C v y:=by
 obtain ⟨x,l,h1,h2,h3⟩:=h.cons_inv
 obtain ⟨y,l',h4,h5,h6⟩:=h3.cons_inv
 have:=h6.iE;subst this
 exact ⟨x,y,by apply Array.ext';rw[h1,h4],h2,h5⟩
theorem LS {n:Nat} {xs:Array Value} {u:AV} (h:aq ρ n C [u] xs.toList): ∃x,xs= #[x]/\ax ρ n C u x:=by
 obtain ⟨x,l,h1,h2,h3⟩:=h.cons_inv
 have:=h3.iE;subst this
 exact ⟨x,by apply Array.ext';rw[h1],h2⟩
theorem LU {ts:Array TypeId} {t:TypeId} {l:List TypeId} (h:ts.toList=t::l):ts[0]? =some t:=by
 rw[<-Array.getElem?_toList,h];rfl
theorem arr1 {ts:Array TypeId} {t t2:TypeId} {l:List TypeId} (h:ts.toList=t::t2::l):ts[1]? =some t2:=by
 rw[<-Array.getElem?_toList,h];rfl
theorem U5 (hT:bZ P tt) {t e:Nat} {ts:Array TypeId} {ti te:TI} (b7:tt.get (key t)=some ti) (hk:ti.k= .slice e)
   (eK:tt.get (key e)=some te) (h0:ts[0]? =some t) (ty:TypeId) {d u:AV} {xd xu:Value} {res:b6} (hW:bn ρ C st w)
   (hd:ax ρ st.next.toNat C d xd) (hu:ax ρ st.next.toNat C u xu) (hr:tq (fun b=>st.heap.get b) st.next te.size [d,u]=some res):
   pE P ρ C st w (((Builtin.copy_ ts ty #[xd,xu]).run P w).andThen fun v w=> .ok (.value v) w) res:=by
 obtain ⟨dd,hdd,bM⟩:=(hT.at b7).und
 rw[hk] at bM;rw[kL bM] at hdd
 obtain ⟨i0,jI,je,_⟩:=(hT.at eK).info
 simp only[tq] at hr
 split at hr<;>first|(cases hr;done)|skip
 rename_i n m hn hm
 have hlen:=Ga (P:=P) (w:=w) hu hm
 have Fs:(∃s,d= .str s)\/ ∃base aH,xd= .slice base n aH/\n<=aH:=by
   unfold fH at hn
   split at hn<;>first|(cases hn;done)|skip
   . cases hn;exact .inr ⟨none,0,hd.eW,Nat.le_refl _⟩
   . cases hn;obtain ⟨a,c,he,hle,_⟩:=hd.cE;exact .inr ⟨_,c,he,hle⟩
   . cases hn;obtain ⟨a,c,_,he,hle,_⟩:=hd.oU;exact .inr ⟨_,c,he,hle⟩
   . exact .inl ⟨_,rfl⟩
 have adk:m=0\/n=0->(Builtin.firstCells te.size 0 xu).run P w= .ok #[] w:=by
   intro _
   unfold fH at hm
   split at hm<;>first|(cases hm;done)|skip
   . rw[hu.eW];simp[Builtin.firstCells]
   . obtain ⟨_,_,he,_⟩:=hu.cE;rw[he];simp[Builtin.firstCells,loadCells,loadCellsFrom]
   . obtain ⟨_,_,_,he,_⟩:=hu.oU;rw[he];simp[Builtin.firstCells,loadCells,loadCellsFrom]
   . obtain ⟨bs,rfl,_⟩:=hu.cv
     simp only[Builtin.firstCells,Sem.run_pure]
     congr 1
     apply Array.ext'
     simp
 have nI: ∀base aH,xd= .slice base n aH->(Builtin.copy_ ts ty #[xd,xu]).run P w=((Builtin.firstCells te.size (Nat.min m n) xu).run P w).andThen fun cells w=>((match base with|some a=>storeCells a cells.toList|none=>pure ()).run P w).andThen fun _ w=> .ok (goInt (Nat.min m n)) w:=by
   intro base aH he
   unfold Builtin.copy_
   simp only[h0,he,List.getElem?_toArray,List.getElem?_cons_zero,List.getElem?_cons_succ,Sem.run_bind,aK hdd,Result.andThen_ok,gi jI,je,hlen]
   cases base<;>simp only[Sem.run_bind,Sem.run_pure,Result.andThen_ok]
 split at hr
 . rename_i LV
   have LV:=Nat.eq_of_beq_eq_true LV
   split at hr<;>first|(cases hr;done)|skip
   rename_i Fj
   simp only[Option.some.injEq] at hr;subst hr
   rcases Fs with ⟨s,rfl⟩|⟨base,aH,he,hle⟩
   . exact absurd rfl (Fj s)
   . have hk0':Nat.min m n=0:=LV
     refine .pure (x:=goInt 0) ?_ (.int _ _)
     rw[nI base aH he,hk0',adk (by have:min m n=0:=LV;omega)]
     cases base<;>simp[storeCells]
 . rename_i LV
   have LV:=Nat.ne_of_beq_eq_false LV
   split at hr<;>first|(cases hr;done)|skip
   rename_i b off n' cap es'
   split at hr<;>first|(cases hr;done)|skip
   rename_i cs fz new hb jD
   split at hr<;>first|(cases hr;done)|skip
   rename_i c1 c2 c3
   have c1:=Nat.le_of_ble_eq_true c1
   have c2:=Nat.le_of_ble_eq_true c2
   simp only[Option.some.injEq] at hr;subst hr
   simp only[fH,Option.some.injEq] at hn;subst hn
   obtain ⟨aa,aH,he,hle,_,ha⟩:=hd.cE
   have U6:min m n'<=m/\min m n'<=n':=⟨Nat.min_le_left _ _,Nat.min_le_right _ _⟩
   obtain ⟨aZ,rfl,_⟩:=ha (by omega)
   obtain ⟨ys,e1,e2,e3⟩:=jq (P:=P) hW hu hm U6.1 jD w rfl
   have By:new.length=min m n'*te.size:=by
     rcases e3 with rfl|e3
     . simp[fH] at hm;omega
     . exact e3
   obtain ⟨w2,f1,di,hE⟩:=Bv (P:=P) hW hb (by rw[By];exact c1) c2 c3 e2
   refine ⟨_,goInt ((min m n':Nat):Int),w2,ρ,?_,Yields.value _,fun _ _=>rfl,di,.int _ _,hE⟩
   rw[nI _ _ he]
   have hmm:Nat.min m n'=min m n':=rfl
   rw[hmm,e1]
   simp only[Result.andThen_ok]
   rw[f1];rfl
theorem YT (hT:bZ P tt) {t:Nat} {ts:Array TypeId} {ti:TI} (b7:tt.get (key t)=some ti) {k:LK} (hk:(k= .s/\ti.k= .string)\/(k= .l/\ ∃e,ti.k= .slice e)\/(k= .m/\ ∃a b,ti.k= .map a b))
   (h0:ts[0]? =some t) (ty:TypeId) {u:AV} {xu:Value} {res:b6} (hW:bn ρ C st w)
   (hu:ax ρ st.next.toNat C u xu) (hr:zA (fun b=>st.heap.get b) st.next k [u]=some res):
   pE P ρ C st w (((Builtin.len_ ts ty #[xu]).run P w).andThen fun v w=> .ok (.value v) w) res:=by
 obtain ⟨d,hd,bM⟩:=(hT.at b7).und
 have nI: ∀x,xu=x->(Builtin.len_ ts ty #[xu]).run P w=(Builtin.len_ ts ty #[x]).run P w:=fun x e=>by rw[e]
 simp only[zA] at hr
 rcases hk with ⟨rfl,hk⟩|⟨rfl,e,hk⟩|⟨rfl,a,b,hk⟩<;>rw[hk] at bM
 . rw[kC bM] at hd
   cases u<;>simp only[reduceCtorEq] at hr<;>first|(cases hr;done)|skip
   simp only[Option.some.injEq] at hr;subst hr
   obtain ⟨bs,rfl,hs⟩:=hu.cv
   exact .pure (x:=goInt bs.size) (by unfold Builtin.len_;simp[h0,aK hd]) (by rw[qF hs];exact .int _ _)
 . rw[kL bM] at hd
   cases u<;>simp only[reduceCtorEq] at hr<;>first|(cases hr;done)|skip
   . simp only[Option.some.injEq] at hr;subst hr
     rw[hu.eW]
     exact .pure (x:=goInt 0) (by unfold Builtin.len_;simp[h0,aK hd]) (.int _ _)
   . simp only[Option.some.injEq] at hr;subst hr
     obtain ⟨aa,c,he,_⟩:=hu.cE
     rw[he]
     exact .pure (by unfold Builtin.len_;simp[h0,aK hd];rfl) (.int _ _)
   . simp only[Option.some.injEq] at hr;subst hr
     obtain ⟨aa,c,_,he,_⟩:=hu.oU
     rw[he]
     exact .pure (by unfold Builtin.len_;simp[h0,aK hd];rfl) (.int _ _)
 . rw[Dp bM] at hd
   cases u<;>simp only[reduceCtorEq] at hr<;>first|(cases hr;done)|skip
   . simp only[Option.some.injEq] at hr;subst hr
     rw[hu.tC]
     exact .pure (x:=goInt 0) (by unfold Builtin.len_;simp[h0,aK hd]) (.int _ _)
   . split at hr<;>first|(cases hr;done)|skip
     rename_i es c hb
     simp only[Option.some.injEq] at hr;subst hr
     obtain ⟨_,he⟩:=hu.tD
     obtain ⟨_,_,es',fE,hlen,_⟩:=hW.live _ _ hb
     rw[he]
     exact .pure (x:=goInt es'.size) (by unfold Builtin.len_;simp[h0,aK hd,run_getObj_map fE]) (by rw[<-hlen];exact .int _ _)
theorem Jg (z:Array Value) (m:Nat):(Builtin.zeroCells z m).toList=cV z.toList m:=by
 unfold Builtin.zeroCells
 by_cases h:0<z.size
 . exact LM z m h
 . have h0:z.size=0:=by omega
   have:z= #[]:=Array.eq_empty_of_size_eq_zero h0
   subst this
   have h1:cV ([]:List Value) m=[]:=List.eq_nil_of_length_eq_zero (by rw[gY];simp)
   simp[h1]
theorem Si (hT:bZ P tt) {t e:Nat} {ts:Array TypeId} {ti te:TI} {z:List AV} (b7:tt.get (key t)=some ti) (hk:ti.k= .slice e)
   (eK:tt.get (key e)=some te) (hz:te.zero=some z) (h0:ts[0]? =some t) (ty:TypeId) {u:AV} {xu:Value} {res:b6} (hW:bn ρ C st w)
   (hu:ax ρ st.next.toNat C u xu) (hr:qR (fun b=>st.heap.get b) st.next te.size z [u]=some res):
   pE P ρ C st w (((Builtin.clear_ ts ty #[xu]).run P w).andThen fun v w=> .ok (.value v) w) res:=by
 obtain ⟨dd,hdd,bM⟩:=(hT.at b7).und
 rw[hk] at bM;rw[kL bM] at hdd
 obtain ⟨i0,jI,je,_,sK⟩:=(hT.at eK).info
 obtain ⟨zv0,_,_,Ht,_⟩:=sK z hz
 obtain ⟨zv,sM,_,ov⟩:=oW hT eK hz (ρ:=ρ) (n:=st.next.toNat) (C:=C) w
 simp only[qR] at hr
 split at hr<;>first|(cases hr;done)|skip
 . simp only[Option.some.injEq] at hr;subst hr
   rw[hu.eW]
   exact .pure (x:=undef) (by unfold Builtin.clear_;simp[h0,aK hdd];rfl) ax.qH
 . rename_i b off n cap es'
   obtain ⟨aa,aH,he,hle,_,ha⟩:=hu.cE
   rw[he]
   split at hr
   . rename_i Fy
     have:=Nat.eq_of_beq_eq_true Fy;subst this
     simp only[Option.some.injEq] at hr;subst hr
     exact .pure (x:=undef) (by unfold Builtin.clear_;simp[h0,aK hdd];rfl) ax.qH
   . rename_i Fy
     have Fy:=Nat.ne_of_beq_eq_false Fy
     split at hr<;>first|(cases hr;done)|skip
     rename_i cs fz hb
     split at hr<;>first|(cases hr;done)|skip
     rename_i c1 c2 c3
     have c1:=Nat.le_of_ble_eq_true c1
     have c2:=Nat.le_of_ble_eq_true c2
     simp only[Option.some.injEq] at hr;subst hr
     obtain ⟨_,rfl,_⟩:=ha (by omega)
     obtain ⟨w2,f1,di,hE⟩:=Bv (P:=P) hW hb (vs:=cV z n) (ys:=cV zv.cells.toList n) (by rw[gY,Ht];exact c1) c2 c3 (yT ov n)
     refine ⟨_,undef,w2,ρ,?_,Yields.value _,fun _ _=>rfl,di,ax.qH,hE⟩
     unfold Builtin.clear_
     cases n with
     |zero=>exact absurd rfl Fy
     |succ n=>simp[h0,aK hdd,sM,Jg,f1,undef]
theorem zR (c:Call) (f:Operand) (hc:c.callee= .value f) (a:Act) (o:Oper) (ho:o.op= .call c) {g:FuncId} {x y:Array Value} (he:a.eval f= .func (.func g) x y):
  (execOp a.eval o).run P w=(callFunc g (x++c.args.map a.eval++y)).run P w:=by
 simp[execOp,ho,resolve,hc,he,Deferred.ofValue,invoke]
theorem U7 (hT:bZ P tt) (c:Call):cw P tt (.call c):=by
 intro ρ C st w k xs cls fr a o vs res ho hc hW hF hx hr
 simp only[fA] at hc
 split at hc<;>first|(cases hc;done)|skip
 rename_i l hl
 split at hc<;>first|(cases hc;done)|skip
 ·
  rename_i g LW
  cases hc
  have hv:=dO hl hF hx
  simp only[aB.run,F2,Option.some.injEq] at hr;subst hr
  refine ⟨c.args.toList.map a.eval,?_,hv⟩
  rw[zR c _ LW a o ho (g:=g) (x:= #[]) (y:= #[]) rfl]
  congr 2
  apply Array.ext'
  simp
 ·
  rename_i f hnf LW
  split at hc<;>first|(cases hc;done)|skip
  rename_i ao hao
  cases hc
  unfold dK at hx
  split at hx<;>first|(cases hx;done)|skip
  rename_i fv hfv
  split at hx<;>first|(cases hx;done)|skip
  rename_i Xz U8
  simp only[Option.some.injEq] at hx;subst hx
  have h1:=wu hao hF hfv
  have h2:=dO hl hF U8
  simp only[aB.run,F3] at hr
  split at hr<;>first|(cases hr;done)|skip
  rename_i g first captured
  simp only[Option.some.injEq] at hr;subst hr
  obtain ⟨x,y,he,hx,hy⟩:=h1.Bn
  refine ⟨x.toList++(c.args.toList.map a.eval++y.toList),?_,hx.append (h2.append hy)⟩
  rw[zR c f LW a o ho he]
  congr 2
  apply Array.ext'
  simp
 ·
  rename_i b LW
  have hex: ∀(s:Sem Value),(∀consts,builtin b c.argTypes o.type consts (c.args.map a.eval)=(do pure (.value (<-s))))->(execOp a.eval o).run P w=(s.run P w).andThen fun v w=> .ok (.value v) w:=by
   intro s hs
   simp only[execOp,ho,resolve,LW,pure_bind,invoke]
   rw[hs]
   simp
  split at hc<;>first|(cases hc;done)|skip
  ·
   split at hc<;>first|(cases hc;done)|skip
   rename_i t _ _ uu
   split at hc<;>first|(cases hc;done)|skip
   rename_i ti b7
   have hv:=dO hl hF (vs:=vs) (by
        split at hc<;>first|(cases hc;done)|skip
        all_goals cases hc;exact hx)
   rw[fG] at hv
   rw[hex (Builtin.len_ c.argTypes o.type (c.args.map a.eval)) (fun _=>rfl)]
   have hu: ∃u,vs=[u]      :=by
        have h1:=hv.1
        have h2:(c.args.toList).length=1:=by
         have: ∀{xs:List   Operand} {os:List jy},iy xs=some os->xs.length=os.length:=by
            intro xs
            induction xs with
            |nil=>intro os h;simp[iy] at h;subst h;rfl
            |cons x xs ih=>intro os h;unfold iy at h;split at h<;>first|(cases h;done)|skip
                           rename_i e1 e2;simp only[Option.some.injEq] at h;subst h;simp[ih e2]
         rw[this hl];rfl
        match vs,h1 with
        |[u],_=>exact ⟨u,rfl⟩
        |[],h1=>simp at h1 h2;omega
        |_::_::_,h1=>simp at h1 h2;omega
   obtain ⟨u,rfl⟩:=hu
   obtain ⟨x,gv,hux⟩:=LS hv
   rw[gv]
   split at hc<;>first|(cases hc;done)|skip
   all_goals
        rename_i hk
        cases hc
        simp only[aB.run] at hr
        refine YT hT b7 ?_ (LU uu) o.type hW hux hr
   .    exact .inl ⟨rfl,hk⟩
   .    exact .inr (.inl ⟨rfl,_,hk⟩)
   .    exact .inr (.inr ⟨rfl,_,_,hk⟩)
  ·
   split at hc<;>first|(cases hc;done)|skip
   rename_i t t2 _ uu
   split at hc<;>first|(cases hc;done)|skip
   rename_i ti CJ b7 Dv
   split at hc<;>first|(cases hc;done)|skip
   .    rename_i e hk jC
        split at hc<;>first|(cases hc;done)|skip
        rename_i te eK
        split at hc<;>first|(cases hc;done)|skip
        rename_i z hz RW h8
        have h8:=Nat.eq_of_beq_eq_true h8
        cases hc
        have hv:=dO hl hF hx
        rw[fG] at hv
        rw[hex (Builtin.append_ c.argTypes o.type (c.args.map a.eval)) (fun _=>rfl)]
        simp only[aB.run] at hr
        have hu: ∃s u,vs=[s,u]:=by
         unfold lO at hr
         split at hr<;>first|(cases hr;done)|skip
         exact ⟨_,_,rfl⟩
        obtain ⟨s,u,rfl⟩:=hu
        obtain ⟨x,y,gv,h1,h2⟩:=zQ hv
        rw[gv]
        exact Of hT b7 Dv hk (fun k hk=>by rw[jC] at hk;cases hk) eK hz h8 (LU uu) (arr1 uu) o.type hW h1 h2 hr
   rename_i e hk jC _
   split at hc<;>first|(cases hc;done)|skip
   rename_i te eK
   split at hc<;>first|(cases hc;done)|skip
   rename_i z hz
   cases hc
   have hv:=dO hl hF hx
   rw[fG] at hv
   rw[hex (Builtin.append_ c.argTypes o.type (c.args.map a.eval)) (fun _=>rfl)]
   simp only[aB.run] at hr
   have hu: ∃s u,vs=[s,u]:=by
        unfold gW at hr
        split at hr<;>first|(cases hr;done)|skip
        exact ⟨_,_,rfl⟩
   obtain ⟨s,u,rfl⟩:=hu
   obtain ⟨x,y,gv,h1,h2⟩:=zQ hv
   rw[gv]
   exact Bx hT b7 Dv hk (fun k hk=>jC k hk) eK hz (LU uu) (arr1 uu) o.type hW h1 h2 hr
  ·
   split at hc<;>first|(cases hc;done)|skip
   rename_i t _ uu
   split at hc<;>first|(cases hc;done)|skip
   rename_i ti b7
   split at hc<;>first|(cases hc;done)|skip
   rename_i e hk
   split at hc<;>first|(cases hc;done)|skip
   rename_i te eK
   cases hc
   have hv:=dO hl hF hx
   rw[fG] at hv
   rw[hex (Builtin.copy_ c.argTypes o.type (c.args.map a.eval)) (fun _=>rfl)]
   simp only[aB.run] at hr
   have hu: ∃s u,vs=[s,u]:=by
        unfold tq at hr
        split at hr<;>first|(cases hr;done)|skip
        exact ⟨_,_,rfl⟩
   obtain ⟨s,u,rfl⟩:=hu
   obtain ⟨x,y,gv,h1,h2⟩:=zQ hv
   rw[gv]
   exact U5 hT b7 hk eK (LU uu) o.type hW h1 h2 hr
  ·
   split at hc<;>first|(cases hc;done)|skip
   cases hc
   have hv:=dO hl hF hx
   rw[fG] at hv
   rw[hex (Builtin.unsafeSliceData_ c.argTypes o.type (c.args.map a.eval)) (fun _=>rfl)]
   simp only[aB.run] at hr
   have hu: ∃s,vs=[s]:=by
        unfold mR at hr
        split at hr<;>first|(cases hr;done)|skip
        exact ⟨_,rfl⟩
   obtain ⟨s,rfl⟩:=hu
   obtain ⟨x,gv,h1⟩:=LS hv
   rw[gv]
   exact KU o.type h1 hW hr
  ·
   split at hc<;>first|(cases hc;done)|skip
   rename_i t t2 uu
   split at hc<;>first|(cases hc;done)|skip
   rename_i ti b7
   split at hc<;>first|(cases hc;done)|skip
   rename_i e hk
   split at hc<;>first|(cases hc;done)|skip
   rename_i te eK
   split at hc<;>first|(cases hc;done)|skip
   rename_i RW h8
   have h8:=Nat.eq_of_beq_eq_true h8
   cases hc
   have hv:=dO hl hF hx
   rw[fG] at hv
   rw[hex (Builtin.unsafeString_ c.argTypes o.type (c.args.map a.eval)) (fun _=>rfl)]
   simp only[aB.run] at hr
   have hu: ∃s u,vs=[s,u]:=by
        unfold jx at hr
        split at hr<;>first|(cases hr;done)|skip
        exact ⟨_,_,rfl⟩
   obtain ⟨s,u,rfl⟩:=hu
   obtain ⟨x,y,gv,h1,h2⟩:=zQ hv
   rw[gv]
   exact KV hT b7 hk eK h8 uu o.type hW h1 h2 hr
  ·
   split at hc<;>first|(cases hc;done)|skip
   cases hc
   have hv:=dO hl hF hx
   rw[fG] at hv
   rw[hex (Builtin.min_ c.argTypes o.type (c.args.map a.eval)) (fun _=>rfl)]
   simp only[aB.run] at hr
   have hu: ∃s u r,vs=[s,u]/\res= .val r:=by
        unfold zB at hr
        split at hr<;>first|(cases hr;done)|skip
        split at hr<;>first|(cases hr;done)|skip
        all_goals cases hr;exact ⟨_,_,_,rfl,rfl⟩
   obtain ⟨s,u,r,rfl,rfl⟩:=hu
   obtain ⟨x,y,gv,h1,h2⟩:=zQ hv
   obtain ⟨z,hz,hvz⟩:=UZ (P:=P) (w:=w) h1 h2 hr
   rw[gv]
   refine .pure (x:=z) ?_ hvz
   simp[Builtin.min_,hz]
  ·
   split at hc<;>first|(cases hc;done)|skip
   cases hc
   have hv:=dO hl hF hx
   rw[fG] at hv
   rw[hex (Builtin.max_ c.argTypes o.type (c.args.map a.eval)) (fun _=>rfl)]
   simp only[aB.run] at hr
   have hu: ∃s u r,vs=[s,u]/\res= .val r:=by
        unfold zC at hr
        split at hr<;>first|(cases hr;done)|skip
        split at hr<;>first|(cases hr;done)|skip
        all_goals cases hr;exact ⟨_,_,_,rfl,rfl⟩
   obtain ⟨s,u,r,rfl,rfl⟩:=hu
   obtain ⟨x,y,gv,h1,h2⟩:=zQ hv
   obtain ⟨z,hz,hvz⟩:=U0 (P:=P) (w:=w) h1 h2 hr
   rw[gv]
   refine .pure (x:=z) ?_ hvz
   simp[Builtin.max_,hz]
  ·
   split at hc<;>first|(cases hc;done)|skip
   rename_i t _ uu
   split at hc<;>first|(cases hc;done)|skip
   rename_i ti b7
   split at hc<;>first|(cases hc;done)|skip
   rename_i e hk
   split at hc<;>first|(cases hc;done)|skip
   rename_i te eK
   split at hc<;>first|(cases hc;done)|skip
   rename_i z hz
   cases hc
   have hv:=dO hl hF hx
   rw[fG] at hv
   rw[hex (Builtin.clear_ c.argTypes o.type (c.args.map a.eval)) (fun _=>rfl)]
   simp only[aB.run] at hr
   have hu: ∃u,vs=[u]:=by
        unfold qR at hr
        split at hr<;>first|(cases hr;done)|skip
        exact ⟨_,rfl⟩
   obtain ⟨u,rfl⟩:=hu
   obtain ⟨x,gv,hux⟩:=LS hv
   rw[gv]
   exact Si hT b7 hk eK hz (LU uu) o.type hW hux hr
theorem EO (hT:bZ P tt) (op:Op):cw P tt op:=by
 cases op with
 |move x=>exact UU x
 |assign x=>exact P5 x
 |pick c x y=>exact UW c x y
 |alloc t=>exact R7 hT t
 |box t x=>exact YR t x
 |build t ps=>exact R5 hT t ps
 |buildSlice t n ps=>exact Jf hT t n ps
 |insert t m k v=>exact Hv hT _ t m k v (.inr rfl)
 |load t x=>exact UY hT t x
 |store t x y=>exact Sa hT t x y
 |nilCheck x=>exact LD x
 |binOp op t x y yt=>exact RO hT op t x y yt
 |unOp op t x=>exact UX op t x
 |convert s d x=>
  by_cases h: ∃xs cls,fA tt (.convert s d x)=some (.conv .bytes,xs,cls)
  . exact KT hT s d x h
  . exact Od hT s d x fun k xs cls hc e=>h ⟨xs,cls,by rw[hc,e]⟩
 |makeInterface t x=>exact Ob hT t x
 |makeFunc f x y=>exact P6 f x y
 |makeMap t r=>exact R8 t r hT
 |makeSlice t l c=>exact Oe hT t l c
 |slice t x l h m=>exact RU hT t x l h m
 |fieldAddr t x f=>exact KR hT t x f
 |field t x f=>exact RP hT t x f
 |indexAddr t x i=>exact KS hT t x i
 |index t x i=>exact RQ hT t x i
 |lookup t x i ok=>exact P9 hT t x i ok
 |mapUpdate t m k v=>exact Hv hT _ t m k v (.inl rfl)
 |range t x=>exact Qa hT t x
 |next it s=>exact Sc it s
 |extract x i=>exact Oa x i
 |call c=>exact U7 hT c
 |_=>intro ρ C st w k xs cls fr a o vs res ho hc;simp[fA] at hc
end
end Go.Ai
end
section
namespace Go.Ai
open Go Go.RowKit
def Reaches (P:Program) (R:Value->World->Prop):Result Next->Prop
 | .ok (.value x) w'=>R x w'
 | .ok .skip w'=>R undef w'
 | .ok (.enter f args) w'=>Calls P f args w' fun| .returned v,w''=>R v w''|_,_=>False
 | .ok (.row row args) w'=>Rows P row args w' R
 |_=>False
theorem Reaches.mono {P:Program} {R R':Value->World->Prop} (h: ∀x w,R x w->R' x w): ∀{r:Result Next},Reaches P R r->Reaches P R' r
 | .ok (.value _) _,hr=>h _ _ hr
 | .ok .skip _,hr=>h _ _ hr
 | .ok (.enter _ _) _,hr=>Calls.mono hr fun e w he=>by cases e<;>first|exact h _ _ he|exact he
 | .ok (.row _ _) _,hr=>Rows.mono hr h
theorem Reaches.upon {P:Program} {R:Value->World->Prop} {o:Oper} {a:Act} {K:Act->World->Prop} {Q:Exit->Act->World->Prop} {r:Result Next}
  (hr:Reaches P R r) (h: ∀x w,R x w->K (a.put o.dst x) w):o.upon P a K Q r:=by
 cases r with
 |ok n w=>
  cases n<;>simp only[Reaches] at hr
  . exact h _ _ hr
  . exact h _ _ hr
  . exact Calls.mono hr fun e w he=>by
        cases e with
        |returned v=>exact h _ _ he
        |panicked c=>exact he.elim
        |outgrown=>exact he.elim
  . exact Rows.mono hr fun v w he=>h _ _ he
 |halt x w=>simp only[Reaches] at hr
def iX (ρ:Pos->Loc) (C:Cells) (st:St) (w:World) (v:AV) (st':St) (x:Value) (w':World):Prop:=
 ∃ρ',ax ρ' st'.next.toNat C v x/\(∀b:Pos,b.toNat<st.next.toNat->ρ' b=ρ b)/\st.next.toNat<=st'.next.toNat/\bn ρ' C st' w'/\jY ρ st w ρ' st' w'
def jE (P:Program) (C:Cells) (call:ak):Prop:=
 ∀  (ρ:Pos->Loc) (st:St) (w:World) (f:FuncId) (args:List AV) (v:AV) (st':St) (bl:List Value),call f args st=some (v,st')->
    bn ρ C st w->aq ρ st.next.toNat C args bl->Reaches P (iX ρ C st w v st') ((callFunc f bl.toArray).run P w)
section
variable {P : Program} {tt : TT} {C : Cells} {call : ak}
theorem St.tG (st:St) (del:Option Pos) (set:Option (Pos×AB)) (new:Option AB):st.next.toNat<=(st.aE del set new).next.toNat:=by
 cases new with
 |none=>exact Nat.le_refl _
 |some x=>simp only[St.aE,Pos.az];omega
theorem Fz (hT:bZ P tt) (fN:jE P C call) {ρ:Pos->Loc} {st st':St} {w:World} {k:aB} {xs:List jy} {cls:OK} {fr:Fr} {a:Act} {o:Oper} {vs:List AV} {v:AV}
   (hc:fA tt o.op=some (k,xs,cls)) (hW:bn ρ C st w) (hF:kK ρ st.next.toNat C fr a.tmps) (hx:dK fr xs=some vs)
   (hs:bS call k vs st=some (v,st')):Reaches P (iX ρ C st w v st') ((execOp a.eval o).run P w):=by
 have H:=EO hT o.op ρ C st w k xs cls fr a o vs
 unfold bS at hs
 split at hs
 . rename_i u hr
   simp only[Option.some.injEq,Prod.mk.injEq] at hs
   obtain ⟨rfl,rfl⟩:=hs
   obtain ⟨N,x,he,hy,hv⟩:=H _ rfl hc hW hF hx hr
   have hp:iX ρ C st w u st x w:=⟨ρ,hv,fun _ _=>rfl,Nat.le_refl _,hW,jY.refl _ _ _⟩
   rw[he]
   rcases hy with rfl|⟨rfl,rfl⟩<;>exact hp
 . rename_i u del set new hr
   simp only[Option.some.injEq,Prod.mk.injEq] at hs
   obtain ⟨rfl,rfl⟩:=hs
   obtain ⟨N,x,w',ρ',he,hy,aL,di,hv,hE⟩:=H _ rfl hc hW hF hx hr
   have hp:iX ρ C st w u (st.aE del set new) x w':=⟨ρ',hv,aL,St.tG _ _ _ _,di,hE⟩
   rw[he]
   rcases hy with rfl|⟨rfl,rfl⟩<;>exact hp
 . rename_i f args hr
   obtain ⟨bl,he,hv⟩:=H _ rfl hc hW hF hx hr
   rw[he]
   exact fN ρ st w f args v st' bl hs hW hv
 . cases hs
structure pF (tt:TT) (nt:Nat) (ops:Array Oper) (o:Oper) (ao:bE):Prop where
 dst:ao.dst=o.dst.map key
 lt: ∀d,o.dst=some d->d<nt
 guard:Hf ops o.guard=some ao.guard
 op:(fA tt o.op=some (ao.k,ao.xs,ao.cls))\/(ao.k= .bad/\ao.cls= .aE)
theorem tW {nt:Nat} {ops:Array Oper}: ∀{os:List Oper} {bs:List Nat} {l:List bE},rH tt nt ops os bs=some l->
  l.length=os.length/\ ∀(i:Nat) (o:Oper),os[i]? =some o-> ∃ao,l[i]? =some ao/\pF tt nt ops o ao/\ao.bG=bs.getD i 0
 |[],bs,l,h=>by simp[rH] at h;subst h;exact ⟨rfl,fun i o ho=>by simp at ho⟩
 |o ::os,bs,l,h=>by
  unfold rH at h
  split at h<;>first|(cases h;done)|skip
  rename_i g l' hg hl hd
  obtain ⟨h1,h2⟩:=tW hl
  have aZ: ∀d,o.dst=some d->d<nt:=fun d hdd=>by
    rw[hdd] at hd
    simpa [rH.Xy] using hd
  have hb: ∀i,bs.tail.getD i 0=bs.getD (i+1) 0:=fun i=>by cases bs<;>simp
  have rK:bs.headD 0=bs.getD 0 0:=by cases bs<;>simp
  split at h
  . rename_i k xs cls hc
    simp only[Option.some.injEq] at h;subst h
    refine ⟨by simp[h1],fun i o' ho=> ?_⟩
    cases i with
    |   zero=>
        simp at ho;subst ho
        exact ⟨_,rfl,⟨rfl,aZ,hg,.inl hc⟩,rK⟩
    |   succ i=>
        simp at ho
        obtain ⟨ao,h3,h4,h5⟩:=h2 i o' ho
        exact ⟨ao,by simpa using h3,h4,by rw[h5,hb]⟩
  . simp only[Option.some.injEq] at h;subst h
    refine ⟨by simp[h1],fun i o' ho=> ?_⟩
    cases i with
    |   zero=>
        simp at ho;subst ho
        exact ⟨_,rfl,⟨rfl,aZ,hg,.inr ⟨rfl,rfl⟩⟩,rK⟩
    |   succ i=>
        simp at ho
        obtain ⟨ao,h3,h4,h5⟩:=h2 i o' ho
        exact ⟨ao,by simpa using h3,h4,by rw[h5,hb]⟩
theorem wD {ops:Array Oper} {ρ:Pos->Loc} {n:Nat} {fr:Fr} {a:Act} {o:Oper} {g:Option (Pos×Bool)} {b:Bool} (hg:Hf ops o.guard=some g)
   (hF: ∀p v,fr.get p=some v->(∃q,g=some (p,q))-> ∃x,a.tmps[p.toNat - 1]? =some x/\ax ρ n C v x)
   (hw:bI fr g=some b):Region.wanted o (yielded ops a.tmps)=b:=by
 unfold Region.wanted
 unfold Hf at hg
 split at hg
 . rename_i hn
   simp only[Option.some.injEq] at hg;subst hg
   simp only[bI,Option.some.injEq] at hw;subst hw
   rw[hn]
 . rename_i j want hn
   rw[hn]
   split at hg<;>first|(cases hg;done)|skip
   rename_i oj hj
   split at hg<;>first|(cases hg;done)|skip
   rename_i d hd
   simp only[Option.some.injEq] at hg;subst hg
   simp only[bI] at hw
   split at hw
   . rename_i u hu
     simp only[Option.some.injEq] at hw;subst hw
     obtain ⟨x,hx,hv⟩:=hF _ _ hu ⟨_,rfl⟩
     rw[gX,Nat.add_sub_cancel] at hx
     have:=hv.gQ;subst this
     simp[yielded,hj,hd,hx]
   . rename_i l hu
     simp only[Option.some.injEq] at hw;subst hw
     obtain ⟨x,hx,hv⟩:=hF _ _ hu ⟨_,rfl⟩
     rw[gX,Nat.add_sub_cancel] at hx
     obtain ⟨cs,rfl,_⟩:=hv.JJ
     simp[yielded,hj,hd,hx]
   . cases hw
theorem ax.JT {ρ:Pos->Loc} {n:Nat}:ax ρ n C AV.undef undef:= .tuple [] #[] rfl fun _ _ _ h=>by simp at h
theorem Act.Bz (a:Act) (d:Option Tmp) (v:Value):(a.put d v).tmps.size=a.tmps.size:=by cases d<;>simp[Act.put]
theorem Act.tX (a:Act) (d:Option Tmp) (v:Value):(a.put d v).defers=a.defers:=by cases d<;>rfl
theorem kK.put {ρ:Pos->Loc} {n nt:Nat} {fr:Fr} {a:Act} {d:Option Tmp} {v:AV} {x:Value} (hF:kK ρ n C fr a.tmps) (hs:a.tmps.size=nt)
  (hd: ∀e,d=some e->e<nt) (hv:ax ρ n C v x):kK ρ n C (cJ fr (d.map key) v) (a.put d x).tmps:=by
 cases d with
 |none=>exact hF
 |some e=>
  have he:=hd e rfl
  intro p u hp
  simp only[Option.map_some,cJ] at hp
  simp only[Act.put]
  by_cases OY:key e=p
  . subst OY
    rw[T.dZ] at hp
    simp only[Option.some.injEq] at hp;subst hp
    refine ⟨x,?_,hv⟩
    rw[gX,Nat.add_sub_cancel,Array.getElem?_setIfInBounds]
    simp[hs,he]
  . rw[T.bq _ OY] at hp
    obtain ⟨y,hy,hr⟩:=hF p u hp
    refine ⟨y,?_,hr⟩
    rw[Array.getElem?_setIfInBounds_ne,hy]
    intro h
    apply OY
    apply Pos.toNat_inj
    rw[gX]
    have:=p.toNat_pos
    omega
theorem kK.mono {ρ ρ':Pos->Loc} {n n':Nat} {fr:Fr} {tmps:Array Value} (hF:kK ρ n C fr tmps) (aL: ∀b:Pos,b.toNat<n->ρ' b=ρ b) (hn:n<=n'):kK ρ' n' C fr tmps:=
 fun p v hp=>let ⟨x,hx,hv⟩:=hF p v hp;⟨x,hx,hv.mono aL hn⟩
structure BA (nt:Nat) (ρ:Pos->Loc) (C:Cells) (fr:Fr) (st:St) (a:Act) (w:World):Prop where
 W:bn ρ C st w
 F:kK ρ st.next.toNat C fr a.tmps
 size:a.tmps.size=nt
 defers:a.defers=[]
def ko (nt:Nat) (ρ:Pos->Loc) (C:Cells) (st:St) (w:World) (aU:Fr) (st':St) (a':Act) (w':World):Prop:=
 ∃ρ',BA nt ρ' C aU st' a' w'/\(∀b:Pos,b.toNat<st.next.toNat->ρ' b=ρ b)/\st.next.toNat<=st'.next.toNat/\jY ρ st w ρ' st' w'
theorem ko.refl {nt:Nat} {ρ:Pos->Loc} {fr:Fr} {st:St} {a:Act} {w:World} (h:BA nt ρ C fr st a w):ko nt ρ C st w fr st a w:=
 ⟨ρ,h,fun _ _=>rfl,Nat.le_refl _,jY.refl _ _ _⟩
theorem ko.trans {nt:Nat} {ρ gF:Pos->Loc} {CN:Fr} {st bu u6:St} {a2:Act} {w w1 w2:World}
  (h1: ∀b:Pos,b.toNat<st.next.toNat->gF b=ρ b) (h2:st.next.toNat<=bu.next.toNat) (h3:jY ρ st w gF bu w1)
  (h:ko nt gF C bu w1 CN u6 a2 w2):ko nt ρ C st w CN u6 a2 w2:=by
 obtain ⟨uo,k1,k2,k3,k4⟩:=h
 exact ⟨uo,k1,fun b hb=>(k2 b (Nat.lt_of_lt_of_le hb h2)).trans (h1 b hb),Nat.le_trans h2 k3,h3.trans k4⟩
theorem Reaches.bad {k:aB} {vs:List AV} {st:St} {r:AV×St} (hk:k= .bad) (h:bS call k vs st=some r):False:=by
 subst hk;simp[bS,aB.run] at h
theorem BB (hT:bZ P tt) (fN:jE P C call) {nt:Nat} {ops:Array Oper} {Q:Exit->Act->World->Prop}: ∀(LX:List bE) (k:Nat) (fr aU:Fr) (st st':St) (ρ:Pos->Loc) (a:Act) (w:World),
  (∀(i:Nat) (ao:bE),LX[i]? =some ao-> ∃o,ops[k+i]? =some o/\pF tt nt ops o ao)->
  iw call LX fr st=some (aU,st')->BA nt ρ C fr st a w->(∀a' w',ko nt ρ C st w aU st' a' w'->Q .normal a' w')->wpOps P ops Q (List.range' k LX.length) a w
 |[],k,fr,aU,st,st',ρ,a,w,_,h,hS,hQ=>by
  simp only[iw,Option.some.injEq,Prod.mk.injEq] at h
  obtain ⟨rfl,rfl⟩:=h
  exact hQ a w (ko.refl hS)
 |ao::LX,k,fr,aU,st,st',ρ,a,w,ho,h,hS,hQ=>by
  obtain ⟨o,eD,hR⟩:=ho 0 ao rfl
  rw[Nat.add_zero] at eD
  have yc: ∀(i:Nat) (Sj:bE),LX[i]? =some Sj-> ∃o,ops[k+1+i]? =some o/\pF tt nt ops o Sj:=fun i Sj hi=>by
    obtain ⟨o',h1,h2⟩:=ho (i+1) Sj (by simpa using hi)
    exact ⟨o',by rw[<-h1];congr 1;omega,h2⟩
  simp only[List.length_cons,List.range'_succ,wpOps,eD]
  unfold iw at h
  split at h
  . rename_i hw
    rw[if_pos (wD hR.guard (fun p v hp _=>hS.F p v hp) hw)]
    split at h<;>first|(cases h;done)|skip
    rename_i vs lS
    split at h<;>first|(cases h;done)|skip
    rename_i v bu iR
    rcases hR.op with hc|⟨hk,_⟩
    .   have hr:=Fz hT fN hc hS.W hS.F lS iR
        refine .inl (hr.upon fun x w1 hp=> ?_)
        obtain ⟨gF,hv,h1,h2,Sk,hE⟩:=hp
        rw[hR.dst] at h
        refine BB hT fN LX (k+1) _ aU bu st' gF _ w1 yc h ⟨Sk,kK.put (hS.F.mono h1 h2) hS.size hR.lt hv,by rw[Act.Bz];exact hS.size,by rw[Act.tX];exact hS.defers⟩ fun a' w' hp=>hQ a' w' (ko.trans h1 h2 hE hp)
    .   exact (Reaches.bad hk iR).elim
  . rename_i hw
    rw[if_neg (by rw[wD hR.guard (fun p v hp _=>hS.F p v hp) hw];simp)]
    rw[hR.dst] at h
    exact BB hT fN LX (k+1) _ aU st st' ρ _ w yc h ⟨hS.W,kK.put hS.F hS.size hR.lt .JT,by rw[Act.Bz];exact hS.size,by rw[Act.tX];exact hS.defers⟩ hQ
  . cases h
theorem LY {nt:Nat} {ops:Array Oper} {l:List bE} {bs:List Nat} (h:rH tt nt ops ops.toList bs=some l) (i:Nat) (ao:bE) (hi:l[i]? =some ao):
  ∃o,ops[i]? =some o/\pF tt nt ops o ao/\ao.bG=bs.getD i 0:=by
 obtain ⟨h1,h2⟩:=tW h
 have aZ:i<ops.toList.length:=by rw[<-h1];exact (List.getElem?_eq_some_iff.1 hi).1
 obtain ⟨Sj,h3,h4,h5⟩:=h2 i _ (List.getElem?_eq_getElem aZ)
 rw[hi] at h3
 simp only[Option.some.injEq] at h3;subst h3
 exact ⟨_,by rw[<-Array.getElem?_toList];exact List.getElem?_eq_getElem aZ,h4,h5⟩
theorem LZ (hT:bZ P tt) (fN:jE P C call) {nt id:Nat} {ops:Array Oper} {bs:List Nat} {l:List bE} {Q:Exit->Act->World->Prop} {fr aU:Fr} {st st':St} {ρ:Pos->Loc} {a:Act} {w:World}
  (hl:rH tt nt ops ops.toList bs=some l) (h:iw call l fr st=some (aU,st')) (hS:BA nt ρ C fr st a w)
  (hQ: ∀a' w',ko nt ρ C st w aU st' a' w'->Q .normal a' w'):(Code.region id ops false).wp P Q a w:=by
 apply wp_region
 have hlen:l.length=ops.size:=by rw[(tW hl).1,Array.length_toList]
 rw[List.range_eq_range', <-hlen]
 exact BB hT fN l 0 fr aU st st' ρ a w (fun i ao hi=>by
  obtain ⟨o,h1,h2,_⟩:=LY hl i ao hi
  exact ⟨o,by rw[Nat.zero_add];exact h1,h2⟩) h hS hQ
end
end Go.Ai
end
section
namespace Go.Ai
open Go Go.RowKit
section
variable {P : Program} {tt : TT} {C : Cells} {call : ak}
def Dw (P:Program) (tt:TT) (C:Cells) (call:ak):Prop:=
 ∀  (nt id:Nat) (ops:Array Oper) (l:List bE) (Q:Exit->Act->World->Prop) (fr aU:Fr) (st st':St) (ρ:Pos->Loc) (a:Act) (w:World),
    rH tt nt ops ops.toList (Lt ops.toList [])=some l->zF l.length 0 (qp (wm 0 l) [])=true->cH call (qp (wm 0 l) []) [] st.heap fr st=some (aU,st')->BA nt ρ C fr st a w->
    (∀a' w',ko nt ρ C st w aU st' a' w'->Q .normal a' w')->(Code.region id ops true).wp P Q a w
def EP:lQ->Exit
 | .normal=> .normal
 | .exit id=> .exit id
 | .ret=> .ret
def Hw (P:Program) (tt:TT) (C:Cells) (call:ak) (nt m:Nat):Prop:=
 ∀  (c:Code) (ac:AC) (fr aU:Fr) (st st':St) (ex:lQ) (ρ:Pos->Loc) (a:Act) (w:World) (Q:Exit->Act->World->Prop),
    tU tt nt c=some ac->exec call m ac fr st=some (ex,aU,st')->BA nt ρ C fr st a w->
    (∀a' w',ko nt ρ C st w aU st' a' w'->Q (EP ex) a' w')->c.wp P Q a w
def Hx (P:Program) (tt:TT) (C:Cells) (call:ak) (nt m:Nat):Prop:=
 ∀  (c:Code) (ac:AC) (fr aU:Fr) (st st':St) (ex:lQ) (ρ:Pos->Loc) (a:Act) (w:World) (Q:Exit->Act->World->Prop),
    tU tt nt c=some ac->exec call m (.loop ac) fr st=some (ex,aU,st')->BA nt ρ C fr st a w->
    (∀a' w',ko nt ρ C st w aU st' a' w'->Q (EP ex) a' w')->Code.rounds P c Q m a w
theorem JU {nt m:Nat} (wE:Hw P tt C call nt m) (ihL:Hx P tt C call nt m):Hx P tt C call nt (m+1):=by
 intro c ac fr aU st st' ex ρ a w Q hc h hS hQ
 simp only[exec,aQ] at h
 rw[rounds_succ]
 split at h
 . rename_i fe bu h1
   refine wE c ac fr fe st bu .normal ρ a w _ hc h1 hS fun a1 w1 hp=> ?_
   obtain ⟨gF,oY,k1,k2,k3⟩:=hp
   exact ihL c ac fe aU bu st' ex gF a1 w1 Q hc h oY fun a2 w2 hp=>hQ a2 w2 (ko.trans k1 k2 k3 hp)
 . rename_i bO
   cases ex with
   |normal=>exact (bO _ _ h).elim
   |exit id=>exact wE c ac fr aU st st' (.exit id) ρ a w _ hc h hS fun a1 w1 hp=>hQ a1 w1 hp
   |ret=>exact wE c ac fr aU st st' .ret ρ a w _ hc h hS fun a1 w1 hp=>hQ a1 w1 hp
theorem Sl (hT:bZ P tt) (fN:jE P C call) (rR:Dw P tt C call) {nt m:Nat} (wE:Hw P tt C call nt m) (ihL:Hx P tt C call nt m):Hw P tt C call nt (m+1):=by
 intro c ac fr aU st st' ex ρ a w Q hc h hS hQ
 have afB:=JU wE ihL
 unfold tU at hc
 split at hc<;>first|(cases hc;done)|skip
 . simp only[Option.some.injEq] at hc;subst hc
   simp only[exec,aQ,Option.some.injEq,Prod.mk.injEq] at h
   obtain ⟨rfl,rfl,rfl⟩:=h
   exact wp_skip (hQ _ _ (ko.refl hS))
 . rename_i ix ops draw
   split at hc<;>first|(cases hc;done)|skip
   rename_i l hl
   split at hc
   . simp only[Option.some.injEq] at hc;subst hc
     simp only[exec,aQ] at h
     split at h<;>first|(cases h;done)|skip
     rename_i fe bu h1
     simp only[Option.some.injEq,Prod.mk.injEq] at h
     obtain ⟨rfl,rfl,rfl⟩:=h
     exact LZ hT fN hl h1 hS hQ
   . split at hc<;>first|(cases hc;done)|skip
     rename_i ht
     simp only[Option.some.injEq] at hc;subst hc
     simp only[exec,aQ] at h
     split at h<;>first|(cases h;done)|skip
     rename_i fe bu h1
     simp only[Option.some.injEq,Prod.mk.injEq] at h
     obtain ⟨rfl,rfl,rfl⟩:=h
     exact rR nt _ ops l Q fr fe st bu ρ a w hl ht h1 hS hQ
 . split at hc<;>first|(cases hc;done)|skip
   rename_i x y h1 h2
   simp only[Option.some.injEq] at hc;subst hc
   simp only[exec,aQ] at h
   apply wp_seq
   split at h
   . rename_i fe bu h3
     refine wE _ _ fr fe st bu .normal ρ a w _ h1 h3 hS fun a1 w1 hp=> ?_
     obtain ⟨gF,oY,k1,k2,k3⟩:=hp
     exact wE _ _ fe aU bu st' ex gF a1 w1 Q h2 h oY fun a2 w2 hp=>hQ a2 w2 (ko.trans k1 k2 k3 hp)
   . rename_i bO
     cases ex with
     |normal=>exact (bO _ _ h).elim
     |exit id=>exact wE _ _ fr aU st st' (.exit id) ρ a w _ h1 h hS fun a1 w1 hp=>hQ a1 w1 hp
     |ret=>exact wE _ _ fr aU st st' .ret ρ a w _ h1 h hS fun a1 w1 hp=>hQ a1 w1 hp
 . split at hc<;>first|(cases hc;done)|skip
   rename_i x y z h1 h2 h3
   simp only[Option.some.injEq] at hc;subst hc
   simp only[exec,aQ] at h
   split at h
   . rename_i hx
     exact wp_cond_true ((wu h1 hS.F hx).gQ) (wE _ _ fr aU st st' ex ρ a w Q h2 h hS hQ)
   . rename_i hx
     exact wp_cond_false ((wu h1 hS.F hx).gQ) (wE _ _ fr aU st st' ex ρ a w Q h3 h hS hQ)
   . cases h
 . split at hc<;>first|(cases hc;done)|skip
   rename_i x h1
   simp only[Option.some.injEq] at hc;subst hc
   simp only[exec,aQ] at h
   apply wp_block
   split at h
   . rename_i oK fe bu h2
     split at h
     .  rename_i he
        simp only[Option.some.injEq,Prod.mk.injEq] at h
        obtain ⟨rfl,rfl,rfl⟩:=h
        have:=Nat.eq_of_beq_eq_true he;subst this
        exact wE _ _ fr fe st bu (.exit oK) ρ a w _ h1 h2 hS fun a1 w1 hp=>by
         simp only[EP,Exit.inBlock,if_true];exact hQ a1 w1 hp
     .  rename_i he
        simp only[Option.some.injEq,Prod.mk.injEq] at h
        obtain ⟨rfl,rfl,rfl⟩:=h
        have:=Nat.ne_of_beq_eq_false he
        exact wE _ _ fr fe st bu (.exit oK) ρ a w _ h1 h2 hS fun a1 w1 hp=>by
         simp only[EP,Exit.inBlock,if_neg this];exact hQ a1 w1 hp
   . rename_i bO
     cases ex with
     |normal=>exact wE _ _ fr aU st st' .normal ρ a w _ h1 h hS fun a1 w1 hp=>hQ a1 w1 hp
     |exit id=>exact (bO _ _ _ h).elim
     |ret=>exact wE _ _ fr aU st st' .ret ρ a w _ h1 h hS fun a1 w1 hp=>hQ a1 w1 hp
 . split at hc<;>first|(cases hc;done)|skip
   rename_i x h1
   simp only[Option.some.injEq] at hc;subst hc
   exact wp_loop_rounds (m+1) (afB _ _ fr aU st st' ex ρ a w Q h1 h hS hQ)
 . simp only[Option.some.injEq] at hc;subst hc
   simp only[exec,aQ,Option.some.injEq,Prod.mk.injEq] at h
   obtain ⟨rfl,rfl,rfl⟩:=h
   exact wp_exit (hQ _ _ (ko.refl hS))
 . simp only[Option.some.injEq] at hc;subst hc
   simp only[exec,aQ,Option.some.injEq,Prod.mk.injEq] at h
   obtain ⟨rfl,rfl,rfl⟩:=h
   exact wp_ret (hQ _ _ (ko.refl hS))
 . simp only[Option.some.injEq] at hc;subst hc
   simp[exec,aQ,iw,bI,dK,bS,aB.run] at h
theorem rS (hT:bZ P tt) (fN:jE P C call) (rR:Dw P tt C call) {nt:Nat}: ∀m,Hw P tt C call nt m/\Hx P tt C call nt m
 |0=>⟨fun c ac fr aU st st' ex ρ a w Q hc h=>by simp[exec] at h,fun c ac fr aU st st' ex ρ a w Q hc h=>by simp[exec] at h⟩
 |m+1=>let ⟨h1,h2⟩:=rS hT fN rR m;⟨Sl hT fN rR h1 h2,JU h1 h2⟩
def ER (tmps:Array Value):ResultVar->Sem Value
 | .tmp t=>pure (tmps.getD t undef)
 | .cell a t=>do loadVar t (<-asAddr (tmps.getD a undef))
theorem Qh (hT:bZ P tt) {ρ:Pos->Loc} {st:St} {w:World} {fr:Fr} {a:Act} {x:Tmp} {t:TypeId} {ti:TI} {q v:AV} (b7:tt.get (key t)=some ti)
  (hW:bn ρ C st w) (hF:kK ρ st.next.toNat C fr a.tmps) (hq:fr.get (key x)=some q) (hr:(aB.load (rF ti)).run (fun b=>st.heap.get b) .h [q]=some (.val v)):
  ∃y,(ER a.tmps (.cell x t)).run P w= .ok y w/\ax ρ st.next.toNat C v y:=by
 have hc:fA tt (.load t (.tmp x))=some (.load (rF ti),[.t (key x)],.read):=by simp[fA,b7,mS]
 have hx:dK fr [.t (key x)]=some [q]:=by simp[dK,um,hq]
 have jB:(aB.load (rF ti)).run (fun b=>st.heap.get b) st.next [q]=some (.val v):=hr
 obtain ⟨N,y,he,hy,hv⟩:=EO hT (.load t (.tmp x)) ρ C st w _ _ _ fr a { dst:=none,op:= .load t (.tmp x),type:=t,pos:=default,after:= #[],guard:=none } _ _ rfl hc hW hF hx jB
 refine ⟨y,?_,hv⟩
 simp only[execOp,Instr.loadAt,Act.eval] at he
 simp only[ER]
 obtain ⟨z,hz,XM⟩:=hF _ _ hq
 rw[gX,Nat.add_sub_cancel] at hz
 have hzd:a.tmps.getD x undef=z:=by simp[Array.getD_eq_getD_getElem?,hz]
 rw[hzd] at he ⊢
 have hp: ∃ad,z= .pointer (some ad):=by
  simp only[aB.run,pq] at hr
  split at hr<;>first|(cases hr;done)|skip
  . obtain ⟨_,h⟩:=XM.eN;exact ⟨_,h⟩
  . obtain ⟨_,_,_,_,h,_⟩:=XM.zI;exact ⟨_,h⟩
 obtain ⟨ad,rfl⟩:=hp
 simp only[Instr.sureAddr,asAddr,Sem.run_bind,Sem.run_pure,Result.andThen] at he ⊢
 cases hl:(loadVar t ad).run P w with
 |ok u w1=>
  rw[hl] at he
  simp at he
  obtain ⟨h1,h2⟩:=he
  subst h2
  rcases hy with hy|⟨hy,_⟩
  . rw[hy] at h1;simp at h1;rw[h1]
  . rw[hy] at h1;simp at h1
 |halt u w1=>rw[hl] at he;simp at he
theorem wF (hT:bZ P tt) {ρ:Pos->Loc} {st:St} {w:World} {fr:Fr} {a:Act} (hW:bn ρ C st w) (hF:kK ρ st.next.toNat C fr a.tmps):
   ∀(rs:List ResultVar) (Hy:List G9) (vs:List AV),oR tt rs=some Hy->eV (fun b=>st.heap.get b) fr Hy=some vs->
    ∃ys,(rs.mapM (ER a.tmps)).run P w= .ok ys w/\aq ρ st.next.toNat C vs ys
 | [],Hy,vs,hc,hr=>by
   simp only[oR,Option.some.injEq] at hc;subst hc
   simp only[eV,Option.some.injEq] at hr;subst hr
   exact ⟨[],by simp,aq.nil⟩
 | .tmp t::rs,Hy,vs,hc,hr=>by
   simp only[oR] at hc
   split at hc<;>first|(cases hc;done)|skip
   rename_i l hl
   simp only[Option.some.injEq] at hc;subst hc
   simp only[eV] at hr
   split at hr<;>first|(cases hr;done)|skip
   rename_i v hv
   split at hr<;>first|(cases hr;done)|skip
   rename_i us RT
   simp only[Option.some.injEq] at hr;subst hr
   obtain ⟨ys,h1,h2⟩:=wF hT hW hF rs l us hl RT
   obtain ⟨z,hz,XM⟩:=hF _ _ hv
   rw[gX,Nat.add_sub_cancel] at hz
   refine ⟨z::ys,?_,aq.cons XM h2⟩
   simp[List.mapM_cons,ER,h1,Array.getD_eq_getD_getElem?,hz]
 | .cell x t::rs,Hy,vs,hc,hr=>by
   simp only[oR] at hc
   split at hc<;>first|(cases hc;done)|skip
   rename_i ti l R4 hl
   simp only[Option.some.injEq] at hc;subst hc
   simp only[eV] at hr
   split at hr<;>first|(cases hr;done)|skip
   rename_i q hq
   split at hr<;>first|(cases hr;done)|skip
   rename_i v hv
   split at hr<;>first|(cases hr;done)|skip
   rename_i us RT
   simp only[Option.some.injEq] at hr;subst hr
   obtain ⟨ys,h1,h2⟩:=wF hT hW hF rs l us hl RT
   obtain ⟨y,h3,h4⟩:=Qh hT R4 hW hF hq hv
   refine ⟨y::ys,?_,aq.cons h4 h2⟩
   simp[List.mapM_cons,h1,h3]
theorem qq (hT:bZ P tt) {ρ:Pos->Loc} {st:St} {w:World} {fr:Fr} {a:Act} {fn:Func} {Hy:List G9} {vs:List AV} (hW:bn ρ C st w) (hF:kK ρ st.next.toNat C fr a.tmps)
  (hc:oR tt fn.results.toList=some Hy) (hr:eV (fun b=>st.heap.get b) fr Hy=some vs):
  ∃y,(results fn a.tmps).run P w= .ok y w/\ax ρ st.next.toNat C (rD vs) y:=by
 obtain ⟨ys,h1,h2⟩:=wF hT hW hF _ Hy vs hc hr
 have h3:(fn.results.mapM (ER a.tmps)).run P w= .ok ys.toArray w:=by
  rw[Array.mapM_eq_mapM_toList]
  simp[h1]
 have h4:(results fn a.tmps).run P w= .ok (if h:ys.toArray.size=1 then ys.toArray[0] else .tuple ys.toArray) w:=by
  have hfun:results fn a.tmps=(fn.results.mapM (ER a.tmps) >>= fun vs=>pure (if h:vs.size=1 then vs[0] else .tuple vs)):=by
   unfold results
   congr 2
  rw[hfun,Sem.run_bind,h3]
  simp
 refine ⟨_,h4,?_⟩
 cases vs with
 |nil=>have:=h2.iE;subst this;simp[rD];exact .jQ (by simpa using aq.nil)
 |cons v vs=>
  obtain ⟨y,ys',rfl,hv,lS⟩:=h2.cons_inv
  cases vs with
  |nil=>have:=lS.iE;subst this;simpa [rD] using hv
  |cons v' Xz=>
   obtain ⟨y',ys'',rfl,zL,U8⟩:=lS.cons_inv
   simp[rD]
   exact .jQ (by simpa using aq.cons hv (aq.cons zL U8))
def Hz (P:Program) (tt:TT) (G:T aN):Prop:=
 ∀p F,G.get p=some F-> ∃fn,P.funcs[p.toNat - 1]? =some fn/\(fn.name== "runtime.NumGoroutine")=false/\aj tt fn=some F
def nS (P:Program) (C:Cells) (O:eE):Prop:=
 ∀  (f:FuncId) (s:List AV->St->Option (AV×St)),O f=some s->
    ∀(ρ:Pos->Loc) (st:St) (w:World) (args:List AV) (v:AV) (st':St) (bl:List Value),s args st=some (v,st')->
     bn ρ C st w->aq ρ st.next.toNat C args bl->Reaches P (iX ρ C st w v st') ((callFunc f bl.toArray).run P w)
theorem BC {ρ:Pos->Loc} {n:Nat} {tmps:Array Value}: ∀(vs:List AV) (xs:List Value) (i:Nat) (fr:Fr),aq ρ n C vs xs->
  (∀(j:Nat) (x:Value),xs[j]? =some x->tmps[i+j]? =some x)->kK ρ n C fr tmps->kK ρ n C (params i vs fr) tmps
 |[],_,_,_,_,_,hF=>hF
 |v ::vs,xs,i,fr,h,hx,hF=>by
  obtain ⟨x,pY,rfl,hv,lS⟩:=h.cons_inv
  unfold params
  refine BC vs pY (i+1) _ lS (fun j y hy=>by rw[<-hx (j+1) y (by simpa using hy)];congr 1;omega) fun p u hp=> ?_
  by_cases OY:key i=p
  . subst OY
    rw[T.dZ] at hp
    simp only[Option.some.injEq] at hp;subst hp
    exact ⟨x,by rw[gX,Nat.add_sub_cancel];exact hx 0 x rfl,hv⟩
  . rw[T.bq _ OY] at hp
    exact hF p u hp
theorem FA (hT:bZ P tt) {O:eE} {G:T aN} (hO:nS P C O) (hG:Hz P tt G) (m:Nat) (rR: ∀d,jE P C (lR O G m d)->Dw P tt C (lR O G m d)): ∀d,jE P C (lR O G m d)
 |0=>fun ρ st w f args v st' bl h=>by simp[lR] at h
 |d +   1 =>by
  intro ρ st w f args v st' bl h hW qi
  have ih:=FA hT hO hG m rR d
  unfold lR at h
  split at h
  . rename_i s hs
    exact hO f s hs ρ st w args v st' bl h hW qi
  . split at h<;>first|(cases h;done)|skip
    rename_i F hF
    split at h<;>first|(cases h;done)|skip
    rename_i hlen
    have hlen:=Nat.eq_of_beq_eq_true hlen
    obtain ⟨fn,gM,lT,wG⟩:=hG _ _ hF
    rw[gX,Nat.add_sub_cancel] at gM
    unfold aj at wG
    split at wG<;>first|(cases wG;done)|skip
    rename_i c hb
    split at wG<;>first|(cases wG;done)|skip
    rename_i ac rs Sm OZ hle
    simp only[Option.some.injEq] at wG;subst wG
    simp only at h hlen
    have hle:=Nat.le_of_ble_eq_true hle
    have bH:(callFunc f bl.toArray).run P w= .ok (.enter f bl.toArray) w:=by
        have L5: ¬fn.name= "runtime.NumGoroutine" :=by simpa using lT
        simp[callFunc,gM,L5,hb]
    rw[bH]
    simp only[Reaches]
    refine calls_of_wp gM hb ?_
    have dM:bl.length<=fn.ntmps:=by rw[<-qi.1,hlen];exact hle
    have hS:BA fn.ntmps ρ C (params 0 args .e) st { tmps:=bl.toArray++Array.replicate (fn.ntmps - bl.toArray.size) undef,defers:=[] } w:=by
        refine ⟨hW,?_,?_,rfl⟩
        . refine BC args bl 0 .e qi (fun j x hx=> ?_) (fun p v hp=>by rw[T.cG] at hp;cases hp)
          have hj:j<bl.length:=(List.getElem?_eq_some_iff.1 hx).1
          rw[Nat.zero_add,Array.getElem?_append_left (by simpa using hj)]
          simpa using hx
        . simp;omega
    split at h<;>first|(cases h;done)|skip
    .   rename_i fe bu h1
        split at h<;>first|(cases h;done)|skip
        rename_i vs lS
        simp only[Option.some.injEq,Prod.mk.injEq] at h
        obtain ⟨rfl,rfl⟩:=h
        refine (rS hT ih (rR _ ih) m).1 c ac _ fe st bu .normal ρ _ w _ Sm h1 hS fun a' w' hp=> ?_
        obtain ⟨gF,oY,k1,k2,k3⟩:=hp
        obtain ⟨y,Fk,Fl⟩:=qq hT oY.W oY.F OZ lS
        exact ⟨oY.defers,y,Fk,gF,Fl,k1,k2,oY.W,k3⟩
    .   rename_i fe bu h1
        split at h<;>first|(cases h;done)|skip
        rename_i vs lS
        simp only[Option.some.injEq,Prod.mk.injEq] at h
        obtain ⟨rfl,rfl⟩:=h
        refine (rS hT ih (rR _ ih) m).1 c ac _ fe st bu .ret ρ _ w _ Sm h1 hS fun a' w' hp=> ?_
        obtain ⟨gF,oY,k1,k2,k3⟩:=hp
        obtain ⟨y,Fk,Fl⟩:=qq hT oY.W oY.F OZ lS
        exact ⟨oY.defers,y,Fk,gF,Fl,k1,k2,oY.W,k3⟩
end
end Go.Ai
end
