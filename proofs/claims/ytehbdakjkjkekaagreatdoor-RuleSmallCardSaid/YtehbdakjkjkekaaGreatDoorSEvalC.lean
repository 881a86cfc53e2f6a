/- The evaluator's operations answer as the model's do, second part; regions and calls. -/
import Derived.Test.YtehbdakjkjkekaaGreatDoorSEvalB
import Derived.Laws.IdiomStrings
import Derived.Laws.RangeString
import Derived.Laws.AppendOwn
import Derived.Lib.UnsafeStr
import Derived.Test.YtehbdakjkjkekaaGreatDoorSEvalA
import Derived.Calls
import Derived.LoopN
set_option linter.all false
set_option linter.unusedSectionVars false
set_option linter.deprecated false
section
namespace Go.Ai
open Go Go.RowKit
section
variable {P : Program} {tt : TT} {ρ : Pos -> Loc} {C : Cells} {st : St} {w w' : World}
theorem vM (del:Option Pos) (h:T AB) {b:Pos} {x:AB} (hb:(zT del h).get b=some x):h.get b=some x/\ ∀c,del=some c->b≠c:=by
 cases del with
 |none=>exact ⟨hb,fun _ h=>by cases h⟩
 |some c=>
  by_cases he:c=b
  . subst he;simp only[zT] at hb;rw[T.fj] at hb;cases hb
  . simp only[zT] at hb;rw[T.bN _ he] at hb
    exact ⟨hb,fun d hd=>by cases hd;exact fun e=>he e.symm⟩
theorem uX (hW:bM ρ C st w) {o:Obj} {x0:AB} {base size:Nat} (del:Option Pos) (hh:w'.heap=w.heap.push o) (h1:w'.os=w.os) (h2:w'.tape=w.tape) (h3:w'.output=w.output)
   (hB: ∀ρ' n',(∀b:Pos,b.toNat<st.next.toNat->ρ' b=ρ b)->st.next.toNat<=n'->nG ρ' n' C ⟨w.heap.size,base,size⟩ w' x0):
   ∃ρ':Pos->Loc,(∀b:Pos,b.toNat<st.next.toNat->ρ' b=ρ b)/\ρ' st.next=⟨w.heap.size,base,size⟩/\bM ρ' C (st.aI del none (some x0)) w'/\ni ρ st w ρ' (st.aI del none (some x0)) w':=by
 let ρ':Pos->Loc:=fun b=>if b=st.next then ⟨w.heap.size,base,size⟩ else ρ b
 have aU: ∀b:Pos,b.toNat<st.next.toNat->ρ' b=ρ b:=fun b hb=>if_neg (fun e=>by rw[e] at hb;omega)
 have dI:ρ' st.next=⟨w.heap.size,base,size⟩:=if_pos rfl
 have fh:w'.heap.size=w.heap.size+1:=by rw[hh];simp
 have hold: ∀k,k<w.heap.size->w'.heap[k]? =w.heap[k]? :=fun k hk=>by rw[hh,Array.getElem?_push,if_neg (by omega)]
 refine ⟨ρ',aU,dI,?_,⟨h1,h2,h3,by omega,fun k hk _=>hold k hk,fun b x hb=> ?_⟩⟩
 rotate_left
 . by_cases he:b=st.next
   . right;rw[he,dI];exact Nat.le_refl _
   . left
     simp only[St.aI,Bf] at hb
     rw[T.bN _ (fun e=>he e.symm)] at hb
     have gV:=(vM del _ hb).1
     exact ⟨b,x,gV,by rw[aU b (hW.live b x gV).1]⟩
 refine hW.P4 (b0:=st.next) (x0:=x0) (by rw[Pos.aG];omega) (by rw[Pos.aG];omega) (by rw[T.fj]) ?_ aU (by rw[dI];exact hB _ _ aU (by rw[Pos.aG];omega)) ?_ (by rw[dI,fh];simp) (by omega) (fun k hk _=>hold k hk)
 . intro b x hb hx
   rw[T.bN _ (fun e=>hb e.symm)] at hx
   have hx:=(vM del _ hx).1
   refine ⟨hx,?_⟩
   rw[dI]
   have:=(hW.live b x hx).2.1
   simp only;omega
 . intro a v ha
   have:=World.block_lt_of_cell? _ _ (hW.dc a v ha).1
   rw[dI];simp only;omega
theorem LL (hW:bM ρ C st w) {b:Pos} {x x0:AB} (hb:st.heap.get b=some x) (h1:w'.os=w.os) (h2:w'.tape=w.tape) (h3:w'.output=w.output) (fh:w'.heap.size=w.heap.size)
   (vK: ∀k,k≠(ρ b).aF->w'.heap[k]? =w.heap[k]?) (hB:nG ρ st.next.toNat C (ρ b) w' x0):
   bM ρ C (st.aI none (some (b,x0)) none) w'/\ni ρ st w ρ (st.aI none (some (b,x0)) none) w':=by
 obtain ⟨bI,kS,_⟩:=hW.live b x hb
 refine ⟨?_,⟨h1,h2,h3,by omega,fun k _ hk=>vK k (fun e=>hk b x hb e.symm),fun c y hc=> ?_⟩⟩
 rotate_left
 . left
   by_cases he:c=b
   . exact ⟨b,x,hb,by rw[he]⟩
   . simp only[St.aI,Bf,zT] at hc
     rw[T.bN _ (fun e=>he e.symm)] at hc
     exact ⟨c,y,hc,rfl⟩
 refine hW.P4 (b0:=b) (x0:=x0) (Nat.le_refl _) bI (by simp only[Bf,zT];rw[T.fj]) ?_ (fun _ _=>rfl) hB ?_ (by omega) (by omega) (fun k _ hk=>vK k hk)
 . intro c y hc hy
   simp only[Bf,zT] at hy
   rw[T.bN _ (fun e=>hc e.symm)] at hy
   exact ⟨hy,fun e=>hc (hW.inj _ _ _ _ hy hb e)⟩
 . exact fun a v ha e=>(hW.dc a v ha).2 b x hb e.symm
theorem qK {cs:List AV} {c:Array Value} {e:TypeId} {fr:Nat×Nat} {g:Nat} {n:Nat} (hg:w'.heap[g]? =some (.cells c e fr)) (hle:cs.length<=c.size) (hv:az ρ n C cs (c.toList.take cs.length))
  (hf: ∀i,i<c.size-> ¬(fr.1<=i/\i<fr.2)):nG ρ n C ⟨g,0,c.size⟩ w' (.cells cs 0):=
 ⟨c,e,fr,hg,rfl,by simpa using hle,by simpa using hv,fun i _ hi=>by simpa using hf i (by simpa using hi)⟩
theorem WX (hT:dh P tt) (t:TypeId):dO P tt (.alloc t):=by
 intro ρ C st w k xs cls fr a o vs res ho hc hW hF hx hr
 simp only[gU] at hc
 split at hc<;>first|(cases hc;done)|skip
 rename_i ti dV
 split at hc<;>first|(cases hc;done)|skip
 rename_i z hz
 split at hc
 . cases hc
   simp only[eY,Option.some.injEq] at hx;subst hx
   simp only[aE.run,CM,Option.some.injEq] at hr;subst hr
   obtain ⟨zv,xR,_,rN⟩:=tA hT dV hz (ρ:=ρ) (n:=st.next.toNat) (C:=C) w
   have hl:z.length=zv.cells.size:=by simpa using rN.1
   obtain ⟨ρ',aU,dI,eF,hE⟩:=uX (w':=w.alloc (.cells zv.cells t)) (o:= .cells zv.cells t) (x0:= .typed t z) (base:=0) (size:=zv.cells.size) hW none rfl rfl rfl rfl (fun ρ' n' aU hn=>
     ⟨zv.cells,(0,0),by show (w.heap.push _)[w.heap.size]? =_;simp,rfl,by simp only[Nat.zero_add];omega,by rw[hl,List.drop_zero,List.take_of_length_le (by simp)];exact rN.mono aU hn,fun i _=>by simp,rfl⟩)
   refine ⟨_,.pointer (some ⟨w.heap.size,0,none⟩),_,ρ',?_,Yields.value _,aU,eF,?_,hE⟩
   . simp[execOp,ho,Instr.alloc,xR,newVar,newRow]
   . have:=aA.ptr (ρ:=ρ') (n:=(st.aI none none (some (.typed t z))).next.toNat) (C:=C) st.next 0 (by simp[St.aI,Pos.aG])
     rw[dI] at this;simpa using this
 cases hc
 simp only[eY,Option.some.injEq] at hx;subst hx
 simp only[aE.run,E0,Option.some.injEq] at hr;subst hr
 obtain ⟨zv,xR,_,rN⟩:=tA hT dV hz (ρ:=ρ) (n:=st.next.toNat) (C:=C) w
 have hl:z.length=zv.cells.size:=by simpa using rN.1
 obtain ⟨ρ',aU,dI,eF,hE⟩:=uX (w':=w.alloc (.cells zv.cells t)) (o:= .cells zv.cells t) (x0:= .cells z 0) (base:=0) (size:=zv.cells.size) hW none rfl rfl rfl rfl (fun ρ' n' aU hn=>
   qK (w':=w.alloc (.cells zv.cells t)) (e:=t) (fr:=(0,0)) (by show (w.heap.push _)[w.heap.size]? =_;simp) (by omega) (by rw[hl,List.take_of_length_le (by simp)];exact rN.mono aU hn) (fun i _=>by simp))
 refine ⟨_,.pointer (some ⟨w.heap.size,0,none⟩),_,ρ',?_,Yields.value _,aU,eF,?_,hE⟩
 . simp[execOp,ho,Instr.alloc,xR,newVar,newRow]
 . have:=aA.ptr (ρ:=ρ') (n:=(st.aI none none (some (.cells z 0))).next.toNat) (C:=C) st.next 0 (by simp[St.aI,Pos.aG])
   rw[dI] at this;simpa using this
theorem abr (t:TypeId) (x:Operand):dO P tt (.box t x):=by
 intro ρ C st w k xs cls fr a o vs res ho hc hW hF hx hr
 simp only[gU] at hc
 split at hc<;>first|(cases hc;done)|skip
 rename_i b hb
 cases hc
 obtain ⟨v,rfl,hv⟩:=fJ hb hF hx
 simp only[aE.run,Lx,Option.some.injEq] at hr;subst hr
 have rN:=hv.cells
 have hl:v.cells.length=(a.eval x).cells.size:=by simpa using rN.1
 obtain ⟨ρ',aU,dI,eF,hE⟩:=uX (w':=w.alloc (.cells (a.eval x).cells t)) (o:= .cells (a.eval x).cells t) (x0:= .cells v.cells 0) (base:=0) (size:=(a.eval x).cells.size) hW none rfl rfl rfl rfl (fun ρ' n' aU hn=>
   qK (w':=w.alloc (.cells (a.eval x).cells t)) (e:=t) (fr:=(0,0)) (by show (w.heap.push _)[w.heap.size]? =_;simp) (by omega) (by rw[hl,List.take_of_length_le (by simp)];exact rN.mono aU hn) (fun i _=>by simp))
 refine ⟨_,.pointer (some ⟨w.heap.size,0,none⟩),_,ρ',?_,Yields.value _,aU,eF,?_,hE⟩
 . simp[execOp,ho,Instr.box,newVar,newRow]
 . have:=aA.ptr (ρ:=ρ') (n:=(st.aI none none (some (.cells v.cells 0))).next.toNat) (C:=C) st.next 0 (by simp[St.aI,Pos.aG])
   rw[dI] at this;simpa using this
theorem DF {n:Nat} {z:List AV} {zs:List Value} (h:az ρ n C z zs): ∀m,az ρ n C (dG z m) (dG zs m)
 |0=>az.nil
 |m+1=>h.append (DF h m)
theorem jZ {α:Type} (z:List α): ∀m,(dG z m).length=m*z.length
 |0=>by simp[dG]
 |m+1=>by simp[dG,jZ z m,Nat.add_mul,Nat.add_comm]
theorem JP {α:Type} (z:List α): ∀(m i:Nat),i<m*z.length->(dG z m)[i]? =z[i % z.length]?
 |0,i,h=>by simp at h
 |m +1,i,h=>by
  simp only[dG]
  by_cases hi:i<z.length
  . rw[List.getElem?_append_left hi,Nat.mod_eq_of_lt hi]
  . have hi:z.length<=i:=by omega
    rw[List.getElem?_append_right hi,JP z m _ (by rw[Nat.add_mul] at h;omega)]
    congr 1
    rw[<-Nat.mod_eq_sub_mod hi]
theorem Qf (z:Array Value) (m:Nat) (hz:0<z.size):((Array.range (m*z.size)).map (z[· % z.size]!)).toList=dG z.toList m:=by
 apply List.ext_getElem?
 intro i
 by_cases hi:i<m*z.size
 . rw[JP _ _ _ (by simpa using hi)]
   have bI:i % z.size<z.size:=Nat.mod_lt _ hz
   simp[hi,bI]
 . rw[List.getElem?_eq_none (by simp;omega),List.getElem?_eq_none (by rw[jZ];simp;omega)]
theorem tB {ρ':Pos->Loc} {b:Pos} {n g len es aL size:Nat} {cap:Option Nat} (hb:b.toNat<n) (aU:ρ' b=⟨g,0,size⟩) (hl:len<=aL) (hc: ∀c,cap=some c->c=aL) (hs:aL*es<=size):
  aA ρ' n C (.slice b 0 len cap es) (.slice (some ⟨g,0,none⟩) len aL):=
 .slice _ _ _ _ _ _ _ hl hc (fun _=>⟨hb,by rw[aU],by rw[aU];simpa using hs⟩) (fun _=>hb)
theorem LM {z:List AV} {zv:Value} {n m size:Nat} (rN:az ρ n C z zv.cells.toList) (hl:z.length=size):
   az ρ n C (dG z m) ((Array.range (m*size)).map ((if m*size=0 then (#[]:Array Value) else zv.cells)[· % (if m*size=0 then (#[]:Array Value) else zv.cells).size]!)).toList/\
   ((Array.range (m*size)).map ((if m*size=0 then (#[]:Array Value) else zv.cells)[· % (if m*size=0 then (#[]:Array Value) else zv.cells).size]!)).size=m*size:=by
 refine ⟨?_,by simp⟩
 by_cases h0:m*size=0
 . have:dG z m=[]:=by apply List.eq_nil_of_length_eq_zero;rw[jZ,hl];exact h0
   rw[this]
   have:(Array.range (m*size))= #[]:=by rw[h0];rfl
   rw[this];simpa using (az.nil:az ρ n C [] [])
 . rw[if_neg h0]
   have N7:zv.cells.size=size:=by have:=rN.1;simp at this;omega
   have Qg:0<zv.cells.size:=by
    rw[N7];rcases Nat.eq_zero_or_pos size with h|h
    . rw[h] at h0;simp at h0
    . exact h
   have:=Qf zv.cells m Qg
   rw[N7] at this ⊢
   rw[this]
   exact DF rN m
theorem abt {k:IntKind} {i:Int} (h1:xO k<=i) (h2:i<=T9 k):k.wrap i=i:=by
 rw[<-tv]
 unfold aY
 split
 . split
   . rfl
   . exact absurd h2 (by assumption)
 . exact absurd h1 (by assumption)
theorem Qh {j:Nat} (h:j<=9223372036854775807):IntKind.i64.wrap (j:Int)=(j:Int):=abt (by simp only[xO];omega) (by simp only[T9];omega)
theorem Ts (hT:dh P tt) (t:TypeId) (l c:Operand):dO P tt (.makeSlice t l c):=by
 intro ρ C st w k xs cls fr a o vs res ho hc hW hF hx hr
 simp only[gU] at hc
 split at hc<;>first|(cases hc;done)|skip
 rename_i ti l0 dV hl
 split at hc<;>first|(cases hc;done)|skip
 rename_i e hk
 split at hc<;>first|(cases hc;done)|skip
 rename_i te fY
 split at hc<;>first|(cases hc;done)|skip
 rename_i z hz
 cases hc
 obtain ⟨d,hd,cM⟩:=(hT.at dV).und
 rw[hk] at cM;rw[ob cM] at hd
 obtain ⟨i0,mG,lR,hib,xQ⟩:=(hT.at fY).info
 obtain ⟨u,v,rfl,h1,h2⟩:=Nd hl hF hx
 simp only[aE.run,Au] at hr
 split at hr<;>first|(cases hr;done)|skip
 rename_i jl jc hjl hjc
 split at hr<;>first|(cases hr;done)|skip
 rename_i e1 e2 e3
 have e1:=Nat.le_of_ble_eq_true e1
 have e2:=Nat.le_of_ble_eq_true e2
 have e3:=Nat.le_of_ble_eq_true e3
 simp only[Option.some.injEq] at hr;subst hr
 obtain ⟨kl,hkl⟩:=kF h1 hjl
 obtain ⟨kc,Ui⟩:=kF h2 hjc
 obtain ⟨zv0,hzv0,_,LN,_⟩:=xQ z hz
 obtain ⟨zv,xR,_,rN⟩:=tA hT fY hz (ρ:=ρ) (n:=st.next.toNat) (C:=C) w
 obtain ⟨Bp,Nf⟩:=LM (m:=jc) rN LN
 generalize fO:(Array.range (jc*te.size)).map ((if jc*te.size=0 then (#[]:Array Value) else zv.cells)[· % (if jc*te.size=0 then (#[]:Array Value) else zv.cells).size]!)=row at Bp Nf
 obtain ⟨ρ',aU,dI,eF,hE⟩:=uX (w':=w.alloc (.cells row e)) (o:= .cells row e) (x0:= .cells (dG z jc) 0) (base:=0) (size:=row.size) hW none rfl rfl rfl rfl (fun ρ' n' aU hn=>
   qK (w':=w.alloc (.cells row e)) (e:=e) (fr:=(0,0)) (by show (w.heap.push _)[w.heap.size]? =_;simp) (by rw[jZ,Nf,LN];exact Nat.le_refl _)
    (by rw[jZ,LN, <-Nf, <-Array.length_toList,List.take_length];exact Bp.mono aU hn) (fun i _=>by simp))
 refine ⟨_,.slice (some ⟨w.heap.size,0,none⟩) jl jc,_,ρ',?_,Yields.value _,aU,eF,?_,hE⟩
 . have cH:=Qh (Nat.le_trans e1 e3)
   have gm:=Qh e3
   have hb: ¬((te.bytes:Int)*(jc:Int)>2 ^ 48):=by
    have h:=Int.ofNat_le.2 e2
    rw[Int.natCast_mul] at h
    exact Int.not_lt.2 h
   have cA:(Instr.makeSlice t (.int kl jl) (.int kc jc)).run P w= .ok (.slice (some ⟨w.heap.size,0,none⟩) jl jc) (w.alloc (.cells row e)):=by
    unfold Instr.makeSlice
    simp only[Sem.run_bind,aQ hd,Result.andThen_ok,asInt,asIntOf,Sem.run_pure,PZ mG,cH,gm,hib]
    have ah6: ¬((decide ((jc:Int)<0)||decide ((te.bytes:Int)*(jc:Int)>2 ^ 48)||decide ((jl:Int)<0)||decide ((jl:Int)>(jc:Int)))=true):=by
        simp only[Bool.or_eq_true,decide_eq_true_eq]
        rintro (((h|h)|h)|h)
        . omega
        . exact hb h
        . omega
        . omega
    rw[if_neg ah6]
    simp only[Sem.run_bind,run_askRoom,Result.andThen_ok,jq mG,lR,Int.toNat_natCast]
    rw[<-fO]
    by_cases h0:jc*te.size=0
    .   simp only[h0,if_true,Sem.run_bind,Sem.run_pure,Result.andThen_ok,newRow,run_newObj,World.alloc_eq]
    .   simp only[h0,if_false,Sem.run_bind,Sem.run_pure,Result.andThen_ok,xR,newRow,run_newObj,World.alloc_eq]
   simp[execOp,ho,hkl,Ui,cA]
 . exact tB (by simp[St.aI,Pos.aG]) dI e1 (fun c hc=>by cases hc;rfl) (by rw[Nf];exact Nat.le_refl _)
theorem Ng (hT:dh P tt) (t:TypeId) (len:Nat) (ps:Array (Nat×Operand)):dO P tt (.buildSlice t len ps):=by
 intro ρ C st w k xs cls fr a o vs res ho hc hW hF hx hr
 simp only[gU] at hc
 split at hc<;>first|(cases hc;done)|skip
 rename_i ti l0 dV hl
 split at hc<;>first|(cases hc;done)|skip
 rename_i e hk
 split at hc<;>first|(cases hc;done)|skip
 rename_i te fY
 split at hc<;>first|(cases hc;done)|skip
 rename_i z hz hlim
 have hlim:=Nat.le_of_ble_eq_true hlim
 cases hc
 obtain ⟨d,hd,cM⟩:=(hT.at dV).und
 rw[hk] at cM;rw[ob cM] at hd
 obtain ⟨i0,mG,lR,hib,xQ⟩:=(hT.at fY).info
 have hv:=fk hl hF hx
 simp only[aE.run,rJ] at hr
 split at hr<;>first|(cases hr;done)|skip
 rename_i cs Jd
 simp only[Option.some.injEq] at hr;subst hr
 obtain ⟨zv0,hzv0,_,LN,_⟩:=xQ z hz
 obtain ⟨zv,xR,_,rN⟩:=tA hT fY hz (ρ:=ρ) (n:=st.next.toNat) (C:=C) w
 obtain ⟨Bp,Nf⟩:=LM (m:=len) rN LN
 generalize fO:(Array.range (len*te.size)).map ((if len*te.size=0 then (#[]:Array Value) else zv.cells)[· % (if len*te.size=0 then (#[]:Array Value) else zv.cells).size]!)=row at Bp Nf
 have Uh:(ps.map fun (i,x)=>(i,a.eval x)).toList=ps.toList.map fun x=>(x.1,a.eval x.2):=by simp
 obtain ⟨ql,e1,e2⟩:=Ky (fun i=>some (i*te.size,te.size)) Jd Bp (ps:=ps.toList.map fun x=>(x.1,a.eval x.2)) (by simpa [List.map_map,Function.comp_def] using hv) (by simp[List.map_map,Function.comp_def])
 have hlen:cs.length=ql.size:=by simpa using e2.1
 have Je: ∀{pp:List (Nat×Nat)} {vs cells r:List AV},dY cells pp vs=some r->r.length=cells.length:=by
   intro pp
   induction pp with
   |nil=>intro vs cells r h;unfold dY at h;split at h<;>first|(cases h;done)|(simp only[Option.some.injEq] at h;subst h;rfl)|(rename_i hh;cases hh)
   |cons p pp ih=>
    intro vs cells r h
    unfold dY at h
    split at h<;>first|(cases h;done)|(rename_i hh;cases hh;done)|skip
    rename_i hh
    simp only[List.cons.injEq] at hh
    obtain ⟨rfl,rfl⟩:=hh
    split at h<;>first|(cases h;done)|skip
    rename_i g1 g2
    have g1:=Nat.eq_of_beq_eq_true g1
    have g2:=Nat.le_of_ble_eq_true g2
    rw[ih h];simp[aV];omega
 have hcsl:=Je Jd
 rw[jZ,LN] at hcsl
 obtain ⟨ρ',aU,dI,eF,hE⟩:=uX (w':=w.alloc (.cells ql e)) (o:= .cells ql e) (x0:= .cells cs 0) (base:=0) (size:=ql.size) hW none rfl rfl rfl rfl (fun ρ' n' aU hn=>
   qK (w':=w.alloc (.cells ql e)) (e:=e) (fr:=(0,0)) (by show (w.heap.push _)[w.heap.size]? =_;simp) (by omega)
    (by rw[hlen, <-Array.length_toList,List.take_length];exact e2.mono aU hn) (fun i _=>by simp))
 refine ⟨_,.slice (some ⟨w.heap.size,0,none⟩) len len,_,ρ',?_,Yields.value _,aU,eF,?_,hE⟩
 . have cA:(Instr.buildSlice t len (ps.map fun (i,x)=>(i,a.eval x))).run P w= .ok (.slice (some ⟨w.heap.size,0,none⟩) len len) (w.alloc (.cells ql e)):=by
    unfold Instr.buildSlice
    simp only[Sem.run_bind,aQ hd,Result.andThen_ok,jq mG,lR]
    rw[if_neg (by omega)]
    by_cases h0:len*te.size=0
    .   simp only[h0,if_true,Sem.run_bind,Sem.run_pure,Result.andThen_ok]
        simp only[h0,if_true] at fO
        rw[fO,Uh,e1]
        simp only[newRow,Sem.run_bind,run_newObj,World.alloc_eq,Result.andThen_ok,Sem.run_pure]
    .   simp only[h0,if_false,Sem.run_bind,Sem.run_pure,Result.andThen_ok,xR]
        simp only[h0,if_false] at fO
        rw[fO,Uh,e1]
        simp only[newRow,Sem.run_bind,run_newObj,World.alloc_eq,Result.andThen_ok,Sem.run_pure]
   simp only[execOp,ho,Sem.run_bind]
   rw[cA];rfl
 . exact tB (by simp[St.aI,Pos.aG]) dI (Nat.le_refl _) (fun c hc=>by cases hc;rfl) (by omega)
theorem WY (t:TypeId) (r:Option Operand) (hT:dh P tt):dO P tt (.makeMap t r):=by
 intro ρ C st w k xs cls fr a o vs res ho hc hW hF hx hr
 have key:k= .mkMap/\(execOp a.eval o).run P w= .ok (.value (.map (some w.heap.size))) (w.alloc (.map #[] 0)):=by
  simp only[gU] at hc
  split at hc<;>first|(cases hc;done)|skip
  rename_i ti dV
  obtain ⟨d,hd,cM⟩:=(hT.at dV).und
  split at hc<;>first|(cases hc;done)|skip
  . cases hc
    exact ⟨rfl,by simp[execOp,ho,Instr.makeMap]⟩
  . rename_i hk
    rw[hk] at cM;rw[H6 cM] at hd
    cases hc
    exact ⟨rfl,by simp[execOp,ho,Instr.makeMap,aQ hd,Act.eval,asInt,asIntOf]⟩
 obtain ⟨rfl,cA⟩:=key
 simp only[aE.run,E3,Option.some.injEq] at hr;subst hr
 obtain ⟨ρ',aU,dI,eF,hE⟩:=uX (w':=w.alloc (.map #[] 0)) (o:= .map #[] 0) (x0:= .map [] 0) (base:=0) (size:=0) hW none rfl rfl rfl rfl (fun ρ' n' aU hn=>
  ⟨#[],by show (w.heap.push _)[w.heap.size]? =_;simp,rfl,fun i e e' h=>by simp at h⟩)
 refine ⟨_,_,_,ρ',cA,Yields.value _,aU,eF,?_,hE⟩
 have:=aA.map (ρ:=ρ') (n:=(st.aI none none (some (.map [] 0))).next.toNat) (C:=C) st.next (by simp[St.aI,Pos.aG])
 rw[dI] at this;exact this
theorem Vn (hT:dh P tt) (t:TypeId) (x:Operand):dO P tt (.range t x):=by
 intro ρ C st w k xs cls fr a o vs res ho hc hW hF hx hr
 simp only[gU] at hc
 split at hc<;>first|(cases hc;done)|skip
 rename_i ti b dV hb
 split at hc<;>first|(cases hc;done)|skip
 rename_i hk
 cases hc
 obtain ⟨d,hd,cM⟩:=(hT.at dV).und
 rw[hk] at cM;rw[nQ cM] at hd
 obtain ⟨v,rfl,hv⟩:=fJ hb hF hx
 simp only[aE.run,CL] at hr
 split at hr<;>first|(cases hr;done)|skip
 rename_i s
 simp only[Option.some.injEq] at hr;subst hr
 obtain ⟨bs,he,hs⟩:=hv.dN
 obtain ⟨ρ',aU,dI,eF,hE⟩:=uX (w':=w.alloc (.stringIter bs 0)) (o:= .stringIter bs 0) (x0:= .kY s 0) (base:=0) (size:=0) hW none rfl rfl rfl rfl (fun ρ' n' aU hn=>
   ⟨bs,by show (w.heap.push _)[w.heap.size]? =_;simp,hs,rfl⟩)
 refine ⟨_,.pointer (some ⟨w.heap.size,0,none⟩),_,ρ',?_,Yields.value _,aU,eF,?_,hE⟩
 . simp[execOp,ho,he,Instr.range,aQ hd]
 . have:=aA.ptr (ρ:=ρ') (n:=(st.aI none none (some (.kY s 0))).next.toNat) (C:=C) st.next 0 (by simp[St.aI,Pos.aG])
   rw[dI] at this;simpa using this
theorem O6 (hT:dh P tt) (src dst:TypeId) (x:Operand) (hb: ∃xs cls,gU tt (.convert src dst x)=some (.conv .bytes,xs,cls)):dO P tt (.convert src dst x):=by
 intro ρ C st w k xs cls fr a o vs res ho hc hW hF hx hr
 obtain ⟨_,_,gV⟩:=hb
 rw[hc] at gV
 simp only[Option.some.injEq,Prod.mk.injEq] at gV
 obtain ⟨rfl,_⟩:=gV
 simp only[gU] at hc
 split at hc<;>first|(cases hc;done)|skip
 rename_i s d b hs hd hb
 obtain ⟨ds,Bn,El⟩:=(hT.at hs).und
 obtain ⟨dd,hdd,cM⟩:=(hT.at hd).und
 split at hc<;>first|(cases hc;done)|skip
 . rename_i e h1 h2
   split at hc<;>first|(cases hc;done)|skip
   rename_i te fY
   split at hc<;>first|(cases hc;done)|skip
   rename_i Qa
   cases hc
   rw[h1] at El;rw[h2] at cM
   rw[nQ El] at Bn;rw[ob cM] at hdd
   obtain ⟨de,WT,WU⟩:=(hT.at fY).und
   rw[Qa] at WU;rw[Ef WU] at WT
   obtain ⟨v,rfl,hv⟩:=fJ hb hF hx
   simp only[aE.run,uv] at hr
   split at hr<;>first|(cases hr;done)|(rename_i heq;cases heq;done)|(rename_i heq;cases heq)
   rename_i u
   simp only[Option.some.injEq] at hr;subst hr
   obtain ⟨bs,he,hs⟩:=hv.dN
   have cA:=run_bytes_of_string (P:=P) w src dst e bs Bn hdd WT
   have yh:bs.size<=grownCap w bs.size 0 e:=by unfold grownCap Question.cut;exact Nat.le_add_right _ _
   generalize grownCap w bs.size 0 e=cap at cA yh
   have fh:(bytesRow bs cap).size=cap:=by
     have:bs.data.size=bs.size:=rfl
     simp[bytesRow,this];omega
   have Uj:u.length=bs.size:=(vL hs).symm
   have hrel: ∀ρ' n',az ρ' n' C (u.map fun c=>AV.int .u8 (.ofNat c)) ((bytesRow bs cap).toList.take (u.map fun c=>AV.int .u8 (.ofNat c)).length):=by
     intro ρ' n'
     have h1:(bytesRow bs cap).toList.take (u.map fun c=>AV.int .u8 (.ofNat c)).length=u.map fun c=>Value.int .u8 (.ofNat c):=by
        have hdl:bs.data.toList.length=bs.size:=by simp
        rw[List.length_map,Uj]
        simp only[bytesRow,Array.toList_append,Array.toList_map]
        rw[List.take_left' (by simp), <-hs,List.map_map]
        rfl
     rw[h1]
     refine ⟨by simp,fun i v x hv hx=> ?_⟩
     simp only[List.getElem?_map,Option.map_eq_some_iff] at hv hx
     obtain ⟨c,hc,rfl⟩:=hv
     obtain ⟨c',tD,rfl⟩:=hx
     rw[hc] at tD;cases tD
     exact .int _ _
   obtain ⟨ρ',aU,dI,eF,hE⟩:=uX (w':=w.drew.alloc (.cells (bytesRow bs cap) e ((bytesRow bs cap).size,(bytesRow bs cap).size+1))) (o:= .cells (bytesRow bs cap) e ((bytesRow bs cap).size,(bytesRow bs cap).size+1))
     (x0:= .cells (u.map fun c=>AV.int .u8 (.ofNat c)) 0) (base:=0) (size:=(bytesRow bs cap).size) hW none rfl rfl rfl rfl (fun ρ' n' aU hn=>
     qK (e:=e) (fr:=((bytesRow bs cap).size,(bytesRow bs cap).size+1)) (by show (w.heap.push _)[w.heap.size]? =_;simp) (by rw[List.length_map,Uj,fh];exact yh) (hrel _ _) (fun i hi=>by simp;omega))
   refine ⟨_,.slice (some ⟨w.heap.size,0,none⟩) u.length cap,_,ρ',?_,Yields.value _,aU,eF,?_,hE⟩
   . simp only[execOp,ho,he,Sem.run_bind]
     rw[cA,Uj];rfl
   . exact tB (by simp[St.aI,Pos.aG]) dI (by omega) (fun c hc=>by cases hc) (by omega)
 all_goals
   repeat' split at hc
   all_goals (cases hc;done)
end
end Go.Ai
end
section
namespace Go.Ai
open Go Go.RowKit
section
variable {P : Program} {tt : TT} {ρ : Pos -> Loc} {C : Cells} {st : St} {w w' : World}
theorem wR {n:Nat}: ∀{l:List AV} {ys:List Value},cS l=true->az ρ n C l ys-> ∀y∈ys,y.oneCell'=true
 |[],ys,_,h=>by have:=h.kQ;subst this;simp
 |v::l,ys,h1,h=>by
  unfold cS at h1
  split at h1<;>first|(cases h1;done)|skip
  rename_i ho
  obtain ⟨y,ys',rfl,hv,hs⟩:=h.cons_inv
  intro z hz
  simp at hz
  rcases hz with rfl|hz
  . cases hv<;>first|rfl|(simp[AV.one] at ho;done)
  . exact wR h1 hs z hz
theorem Ay {α:Type} (l:List α) {i:Nat} (vs:List α) (hi:i<=l.length) (k:Nat):(aV l i vs)[k]? =if k<i then l[k]? else if k<i+vs.length then vs[k - i]? else l[k]? :=by
 unfold aV
 have hl:(l.take i).length=i:=by simp;omega
 split
 . rename_i h;rw[List.getElem?_append_left (by omega),List.getElem?_take,if_pos h]
 . rename_i h
   rw[List.getElem?_append_right (by omega),hl]
   split
   . rename_i h';rw[List.getElem?_append_left (by omega)]
   . rename_i h'
     rw[List.getElem?_append_right (by omega),List.getElem?_drop]
     congr 1;omega
theorem DG {α:Type} (l:List α) (b off:Nat) (vs:List α) (h:b+off<=l.length):(aV l (b+off) vs).drop b=aV (l.drop b) off vs:=by
 apply List.ext_getElem?
 intro k
 rw[List.getElem?_drop,Ay l vs h,Ay (l.drop b) vs (by simp;omega),List.getElem?_drop]
 by_cases h1:k<off
 . rw[if_pos (by omega),if_pos h1]
 . rw[if_neg (by omega),if_neg h1]
   by_cases h2:k<off+vs.length
   . rw[if_pos (by omega),if_pos h2];congr 1;omega
   . rw[if_neg (by omega),if_neg h2]
theorem JQ {α:Type} (l:List α) (off m:Nat) (vs:List α) (h:off+vs.length<=m) (h':m<=l.length):(aV l off vs).take m=aV (l.take m) off vs:=by
 apply List.ext_getElem?
 intro k
 rw[List.getElem?_take,Ay l vs (by omega),Ay (l.take m) vs (by simp;omega),List.getElem?_take]
 by_cases h1:k<off
 . rw[if_pos (by omega),if_pos h1,if_pos h1,if_pos (by omega)]
 . by_cases h2:k<off+vs.length
   . rw[if_pos (by omega),if_neg h1,if_pos h2,if_neg h1,if_pos h2]
   . rw[if_neg h1,if_neg h2,if_neg h1,if_neg h2]
theorem Fi (hW:bM ρ C st w) {b:Pos} {cs vs:List AV} {fz off:Nat} {ys:List Value} (hb:st.heap.get b=some (.cells cs fz)) (hle:off+vs.length<=cs.length) (WJ:fz<=off)
   (h1:cS vs=true) (hv:az ρ st.next.toNat C vs ys):
   ∃w',(storeCells ⟨(ρ b).aF,(ρ b).base+off,none⟩ ys).run P w= .ok () w'/\bM ρ C (st.aI none (some (b,.cells (aV cs off vs) fz)) none) w'/\ni ρ st w ρ (st.aI none (some (b,.cells (aV cs off vs) fz)) none) w':=by
 obtain ⟨_,_,c,e,fr,g1,g2,g3,g4,g5⟩:=hW.live b _ hb
 have hl:vs.length=ys.length:=hv.1
 obtain ⟨w',e1,e2,e3,e4,e5,e6,e7⟩:=lg (P:=P) (ρ b).aF e fr ys 0 ((ρ b).base+off) c w g1 (by omega) (wR h1 hv) (fun k hk qI=>by
   have:=g5 (k - (ρ b).base) (by omega) (by omega)
   rwa [show (ρ b).base+(k - (ρ b).base)=k from by omega] at this)
 simp only[Nat.add_zero] at e1 e2
 refine ⟨w',e1,?_⟩
 have hlen:(aV cs off vs).length=cs.length:=by simp[aV];omega
 refine LL hW hb e5 e6 e7 e3 e4 ⟨_,e,fr,e2,?_,?_,?_,fun i hi Qi=>g5 i hi ?_⟩
 . simp[aV];omega
 . rw[hlen];simp[aV];omega
 . rw[hlen]
   rw[DG _ _ _ _ (by simp;omega),JQ _ _ _ _ (by omega) (by simp;omega)]
   exact g4.aV hv off
 . simp[aV] at Qi;omega
theorem WZ (hW:bM ρ C st w) {b:Pos} {cs vs:List AV} {t:TypeId} {off:Nat} {ys:List Value} (hb:st.heap.get b=some (.typed t cs)) (hle:off+vs.length<=cs.length)
   (h1:cS vs=true) (hv:az ρ st.next.toNat C vs ys):
   ∃w',(storeCells ⟨(ρ b).aF,(ρ b).base+off,none⟩ ys).run P w= .ok () w'/\bM ρ C (st.aI none (some (b,.typed t (aV cs off vs))) none) w'/\ni ρ st w ρ (st.aI none (some (b,.typed t (aV cs off vs))) none) w':=by
 obtain ⟨_,_,c,fr,g1,g2,g3,g4,g5,g6⟩:=hW.live b _ hb
 have hl:vs.length=ys.length:=hv.1
 obtain ⟨w',e1,e2,e3,e4,e5,e6,e7⟩:=lg (P:=P) (ρ b).aF t fr ys 0 ((ρ b).base+off) c w g1 (by omega) (wR h1 hv) (fun k hk qI=>by
   have:=g5 (k - (ρ b).base) (by omega) (by omega)
   rwa [show (ρ b).base+(k - (ρ b).base)=k from by omega] at this)
 simp only[Nat.add_zero] at e1 e2
 refine ⟨w',e1,?_⟩
 have hlen:(aV cs off vs).length=cs.length:=by simp[aV];omega
 refine LL hW hb e5 e6 e7 e3 e4 ⟨_,fr,e2,?_,?_,?_,fun i hi Qi=>g5 i hi ?_,g6⟩
 . simp[aV];omega
 . rw[hlen];simp[aV];omega
 . rw[hlen]
   rw[DG _ _ _ _ (by simp;omega),JQ _ _ _ _ (by omega) (by simp;omega)]
   exact g4.aV hv off
 . simp[aV] at Qi;omega
theorem aA.vN {n:Nat}:aA ρ n C .undef undef:= .tuple [] #[] rfl (fun _ _ _ h=>by simp at h)
theorem W4 (hT:dh P tt) (t:TypeId) (x y:Operand):dO P tt (.store t x y):=by
 intro ρ C st w k xs cls fr a o vs res ho hc hW hF hx hr
 simp only[gU] at hc
 split at hc<;>first|(cases hc;done)|skip
 rename_i ti l dV hl
 cases hc
 obtain ⟨p,v,rfl,h1,h2⟩:=Nd hl hF hx
 obtain ⟨i0,mG,lR,_⟩:=(hT.at dV).info
 simp only[aE.run,ya] at hr
 split at hr<;>first|(cases hr;done)|skip
 rename_i b off
 split at hr<;>first|(cases hr;done)|skip
 rotate_left
 . rename_i t0 cs hb
   split at hr<;>first|(cases hr;done)|skip
   rename_i e1 e2 e4
   have e1:=Nat.eq_of_beq_eq_true e1
   have e2:=Nat.le_of_ble_eq_true e2
   simp only[Option.some.injEq] at hr;subst hr
   obtain ⟨_,he⟩:=h1.gv
   have hc:=h2.cells
   obtain ⟨w',cA,eF,hE⟩:=WZ (P:=P) (vs:=v.cells) (off:=off) hW hb (by omega) e4 hc
   refine ⟨.skip,undef,w',ρ,?_,.inr ⟨rfl,rfl⟩,fun _ _=>rfl,eF,aA.vN,hE⟩
   have fh:(a.eval y).cells.size=ti.size:=by have:=hc.1;simp at this;omega
   simp[execOp,ho,he,Instr.storeAt,Instr.sureAddr,storeVar,jq mG,lR,fh,cA]
 rename_i cs fz hb
 split at hr<;>first|(cases hr;done)|skip
 rename_i e1 e2 e3 e4
 have e1:=Nat.eq_of_beq_eq_true e1
 have e2:=Nat.le_of_ble_eq_true e2
 have e3:=Nat.le_of_ble_eq_true e3
 simp only[Option.some.injEq] at hr;subst hr
 obtain ⟨_,he⟩:=h1.gv
 have hc:=h2.cells
 obtain ⟨w',cA,eF,hE⟩:=Fi (P:=P) hW hb (by omega) e3 e4 hc
 refine ⟨.skip,undef,w',ρ,?_,.inr ⟨rfl,rfl⟩,fun _ _=>rfl,eF,aA.vN,hE⟩
 have fh:(a.eval y).cells.size=ti.size:=by have:=hc.1;simp at this;omega
 simp[execOp,ho,he,Instr.storeAt,Instr.sureAddr,storeVar,jq mG,lR,fh,cA]
theorem run_setObj_map {r:Nat} {es:Array MapEntry} {c:Nat} {o:Obj} {w:World} (h:w.heap[r]? =some (.map es c)):(setObj r o).run P w= .ok () { w with heap:=w.heap.setIfInBounds r o }:=by
 simp[setObj,Sem.run,h]
theorem LO (hW:bM ρ C st w) {b:Pos} {es:List (AV×AV×Nat)} {clock:Nat} (hb:st.heap.get b=some (.map es clock)) {es2:List (AV×AV×Nat)} {Vo:Array MapEntry} {En:Nat}
  (hE:CV ρ st.next.toNat C es2 Vo.toList):
  bM ρ C (st.aI none (some (b,.map es2 En)) none) { w with heap:=w.heap.setIfInBounds (ρ b).aF (.map Vo En) }/\ni ρ st w ρ (st.aI none (some (b,.map es2 En)) none) { w with heap:=w.heap.setIfInBounds (ρ b).aF (.map Vo En) }:=by
 have bI:=(hW.live b _ hb).2.1
 refine LL hW hb rfl rfl rfl (by simp) (fun k hk=>by simp[Array.getElem?_setIfInBounds_ne (Ne.symm hk)]) ⟨Vo,by simp[bI],by simpa using hE.1,fun i e e' h1 h2=>hE.2 i e e' h1 (by simpa using h2)⟩
theorem Kz {n:Nat} {pk:PK} {u v:AV} {x y:Value} (h1:aA ρ n C u x) (h2:aA ρ n C v y) (h:xZ pk u v=some true) (m:Nat):Instr.sameBits m y x=true:=by
 unfold xZ at h
 split at h<;>first|(cases h;done)|skip
 . simp only[Option.some.injEq] at h
   rw[h1.jP,h2.jP]
   rename_i p q
   have:p=q:=by simpa using h
   subst this
   cases m<;>simp[Instr.sameBits]
 . split at h<;>first|(cases h;done)|skip
   rename_i CS
   have:=wh CS;subst this
   simp only[Option.some.injEq,jr] at h
   rw[h1.jB,h2.jB]
   rename_i p q _
   have:p=q:=by simpa using h
   subst this
   cases m<;>simp[Instr.sameBits]
 . simp only[Option.some.injEq] at h
   obtain ⟨bx,rfl,e1⟩:=h1.dN
   obtain ⟨bz,rfl,e2⟩:=h2.dN
   have:bz==bx:=by rw[beq_toListBytes,Ei e2 e1,kD];exact (kD.1 h).symm
   cases m<;>simpa [Instr.sameBits] using this
theorem N8 {pk:PK} {u:AV}: ∀{es:List (AV×AV×Nat)} {i j:Nat} {v:AV},sM pk u es i=some (some (j,v))-> ∃e,i<=j/\es[j - i]? =some e/\xZ pk u e.1=some true
 |[],i,j,v,h=>by simp[sM] at h
 |(k',v',born)::es,i,j,v,h=>by
  unfold sM at h
  split at h<;>first|(cases h;done)|skip
  . rename_i hq
    simp only[Option.some.injEq,Prod.mk.injEq] at h
    obtain ⟨rfl,_⟩:=h
    exact ⟨(k',v',born),Nat.le_refl _,by simp,hq⟩
  . obtain ⟨e,h1,h2,h3⟩:=N8 h
    refine ⟨e,by omega,?_,h3⟩
    rw[show j - i=(j - (i+1))+1 from by omega]
    simpa using h2
theorem Ib (k v:AV): ∀(es:List (AV×AV×Nat)) (i j:Nat),(pM k v es i)[j]? =if j=i then (es[i]?).map (fun e=>(k,v,e.2.2)) else es[j]?
 |[],i,j=>by cases i<;>cases j<;>simp[pM]
 |(a,b,born)::es,0,j=>by cases j<;>simp[pM]
 |e::es,i+1,j=>by
  cases j with
  |zero=>simp[pM]
  |succ j=>simp[pM,Ib k v es i j]
theorem LP (hT:dh P tt) (op:Op) (t:TypeId) (m k0 v0:Operand) (Qj:op= .mapUpdate t m k0 v0\/op= .insert t m k0 v0):dO P tt op:=by
 intro ρ C st w k xs cls fr a o vs res ho hc hW hF hx hr
 have hc:gU.Vd tt t m k0 v0=some (k,xs,cls):=by rcases Qj with rfl|rfl<;>simpa only[gU] using hc
 have hex:(execOp a.eval o).run P w=((Instr.mapUpdate t (a.eval m) (a.eval k0) (a.eval v0)).run P w).andThen fun _ w=> .ok .skip w:=by
   rcases Qj with rfl|rfl<;>simp[execOp,ho]
 unfold gU.Vd at hc
 split at hc<;>first|(cases hc;done)|skip
 rename_i ti l dV hl
 split at hc<;>first|(cases hc;done)|skip
 rename_i kt et hk
 split at hc<;>first|(cases hc;done)|skip
 rename_i tk Qc
 obtain ⟨d,hd,cM⟩:=(hT.at dV).und
 rw[hk] at cM;rw[H6 cM] at hd
 obtain ⟨dk,N5,CS⟩:=(hT.at Qc).und
 have key: ∃pk,k= .mapSet pk/\xs=l/\pk.fits dk=true:=by
   split at hc<;>first|(cases hc;done)|skip
   all_goals
     rename_i h1
     cases hc
     refine ⟨_,rfl,rfl,aa2 tk.k CS ?_⟩
   . exact .inr (.inl ⟨⟨_,h1⟩,rfl⟩)
   . exact .inr (.inr ⟨h1,rfl⟩)
   . exact .inl ⟨h1,rfl⟩
 obtain ⟨pk,rfl,rfl,oO⟩:=key
 obtain ⟨mm,kk,vv,rfl,h1,h2,h3⟩:=evs3 hl hF hx
 have Ug: ∀e w,(Instr.checkKey e 10000 kt (a.eval k0)).run P w= .ok () w:=fun e w=>Em N5 oO e 9999 _ w
 simp only[aE.run,zi] at hr
 split at hr<;>first|(cases hr;done)|skip
 rename_i b
 split at hr<;>first|(cases hr;done)|skip
 rename_i es clock hb
 obtain ⟨_,he⟩:=h1.yg
 obtain ⟨_,_,es',gq,hlen,oP⟩:=hW.live _ _ hb
 have hE:CV ρ st.next.toNat C es es'.toList:=⟨by simpa using hlen,fun i e e' h1 h2=>oP i e e' h1 (by simpa using h2)⟩
 split at hr<;>first|(cases hr;done)|skip
 . rename_i i v hpk hf
   simp only[Option.some.injEq] at hr;subst hr
   obtain ⟨r',Uk,mo⟩:=zm oO h2 hE hf
   rcases mo with ⟨e1,_⟩|⟨j',v',y,e1,e2,e3,_,e5⟩
   . cases e1
   . cases  e1;subst e2
     obtain ⟨e,_,hei,hek⟩:=N8 hf
     rw[Nat.sub_zero] at hei
     have hi:i<es'.size:=by omega
     have Vp:es'[i]? =some es'[i]:=Array.getElem?_eq_getElem hi
     have hkey:=(oP i e es'[i] hei Vp).1
     have hsb:=Kz h2 hkey hek 10000
     have hE2:CV ρ st.next.toNat C (pM kk vv es i) (es'.modify i fun e=>{ e with key:=a.eval k0,val:=a.eval v0 }).toList:=by
        refine ⟨?_,fun j e e' g1 g2=> ?_⟩
        . have JR: ∀(es:List (AV×AV×Nat)) (i:Nat),(pM kk vv es i).length=es.length:=by
            intro es
            induction es with
            |nil=>intro i;cases i<;>rfl
            | cons e es ih=>intro i;cases i with
              |zero=>obtain ⟨a,b,c⟩:=e;rfl
              |succ i=>simp[pM,ih i]
          rw[JR];simpa using hlen
        . rw[Ib] at g1
          simp only[Array.getElem?_toList,Array.getElem?_modify] at g2
          by_cases hji:j=i
          . subst hji
            rw[if_pos rfl,hei] at g1
            simp[Vp] at g1 g2
            subst g1;subst g2
            exact ⟨h2,h3,(oP j e es'[j] hei Vp).2.2⟩
          . rw[if_neg hji] at g1
            rw[if_neg (fun e=>hji e.symm)] at g2
            exact oP j e e' g1 g2
     obtain ⟨eF,W6⟩:=LO hW hb (En:=clock) hE2
     refine ⟨.skip,undef,_,ρ,?_,.inr ⟨rfl,rfl⟩,fun _ _=>rfl,eF,aA.vN,W6⟩
     rw[hex]
     simp only[Instr.mapUpdate,Sem.run_bind,aQ hd,Result.andThen_ok,he,run_getObj_map gq,Ug,run_findKey N5 Uk,Vp,Option.map_some,Option.getD_some,Instr.keyThatStays,hsb,if_true,Sem.run_pure,run_setObj_map gq]
 . rename_i hpk hf
   simp only[Option.some.injEq] at hr;subst hr
   obtain ⟨r',Uk,mo⟩:=zm oO h2 hE hf
   rcases mo with ⟨_,e2⟩|⟨j',v',y,e1,_⟩
   . subst  e2
     have hE2:CV ρ st.next.toNat C (es++[(kk,vv,clock)]) (es'.push { key:=a.eval k0,val:=a.eval v0,born:=clock }).toList:=by
        refine ⟨by simp[hlen],fun j e e' g1 g2=> ?_⟩
        simp only[Array.toList_push] at g2
        rcases Nat.lt_or_ge j es.length with hj|hj
        . rw[List.getElem?_append_left hj] at g1
          rw[List.getElem?_append_left (by simp;omega)] at g2
          exact oP j e e' g1 (by simpa using g2)
        . rw[List.getElem?_append_right hj] at g1
          rw[List.getElem?_append_right (by simp;omega)] at g2
          have:j - es.length=0:=by
            have:=(List.getElem?_eq_some_iff.1 g1).1;simp at this;omega
          rw[this] at g1
          have:j - es'.toList.length=0:=by simp;omega
          rw[this] at g2
          simp at g1 g2
          subst g1;subst g2
          exact ⟨h2,h3,rfl⟩
     obtain ⟨eF,W6⟩:=LO hW hb (En:=clock+1) hE2
     refine ⟨.skip,undef,_,ρ,?_,.inr ⟨rfl,rfl⟩,fun _ _=>rfl,eF,aA.vN,W6⟩
     rw[hex]
     simp only[Instr.mapUpdate,Sem.run_bind,aQ hd,Result.andThen_ok,he,run_getObj_map gq,Ug,run_findKey N5 Uk,run_setObj_map gq]
   . cases e1
theorem W7 (it:Operand) (isS:Bool):dO P tt (.next it isS):=by
 intro ρ C st w k xs cls fr a o vs res ho hc hW hF hx hr
 simp only[gU] at hc
 split at hc<;>first|(cases hc;done)|skip
 rename_i b hb
 cases hc
 obtain ⟨v,rfl,hv⟩:=fJ hb hF hx
 simp only[aE.run,E4] at hr
 split at hr<;>first|(cases hr;done)|skip
 rename_i bb
 split at hr<;>first|(cases hr;done)|skip
 rename_i s pos lp
 obtain ⟨_,he⟩:=hv.gv
 obtain ⟨_,_,bs,mH,hs,PG⟩:=hW.live _ _ lp
 have fh:=vL hs
 have mQ:(getObj (ρ bb).aF).run P w= .ok (.stringIter bs pos) w:=by simp[getObj,Sem.run,mH]
 rw[PG] at he
 split at hr
 . rename_i bI
   have bI:pos<s.length:=by simpa using bI
   split at hr<;>first|(cases hr;done)|skip
   rename_i c wd KA
   simp only[Option.some.injEq] at hr;subst hr
   have Fg:pos<bs.size:=by omega
   unfold Ua at KA
   split at KA<;>first|(cases KA;done)|skip
   rename_i c' tD
   split at KA<;>first|(cases KA;done)|skip
   rename_i Zy
   simp only[Option.some.injEq,Prod.mk.injEq] at KA
   obtain ⟨rfl,rfl⟩:=KA
   have Zy:c'<128:=by simpa using Zy
   have hcb:(bs[pos]'Fg).toNat=c':=by
     rw[nj, <-hs,List.getElem?_map] at tD
     obtain ⟨b',cW,cE⟩:=Option.map_eq_some_iff.1 tD
     obtain ⟨hl,hbb'⟩:=List.getElem?_eq_some_iff.1 cW
     rw[<-cE, <-hbb'];rfl
   have Ul:=decode_ascii bs pos Fg (by rw[hcb];exact Zy)
   rw[hcb] at Ul
   have yj:(setObj (ρ bb).aF (.stringIter bs (pos+1))).run P w= .ok () { w with heap:=w.heap.setIfInBounds (ρ bb).aF (.stringIter bs (pos+1)) }:=by simp[setObj,Sem.run,mH]
   have hltb:=(hW.live _ _ lp).2.1
   obtain ⟨eF,W6⟩:=LL (w':={ w with heap:=w.heap.setIfInBounds (ρ bb).aF (.stringIter bs (pos+1)) }) (x0:= .kY s (pos+1)) hW lp rfl rfl rfl (by simp)
     (fun k hk=>by simp[Array.getElem?_setIfInBounds_ne (Ne.symm hk)]) ⟨bs,by simp[hltb],hs,PG⟩
   refine ⟨.value (.tuple #[.bool true,goInt pos,.int .i32 (c':Int)]),_,_,ρ,?_,Yields.value _,fun _ _=>rfl,eF,?_,W6⟩
   . simp only[execOp,ho,he,Instr.next,Sem.run_bind,mQ,Result.andThen_ok,Fg,if_true,Ul,yj,Sem.run_pure]
   . exact .mP (az.cons (.bool true) (az.cons (.int _ _) (az.cons (.int _ _) az.nil)))
 . rename_i bI
   have bI: ¬pos<s.length:=fun h=>by
     have:Nat.blt pos s.length=true:=by simpa using h
     rw[this] at bI;cases bI
   simp only[Option.some.injEq] at hr;subst hr
   have Fg: ¬pos<bs.size:=by omega
   refine .pure (x:= .tuple #[.bool false]) ?_ (.mP (az.cons (.bool false) az.nil))
   simp only[execOp,ho,he,Instr.next,Sem.run_bind,mQ,Result.andThen_ok,Fg,if_false,Sem.run_pure]
end
end Go.Ai
end
section
namespace Go.Ai
open Go Go.RowKit
section
variable {P : Program} {tt : TT} {ρ : Pos -> Loc} {C : Cells} {st : St} {w w' : World}
theorem bM.of_heap (hW:bM ρ C st w) (h:w'.heap=w.heap):bM ρ C st w' where
 live b x hb:=let ⟨h1,h2,h3⟩:=hW.live b x hb;⟨h1,by rw[h];exact h2,h3.of_heap (by rw[h])⟩
 inj:=hW.inj
 dc a v ha:=let ⟨h1,h2⟩:=hW.dc a v ha;⟨by unfold World.cell? at h1 ⊢; rw[h];exact h1,h2⟩
 whole a v ha o ho:=by have:=hW.whole a v ha o ho;unfold World.cell? at this ⊢; rw[h];exact this
theorem JS {es:Nat}: ∀{xs:List (List AV)} (_h: ∀(i:Nat) (cs:List AV),xs[i]? =some cs->cs.length=es) (q:Nat) (v:AV),
  xs.flatten[q]? =some v-> ∃cs,xs[q / es]? =some cs/\cs[q % es]? =some v
 |[],_,q,v,hv=>by simp at hv
 |c ::xs,h,q,v,hv=>by
  have hc:c.length=es:=h 0 c rfl
  have jx: ∀(i:Nat) (cs:List AV),xs[i]? =some cs->cs.length=es:=fun i cs hi=>h (i+1) cs (by simpa using hi)
  rw[List.flatten_cons] at hv
  rcases Nat.lt_or_ge q c.length with hq|hq
  . rw[List.getElem?_append_left hq] at hv
    refine ⟨c,?_,?_⟩
    .   rw[Nat.div_eq_of_lt (by omega)];rfl
    .   rw[Nat.mod_eq_of_lt (by omega)];exact hv
  . rw[   List.getElem?_append_right hq] at hv
    obtain ⟨cs,h1,h2⟩:=JS jx (q - c.length) v hv
    rw[hc] at hq h1 h2
    have Qg:0<es:=by
        rcases Nat.eq_zero_or_pos es with h0|h0
        . subst h0
          have hl:=jx _ _ h1
          have:=(List.getElem?_eq_some_iff.1 h2).1
          omega
        . exact h0
    refine ⟨cs,?_,?_⟩
    .   rw[Nat.div_eq_sub_div Qg hq];simpa using h1
    .   rw[Nat.mod_eq_sub_mod hq];exact h2
theorem JT {es:Nat}: ∀{xs:List (List AV)} (_h: ∀(i:Nat) (cs:List AV),xs[i]? =some cs->cs.length=es),xs.flatten.length=xs.length*es
 |[],_=>by simp
 |c::xs,h=>by
  have hc:c.length=es:=h 0 c rfl
  rw[List.flatten_cons,List.length_append,JT (fun i cs hi=>h (i+1) cs (by simpa using hi)),hc,List.length_cons,Nat.add_mul];omega
theorem lX (hW:bM ρ C st w) {es m:Nat} {u:AV} {x:Value} {new:List AV} {k:Nat} (hu:aA ρ st.next.toNat C u x) (hk:iX u=some k) (N9:m<=k) (h:gp es m (fun b=>st.heap.get b) u=some new) (w2:World) (gm:w2.heap=w.heap):
   ∃ys:List Value,(Builtin.firstCells es m x).run P w2= .ok ys.toArray w2/\az ρ st.next.toNat C new ys/\(u= .aj\/new.length=m*es):=by
 have hW2:=hW.of_heap (w':=w2) gm
 unfold gp at h
 split at h
 . simp only[Option.some.injEq] at h;subst h
   rw[hu.gD]
   exact ⟨[],by simp[Builtin.firstCells],az.nil,.inl rfl⟩
 . rename_i b off len cap es'
   simp only[iX,Option.some.injEq] at hk;subst hk
   obtain ⟨aa,aL,he,hle,_,ha⟩:=hu.dR
   rw[he]
   split at h
   . rename_i h0
     have h0:=Nat.eq_of_beq_eq_true h0
     simp only[Option.some.injEq] at h;subst h
     exact ⟨[],by simp[Builtin.firstCells,h0,loadCells,loadCellsFrom],az.nil,.inr (by simp[h0])⟩
   . rename_i h0
     have h0:=Nat.ne_of_beq_eq_false h0
     split at h<;>first|(cases h;done)|skip
     rename_i cs fz hb
     have hm:m≠0:=by intro e;subst e;simp at h0
     obtain ⟨_,rfl,_⟩:=ha (by omega)
     obtain ⟨ys,h1,h2⟩:=hW2.loadCells (P:=P) hb h
     exact ⟨ys,by simp only[Builtin.firstCells];exact h1,h2,.inr (qX h)⟩
 . rename_i xs es'
   simp only[iX,Option.some.injEq] at hk;subst hk
   split at h<;>first|(cases h;done)|skip
   rename_i Qk Um
   have Qk:=Nat.eq_of_beq_eq_true Qk
   have Um:=Nat.le_of_ble_eq_true Um
   subst Qk
   simp only[Option.some.injEq] at h;subst h
   obtain ⟨aa,aL,cell,he,hle,wQ,g1,g2,g3⟩:=hu.tu
   rw[he]
   have gq: ∀(i:Nat) (cs:List AV),(xs.take m)[i]? =some cs->cs.length=es:=fun i cs hi=>by
     rw[List.getElem?_take] at hi;split at hi
     . exact g1 i cs hi
     . cases hi
   have W8:=JT gq
   rw[List.length_take,Nat.min_eq_left Um] at W8
   have aa3: ∀q v,(xs.take m).flatten[q]? =some v-> ∃cs,xs[q / es]? =some cs/\cs[q % es]? =some v:=fun q v hv=>by
     obtain ⟨cs,h1,h2⟩:=JS gq q v hv
     rw[List.getElem?_take] at h1;split at h1
     . exact ⟨cs,h1,h2⟩
     . cases h1
   refine ⟨(List.range (m*es)).map fun q=>cell (q / es) (q % es),?_,⟨by simp[W8],fun q v y hv hy=> ?_⟩,.inr W8⟩
   . simp only[Builtin.firstCells]
     refine run_loadCells w2 _ _ _ fun q hq=> ?_
     have bI:q<(xs.take m).flatten.length:=by rw[W8];exact hq
     obtain ⟨cs,h1,h2⟩:=aa3 q _ (List.getElem?_eq_getElem bI)
     have wQ:=wQ (by intro e;rw[e] at h1;simp at h1)
     obtain ⟨ab,ao,asp⟩:=aa
     simp only at wQ;subst wQ
     have:=(hW2.dc _ _ (g2 _ _ _ _ h1 h2)).1
     rw[nk]
     simp only at this
     rw[show ao+q=ao+q / es*es+q % es from by rw[Nat.add_assoc,Nat.mul_comm,Nat.div_add_mod]]
     exact this
   . obtain ⟨cs,h1,h2⟩:=aa3 q v hv
     have hq:q<m*es:=by rw[<-W8];exact (List.getElem?_eq_some_iff.1 hv).1
     simp[hq] at hy
     subst hy
     exact g3 _ _ _ _ h1 h2
 . rename_i s
   simp only[iX,Option.some.injEq] at hk;subst hk
   split at h<;>first|(cases h;done)|skip
   rename_i Qk Um
   have Qk:=Nat.eq_of_beq_eq_true Qk
   have Um:=Nat.le_of_ble_eq_true Um
   subst Qk
   simp only[Option.some.injEq] at h;subst h
   obtain ⟨bs,rfl,hs⟩:=hu.dN
   refine ⟨(s.take m).map fun (c:Nat)=>Value.int .u8 (.ofNat c),?_,⟨by simp,fun q v y hv hy=> ?_⟩,.inr (by simp;omega)⟩
   . simp only[Builtin.firstCells,Sem.run_pure]
     congr 1
     apply Array.ext'
     simp only[Array.toList_map,ByteArray.data_extract,Array.toList_extract,List.extract,List.drop_zero,Nat.sub_zero]
     rw[<-hs, <-List.map_take,List.map_map];rfl
   . simp only[List.getElem?_map,Option.map_eq_some_iff] at hv hy
     obtain ⟨c,hc,rfl⟩:=hv
     obtain ⟨c',tD,rfl⟩:=hy
     rw[hc] at tD;cases tD
     exact .int _ _
 . cases h
theorem KB {n:Nat} {u:AV} {x:Value} {k:Nat} (hu:aA ρ n C u x) (hk:iX u=some k):(Builtin.lenOf x).run P w= .ok k w:=by
 unfold iX at hk
 split at hk<;>first|(cases hk;done)|skip
 all_goals simp only[Option.some.injEq] at hk;subst hk
 . rw[hu.gD];rfl
 . obtain ⟨_,_,he,_⟩:=hu.dR;rw[he];rfl
 . obtain ⟨_,_,_,he,_⟩:=hu.tu;rw[he];rfl
 . obtain ⟨bs,rfl,hs⟩:=hu.dN;rw[<-vL hs];rfl
theorem Oa (nl:Nat): ∀(r c:Nat),c<=nl+(nl+768) / 4->Builtin.growBy nl r c<=nl+(nl+768) / 4
 |0,c,h=>h
 |r+1,c,h=>by
  unfold Builtin.growBy
  split
  . exact h
  . exact Oa nl r _ (by omega)
theorem nextslicecap_le {Vq dJ:Nat} (h:dJ<Vq):Builtin.nextslicecap Vq dJ<=2*Vq+768:=by
 unfold Builtin.nextslicecap
 split
 . omega
 . split
   . omega
   . have:=Oa Vq 4 dJ (by omega)
     omega
theorem Fj (hT:dh P tt) {t t2 e:Nat} {ts:Array TypeId} {ti G0 te:TI} (dV:tt.get (key t)=some ti) (Ic:tt.get (key t2)=some G0) (hk:ti.k= .slice e) (tE: ∀k,G0.k≠ .int k)
  (fY:tt.get (key e)=some te) (h0:ts[0]? =some t) (h1:ts[1]? =some t2) (ty:TypeId) (base:Option Addr) (n cap m:Nat) (x:Value) (w:World)
  (hx:(Builtin.lenOf x).run P w= .ok m w) (hb:(2*(n+m)+768)*te.bytes<=281474976710656) (hi:n+m<=9223372036854775807):
  (Builtin.append_ ts ty #[.slice base n cap,x]).run P w=
    if n+m<=cap then ((Builtin.firstCells te.size m x).run P w).andThen fun new w=>((match base with|some a=>storeCells (a.add (n*te.size)) new.toList|none=>pure ()).run P w).andThen fun _ w=> .ok (.slice base (n+m) cap) w
    else ((Builtin.firstCells te.size n (.slice base n cap)).run P w.drew).andThen fun dJ w1=>((Builtin.firstCells te.size m x).run P w1).andThen fun new w2=>((zeroValue e).run P w2).andThen fun z w3=>
        .ok (.slice (some ⟨w3.heap.size,0,none⟩) (n+m) (grownCap w (n+m) cap e)) (w3.alloc (.cells (dJ++new++Builtin.zeroCells z.cells (grownCap w (n+m) cap e - (n+m))) e)):=by
 obtain ⟨d,hd,cM⟩:=(hT.at dV).und
 rw[hk] at cM;rw[ob cM] at hd
 obtain ⟨d2,Lw,Zz⟩:=(hT.at Ic).und
 obtain ⟨i0,mG,lR,hib,_⟩:=(hT.at fY).info
 have ah7: ∀k,d2≠ .int k:=by
  rintro k rfl
  cases CS:G0.k<;>rw[CS] at Zz<;>first|(simp[bU] at Zz;done)|exact absurd CS (tE _)
 have Vr: ¬(((n+m:Nat):Int)>IntKind.i64.max):=by
  have:IntKind.i64.max=9223372036854775807:=by decide
  rw[this];omega
 have ah8: ¬(n+m<=cap)-> ¬(Builtin.nextslicecap (n+m) cap*te.bytes>2 ^ 48):=fun hc=>by
  have h1:=nextslicecap_le (Nat.lt_of_not_le hc)
  have h2:=Nat.mul_le_mul_right te.bytes h1
  have:(2:Nat) ^ 48=281474976710656:=by decide
  omega
 have yh: ∀q,(Question.appendCap (n+m) cap e).forced=q->q=false:=by rintro q rfl;rfl
 clear Zz
 cases d2<;>first|(exact absurd rfl (ah7 _))|skip
 all_goals
  unfold Builtin.append_
  simp only[h0,h1,List.getElem?_toArray,List.getElem?_cons_zero,List.getElem?_cons_succ,Sem.run_bind,aQ hd,Result.andThen_ok,jq mG,lR,aQ Lw,Sem.run_pure,hx,Bool.false_eq_true,if_false,Bool.not_false,if_true,Sem.run_ite]
  by_cases hc:n+m<=cap
  . rw[if_pos hc,if_pos hc]
    cases base<;>simp only[Sem.run_bind,Sem.run_pure,Result.andThen_ok]
  . rw[if_neg hc,if_neg hc]
    simp only[Sem.run_bind,PZ mG,hib,Result.andThen_ok,Vr,false_and,if_false,ah8 hc,run_choose,Question.forced,Bool.false_eq_true,World.drew_eq,run_askRoom,Sem.run_pure,newRow,run_newObj,World.alloc_eq]
    rfl
end
end Go.Ai
end
section
namespace Go.Ai
open Go Go.RowKit
section
variable {P : Program} {tt : TT} {ρ : Pos -> Loc} {C : Cells} {st : St} {w w' : World}
theorem ZA {L:Loc} {cs:List AV} {n:Nat} (fz:Nat) (h:nG ρ n C L w' (.cells cs 0)):nG ρ n C L w' (.cells cs fz):=
 let ⟨c,e,fr,h1,h2,h3,h4,h5⟩:=h
 ⟨c,e,fr,h1,h2,h3,h4,fun i _ hi=>h5 i (Nat.zero_le _) hi⟩
theorem Vt (hW:bM ρ C st w) (del:Option Pos) (fz:Nat) {dJ new rest:List Value} {ol nl:List AV} {e:TypeId} {n m es aL:Nat} (h1:az ρ st.next.toNat C ol dJ) (h2:az ρ st.next.toNat C nl new)
  (Eo:ol.length=n*es) (JU:nl.length=m*es) (hr:rest.length=(aL - (n+m))*es) (hc:n+m<=aL) {w2:World} (gm:w2=w.drew.alloc (.cells (dJ++new++rest).toArray e)):
  ∃ρ':Pos->Loc,(∀b:Pos,b.toNat<st.next.toNat->ρ' b=ρ b)/\bM ρ' C (st.aI del none (some (.cells (ol++nl) fz))) w2/\ni ρ st w ρ' (st.aI del none (some (.cells (ol++nl) fz))) w2/\
   aA ρ' (st.aI del none (some (.cells (ol++nl) fz))).next.toNat C (.slice st.next 0 (n+m) none es) (.slice (some ⟨w.heap.size,0,none⟩) (n+m) aL):=by
 subst gm
 have oH:dJ.length=n*es:=by rw[<-h1.1,Eo]
 have mb:new.length=m*es:=by rw[<-h2.1,JU]
 have fh:(dJ++new++rest).length=aL*es:=by
  simp only[List.length_append,oH,mb,hr]
  rw[<-Nat.add_mul, <-Nat.add_mul];congr 1;omega
 obtain ⟨ρ',aU,dI,eF,hE⟩:=uX (w':=w.drew.alloc (.cells (dJ++new++rest).toArray e)) (o:= .cells (dJ++new++rest).toArray e) (x0:= .cells (ol++nl) fz) (base:=0) (size:=(dJ++new++rest).toArray.size) hW del rfl rfl rfl rfl (fun ρ' n' aU hn=>
  ZA fz  <| qK (e:=e) (fr:=(0,0)) (by show (w.heap.push _)[w.heap.size]? =_;simp) (by simp[Eo,JU,oH,mb])
   (by
        have:(dJ++new++rest).toArray.toList.take (ol++nl).length=dJ++new:=by
         rw[List.take_left' (by simp[Eo,JU,oH,mb])]
        rw[this];exact (h1.append h2).mono aU hn) (fun i _=>by simp))
 refine ⟨ρ',aU,eF,hE,tB (by simp[St.aI,Pos.aG]) dI hc (fun c hc=>by cases hc) (by simp only[List.size_toArray,fh];exact Nat.le_refl _)⟩
theorem zV (z:Array Value) (m:Nat):(Builtin.zeroCells z m).toList.length=m*z.size:=by simp[Builtin.zeroCells]
theorem ZB {m:Nat} (h:Nat.beq m 0=false):m≠0:=Nat.ne_of_beq_eq_false h
theorem Fk (hT:dh P tt) {t t2 e:Nat} {ts:Array TypeId} {ti G0 te:TI} {z:List AV} (dV:tt.get (key t)=some ti) (Ic:tt.get (key t2)=some G0) (hk:ti.k= .slice e) (tE: ∀k,G0.k≠ .int k)
   (fY:tt.get (key e)=some te) (hz:te.zero=some z) (h0:ts[0]? =some t) (h1:ts[1]? =some t2) (ty:TypeId) {s u:AV} {xs xu:Value} {res:di} (hW:bM ρ C st w)
   (hs:aA ρ st.next.toNat C s xs) (hu:aA ρ st.next.toNat C u xu) (hr:jX (fun b=>st.heap.get b) st.next te.size te.bytes [s,u]=some res):
   ux P ρ C st w (((Builtin.append_ ts ty #[xs,xu]).run P w).andThen fun v w=> .ok (.value v) w) res:=by
 simp only[jX] at hr
 split at hr<;>first|(cases hr;done)|skip
 rename_i n m hn hm
 split at hr<;>first|(cases hr;done)|skip
 rename_i b1 b2
 have b1:=Nat.le_of_ble_eq_true b1
 have b2:=Nat.le_of_ble_eq_true b2
 have hlen:=KB (P:=P) (w:=w) hu hm
 obtain ⟨i0,mG,lR,_,xQ⟩:=(hT.at fY).info
 obtain ⟨zv0,hzv0,_,LN,_⟩:=xQ z hz
 have LI:=fun w=>tA hT fY hz (ρ:=ρ) (n:=st.next.toNat) (C:=C) w
 have JR: ∃base aL,xs= .slice base n aL/\n<=aL:=by
   unfold iX at hn
   split at hn<;>first|(cases hn;done)|skip
   . cases hn;exact ⟨none,0,hs.gD,Nat.le_refl _⟩
   . cases hn;obtain ⟨a,c,he,hle,_⟩:=hs.dR;exact ⟨_,c,he,hle⟩
   . cases hn;obtain ⟨a,c,_,he,hle,_⟩:=hs.tu;exact ⟨_,c,he,hle⟩
   . rename_i s'
     exfalso
     cases hbm:Nat.beq m 0<;>simp[hbm] at hr
 obtain ⟨base,aL,jx,hle⟩:=JR
 have cA:=Fj hT dV Ic hk tE fY h0 h1 ty base n aL m xu w hlen b1 b2
 rw[jx,cA]
 have hg: ∀c,n+m<=grownCap w (n+m) c e:=fun c=>by unfold grownCap Question.cut;exact Nat.le_add_right _ _
 have Ql: ∀(del:Option Pos) (fz:Nat) (ol nl:List AV),¬(n+m<=aL)->gp te.size n (fun b=>st.heap.get b) s=some ol->gp te.size m (fun b=>st.heap.get b) u=some nl->ol.length=n*te.size->nl.length=m*te.size->
     ux P ρ C st w ((if n+m<=aL then ((Builtin.firstCells te.size m xu).run P w).andThen fun new w=>((match base with|some a=>storeCells (a.add (n*te.size)) new.toList|none=>pure ()).run P w).andThen fun _ w=> .ok (.slice base (n+m) aL) w
     else ((Builtin.firstCells te.size n (.slice base n aL)).run P w.drew).andThen fun dJ w1=>((Builtin.firstCells te.size m xu).run P w1).andThen fun new w2=>((zeroValue e).run P w2).andThen fun z w3=>
        .ok (.slice (some ⟨w3.heap.size,0,none⟩) (n+m) (grownCap w (n+m) aL e)) (w3.alloc (.cells (dJ++new++Builtin.zeroCells z.cells (grownCap w (n+m) aL e - (n+m))) e))).andThen fun v w=> .ok (.value v) w)
        (.aI (.slice st.next 0 (n+m) none te.size) del none (some (.cells (ol++nl) fz))):=by
   intro del fz ol nl hc ho rO Eo JU
   obtain ⟨dJ,e1,e2,_⟩:=lX (P:=P) hW hs hn (Nat.le_refl _) ho w.drew rfl
   obtain ⟨new,e3,e4,_⟩:=lX (P:=P) hW hu hm (Nat.le_refl _) rO w.drew rfl
   obtain ⟨zv,xR,_,rN⟩:=LI w.drew
   rw[jx] at e1
   have CR:(Builtin.zeroCells zv.cells (grownCap w (n+m) aL e - (n+m))).toList.length=(grownCap w (n+m) aL e - (n+m))*te.size:=by
     rw[zV];congr 1;have:=rN.1;simp at this;omega
   obtain ⟨ρ',aU,eF,hE,hv⟩:=Vt hW del fz e2 e4 Eo JU CR (hg aL) (e:=e) rfl
   refine ⟨_,_,_,ρ',?_,Yields.value _,aU,eF,hv,hE⟩
   rw[if_neg hc]
   simp only[e1,e3,xR,Result.andThen_ok,World.size_drew]
   congr 2
   simp
 have W9: ∀nl,gp te.size m (fun b=>st.heap.get b) u=some nl->m≠0->nl.length=m*te.size:=by
   intro nl rO hm0
   obtain ⟨_,_,_,h⟩:=lX (P:=P) hW hu hm (Nat.le_refl _) rO w rfl
   rcases h with rfl|h
   . simp[iX] at hm;omega
   . exact h
 have hls: ∀ol,gp te.size n (fun b=>st.heap.get b) s=some ol->ol.length=n*te.size:=by
   intro ol uY
   obtain ⟨ys,_,uF,h⟩:=lX (P:=P) hW hs hn (Nat.le_refl _) uY w rfl
   rcases h with rfl|h
   . simp[iX] at hn;subst hn
     simp[gp] at uY;subst uY;simp
   . exact h
 have hzero:m=0->aA ρ st.next.toNat C s xs->ux P ρ C st w ((if n+m<=aL then ((Builtin.firstCells te.size m xu).run P w).andThen fun new w=>((match base with|some a=>storeCells (a.add (n*te.size)) new.toList|none=>pure ()).run P w).andThen fun _ w=> .ok (.slice base (n+m) aL) w
     else ((Builtin.firstCells te.size n (.slice base n aL)).run P w.drew).andThen fun dJ w1=>((Builtin.firstCells te.size m xu).run P w1).andThen fun new w2=>((zeroValue e).run P w2).andThen fun z w3=>
        .ok (.slice (some ⟨w3.heap.size,0,none⟩) (n+m) (grownCap w (n+m) aL e)) (w3.alloc (.cells (dJ++new++Builtin.zeroCells z.cells (grownCap w (n+m) aL e - (n+m))) e))).andThen fun v w=> .ok (.value v) w) (.val s):=by
   rintro rfl hsx
   have hf:(Builtin.firstCells te.size 0 xu).run P w= .ok #[] w:=by
     unfold iX at hm
     split at hm<;>first|(cases hm;done)|skip
     .  rw[hu.gD];simp[Builtin.firstCells]
     .  obtain ⟨_,_,he,_⟩:=hu.dR;rw[he];simp[Builtin.firstCells,loadCells,loadCellsFrom]
     .  obtain ⟨_,_,_,he,_⟩:=hu.tu;rw[he];simp[Builtin.firstCells,loadCells,loadCellsFrom]
     .  obtain ⟨bs,rfl,_⟩:=hu.dN
        simp only[Builtin.firstCells,Sem.run_pure]
        congr 1
        apply Array.ext'
        simp
   rw[jx] at hsx
   refine .pure (x:= .slice base n aL) ?_ hsx
   rw[if_pos (by omega),hf]
   cases base<;>simp[storeCells]
 split at hr<;>first|(cases hr;done)|skip
 . rename_i wS;simp only[Option.some.injEq] at hr;subst hr;exact hzero (Nat.eq_of_beq_eq_true wS) hs
 . rename_i wS;simp only[Option.some.injEq] at hr;subst hr;exact hzero (Nat.eq_of_beq_eq_true wS) hs
 . rename_i wS;simp only[Option.some.injEq] at hr;subst hr;exact hzero (Nat.eq_of_beq_eq_true wS) hs
 ·
   rename_i wS
   have wS:=ZB wS
   split at hr<;>first|(cases hr;done)|skip
   rename_i new rO
   simp only[Option.some.injEq] at hr;subst hr
   have he:=hs.gD
   rw[he] at jx
   simp only[Value.slice.injEq] at jx
   obtain ⟨rfl,rfl,rfl⟩:=jx
   have:=Ql none 0 [] new (by omega) rfl rO (by simp) (W9 new rO wS)
   simpa using this
 ·
   rename_i b off n' c es' wS
   have wS:=ZB wS
   simp only[iX,Option.some.injEq] at hn;subst hn
   obtain ⟨aa,cc,he,hlec,Xa,ha⟩:=hs.dR
   rw[he] at jx
   simp only[Value.slice.injEq] at jx
   obtain ⟨rfl,_,rfl⟩:=jx
   have:=Xa c rfl;subst this
   split at hr
   . rename_i tF
     have tF:=Nat.le_of_ble_eq_true tF
     split at hr<;>first|(cases hr;done)|skip
     rename_i cs fz new hb rO
     split at hr<;>first|(cases hr;done)|skip
     rename_i c1 c2 c3
     have c1:=Nat.le_of_ble_eq_true c1
     simp only[Bool.and_eq_true] at c2
     have c2a:=Nat.le_of_ble_eq_true c2.1
     have c2b:=Nat.eq_of_beq_eq_true c2.2
     subst c2b
     simp only[Option.some.injEq] at hr;subst hr
     obtain ⟨bI,rfl,hbound⟩:=ha (by omega)
     obtain ⟨ys,e1,e2,_⟩:=lX (P:=P) hW hu hm (Nat.le_refl _) rO w rfl
     have Fl:=W9 new rO wS
     obtain ⟨w2,e3,eF,hE⟩:=Fi (P:=P) hW hb (by rw[Fl];rw[Nat.add_mul] at c1;omega) c2a c3 e2
     refine ⟨_,.slice (some ⟨(ρ b).aF,(ρ b).base+off,none⟩) (n'+m) c,w2,ρ,?_,Yields.value _,fun _ _=>rfl,eF,?_,hE⟩
     .  rw[if_pos tF,e1]
        simp only[Result.andThen_ok,nk]
        rw[Nat.add_assoc,e3];rfl
     .  exact .slice _ _ _ _ _ _ _ tF (fun c hc=>by cases hc;rfl) (fun _=>⟨bI,rfl,hbound⟩) (fun h=>by cases h)
   . rename_i tF
     have tF: ¬(n'+m<=c):=fun h=>by rw[Nat.ble_eq_true_of_le h] at tF;cases tF
     split at hr<;>first|(cases hr;done)|skip
     rename_i dJ new uY rO
     simp only[Option.some.injEq] at hr;subst hr
     exact Ql none 0 dJ new tF uY rO (hls dJ uY) (W9 new rO wS)
 ·
   rename_i b off n' es' wS
   have wS:=ZB wS
   simp only[iX,Option.some.injEq] at hn;subst hn
   split at hr<;>first|(cases hr;done)|skip
   rename_i cs fz dJ new hb uY rO
   split at hr<;>first|(cases hr;done)|skip
   rename_i c2 c3
   simp only[Bool.and_eq_true] at c2
   have c2a:=Nat.le_of_ble_eq_true c2.1
   have c2b:=Nat.eq_of_beq_eq_true c2.2
   subst c2b
   simp only[Option.some.injEq] at hr;subst hr
   by_cases tF:n'+m<=aL
   ·
     obtain ⟨aa,cc,he,hlec,Xa,ha⟩:=hs.dR
     rw[he] at jx
     simp only[Value.slice.injEq] at jx
     obtain ⟨rfl,_,rfl⟩:=jx
     obtain ⟨bI,rfl,hbound⟩:=ha (by omega)
     obtain ⟨ys,e1,e2,_⟩:=lX (P:=P) hW hu hm (Nat.le_refl _) rO w rfl
     have Fl:=W9 new rO wS
     have aa4:=hls dJ uY
     obtain ⟨kS,mH,c,ce,fr,g1,g2,g3,g4,g5⟩:=hW.live b _ hb
     have hmul:(n'+m)*te.size<=cc*te.size:=Nat.mul_le_mul_right _ tF
     have hmul2:(n'+m)*te.size=n'*te.size+m*te.size:=Nat.add_mul _ _ _
     have hyl:ys.length=m*te.size:=by rw[<-e2.1,Fl]
     have hold:az ρ st.next.toNat C dJ ((c.toList.drop ((ρ b).base+off)).take (n'*te.size)):=by
        simp only[gp] at uY
        split at uY
        . rename_i Xb
          have Xb:=Nat.eq_of_beq_eq_true Xb
          simp only[Option.some.injEq] at uY;subst uY
          rw[Xb];simpa using (az.nil:az ρ st.next.toNat C [] [])
        . rw[hb] at uY
          simp only at uY
          obtain ⟨ho1,ho2⟩:=zl uY
          have h:=(g4.drop off).take (n'*te.size)
          rw[<-ho1] at h
          have:List.take (n'*te.size) (List.drop off (List.take cs.length (List.drop (ρ b).base c.toList)))=(c.toList.drop ((ρ b).base+off)).take (n'*te.size):=by
            rw[List.drop_take,List.take_take,List.drop_drop,Nat.min_eq_left (by omega)]
          rw[this] at h
          exact h
     obtain ⟨w2,s1,s2,s3,s4,s5,s6,s7⟩:=lg (P:=P) (ρ b).aF ce fr ys 0 ((ρ b).base+off+n'*te.size) c w g1 (by omega) (wR c3 e2) (fun k hk qI=>by
        have:=g5 (k - (ρ b).base) (by omega) (by omega)
        rwa [show (ρ b).base+(k - (ρ b).base)=k from by omega] at this)
     simp only[Nat.add_zero] at s1 s2
     let ρ':Pos->Loc:=fun q=>if q=st.next then ⟨(ρ b).aF,(ρ b).base+off,(ρ b).size⟩ else ρ q
     have aU: ∀q:Pos,q.toNat<st.next.toNat->ρ' q=ρ q:=fun q hq=>if_neg (fun e=>by rw[e] at hq;omega)
     have dI:ρ' st.next=⟨(ρ b).aF,(ρ b).base+off,(ρ b).size⟩:=if_pos rfl
     have WS:c.toList.length=c.size:=by simp
     have hWn:bM ρ' C (st.aI (some b) none (some (.cells (dJ++new) (fz - off)))) w2:=by
        refine hW.P4 (b0:=st.next) (x0:= .cells (dJ++new) (fz - off)) (by rw[Pos.aG];omega) (by rw[Pos.aG];omega) (by rw[T.fj]) ?_ aU ?_ ?_ (by rw[dI,s3];exact mH) (by omega) (fun k hk qI=>s4 k (by rw[dI] at qI;exact qI))
        . intro q x hq hx
          rw[T.bN _ (fun e=>hq e.symm)] at hx
          obtain ⟨h1,h2⟩:=vM (some b) _ hx
          refine ⟨h1,?_⟩
          rw[dI]
          exact fun e=>h2 b rfl (hW.inj _ _ _ _ h1 hb e)
        . rw[dI]
          refine ⟨_,ce,fr,s2,by simp[aV];omega,by simp[aV,aa4,Fl];omega,?_,fun i mG hi=> ?_⟩
          . simp only
            rw[DG _ _ _ _ (by omega)]
            have Qc:(aV (c.toList.drop ((ρ b).base+off)) (n'*te.size) ys).take (dJ++new).length=(c.toList.drop ((ρ b).base+off)).take (n'*te.size)++ys:=by
             unfold aV
             rw[<-List.append_assoc,List.take_left']
             simp[aa4,Fl,hyl];omega
            rw[Qc]
            exact (hold.append e2).mono aU (by rw[Pos.aG];omega)
          . have Qi:(ρ b).base+off+i<c.size:=by
             simp only[List.size_toArray] at hi
             have:(aV c.toList ((ρ b).base+off+n'*te.size) ys).length=c.size:=by simp[aV];omega
             omega
            have:=g5 (off+i) (by omega) (by omega)
            simp only
            rwa [<-Nat.add_assoc] at this
        . intro ad v hv
          rw[dI]
          exact fun e=>(hW.dc ad v hv).2 b _ hb e.symm
     refine ⟨_,(.slice (some ⟨(ρ b).aF,(ρ b).base+off,none⟩) (n'+m) cc),w2,ρ',?_,Yields.value _,aU,hWn,?_,⟨s5,s6,s7,by omega,fun k _ hk=>s4 k (fun e=>hk b _ hb e.symm),fun q x hx=> ?_⟩⟩
     rotate_left
     rotate_left
     .  left
        by_cases hq:q=st.next
        . exact ⟨b,_,hb,by rw[hq,dI]⟩
        . simp only[St.aI,Bf] at hx
          rw[T.bN _ (fun e=>hq e.symm)] at hx
          obtain ⟨h1,_⟩:=vM (some b) _ hx
          exact ⟨q,x,h1,by rw[aU q (hW.live q x h1).1]⟩
     .  rw[if_pos tF,e1]
        simp only[Result.andThen_ok,nk]
        rw[s1];rfl
     .  refine .slice _ _ _ _ _ _ _ tF (fun c hc=>by cases hc) (fun _=>⟨by simp[St.aI,Pos.aG],by rw[dI];rfl,?_⟩) (fun _=>by simp[St.aI,Pos.aG])
        rw[dI];simp only;omega
   . exact Ql (some b) _ dJ new tF uY rO (hls dJ uY) (W9 new rO wS)
end
end Go.Ai
end
section
namespace Go.Ai
open Go Go.RowKit
section
variable {P : Program} {tt : TT} {ρ : Pos -> Loc} {C : Cells} {st : St} {w w' : World}
theorem ai9 {u:List Nat} {ρ':Pos->Loc} {n':Nat}:az ρ' n' C (u.map fun c=>AV.int .u8 (.ofNat c)) (u.map fun c=>Value.int .u8 (.ofNat c)):=
 ⟨by simp,fun i v x hv hx=>by
  simp only[List.getElem?_map,Option.map_eq_some_iff] at hv hx
  obtain ⟨c,hc,rfl⟩:=hv
  obtain ⟨c',tD,rfl⟩:=hx
  rw[hc] at tD;cases tD
  exact .int _ _⟩
theorem Ob: ∀l:List Nat,cS (l.map fun c=>AV.int .u8 (.ofNat c))=true
 |[]=>rfl
 |a::l=>by simpa [cS,AV.one] using Ob l
theorem JV (hW:bM ρ C st w) (del:Option Pos) {dJ new rest:List Value} {ol nl:List AV} {e:TypeId} {n m aL:Nat} (h1:az ρ st.next.toNat C ol dJ) (h2:az ρ st.next.toNat C nl new)
  (Eo:ol.length=n) (JU:nl.length=m) (hr:rest.length=aL - (n+m)) (hc:n+m<=aL) {w2:World} (gm:w2=w.drew.alloc (.cells (dJ++new++rest).toArray e)):
  ∃ρ':Pos->Loc,(∀b:Pos,b.toNat<st.next.toNat->ρ' b=ρ b)/\bM ρ' C (st.aI del none (some (.typed e (ol++nl)))) w2/\ni ρ st w ρ' (st.aI del none (some (.typed e (ol++nl)))) w2/\
   aA ρ' (st.aI del none (some (.typed e (ol++nl)))).next.toNat C (.slice st.next 0 (n+m) none 1) (.slice (some ⟨w.heap.size,0,none⟩) (n+m) aL):=by
 subst gm
 have oH:dJ.length=n:=by rw[<-h1.1,Eo]
 have mb:new.length=m:=by rw[<-h2.1,JU]
 have fh:(dJ++new++rest).length=aL:=by
  simp only[List.length_append,oH,mb,hr];omega
 obtain ⟨ ρ',aU,dI,eF,hE⟩:=uX (w':=w.drew.alloc (.cells (dJ++new++rest).toArray e)) (o:= .cells (dJ++new++rest).toArray e) (x0:= .typed e (ol++nl)) (base:=0) (size:=(dJ++new++rest).toArray.size) hW del rfl rfl rfl rfl (fun ρ' n' aU hn=>
  ⟨_,   (0,0),by show (w.heap.push _)[w.heap.size]? =_;simp,rfl,by simp[Eo,JU,oH,mb],by
        have:(dJ++new++rest).toArray.toList.take (ol++nl).length=dJ++new:=by
          rw[List.take_left' (by simp[Eo,JU,oH,mb])]
        rw[List.drop_zero,this];exact (h1.append h2).mono aU hn,fun i _=>by simp,rfl⟩)
 refine ⟨ρ',aU,eF,hE,tB (by simp[St.aI,Pos.aG]) dI hc (fun c hc=>by cases hc) (by simp only[List.size_toArray,fh,Nat.mul_one];exact Nat.le_refl _)⟩
theorem Tt (hT:dh P tt) {t t2 e:Nat} {ts:Array TypeId} {ti G0 te:TI} {z:List AV} (dV:tt.get (key t)=some ti) (Ic:tt.get (key t2)=some G0) (hk:ti.k= .slice e) (tE: ∀k,G0.k≠ .int k)
  (fY:tt.get (key e)=some te) (hz:te.zero=some z) (h8:te.size=1) (h0:ts[0]? =some t) (h1:ts[1]? =some t2) (ty:TypeId) {s u:AV} {xs xu:Value} {res:di} (hW:bM ρ C st w)
  (hs:aA ρ st.next.toNat C s xs) (hu:aA ρ st.next.toNat C u xu) (hr:o6 (fun b=>st.heap.get b) st.next e te.bytes [s,u]=some res):
  ux P ρ C st w (((Builtin.append_ ts ty #[xs,xu]).run P w).andThen fun v w=> .ok (.value v) w) res:=by
 have LI:=fun w=>tA hT fY hz (ρ:=ρ) (n:=st.next.toNat) (C:=C) w
 simp only[o6] at hr
 split at hr<;>first|(cases hr;done)|skip
 rename_i us
 obtain ⟨bs,rfl,mH⟩:=hu.dN
 have hm:iX (AV.str us)=some us.length:=rfl
 have hlen:=KB (P:=P) (w:=w) hu hm
 have Xc: ∀{n:Nat} {s:AV},iX s=some n->Nat.ble ((2*(n+us.length)+768)*te.bytes) 281474976710656=true->Nat.ble (n+us.length) 9223372036854775807=true->us.length=0->(s= .aj\/ ∃b,s= .slice b 0 n none 1)->
    jX (fun b=>st.heap.get b) st.next te.size te.bytes [s,.str us]=some (.val s):=by
  intro n s h1 h2 h3 h4 h5
  rw[h4] at h2 h3
  rcases h5 with rfl|⟨b,rfl⟩
  . simp only[jX,h1,hm,h2,h3,h4];try rfl
  . simp only[jX,h1,hm,h2,h3,h4];try rfl
 have rO:gp te.size us.length (fun b=>st.heap.get b) (.str us)=some (us.map fun c=>AV.int .u8 (.ofNat c)):=by
  have e1:Nat.beq te.size 1=true:=by rw[h8];rfl
  have e2:Nat.ble us.length us.length=true:=Nat.ble_self_eq_true _
  simp only[gp,e1,e2,List.take_length]
 split at hr<;>first|(cases hr;done)|skip
 ·
  split at hr<;>first|(cases hr;done)|skip
  rename_i b1 b2
  split at hr
  . rename_i hb
    simp only[Option.some.injEq] at hr;subst hr
    exact Fk hT dV Ic hk tE fY hz h0 h1 ty hW hs hu (Xc rfl b1 b2 (Nat.eq_of_beq_eq_true hb) (.inl rfl))
  . rename_i hb
    have hb:=Nat.ne_of_beq_eq_false hb
    simp only[Option.some.injEq] at hr;subst hr
    have jx:=hs.gD
    subst jx
    have cA:=Fj hT dV Ic hk tE fY h0 h1 ty none 0 0 us.length (.string bs) w hlen (Nat.le_of_ble_eq_true b1) (Nat.le_of_ble_eq_true b2)
    rw[cA,if_neg (by omega)]
    have hg:0+us.length<=grownCap w (0+us.length) 0 e:=by unfold grownCap Question.cut;exact Nat.le_add_right _ _
    obtain ⟨new,e3,e4,_⟩:=lX (P:=P) hW hu hm (Nat.le_refl _) rO w.drew rfl
    obtain ⟨zv,xR,_,rN⟩:=LI w.drew
    have N7:zv.cells.size=1:=by have:=rN.1;have h2:=(hT.at fY).info;obtain ⟨i0,mG,lR,_,xQ⟩:=h2;obtain ⟨v0,wj,_,rH,_⟩:=xQ z hz;simp at this;omega
    have CR:(Builtin.zeroCells zv.cells (grownCap w (0+us.length) 0 e - (0+us.length))).toList.length=grownCap w (0+us.length) 0 e - (0+us.length):=by
        rw[zV,N7,Nat.mul_one]
    obtain ⟨ρ',aU,eF,hE,hv⟩:=JV hW none (az.nil (ρ:=ρ)) e4 (by simp) (by simp) CR hg (e:=e) rfl
    refine ⟨_,_,_,ρ',?_,Yields.value _,aU,eF,hv,hE⟩
    have e0:(Builtin.firstCells te.size 0 (.slice none 0 0)).run P w.drew= .ok #[] w.drew:=by simp[Builtin.firstCells]
    simp only[e0,e3,xR,Result.andThen_ok,World.size_drew]
    congr 2
    simp
 ·
  rename_i b n
  split at hr<;>first|(cases hr;done)|skip
  rename_i b1 b2
  split at hr
  . rename_i hb
    simp only[Option.some.injEq] at hr;subst hr
    exact Fk hT dV Ic hk tE fY hz h0 h1 ty hW hs hu (Xc rfl b1 b2 (Nat.eq_of_beq_eq_true hb) (.inr ⟨_,rfl⟩))
  . rename_i hbm
    have hbm:=Nat.ne_of_beq_eq_false hbm
    split at hr<;>first|(cases hr;done)|skip
    rename_i e' cs hb
    split at hr<;>first|(cases hr;done)|skip
    rename_i dJ n9 uY
    have n9:=Nat.eq_of_beq_eq_true n9
    subst n9
    simp only[Option.some.injEq] at hr;subst hr
    obtain ⟨aa,aL,jx,hle,Xa,ha⟩:=hs.dR
    subst jx
    have cA:=Fj hT dV Ic hk tE fY h0 h1 ty (some aa) n aL us.length (.string bs) w hlen (Nat.le_of_ble_eq_true b1) (Nat.le_of_ble_eq_true b2)
    rw[cA]
    obtain ⟨ho1,ho2⟩:=zl uY
    have Vu:=qX uY
    obtain ⟨kS,hbs2,c,fr,g1,g2,g3,g4,g5,g6⟩:=hW.live b _ hb
    by_cases tF:n+us.length<=aL
    ·
        obtain ⟨bI,rfl,hbound⟩:=ha (by omega)
        rw[Nat.mul_one,g6,Nat.add_zero,Nat.zero_add] at hbound
        rw[g6] at g3 g4 g5
        simp only[Nat.zero_add,List.drop_zero] at g3 g4 g5
        obtain ⟨ys,e1,e2,_⟩:=lX (P:=P) hW hu hm (Nat.le_refl _) rO w rfl
        have hyl:ys.length=us.length:=by rw[<-e2.1];simp
        have hold:az ρ st.next.toNat C dJ (c.toList.take n):=by
          have h:=(g4.drop 0).take n
          rw[<-ho1,List.drop_zero,List.take_take,Nat.min_eq_left (by omega)] at h
          exact h
        obtain ⟨w2,s1,s2,s3,s4,s5,s6,s7⟩:=lg (P:=P) (ρ b).aF e fr ys 0 n c w g1 (by omega) (wR (Ob us) e2) (fun k hk qI=>g5 k (Nat.zero_le _) qI)
        simp only[Nat.add_zero] at s1 s2
        let ρ':Pos->Loc:=fun q=>if q=st.next then ⟨(ρ b).aF,0,(ρ b).size⟩ else ρ q
        have aU: ∀q:Pos,q.toNat<st.next.toNat->ρ' q=ρ q:=fun q hq=>if_neg (fun e=>by rw[e] at hq;omega)
        have dI:ρ' st.next=⟨(ρ b).aF,0,(ρ b).size⟩:=if_pos rfl
        have WS:c.toList.length=c.size:=by simp
        have hWn:bM ρ' C (st.aI (some b) none (some (.typed e (dJ++us.map fun c=>AV.int .u8 (.ofNat c))))) w2:=by
          refine hW.P4 (b0:=st.next) (x0:= .typed e (dJ++us.map fun c=>AV.int .u8 (.ofNat c))) (by rw[Pos.aG];omega) (by rw[Pos.aG];omega) (by rw[T.fj]) ?_ aU ?_ ?_ (by rw[dI,s3];exact hbs2) (by omega) (fun k hk qI=>s4 k (by rw[dI] at qI;exact qI))
          . intro q x hq hx
            rw[T.bN _ (fun e=>hq e.symm)] at hx
            obtain ⟨h1,h2⟩:=vM (some b) _ hx
            refine ⟨h1,?_⟩
            rw[dI]
            exact fun e=>h2 b rfl (hW.inj _ _ _ _ h1 hb e)
          . rw[dI]
            refine ⟨_,fr,s2,by simp[aV];omega,by simp[aV,Vu];omega,?_,fun i mG hi=> ?_,rfl⟩
            . simp only[List.drop_zero]
              have Qc:(aV c.toList n ys).take (dJ++us.map fun c=>AV.int .u8 (.ofNat c)).length=c.toList.take n++ys:=by
               unfold aV
               rw[<-List.append_assoc,List.take_left']
               simp[Vu,hyl];omega
              rw[Qc]
              exact (hold.append e2).mono aU (by rw[Pos.aG];omega)
            . have Qi:i<c.size:=by
               simp only[List.size_toArray,Nat.zero_add] at hi
               have:(aV c.toList n ys).length=c.size:=by simp[aV];omega
               omega
              simpa using g5 i (Nat.zero_le _) Qi
          . intro ad v hv
            rw[dI]
            exact fun e=>(hW.dc ad v hv).2 b _ hb e.symm
        refine ⟨_,(.slice (some ⟨(ρ b).aF,(ρ b).base+0,none⟩) (n+us.length) aL),w2,ρ',?_,Yields.value _,aU,hWn,?_,⟨s5,s6,s7,by omega,fun k _ hk=>s4 k (fun e=>hk b _ hb e.symm),fun q x hx=> ?_⟩⟩
        rotate_left
        rotate_left
        . left
          by_cases hq:q=st.next
          . exact ⟨b,_,hb,by rw[hq,dI]⟩
          . simp only[St.aI,Bf] at hx
            rw[T.bN _ (fun e=>hq e.symm)] at hx
            obtain ⟨h1,_⟩:=vM (some b) _ hx
            exact ⟨q,x,h1,by rw[aU q (hW.live q x h1).1]⟩
        . rw[if_pos tF,e1]
          simp only[Result.andThen_ok,nk,h8,Nat.mul_one,g6,Nat.zero_add]
          rw[s1];rfl
        . refine .slice _ _ _ _ _ _ _ tF (fun c hc=>by cases hc) (fun _=>⟨by simp[St.aI,Pos.aG],by rw[dI,g6],?_⟩) (fun _=>by simp[St.aI,Pos.aG])
          rw[dI];simp only;omega
    .   rw[ if_neg tF]
        have hg:n+us.length<=grownCap w (n+us.length) aL e:=by unfold grownCap Question.cut;exact Nat.le_add_right _ _
        obtain ⟨new,e3,e4,_⟩:=lX (P:=P) hW hu hm (Nat.le_refl _) rO w.drew rfl
        obtain ⟨zv,xR,_,rN⟩:=LI w.drew
        have N7:zv.cells.size=1:=by have:=rN.1;have h2:=(hT.at fY).info;obtain ⟨i0,mG,lR,_,xQ⟩:=h2;obtain ⟨v0,wj,_,rH,_⟩:=xQ z hz;simp at this;omega
        have CR:(Builtin.zeroCells zv.cells (grownCap w (n+us.length) aL e - (n+us.length))).toList.length=grownCap w (n+us.length) aL e - (n+us.length):=by
          rw[zV,N7,Nat.mul_one]
        have hold: ∃os:List Value,(Builtin.firstCells te.size n (.slice (some aa) n aL)).run P w.drew= .ok os.toArray w.drew/\az ρ st.next.toNat C dJ os:=by
          by_cases JW:n=0
          . subst JW
            have:dJ=[]:=List.eq_nil_of_length_eq_zero Vu
            subst this
            exact ⟨[],by simp[Builtin.firstCells,loadCells,loadCellsFrom],az.nil⟩
          . obtain ⟨bI,rfl,hbound⟩:=ha (by omega)
            obtain ⟨ys,uF,o8⟩:=(show bM ρ C st w.drew from ⟨fun b x hb=>hW.live b x hb,hW.inj,hW.dc,hW.whole⟩).LF (P:=P) hb uY
            exact ⟨ys,by simpa [Builtin.firstCells,h8] using uF,o8⟩
        obtain ⟨os,e5,e6⟩:=hold
        obtain ⟨ρ',aU,eF,hE,hv⟩:=JV hW (some b) e6 e4 Vu (by simp) CR hg (e:=e) rfl
        refine ⟨_,_,_,ρ',?_,Yields.value _,aU,eF,hv,hE⟩
        simp only[e5,e3,xR,Result.andThen_ok,World.size_drew]
        congr 2
        simp
theorem O7 {ts:Array TypeId} (ty:TypeId) {s:AV} {xs:Value} {res:di} (hs:aA ρ st.next.toNat C s xs) (hW:bM ρ C st w) (hr:qi (fun b=>st.heap.get b) st.next [s]=some res):
   ux P ρ C st w (((Builtin.unsafeSliceData_ ts ty #[xs]).run P w).andThen fun v w=> .ok (.value v) w) res:=by
 simp only[qi] at hr
 split at hr<;>first|(cases hr;done)|skip
 . simp only[Option.some.injEq] at hr;subst hr
   have:=hs.gD;subst this
   exact .pure (x:= .pointer none) rfl .bq
 . rename_i b off n cap es
   split at hr<;>first|(cases hr;done)|skip
   rename_i h0
   have h0:=Nat.ne_of_beq_eq_false h0
   simp only[Option.some.injEq] at hr;subst hr
   obtain ⟨aa,aL,jx,hle,_,ha⟩:=hs.dR
   subst jx
   have hc:aL≠0:=by omega
   obtain ⟨h1,h2,_⟩:=ha hc
   refine .pure (x:= .pointer (some aa)) (by rw[Lib.run_unsafeSliceData_row w ts ty aa n aL hc];rfl) ?_
   rw[h2]
   exact .ptr b off h1
theorem afL (hW:bM ρ C st w) {b:Pos} {x:AB} (hb:st.heap.get b=some x) (h1:w'.os=w.os) (h2:w'.tape=w.tape) (h3:w'.output=w.output) (fh:w'.heap.size=w.heap.size)
   (vK: ∀k,k≠(ρ b).aF->w'.heap[k]? =w.heap[k]?):
   bM ρ C (st.aI (some b) none none) w'/\ni ρ st w ρ (st.aI (some b) none none) w':=by
 have mQ: ∀c y,(st.aI (some b) none none).heap.get c=some y->st.heap.get c=some y/\c≠b:=fun c y hc=>by
   obtain ⟨g1,g2⟩:=vM (some b) _ (show (zT (some b) st.heap).get c=some y from hc)
   exact ⟨g1,fun e=>g2 b rfl e⟩
 refine ⟨⟨fun c y hc=> ?_,fun c c' y y' hc tD e=>hW.inj c c' y y' (mQ c y hc).1 (mQ c' y' tD).1 e,fun a v ha=> ?_,fun a v ha o ho=> ?_⟩,⟨h1,h2,h3,by omega,fun k _ hk=>vK k (fun e=>hk b x hb e.symm),fun c y hc=> .inl ⟨c,y,(mQ c y hc).1,rfl⟩⟩⟩
 . obtain ⟨g1,g2⟩:=mQ c y hc
   obtain ⟨k1,k2,k3⟩:=hW.live c y g1
   exact ⟨k1,by omega,k3.of_heap (vK _ fun e=>g2 (hW.inj _ _ _ _ g1 hb e))⟩
 . obtain ⟨g1,g2⟩:=hW.dc a v ha
   refine ⟨?_,fun c y hc=>g2 c y (mQ c y hc).1⟩
   have:=vK a.block (fun e=>g2 b x hb e.symm)
   rw[<-g1]
   simp only[World.cell?,this]
 . have:=vK a.block (fun e=>(hW.dc a v ha).2 b x hb e.symm)
   rw[<-hW.whole a v ha o ho]
   simp only[World.cell?,this]
theorem O8 (hT:dh P tt) {t t2 e:Nat} {ts:Array TypeId} {ti te:TI} (dV:tt.get (key t)=some ti) (hk:ti.k= .ptr e) (fY:tt.get (key e)=some te) (h8:te.size=1) (CW:ts.toList=[t,t2])
   (ty:TypeId) {s u:AV} {xs xu:Value} {res:di} (hW:bM ρ C st w)
   (hs:aA ρ st.next.toNat C s xs) (hu:aA ρ st.next.toNat C u xu) (hr:mh (fun b=>st.heap.get b) st.next e [s,u]=some res):
   ux P ρ C st w (((Builtin.unsafeString_ ts ty #[xs,xu]).run P w).andThen fun v w=> .ok (.value v) w) res:=by
 obtain rfl:ts= #[t,t2]:=by apply Array.ext';rw[CW]
 simp only[mh] at hr
 split at hr<;>first|(cases hr;done)|skip
 rename_i n
 have:=hu.jB;subst this
 split at hr
 . rename_i h0
   have:=Nat.eq_of_beq_eq_true h0;subst this
   split at hr<;>first|(cases hr;done)|skip
   . simp only[Option.some.injEq] at hr;subst hr
     have:=hs.qY;subst this
     exact .pure (x:= .string .empty) (by rw[show (Int.ofNat 0)=(0:Int) from rfl,Lib.run_unsafeString_none];rfl) (.str _ _ rfl)
   . simp only[Option.some.injEq] at hr;subst hr
     obtain ⟨_,he⟩:=hs.gv
     subst he
     exact .pure (x:= .string .empty) (by rw[show (Int.ofNat 0)=(0:Int) from rfl,Lib.run_unsafeString_none];rfl) (.str _ _ rfl)
 . rename_i h0
   have h0:=Nat.ne_of_beq_eq_false h0
   split at hr<;>first|(cases hr;done)|skip
   rename_i b
   split at hr<;>first|(cases hr;done)|skip
   rename_i e' cs hb
   split at hr<;>first|(cases hr;done)|skip
   rename_i l he hcut Vr
   have he:=Nat.eq_of_beq_eq_true he
   have Vr:=Nat.le_of_ble_eq_true Vr
   subst he
   split at hr<;>first|(cases hr;done)|skip
   rename_i s' Qb
   simp only[Option.some.injEq] at hr;subst hr
   obtain ⟨_,jx⟩:=hs.gv
   subst jx
   obtain ⟨d,hd,cM⟩:=(hT.at dV).und
   rw[hk] at cM;rw[LA cM] at hd
   obtain ⟨i0,mG,lR,_⟩:=(hT.at fY).info
   have CQ:P.cellsOf e=1:=by simp[Program.cellsOf,mG,lR,h8]
   obtain ⟨kS,hbs2,c,fr,g1,g2,g3,g4,g5,g6⟩:=hW.live b _ hb
   rw[g6] at g3 g4 ⊢
   simp only[Nat.zero_add,List.drop_zero] at g3 g4
   have JN:w.shape? (ρ b).aF=some (e,c.size):=by simp[World.shape?,g1]
   obtain ⟨oH,mb⟩:=zl hcut
   have JU:=qX hcut
   have o8:az ρ st.next.toNat C l (c.toList.take n):=by
     have h:=(g4.drop 0).take n
     rw[<-oH,List.drop_zero,List.take_take,Nat.min_eq_left (by omega)] at h
     exact h
   obtain ⟨e1,e2⟩:=DE Qb o8
   have JR:s'.length=n:=by
     have:=congrArg List.length e1
     simp at this;omega
   have cA:=Lib.run_unsafeString_row (P:=P) w t t2 ty e hd CQ (ρ b).aF c.size JN (s'.map UInt8.ofNat) (by intro h;simp at h;rw[h] at JR;simp at JR;omega) (by simp;omega) (by simp;omega) (fun j x hj=>by
     simp only[List.getElem?_map,Option.map_eq_some_iff] at hj
     obtain ⟨k,hk,rfl⟩:=hj
     have hjn:j<n:=by rw[<-JR];exact (List.getElem?_eq_some_iff.1 hk).1
     have h2:(c.toList.take n)[j]? =some (.int .u8 (k:Int)):=by rw[e1];simp[hk]
     rw[List.getElem?_take,if_pos hjn] at h2
     have hk256:=e2 k (List.mem_of_getElem? hk)
     rw[nk]
     simp only[World.cell?,g1,Nat.zero_add]
     rw[<-Array.getElem?_toList,h2]
     congr 2
     simp
     omega)
   have hlen:(s'.map UInt8.ofNat).length=n:=by simp[JR]
   rw[hlen] at cA
   obtain ⟨q1,q2⟩:=afL (w':=w.freeze ⟨(ρ b).aF,0,none⟩ n) hW hb (by unfold World.freeze;split<;>rfl) (by unfold World.freeze;split<;>rfl) (by unfold World.freeze;split<;>rfl) (by unfold World.freeze;split<;>simp) (fun k hk=>by
     unfold World.freeze
     split
     .  rfl
     .  simp only[Array.getElem?_modify]
        rw[if_neg (fun e=>hk e.symm)])
   refine ⟨_,.string ⟨(s'.map UInt8.ofNat).toArray⟩,_,ρ,?_,Yields.value _,fun _ _=>rfl,q1,.str _ _ ?_,q2⟩
   . show ((Builtin.unsafeString_ #[t,t2] ty #[.pointer (some ⟨(ρ b).aF,0,none⟩),.int .i64 (n:Int)]).run P w).andThen _=_
     rw[cA];rfl
   . simp only[List.map_map]
     have e3:s'.map (UInt8.toNat∘UInt8.ofNat)=s'.map id:=List.map_congr_left fun c hc=>by
        have:=e2 c hc
        simp only[Function.comp,id,UInt8.toNat_ofNat']
        omega
     rw[e3,List.map_id]
end
end Go.Ai
end
section
namespace Go.Ai
open Go Go.RowKit
section
variable {P : Program} {tt : TT} {ρ : Pos -> Loc} {C : Cells} {st : St} {w w' : World}
theorem Ep {n:Nat} {xs:Array Value} {u v:AV} (h:az ρ n C [u,v] xs.toList): ∃x y,xs= #[x,y]/\aA ρ n C u x/\aA ρ n C v y:=by
 obtain ⟨x,l,h1,h2,h3⟩:=h.cons_inv
 obtain ⟨y,l',h4,h5,h6⟩:=h3.cons_inv
 have:=h6.kQ;subst this
 exact ⟨x,y,by apply Array.ext';rw[h1,h4],h2,h5⟩
theorem Qm {n:Nat} {xs:Array Value} {u:AV} (h:az ρ n C [u] xs.toList): ∃x,xs= #[x]/\aA ρ n C u x:=by
 obtain ⟨x,l,h1,h2,h3⟩:=h.cons_inv
 have:=h3.kQ;subst this
 exact ⟨x,by apply Array.ext';rw[h1],h2⟩
theorem Qn {ts:Array TypeId} {t:TypeId} {l:List TypeId} (h:ts.toList=t::l):ts[0]? =some t:=by
 rw[<-Array.getElem?_toList,h];rfl
theorem arr1 {ts:Array TypeId} {t t2:TypeId} {l:List TypeId} (h:ts.toList=t::t2::l):ts[1]? =some t2:=by
 rw[<-Array.getElem?_toList,h];rfl
theorem ZC (hT:dh P tt) {t e:Nat} {ts:Array TypeId} {ti te:TI} (dV:tt.get (key t)=some ti) (hk:ti.k= .slice e)
   (fY:tt.get (key e)=some te) (h0:ts[0]? =some t) (ty:TypeId) {d u:AV} {xd xu:Value} {res:di} (hW:bM ρ C st w)
   (hd:aA ρ st.next.toNat C d xd) (hu:aA ρ st.next.toNat C u xu) (hr:yb (fun b=>st.heap.get b) st.next te.size [d,u]=some res):
   ux P ρ C st w (((Builtin.copy_ ts ty #[xd,xu]).run P w).andThen fun v w=> .ok (.value v) w) res:=by
 obtain ⟨dd,hdd,cM⟩:=(hT.at dV).und
 rw[hk] at cM;rw[ob cM] at hdd
 obtain ⟨i0,mG,lR,_⟩:=(hT.at fY).info
 simp only[yb] at hr
 split at hr<;>first|(cases hr;done)|skip
 rename_i n m hn hm
 have hlen:=KB (P:=P) (w:=w) hu hm
 have JR:(∃s,d= .str s)\/ ∃base aL,xd= .slice base n aL/\n<=aL:=by
   unfold iX at hn
   split at hn<;>first|(cases hn;done)|skip
   . cases hn;exact .inr ⟨none,0,hd.gD,Nat.le_refl _⟩
   . cases hn;obtain ⟨a,c,he,hle,_⟩:=hd.dR;exact .inr ⟨_,c,he,hle⟩
   . cases hn;obtain ⟨a,c,_,he,hle,_⟩:=hd.tu;exact .inr ⟨_,c,he,hle⟩
   . exact .inl ⟨_,rfl⟩
 have afM:m=0\/n=0->(Builtin.firstCells te.size 0 xu).run P w= .ok #[] w:=by
   intro _
   unfold iX at hm
   split at hm<;>first|(cases hm;done)|skip
   . rw[hu.gD];simp[Builtin.firstCells]
   . obtain ⟨_,_,he,_⟩:=hu.dR;rw[he];simp[Builtin.firstCells,loadCells,loadCellsFrom]
   . obtain ⟨_,_,_,he,_⟩:=hu.tu;rw[he];simp[Builtin.firstCells,loadCells,loadCellsFrom]
   . obtain ⟨bs,rfl,_⟩:=hu.dN
     simp only[Builtin.firstCells,Sem.run_pure]
     congr 1
     apply Array.ext'
     simp
 have qJ: ∀base aL,xd= .slice base n aL->(Builtin.copy_ ts ty #[xd,xu]).run P w=((Builtin.firstCells te.size (Nat.min m n) xu).run P w).andThen fun cells w=>((match base with|some a=>storeCells a cells.toList|none=>pure ()).run P w).andThen fun _ w=> .ok (goInt (Nat.min m n)) w:=by
   intro base aL he
   unfold Builtin.copy_
   simp only[h0,he,List.getElem?_toArray,List.getElem?_cons_zero,List.getElem?_cons_succ,Sem.run_bind,aQ hdd,Result.andThen_ok,jq mG,lR,hlen]
   cases base<;>simp only[Sem.run_bind,Sem.run_pure,Result.andThen_ok]
 split at hr
 . rename_i Qo
   have Qo:=Nat.eq_of_beq_eq_true Qo
   split at hr<;>first|(cases hr;done)|skip
   rename_i hns
   simp only[Option.some.injEq] at hr;subst hr
   rcases JR with ⟨s,rfl⟩|⟨base,aL,he,hle⟩
   . exact absurd rfl (hns s)
   . have hk0':Nat.min m n=0:=Qo
     refine .pure (x:=goInt 0) ?_ (.int _ _)
     rw[qJ base aL he,hk0',afM (by have:min m n=0:=Qo;omega)]
     cases base<;>simp[storeCells]
 . rename_i Qo
   have Qo:=Nat.ne_of_beq_eq_false Qo
   split at hr<;>first|(cases hr;done)|skip
   rename_i b off n' cap es'
   split at hr<;>first|(cases hr;done)|skip
   rename_i cs fz new hb rO
   split at hr<;>first|(cases hr;done)|skip
   rename_i c1 c2 c3
   have c1:=Nat.le_of_ble_eq_true c1
   have c2:=Nat.le_of_ble_eq_true c2
   simp only[Option.some.injEq] at hr;subst hr
   simp only[iX,Option.some.injEq] at hn;subst hn
   obtain ⟨aa,aL,he,hle,_,ha⟩:=hd.dR
   have hmin:min m n'<=m/\min m n'<=n':=⟨Nat.min_le_left _ _,Nat.min_le_right _ _⟩
   obtain ⟨bI,rfl,_⟩:=ha (by omega)
   obtain ⟨ys,e1,e2,e3⟩:=lX (P:=P) hW hu hm hmin.1 rO w rfl
   have Fl:new.length=min m n'*te.size:=by
     rcases e3 with rfl|e3
     . simp[iX] at hm;omega
     . exact e3
   obtain ⟨w2,f1,eF,hE⟩:=Fi (P:=P) hW hb (by rw[Fl];exact c1) c2 c3 e2
   refine ⟨_,goInt ((min m n':Nat):Int),w2,ρ,?_,Yields.value _,fun _ _=>rfl,eF,.int _ _,hE⟩
   rw[qJ _ _ he]
   have hmm:Nat.min m n'=min m n':=rfl
   rw[hmm,e1]
   simp only[Result.andThen_ok]
   rw[f1];rfl
theorem abu (hT:dh P tt) {t:Nat} {ts:Array TypeId} {ti:TI} (dV:tt.get (key t)=some ti) {k:LK} (hk:(k= .s/\ti.k= .string)\/(k= .l/\ ∃e,ti.k= .slice e)\/(k= .m/\ ∃a b,ti.k= .map a b))
   (h0:ts[0]? =some t) (ty:TypeId) {u:AV} {xu:Value} {res:di} (hW:bM ρ C st w)
   (hu:aA ρ st.next.toNat C u xu) (hr:D9 (fun b=>st.heap.get b) st.next k [u]=some res):
   ux P ρ C st w (((Builtin.len_ ts ty #[xu]).run P w).andThen fun v w=> .ok (.value v) w) res:=by
 obtain ⟨d,hd,cM⟩:=(hT.at dV).und
 have qJ: ∀x,xu=x->(Builtin.len_ ts ty #[xu]).run P w=(Builtin.len_ ts ty #[x]).run P w:=fun x e=>by rw[e]
 simp only[D9] at hr
 rcases hk with ⟨rfl,hk⟩|⟨rfl,e,hk⟩|⟨rfl,a,b,hk⟩<;>rw[hk] at cM
 . rw[nQ cM] at hd
   cases u<;>simp only[reduceCtorEq] at hr<;>first|(cases hr;done)|skip
   simp only[Option.some.injEq] at hr;subst hr
   obtain ⟨bs,rfl,hs⟩:=hu.dN
   exact .pure (x:=goInt bs.size) (by unfold Builtin.len_;simp[h0,aQ hd]) (by rw[vL hs];exact .int _ _)
 . rw[ob cM] at hd
   cases u<;>simp only[reduceCtorEq] at hr<;>first|(cases hr;done)|skip
   . simp only[Option.some.injEq] at hr;subst hr
     rw[hu.gD]
     exact .pure (x:=goInt 0) (by unfold Builtin.len_;simp[h0,aQ hd]) (.int _ _)
   . simp only[Option.some.injEq] at hr;subst hr
     obtain ⟨aa,c,he,_⟩:=hu.dR
     rw[he]
     exact .pure (by unfold Builtin.len_;simp[h0,aQ hd];rfl) (.int _ _)
   . simp only[Option.some.injEq] at hr;subst hr
     obtain ⟨aa,c,_,he,_⟩:=hu.tu
     rw[he]
     exact .pure (by unfold Builtin.len_;simp[h0,aQ hd];rfl) (.int _ _)
 . rw[H6 cM] at hd
   cases u<;>simp only[reduceCtorEq] at hr<;>first|(cases hr;done)|skip
   . simp only[Option.some.injEq] at hr;subst hr
     rw[hu.yf]
     exact .pure (x:=goInt 0) (by unfold Builtin.len_;simp[h0,aQ hd]) (.int _ _)
   . split at hr<;>first|(cases hr;done)|skip
     rename_i es c hb
     simp only[Option.some.injEq] at hr;subst hr
     obtain ⟨_,he⟩:=hu.yg
     obtain ⟨_,_,es',gq,hlen,_⟩:=hW.live _ _ hb
     rw[he]
     exact .pure (x:=goInt es'.size) (by unfold Builtin.len_;simp[h0,aQ hd,run_getObj_map gq]) (by rw[<-hlen];exact .int _ _)
theorem Nh (z:Array Value) (m:Nat):(Builtin.zeroCells z m).toList=dG z.toList m:=by
 unfold Builtin.zeroCells
 by_cases h:0<z.size
 . exact Qf z m h
 . have h0:z.size=0:=by omega
   have:z= #[]:=Array.eq_empty_of_size_eq_zero h0
   subst this
   have h1:dG ([]:List Value) m=[]:=List.eq_nil_of_length_eq_zero (by rw[jZ];simp)
   simp[h1]
theorem Xd (hT:dh P tt) {t e:Nat} {ts:Array TypeId} {ti te:TI} {z:List AV} (dV:tt.get (key t)=some ti) (hk:ti.k= .slice e)
   (fY:tt.get (key e)=some te) (hz:te.zero=some z) (h0:ts[0]? =some t) (ty:TypeId) {u:AV} {xu:Value} {res:di} (hW:bM ρ C st w)
   (hu:aA ρ st.next.toNat C u xu) (hr:we (fun b=>st.heap.get b) st.next te.size z [u]=some res):
   ux P ρ C st w (((Builtin.clear_ ts ty #[xu]).run P w).andThen fun v w=> .ok (.value v) w) res:=by
 obtain ⟨dd,hdd,cM⟩:=(hT.at dV).und
 rw[hk] at cM;rw[ob cM] at hdd
 obtain ⟨i0,mG,lR,_,xQ⟩:=(hT.at fY).info
 obtain ⟨zv0,_,_,LN,_⟩:=xQ z hz
 obtain ⟨zv,xR,_,rN⟩:=tA hT fY hz (ρ:=ρ) (n:=st.next.toNat) (C:=C) w
 simp only[we] at hr
 split at hr<;>first|(cases hr;done)|skip
 . simp only[Option.some.injEq] at hr;subst hr
   rw[hu.gD]
   exact .pure (x:=undef) (by unfold Builtin.clear_;simp[h0,aQ hdd];rfl) aA.vN
 . rename_i b off n cap es'
   obtain ⟨aa,aL,he,hle,_,ha⟩:=hu.dR
   rw[he]
   split at hr
   . rename_i JW
     have:=Nat.eq_of_beq_eq_true JW;subst this
     simp only[Option.some.injEq] at hr;subst hr
     exact .pure (x:=undef) (by unfold Builtin.clear_;simp[h0,aQ hdd];rfl) aA.vN
   . rename_i JW
     have JW:=Nat.ne_of_beq_eq_false JW
     split at hr<;>first|(cases hr;done)|skip
     rename_i cs fz hb
     split at hr<;>first|(cases hr;done)|skip
     rename_i c1 c2 c3
     have c1:=Nat.le_of_ble_eq_true c1
     have c2:=Nat.le_of_ble_eq_true c2
     simp only[Option.some.injEq] at hr;subst hr
     obtain ⟨_,rfl,_⟩:=ha (by omega)
     obtain ⟨w2,f1,eF,hE⟩:=Fi (P:=P) hW hb (vs:=dG z n) (ys:=dG zv.cells.toList n) (by rw[jZ,LN];exact c1) c2 c3 (DF rN n)
     refine ⟨_,undef,w2,ρ,?_,Yields.value _,fun _ _=>rfl,eF,aA.vN,hE⟩
     unfold Builtin.clear_
     cases n with
     |zero=>exact absurd rfl JW
     |succ n=>simp[h0,aQ hdd,xR,Nh,f1,undef]
theorem Er (c:Call) (f:Operand) (hc:c.callee= .value f) (a:Act) (o:Oper) (ho:o.op= .call c) {g:FuncId} {x y:Array Value} (he:a.eval f= .func (.func g) x y):
  (execOp a.eval o).run P w=(callFunc g (x++c.args.map a.eval++y)).run P w:=by
 simp[execOp,ho,resolve,hc,he,Deferred.ofValue,invoke]
theorem ZD (hT:dh P tt) (c:Call):dO P tt (.call c):=by
 intro ρ C st w k xs cls fr a o vs res ho hc hW hF hx hr
 simp only[gU] at hc
 split at hc<;>first|(cases hc;done)|skip
 rename_i l hl
 split at hc<;>first|(cases hc;done)|skip
 ·
  rename_i g Qp
  cases hc
  have hv:=fk hl hF hx
  simp only[aE.run,Ks,Option.some.injEq] at hr;subst hr
  refine ⟨c.args.toList.map a.eval,?_,hv⟩
  rw[Er c _ Qp a o ho (g:=g) (x:= #[]) (y:= #[]) rfl]
  congr 2
  apply Array.ext'
  simp
 ·
  rename_i f hnf Qp
  split at hc<;>first|(cases hc;done)|skip
  rename_i ao hao
  cases hc
  unfold eY at hx
  split at hx<;>first|(cases hx;done)|skip
  rename_i fv hfv
  split at hx<;>first|(cases hx;done)|skip
  rename_i vs' ZE
  simp only[Option.some.injEq] at hx;subst hx
  have h1:=Bj hao hF hfv
  have h2:=fk hl hF ZE
  simp only[aE.run,Kt] at hr
  split at hr<;>first|(cases hr;done)|skip
  rename_i g first captured
  simp only[Option.some.injEq] at hr;subst hr
  obtain ⟨x,y,he,hx,hy⟩:=h1.E9
  refine ⟨x.toList++(c.args.toList.map a.eval++y.toList),?_,hx.append (h2.append hy)⟩
  rw[Er c f Qp a o ho he]
  congr 2
  apply Array.ext'
  simp
 ·
  rename_i b Qp
  have hex: ∀(s:Sem Value),(∀consts,builtin b c.argTypes o.type consts (c.args.map a.eval)=(do pure (.value (<-s))))->(execOp a.eval o).run P w=(s.run P w).andThen fun v w=> .ok (.value v) w:=by
   intro s hs
   simp only[execOp,ho,resolve,Qp,pure_bind,invoke]
   rw[hs]
   simp
  split at hc<;>first|(cases hc;done)|skip
  ·
   split at hc<;>first|(cases hc;done)|skip
   rename_i t _ _ CW
   split at hc<;>first|(cases hc;done)|skip
   rename_i ti dV
   have hv:=fk hl hF (vs:=vs) (by
        split at hc<;>first|(cases hc;done)|skip
        all_goals cases hc;exact hx)
   rw[iq] at hv
   rw[hex (Builtin.len_ c.argTypes o.type (c.args.map a.eval)) (fun _=>rfl)]
   have hu: ∃u,vs=[u]      :=by
        have h1:=hv.1
        have h2:(c.args.toList).length=1:=by
         have: ∀{xs:List   Operand} {os:List mj},kC xs=some os->xs.length=os.length:=by
            intro xs
            induction xs with
            |nil=>intro os h;simp[kC] at h;subst h;rfl
            |cons x xs ih=>intro os h;unfold kC at h;split at h<;>first|(cases h;done)|skip
                           rename_i e1 e2;simp only[Option.some.injEq] at h;subst h;simp[ih e2]
         rw[this hl];rfl
        match vs,h1 with
        |[u],_=>exact ⟨u,rfl⟩
        |[],h1=>simp at h1 h2;omega
        |_::_::_,h1=>simp at h1 h2;omega
   obtain ⟨u,rfl⟩:=hu
   obtain ⟨x,jx,hux⟩:=Qm hv
   rw[jx]
   split at hc<;>first|(cases hc;done)|skip
   all_goals
        rename_i hk
        cases hc
        simp only[aE.run] at hr
        refine abu hT dV ?_ (Qn CW) o.type hW hux hr
   .    exact .inl ⟨rfl,hk⟩
   .    exact .inr (.inl ⟨rfl,_,hk⟩)
   .    exact .inr (.inr ⟨rfl,_,_,hk⟩)
  ·
   split at hc<;>first|(cases hc;done)|skip
   rename_i t t2 _ CW
   split at hc<;>first|(cases hc;done)|skip
   rename_i ti G0 dV Ic
   split at hc<;>first|(cases hc;done)|skip
   .    rename_i e hk tE
        split at hc<;>first|(cases hc;done)|skip
        rename_i te fY
        split at hc<;>first|(cases hc;done)|skip
        rename_i z hz Qa h8
        have h8:=Nat.eq_of_beq_eq_true h8
        cases hc
        have hv:=fk hl hF hx
        rw[iq] at hv
        rw[hex (Builtin.append_ c.argTypes o.type (c.args.map a.eval)) (fun _=>rfl)]
        simp only[aE.run] at hr
        have hu: ∃s u,vs=[s,u]:=by
         unfold o6 at hr
         split at hr<;>first|(cases hr;done)|skip
         exact ⟨_,_,rfl⟩
        obtain ⟨s,u,rfl⟩:=hu
        obtain ⟨x,y,jx,h1,h2⟩:=Ep hv
        rw[jx]
        exact Tt hT dV Ic hk (fun k hk=>by rw[tE] at hk;cases hk) fY hz h8 (Qn CW) (arr1 CW) o.type hW h1 h2 hr
   rename_i e hk tE _
   split at hc<;>first|(cases hc;done)|skip
   rename_i te fY
   split at hc<;>first|(cases hc;done)|skip
   rename_i z hz
   cases hc
   have hv:=fk hl hF hx
   rw[iq] at hv
   rw[hex (Builtin.append_ c.argTypes o.type (c.args.map a.eval)) (fun _=>rfl)]
   simp only[aE.run] at hr
   have hu: ∃s u,vs=[s,u]:=by
        unfold jX at hr
        split at hr<;>first|(cases hr;done)|skip
        exact ⟨_,_,rfl⟩
   obtain ⟨s,u,rfl⟩:=hu
   obtain ⟨x,y,jx,h1,h2⟩:=Ep hv
   rw[jx]
   exact Fk hT dV Ic hk (fun k hk=>tE k hk) fY hz (Qn CW) (arr1 CW) o.type hW h1 h2 hr
  ·
   split at hc<;>first|(cases hc;done)|skip
   rename_i t _ CW
   split at hc<;>first|(cases hc;done)|skip
   rename_i ti dV
   split at hc<;>first|(cases hc;done)|skip
   rename_i e hk
   split at hc<;>first|(cases hc;done)|skip
   rename_i te fY
   cases hc
   have hv:=fk hl hF hx
   rw[iq] at hv
   rw[hex (Builtin.copy_ c.argTypes o.type (c.args.map a.eval)) (fun _=>rfl)]
   simp only[aE.run] at hr
   have hu: ∃s u,vs=[s,u]:=by
        unfold yb at hr
        split at hr<;>first|(cases hr;done)|skip
        exact ⟨_,_,rfl⟩
   obtain ⟨s,u,rfl⟩:=hu
   obtain ⟨x,y,jx,h1,h2⟩:=Ep hv
   rw[jx]
   exact ZC hT dV hk fY (Qn CW) o.type hW h1 h2 hr
  ·
   split at hc<;>first|(cases hc;done)|skip
   cases hc
   have hv:=fk hl hF hx
   rw[iq] at hv
   rw[hex (Builtin.unsafeSliceData_ c.argTypes o.type (c.args.map a.eval)) (fun _=>rfl)]
   simp only[aE.run] at hr
   have hu: ∃s,vs=[s]:=by
        unfold qi at hr
        split at hr<;>first|(cases hr;done)|skip
        exact ⟨_,rfl⟩
   obtain ⟨s,rfl⟩:=hu
   obtain ⟨x,jx,h1⟩:=Qm hv
   rw[jx]
   exact O7 o.type h1 hW hr
  ·
   split at hc<;>first|(cases hc;done)|skip
   rename_i t t2 CW
   split at hc<;>first|(cases hc;done)|skip
   rename_i ti dV
   split at hc<;>first|(cases hc;done)|skip
   rename_i e hk
   split at hc<;>first|(cases hc;done)|skip
   rename_i te fY
   split at hc<;>first|(cases hc;done)|skip
   rename_i Qa h8
   have h8:=Nat.eq_of_beq_eq_true h8
   cases hc
   have hv:=fk hl hF hx
   rw[iq] at hv
   rw[hex (Builtin.unsafeString_ c.argTypes o.type (c.args.map a.eval)) (fun _=>rfl)]
   simp only[aE.run] at hr
   have hu: ∃s u,vs=[s,u]:=by
        unfold mh at hr
        split at hr<;>first|(cases hr;done)|skip
        exact ⟨_,_,rfl⟩
   obtain ⟨s,u,rfl⟩:=hu
   obtain ⟨x,y,jx,h1,h2⟩:=Ep hv
   rw[jx]
   exact O8 hT dV hk fY h8 CW o.type hW h1 h2 hr
  ·
   split at hc<;>first|(cases hc;done)|skip
   cases hc
   have hv:=fk hl hF hx
   rw[iq] at hv
   rw[hex (Builtin.min_ c.argTypes o.type (c.args.map a.eval)) (fun _=>rfl)]
   simp only[aE.run] at hr
   have hu: ∃s u r,vs=[s,u]/\res= .val r:=by
        unfold Ea at hr
        split at hr<;>first|(cases hr;done)|skip
        split at hr<;>first|(cases hr;done)|skip
        all_goals cases hr;exact ⟨_,_,_,rfl,rfl⟩
   obtain ⟨s,u,r,rfl,rfl⟩:=hu
   obtain ⟨x,y,jx,h1,h2⟩:=Ep hv
   obtain ⟨z,hz,hvz⟩:=Zv (P:=P) (w:=w) h1 h2 hr
   rw[jx]
   refine .pure (x:=z) ?_ hvz
   simp[Builtin.min_,hz]
  ·
   split at hc<;>first|(cases hc;done)|skip
   cases hc
   have hv:=fk hl hF hx
   rw[iq] at hv
   rw[hex (Builtin.max_ c.argTypes o.type (c.args.map a.eval)) (fun _=>rfl)]
   simp only[aE.run] at hr
   have hu: ∃s u r,vs=[s,u]/\res= .val r:=by
        unfold Eb at hr
        split at hr<;>first|(cases hr;done)|skip
        split at hr<;>first|(cases hr;done)|skip
        all_goals cases hr;exact ⟨_,_,_,rfl,rfl⟩
   obtain ⟨s,u,r,rfl,rfl⟩:=hu
   obtain ⟨x,y,jx,h1,h2⟩:=Ep hv
   obtain ⟨z,hz,hvz⟩:=Zw (P:=P) (w:=w) h1 h2 hr
   rw[jx]
   refine .pure (x:=z) ?_ hvz
   simp[Builtin.max_,hz]
  ·
   split at hc<;>first|(cases hc;done)|skip
   rename_i t _ CW
   split at hc<;>first|(cases hc;done)|skip
   rename_i ti dV
   split at hc<;>first|(cases hc;done)|skip
   rename_i e hk
   split at hc<;>first|(cases hc;done)|skip
   rename_i te fY
   split at hc<;>first|(cases hc;done)|skip
   rename_i z hz
   cases hc
   have hv:=fk hl hF hx
   rw[iq] at hv
   rw[hex (Builtin.clear_ c.argTypes o.type (c.args.map a.eval)) (fun _=>rfl)]
   simp only[aE.run] at hr
   have hu: ∃u,vs=[u]:=by
        unfold we at hr
        split at hr<;>first|(cases hr;done)|skip
        exact ⟨_,rfl⟩
   obtain ⟨u,rfl⟩:=hu
   obtain ⟨x,jx,hux⟩:=Qm hv
   rw[jx]
   exact Xd hT dV hk fY hz (Qn CW) o.type hW hux hr
theorem Jf (hT:dh P tt) (op:Op):dO P tt op:=by
 cases op with
 |move x=>exact Zr x
 |assign x=>exact Vj x
 |pick c x y=>exact Zs c x y
 |alloc t=>exact WX hT t
 |box t x=>exact abr t x
 |build t ps=>exact WV hT t ps
 |buildSlice t n ps=>exact Ng hT t n ps
 |insert t m k v=>exact LP hT _ t m k v (.inr rfl)
 |load t x=>exact Zu hT t x
 |store t x y=>exact W4 hT t x y
 |nilCheck x=>exact P8 x
 |binOp op t x y yt=>exact WM hT op t x y yt
 |unOp op t x=>exact Zt op t x
 |convert s d x=>
  by_cases h: ∃xs cls,gU tt (.convert s d x)=some (.conv .bytes,xs,cls)
  . exact O6 hT s d x h
  . exact Tr hT s d x fun k xs cls hc e=>h ⟨xs,cls,by rw[hc,e]⟩
 |makeInterface t x=>exact Tp hT t x
 |makeFunc f x y=>exact Vk f x y
 |makeMap t r=>exact WY t r hT
 |makeSlice t l c=>exact Ts hT t l c
 |slice t x l h m=>exact WR hT t x l h m
 |fieldAddr t x f=>exact O4 hT t x f
 |field t x f=>exact WN hT t x f
 |indexAddr t x i=>exact O5 hT t x i
 |index t x i=>exact WO hT t x i
 |lookup t x i ok=>exact Vm hT t x i ok
 |mapUpdate t m k v=>exact LP hT _ t m k v (.inl rfl)
 |range t x=>exact Vn hT t x
 |next it s=>exact W7 it s
 |extract x i=>exact To x i
 |call c=>exact ZD hT c
 |_=>intro ρ C st w k xs cls fr a o vs res ho hc;simp[gU] at hc
end
end Go.Ai
end
section
namespace Go.Ai
open Go Go.RowKit
def Reaches (P:Program) (R:Value->World->Prop):Result Next->Prop
 | .ok (.value x) w'=>R x w'
 | .ok .skip w'=>R undef w'
 | .ok (.enter f args) w'=>Calls P f args w' fun| .returned v,w''=>R v w''|_,_=>False
 | .ok (.row row args) w'=>Rows P row args w' R
 |_=>False
theorem Reaches.mono {P:Program} {R R':Value->World->Prop} (h: ∀x w,R x w->R' x w): ∀{r:Result Next},Reaches P R r->Reaches P R' r
 | .ok (.value _) _,hr=>h _ _ hr
 | .ok .skip _,hr=>h _ _ hr
 | .ok (.enter _ _) _,hr=>Calls.mono hr fun e w he=>by cases e<;>first|exact h _ _ he|exact he
 | .ok (.row _ _) _,hr=>Rows.mono hr h
theorem Reaches.upon {P:Program} {R:Value->World->Prop} {o:Oper} {a:Act} {K:Act->World->Prop} {Q:Exit->Act->World->Prop} {r:Result Next}
  (hr:Reaches P R r) (h: ∀x w,R x w->K (a.put o.dst x) w):o.upon P a K Q r:=by
 cases r with
 |ok n w=>
  cases n<;>simp only[Reaches] at hr
  . exact h _ _ hr
  . exact h _ _ hr
  . exact Calls.mono hr fun e w he=>by
        cases e with
        |returned v=>exact h _ _ he
        |panicked c=>exact he.elim
        |outgrown=>exact he.elim
  . exact Rows.mono hr fun v w he=>h _ _ he
 |halt x w=>simp only[Reaches] at hr
def lM (ρ:Pos->Loc) (C:Cells) (st:St) (w:World) (v:AV) (st':St) (x:Value) (w':World):Prop:=
 ∃ρ',aA ρ' st'.next.toNat C v x/\(∀b:Pos,b.toNat<st.next.toNat->ρ' b=ρ b)/\st.next.toNat<=st'.next.toNat/\bM ρ' C st' w'/\ni ρ st w ρ' st' w'
def j0 (P:Program) (C:Cells) (call:ai):Prop:=
 ∀  (ρ:Pos->Loc) (st:St) (w:World) (f:FuncId) (args:List AV) (v:AV) (st':St) (bu:List Value),call f args st=some (v,st')->
    bM ρ C st w->az ρ st.next.toNat C args bu->Reaches P (lM ρ C st w v st') ((callFunc f bu.toArray).run P w)
section
variable {P : Program} {tt : TT} {C : Cells} {call : ai}
theorem St.yl (st:St) (del:Option Pos) (set:Option (Pos×AB)) (new:Option AB):st.next.toNat<=(st.aI del set new).next.toNat:=by
 cases new with
 |none=>exact Nat.le_refl _
 |some x=>simp only[St.aI,Pos.aG];omega
theorem JX (hT:dh P tt) (fZ:j0 P C call) {ρ:Pos->Loc} {st st':St} {w:World} {k:aE} {xs:List mj} {cls:Ub} {fr:Fr} {a:Act} {o:Oper} {vs:List AV} {v:AV}
   (hc:gU tt o.op=some (k,xs,cls)) (hW:bM ρ C st w) (hF:oa ρ st.next.toNat C fr a.tmps) (hx:eY fr xs=some vs)
   (hs:cU call k vs st=some (v,st')):Reaches P (lM ρ C st w v st') ((execOp a.eval o).run P w):=by
 have H:=Jf hT o.op ρ C st w k xs cls fr a o vs
 unfold cU at hs
 split at hs
 . rename_i u hr
   simp only[Option.some.injEq,Prod.mk.injEq] at hs
   obtain ⟨rfl,rfl⟩:=hs
   obtain ⟨N,x,he,hy,hv⟩:=H _ rfl hc hW hF hx hr
   have hp:lM ρ C st w u st x w:=⟨ρ,hv,fun _ _=>rfl,Nat.le_refl _,hW,ni.refl _ _ _⟩
   rw[he]
   rcases hy with rfl|⟨rfl,rfl⟩<;>exact hp
 . rename_i u del set new hr
   simp only[Option.some.injEq,Prod.mk.injEq] at hs
   obtain ⟨rfl,rfl⟩:=hs
   obtain ⟨N,x,w',ρ',he,hy,aU,eF,hv,hE⟩:=H _ rfl hc hW hF hx hr
   have hp:lM ρ C st w u (st.aI del set new) x w':=⟨ρ',hv,aU,St.yl _ _ _ _,eF,hE⟩
   rw[he]
   rcases hy with rfl|⟨rfl,rfl⟩<;>exact hp
 . rename_i f args hr
   obtain ⟨bu,he,hv⟩:=H _ rfl hc hW hF hx hr
   rw[he]
   exact fZ ρ st w f args v st' bu hs hW hv
 . cases hs
structure uy (tt:TT) (nt:Nat) (ops:Array Oper) (o:Oper) (ao:cq):Prop where
 dst:ao.dst=o.dst.map key
 lt: ∀d,o.dst=some d->d<nt
 guard:Lz ops o.guard=some ao.guard
 op:(gU tt o.op=some (ao.k,ao.xs,ao.cls))\/(ao.k= .bad/\ao.cls= .aI)
theorem yU {nt:Nat} {ops:Array Oper}: ∀{os:List Oper} {bs:List Nat} {l:List cq},wL tt nt ops os bs=some l->
  l.length=os.length/\ ∀(i:Nat) (o:Oper),os[i]? =some o-> ∃ao,l[i]? =some ao/\uy tt nt ops o ao/\ao.cv=bs.getD i 0
 |[],bs,l,h=>by simp[wL] at h;subst h;exact ⟨rfl,fun i o ho=>by simp at ho⟩
 |o ::os,bs,l,h=>by
  unfold wL at h
  split at h<;>first|(cases h;done)|skip
  rename_i g l' hg hl hd
  obtain ⟨h1,h2⟩:=yU hl
  have bI: ∀d,o.dst=some d->d<nt:=fun d hdd=>by
    rw[hdd] at hd
    simpa [wL.aa0] using hd
  have hb: ∀i,bs.tail.getD i 0=bs.getD (i+1) 0:=fun i=>by cases bs<;>simp
  have wO:bs.headD 0=bs.getD 0 0:=by cases bs<;>simp
  split at h
  . rename_i k xs cls hc
    simp only[Option.some.injEq] at h;subst h
    refine ⟨by simp[h1],fun i o' ho=> ?_⟩
    cases i with
    |   zero=>
        simp at ho;subst ho
        exact ⟨_,rfl,⟨rfl,bI,hg,.inl hc⟩,wO⟩
    |   succ i=>
        simp at ho
        obtain ⟨ao,h3,h4,h5⟩:=h2 i o' ho
        exact ⟨ao,by simpa using h3,h4,by rw[h5,hb]⟩
  . simp only[Option.some.injEq] at h;subst h
    refine ⟨by simp[h1],fun i o' ho=> ?_⟩
    cases i with
    |   zero=>
        simp at ho;subst ho
        exact ⟨_,rfl,⟨rfl,bI,hg,.inr ⟨rfl,rfl⟩⟩,wO⟩
    |   succ i=>
        simp at ho
        obtain ⟨ao,h3,h4,h5⟩:=h2 i o' ho
        exact ⟨ao,by simpa using h3,h4,by rw[h5,hb]⟩
theorem Bq {ops:Array Oper} {ρ:Pos->Loc} {n:Nat} {fr:Fr} {a:Act} {o:Oper} {g:Option (Pos×Bool)} {b:Bool} (hg:Lz ops o.guard=some g)
   (hF: ∀p v,fr.get p=some v->(∃q,g=some (p,q))-> ∃x,a.tmps[p.toNat - 1]? =some x/\aA ρ n C v x)
   (hw:cC fr g=some b):Region.wanted o (yielded ops a.tmps)=b:=by
 unfold Region.wanted
 unfold Lz at hg
 split at hg
 . rename_i hn
   simp only[Option.some.injEq] at hg;subst hg
   simp only[cC,Option.some.injEq] at hw;subst hw
   rw[hn]
 . rename_i j want hn
   rw[hn]
   split at hg<;>first|(cases hg;done)|skip
   rename_i oj hj
   split at hg<;>first|(cases hg;done)|skip
   rename_i d hd
   simp only[Option.some.injEq] at hg;subst hg
   simp only[cC] at hw
   split at hw
   . rename_i u hu
     simp only[Option.some.injEq] at hw;subst hw
     obtain ⟨x,hx,hv⟩:=hF _ _ hu ⟨_,rfl⟩
     rw[jY,Nat.add_sub_cancel] at hx
     have:=hv.jP;subst this
     simp[yielded,hj,hd,hx]
   . rename_i l hu
     simp only[Option.some.injEq] at hw;subst hw
     obtain ⟨x,hx,hv⟩:=hF _ _ hu ⟨_,rfl⟩
     rw[jY,Nat.add_sub_cancel] at hx
     obtain ⟨cs,rfl,_⟩:=hv.NY
     simp[yielded,hj,hd,hx]
   . cases hw
theorem aA.Oc {ρ:Pos->Loc} {n:Nat}:aA ρ n C AV.undef undef:= .tuple [] #[] rfl fun _ _ _ h=>by simp at h
theorem Act.Fm (a:Act) (d:Option Tmp) (v:Value):(a.put d v).tmps.size=a.tmps.size:=by cases d<;>simp[Act.put]
theorem Act.yV (a:Act) (d:Option Tmp) (v:Value):(a.put d v).defers=a.defers:=by cases d<;>rfl
theorem oa.put {ρ:Pos->Loc} {n nt:Nat} {fr:Fr} {a:Act} {d:Option Tmp} {v:AV} {x:Value} (hF:oa ρ n C fr a.tmps) (hs:a.tmps.size=nt)
  (hd: ∀e,d=some e->e<nt) (hv:aA ρ n C v x):oa ρ n C (dZ fr (d.map key) v) (a.put d x).tmps:=by
 cases d with
 |none=>exact hF
 |some e=>
  have he:=hd e rfl
  intro p u hp
  simp only[Option.map_some,dZ] at hp
  simp only[Act.put]
  by_cases Un:key e=p
  . subst Un
    rw[T.fj] at hp
    simp only[Option.some.injEq] at hp;subst hp
    refine ⟨x,?_,hv⟩
    rw[jY,Nat.add_sub_cancel,Array.getElem?_setIfInBounds]
    simp[hs,he]
  . rw[T.bN _ Un] at hp
    obtain ⟨y,hy,hr⟩:=hF p u hp
    refine ⟨y,?_,hr⟩
    rw[Array.getElem?_setIfInBounds_ne,hy]
    intro h
    apply Un
    apply Pos.toNat_inj
    rw[jY]
    have:=p.toNat_pos
    omega
theorem oa.mono {ρ ρ':Pos->Loc} {n n':Nat} {fr:Fr} {tmps:Array Value} (hF:oa ρ n C fr tmps) (aU: ∀b:Pos,b.toNat<n->ρ' b=ρ b) (hn:n<=n'):oa ρ' n' C fr tmps:=
 fun p v hp=>let ⟨x,hx,hv⟩:=hF p v hp;⟨x,hx,hv.mono aU hn⟩
structure Fo (nt:Nat) (ρ:Pos->Loc) (C:Cells) (fr:Fr) (st:St) (a:Act) (w:World):Prop where
 W:bM ρ C st w
 F:oa ρ st.next.toNat C fr a.tmps
 size:a.tmps.size=nt
 defers:a.defers=[]
def nH (nt:Nat) (ρ:Pos->Loc) (C:Cells) (st:St) (w:World) (bA:Fr) (st':St) (a':Act) (w':World):Prop:=
 ∃ρ',Fo nt ρ' C bA st' a' w'/\(∀b:Pos,b.toNat<st.next.toNat->ρ' b=ρ b)/\st.next.toNat<=st'.next.toNat/\ni ρ st w ρ' st' w'
theorem nH.refl {nt:Nat} {ρ:Pos->Loc} {fr:Fr} {st:St} {a:Act} {w:World} (h:Fo nt ρ C fr st a w):nH nt ρ C st w fr st a w:=
 ⟨ρ,h,fun _ _=>rfl,Nat.le_refl _,ni.refl _ _ _⟩
theorem nH.trans {nt:Nat} {ρ jC:Pos->Loc} {G3:Fr} {st cm HP:St} {a2:Act} {w w1 w2:World}
  (h1: ∀b:Pos,b.toNat<st.next.toNat->jC b=ρ b) (h2:st.next.toNat<=cm.next.toNat) (h3:ni ρ st w jC cm w1)
  (h:nH nt jC C cm w1 G3 HP a2 w2):nH nt ρ C st w G3 HP a2 w2:=by
 obtain ⟨zk,k1,k2,k3,k4⟩:=h
 exact ⟨zk,k1,fun b hb=>(k2 b (Nat.lt_of_lt_of_le hb h2)).trans (h1 b hb),Nat.le_trans h2 k3,h3.trans k4⟩
theorem Reaches.bad {k:aE} {vs:List AV} {st:St} {r:AV×St} (hk:k= .bad) (h:cU call k vs st=some r):False:=by
 subst hk;simp[cU,aE.run] at h
theorem Fp (hT:dh P tt) (fZ:j0 P C call) {nt:Nat} {ops:Array Oper} {Q:Exit->Act->World->Prop}: ∀(Qq:List cq) (k:Nat) (fr bA:Fr) (st st':St) (ρ:Pos->Loc) (a:Act) (w:World),
  (∀(i:Nat) (ao:cq),Qq[i]? =some ao-> ∃o,ops[k+i]? =some o/\uy tt nt ops o ao)->
  kA call Qq fr st=some (bA,st')->Fo nt ρ C fr st a w->(∀a' w',nH nt ρ C st w bA st' a' w'->Q .normal a' w')->wpOps P ops Q (List.range' k Qq.length) a w
 |[],k,fr,bA,st,st',ρ,a,w,_,h,hS,hQ=>by
  simp only[kA,Option.some.injEq,Prod.mk.injEq] at h
  obtain ⟨rfl,rfl⟩:=h
  exact hQ a w (nH.refl hS)
 |ao::Qq,k,fr,bA,st,st',ρ,a,w,ho,h,hS,hQ=>by
  obtain ⟨o,dr,hR⟩:=ho 0 ao rfl
  rw[Nat.add_zero] at dr
  have CX: ∀(i:Nat) (Xe:cq),Qq[i]? =some Xe-> ∃o,ops[k+1+i]? =some o/\uy tt nt ops o Xe:=fun i Xe hi=>by
    obtain ⟨o',h1,h2⟩:=ho (i+1) Xe (by simpa using hi)
    exact ⟨o',by rw[<-h1];congr 1;omega,h2⟩
  simp only[List.length_cons,List.range'_succ,wpOps,dr]
  unfold kA at h
  split at h
  . rename_i hw
    rw[if_pos (Bq hR.guard (fun p v hp _=>hS.F p v hp) hw)]
    split at h<;>first|(cases h;done)|skip
    rename_i vs o8
    split at h<;>first|(cases h;done)|skip
    rename_i v cm mI
    rcases hR.op with hc|⟨hk,_⟩
    .   have hr:=JX hT fZ hc hS.W hS.F o8 mI
        refine .inl (hr.upon fun x w1 hp=> ?_)
        obtain ⟨jC,hv,h1,h2,Xf,hE⟩:=hp
        rw[hR.dst] at h
        refine Fp hT fZ Qq (k+1) _ bA cm st' jC _ w1 CX h ⟨Xf,oa.put (hS.F.mono h1 h2) hS.size hR.lt hv,by rw[Act.Fm];exact hS.size,by rw[Act.yV];exact hS.defers⟩ fun a' w' hp=>hQ a' w' (nH.trans h1 h2 hE hp)
    .   exact (Reaches.bad hk mI).elim
  . rename_i hw
    rw[if_neg (by rw[Bq hR.guard (fun p v hp _=>hS.F p v hp) hw];simp)]
    rw[hR.dst] at h
    exact Fp hT fZ Qq (k+1) _ bA st st' ρ _ w CX h ⟨hS.W,oa.put hS.F hS.size hR.lt .Oc,by rw[Act.Fm];exact hS.size,by rw[Act.yV];exact hS.defers⟩ hQ
  . cases h
theorem Qr {nt:Nat} {ops:Array Oper} {l:List cq} {bs:List Nat} (h:wL tt nt ops ops.toList bs=some l) (i:Nat) (ao:cq) (hi:l[i]? =some ao):
  ∃o,ops[i]? =some o/\uy tt nt ops o ao/\ao.cv=bs.getD i 0:=by
 obtain ⟨h1,h2⟩:=yU h
 have bI:i<ops.toList.length:=by rw[<-h1];exact (List.getElem?_eq_some_iff.1 hi).1
 obtain ⟨Xe,h3,h4,h5⟩:=h2 i _ (List.getElem?_eq_getElem bI)
 rw[hi] at h3
 simp only[Option.some.injEq] at h3;subst h3
 exact ⟨_,by rw[<-Array.getElem?_toList];exact List.getElem?_eq_getElem bI,h4,h5⟩
theorem Qs (hT:dh P tt) (fZ:j0 P C call) {nt id:Nat} {ops:Array Oper} {bs:List Nat} {l:List cq} {Q:Exit->Act->World->Prop} {fr bA:Fr} {st st':St} {ρ:Pos->Loc} {a:Act} {w:World}
  (hl:wL tt nt ops ops.toList bs=some l) (h:kA call l fr st=some (bA,st')) (hS:Fo nt ρ C fr st a w)
  (hQ: ∀a' w',nH nt ρ C st w bA st' a' w'->Q .normal a' w'):(Code.region id ops false).wp P Q a w:=by
 apply wp_region
 have hlen:l.length=ops.size:=by rw[(yU hl).1,Array.length_toList]
 rw[List.range_eq_range', <-hlen]
 exact Fp hT fZ l 0 fr bA st st' ρ a w (fun i ao hi=>by
  obtain ⟨o,h1,h2,_⟩:=Qr hl i ao hi
  exact ⟨o,by rw[Nat.zero_add];exact h1,h2⟩) h hS hQ
end
end Go.Ai
end
section
namespace Go.Ai
open Go Go.RowKit
section
variable {P : Program} {tt : TT} {C : Cells} {call : ai}
def Ie (P:Program) (tt:TT) (C:Cells) (call:ai):Prop:=
 ∀  (nt id:Nat) (ops:Array Oper) (l:List cq) (Q:Exit->Act->World->Prop) (fr bA:Fr) (st st':St) (ρ:Pos->Loc) (a:Act) (w:World),
    wL tt nt ops ops.toList (PV ops.toList [])=some l->Ee l.length 0 (vr (Bg 0 l) [])=true->dU call (vr (Bg 0 l) []) [] st.heap fr st=some (bA,st')->Fo nt ρ C fr st a w->
    (∀a' w',nH nt ρ C st w bA st' a' w'->Q .normal a' w')->(Code.region id ops true).wp P Q a w
def Jg:o7->Exit
 | .normal=> .normal
 | .exit id=> .exit id
 | .ret=> .ret
def LQ (P:Program) (tt:TT) (C:Cells) (call:ai) (nt m:Nat):Prop:=
 ∀  (c:Code) (ac:AC) (fr bA:Fr) (st st':St) (ex:o7) (ρ:Pos->Loc) (a:Act) (w:World) (Q:Exit->Act->World->Prop),
    yT tt nt c=some ac->exec call m ac fr st=some (ex,bA,st')->Fo nt ρ C fr st a w->
    (∀a' w',nH nt ρ C st w bA st' a' w'->Q (Jg ex) a' w')->c.wp P Q a w
def LR (P:Program) (tt:TT) (C:Cells) (call:ai) (nt m:Nat):Prop:=
 ∀  (c:Code) (ac:AC) (fr bA:Fr) (st st':St) (ex:o7) (ρ:Pos->Loc) (a:Act) (w:World) (Q:Exit->Act->World->Prop),
    yT tt nt c=some ac->exec call m (.loop ac) fr st=some (ex,bA,st')->Fo nt ρ C fr st a w->
    (∀a' w',nH nt ρ C st w bA st' a' w'->Q (Jg ex) a' w')->Code.rounds P c Q m a w
theorem Od {nt m:Nat} (Br:LQ P tt C call nt m) (ihL:LR P tt C call nt m):LR P tt C call nt (m+1):=by
 intro c ac fr bA st st' ex ρ a w Q hc h hS hQ
 simp only[exec,bf] at h
 rw[rounds_succ]
 split at h
 . rename_i gH cm h1
   refine Br c ac fr gH st cm .normal ρ a w _ hc h1 hS fun a1 w1 hp=> ?_
   obtain ⟨jC,tG,k1,k2,k3⟩:=hp
   exact ihL c ac gH bA cm st' ex jC a1 w1 Q hc h tG fun a2 w2 hp=>hQ a2 w2 (nH.trans k1 k2 k3 hp)
 . rename_i en
   cases ex with
   |normal=>exact (en _ _ h).elim
   |exit id=>exact Br c ac fr bA st st' (.exit id) ρ a w _ hc h hS fun a1 w1 hp=>hQ a1 w1 hp
   |ret=>exact Br c ac fr bA st st' .ret ρ a w _ hc h hS fun a1 w1 hp=>hQ a1 w1 hp
theorem Xg (hT:dh P tt) (fZ:j0 P C call) (wT:Ie P tt C call) {nt m:Nat} (Br:LQ P tt C call nt m) (ihL:LR P tt C call nt m):LQ P tt C call nt (m+1):=by
 intro c ac fr bA st st' ex ρ a w Q hc h hS hQ
 have ah9:=Od Br ihL
 unfold yT at hc
 split at hc<;>first|(cases hc;done)|skip
 . simp only[Option.some.injEq] at hc;subst hc
   simp only[exec,bf,Option.some.injEq,Prod.mk.injEq] at h
   obtain ⟨rfl,rfl,rfl⟩:=h
   exact wp_skip (hQ _ _ (nH.refl hS))
 . rename_i ix ops draw
   split at hc<;>first|(cases hc;done)|skip
   rename_i l hl
   split at hc
   . simp only[Option.some.injEq] at hc;subst hc
     simp only[exec,bf] at h
     split at h<;>first|(cases h;done)|skip
     rename_i gH cm h1
     simp only[Option.some.injEq,Prod.mk.injEq] at h
     obtain ⟨rfl,rfl,rfl⟩:=h
     exact Qs hT fZ hl h1 hS hQ
   . split at hc<;>first|(cases hc;done)|skip
     rename_i ht
     simp only[Option.some.injEq] at hc;subst hc
     simp only[exec,bf] at h
     split at h<;>first|(cases h;done)|skip
     rename_i gH cm h1
     simp only[Option.some.injEq,Prod.mk.injEq] at h
     obtain ⟨rfl,rfl,rfl⟩:=h
     exact wT nt _ ops l Q fr gH st cm ρ a w hl ht h1 hS hQ
 . split at hc<;>first|(cases hc;done)|skip
   rename_i x y h1 h2
   simp only[Option.some.injEq] at hc;subst hc
   simp only[exec,bf] at h
   apply wp_seq
   split at h
   . rename_i gH cm h3
     refine Br _ _ fr gH st cm .normal ρ a w _ h1 h3 hS fun a1 w1 hp=> ?_
     obtain ⟨jC,tG,k1,k2,k3⟩:=hp
     exact Br _ _ gH bA cm st' ex jC a1 w1 Q h2 h tG fun a2 w2 hp=>hQ a2 w2 (nH.trans k1 k2 k3 hp)
   . rename_i en
     cases ex with
     |normal=>exact (en _ _ h).elim
     |exit id=>exact Br _ _ fr bA st st' (.exit id) ρ a w _ h1 h hS fun a1 w1 hp=>hQ a1 w1 hp
     |ret=>exact Br _ _ fr bA st st' .ret ρ a w _ h1 h hS fun a1 w1 hp=>hQ a1 w1 hp
 . split at hc<;>first|(cases hc;done)|skip
   rename_i x y z h1 h2 h3
   simp only[Option.some.injEq] at hc;subst hc
   simp only[exec,bf] at h
   split at h
   . rename_i hx
     exact wp_cond_true ((Bj h1 hS.F hx).jP) (Br _ _ fr bA st st' ex ρ a w Q h2 h hS hQ)
   . rename_i hx
     exact wp_cond_false ((Bj h1 hS.F hx).jP) (Br _ _ fr bA st st' ex ρ a w Q h3 h hS hQ)
   . cases h
 . split at hc<;>first|(cases hc;done)|skip
   rename_i x h1
   simp only[Option.some.injEq] at hc;subst hc
   simp only[exec,bf] at h
   apply wp_block
   split at h
   . rename_i sN gH cm h2
     split at h
     .  rename_i he
        simp only[Option.some.injEq,Prod.mk.injEq] at h
        obtain ⟨rfl,rfl,rfl⟩:=h
        have:=Nat.eq_of_beq_eq_true he;subst this
        exact Br _ _ fr gH st cm (.exit sN) ρ a w _ h1 h2 hS fun a1 w1 hp=>by
         simp only[Jg,Exit.inBlock,if_true];exact hQ a1 w1 hp
     .  rename_i he
        simp only[Option.some.injEq,Prod.mk.injEq] at h
        obtain ⟨rfl,rfl,rfl⟩:=h
        have:=Nat.ne_of_beq_eq_false he
        exact Br _ _ fr gH st cm (.exit sN) ρ a w _ h1 h2 hS fun a1 w1 hp=>by
         simp only[Jg,Exit.inBlock,if_neg this];exact hQ a1 w1 hp
   . rename_i en
     cases ex with
     |normal=>exact Br _ _ fr bA st st' .normal ρ a w _ h1 h hS fun a1 w1 hp=>hQ a1 w1 hp
     |exit id=>exact (en _ _ _ h).elim
     |ret=>exact Br _ _ fr bA st st' .ret ρ a w _ h1 h hS fun a1 w1 hp=>hQ a1 w1 hp
 . split at hc<;>first|(cases hc;done)|skip
   rename_i x h1
   simp only[Option.some.injEq] at hc;subst hc
   exact wp_loop_rounds (m+1) (ah9 _ _ fr bA st st' ex ρ a w Q h1 h hS hQ)
 . simp only[Option.some.injEq] at hc;subst hc
   simp only[exec,bf,Option.some.injEq,Prod.mk.injEq] at h
   obtain ⟨rfl,rfl,rfl⟩:=h
   exact wp_exit (hQ _ _ (nH.refl hS))
 . simp only[Option.some.injEq] at hc;subst hc
   simp only[exec,bf,Option.some.injEq,Prod.mk.injEq] at h
   obtain ⟨rfl,rfl,rfl⟩:=h
   exact wp_ret (hQ _ _ (nH.refl hS))
 . simp only[Option.some.injEq] at hc;subst hc
   simp[exec,bf,kA,cC,eY,cU,aE.run] at h
theorem wU (hT:dh P tt) (fZ:j0 P C call) (wT:Ie P tt C call) {nt:Nat}: ∀m,LQ P tt C call nt m/\LR P tt C call nt m
 |0=>⟨fun c ac fr bA st st' ex ρ a w Q hc h=>by simp[exec] at h,fun c ac fr bA st st' ex ρ a w Q hc h=>by simp[exec] at h⟩
 |m+1=>let ⟨h1,h2⟩:=wU hT fZ wT m;⟨Xg hT fZ wT h1 h2,Od h1 h2⟩
def Jh (tmps:Array Value):ResultVar->Sem Value
 | .tmp t=>pure (tmps.getD t undef)
 | .cell a t=>do loadVar t (<-asAddr (tmps.getD a undef))
theorem Vv (hT:dh P tt) {ρ:Pos->Loc} {st:St} {w:World} {fr:Fr} {a:Act} {x:Tmp} {t:TypeId} {ti:TI} {q v:AV} (dV:tt.get (key t)=some ti)
  (hW:bM ρ C st w) (hF:oa ρ st.next.toNat C fr a.tmps) (hq:fr.get (key x)=some q) (hr:(aE.load (wJ ti)).run (fun b=>st.heap.get b) .h [q]=some (.val v)):
  ∃y,(Jh a.tmps (.cell x t)).run P w= .ok y w/\aA ρ st.next.toNat C v y:=by
 have hc:gU tt (.load t (.tmp x))=some (.load (wJ ti),[.t (key x)],.read):=by simp[gU,dV,qj]
 have hx:eY fr [.t (key x)]=some [q]:=by simp[eY,zj,hq]
 have mo:(aE.load (wJ ti)).run (fun b=>st.heap.get b) st.next [q]=some (.val v):=hr
 obtain ⟨N,y,he,hy,hv⟩:=Jf hT (.load t (.tmp x)) ρ C st w _ _ _ fr a { dst:=none,op:= .load t (.tmp x),type:=t,pos:=default,after:= #[],guard:=none } _ _ rfl hc hW hF hx mo
 refine ⟨y,?_,hv⟩
 simp only[execOp,Instr.loadAt,Act.eval] at he
 simp only[Jh]
 obtain ⟨z,hz,hzq⟩:=hF _ _ hq
 rw[jY,Nat.add_sub_cancel] at hz
 have hzd:a.tmps.getD x undef=z:=by simp[Array.getD_eq_getD_getElem?,hz]
 rw[hzd] at he ⊢
 have hp: ∃ad,z= .pointer (some ad):=by
  simp only[aE.run,uu] at hr
  split at hr<;>first|(cases hr;done)|skip
  . obtain ⟨_,h⟩:=hzq.gv;exact ⟨_,h⟩
  . obtain ⟨_,_,_,_,h,_⟩:=hzq.Eg;exact ⟨_,h⟩
 obtain ⟨ad,rfl⟩:=hp
 simp only[Instr.sureAddr,asAddr,Sem.run_bind,Sem.run_pure,Result.andThen] at he ⊢
 cases hl:(loadVar t ad).run P w with
 |ok u w1=>
  rw[hl] at he
  simp at he
  obtain ⟨h1,h2⟩:=he
  subst h2
  rcases hy with hy|⟨hy,_⟩
  . rw[hy] at h1;simp at h1;rw[h1]
  . rw[hy] at h1;simp at h1
 |halt u w1=>rw[hl] at he;simp at he
theorem Bs (hT:dh P tt) {ρ:Pos->Loc} {st:St} {w:World} {fr:Fr} {a:Act} (hW:bM ρ C st w) (hF:oa ρ st.next.toNat C fr a.tmps):
   ∀(rs:List ResultVar) (LS:List Ly) (vs:List AV),tr tt rs=some LS->gB (fun b=>st.heap.get b) fr LS=some vs->
    ∃ys,(rs.mapM (Jh a.tmps)).run P w= .ok ys w/\az ρ st.next.toNat C vs ys
 | [],LS,vs,hc,hr=>by
   simp only[tr,Option.some.injEq] at hc;subst hc
   simp only[gB,Option.some.injEq] at hr;subst hr
   exact ⟨[],by simp,az.nil⟩
 | .tmp t::rs,LS,vs,hc,hr=>by
   simp only[tr] at hc
   split at hc<;>first|(cases hc;done)|skip
   rename_i l hl
   simp only[Option.some.injEq] at hc;subst hc
   simp only[gB] at hr
   split at hr<;>first|(cases hr;done)|skip
   rename_i v hv
   split at hr<;>first|(cases hr;done)|skip
   rename_i us WQ
   simp only[Option.some.injEq] at hr;subst hr
   obtain ⟨ys,h1,h2⟩:=Bs hT hW hF rs l us hl WQ
   obtain ⟨z,hz,hzq⟩:=hF _ _ hv
   rw[jY,Nat.add_sub_cancel] at hz
   refine ⟨z::ys,?_,az.cons hzq h2⟩
   simp[List.mapM_cons,Jh,h1,Array.getD_eq_getD_getElem?,hz]
 | .cell x t::rs,LS,vs,hc,hr=>by
   simp only[tr] at hc
   split at hc<;>first|(cases hc;done)|skip
   rename_i ti l N6 hl
   simp only[Option.some.injEq] at hc;subst hc
   simp only[gB] at hr
   split at hr<;>first|(cases hr;done)|skip
   rename_i q hq
   split at hr<;>first|(cases hr;done)|skip
   rename_i v hv
   split at hr<;>first|(cases hr;done)|skip
   rename_i us WQ
   simp only[Option.some.injEq] at hr;subst hr
   obtain ⟨ys,h1,h2⟩:=Bs hT hW hF rs l us hl WQ
   obtain ⟨y,h3,h4⟩:=Vv hT N6 hW hF hq hv
   refine ⟨y::ys,?_,az.cons h4 h2⟩
   simp[List.mapM_cons,h1,h3]
theorem vu (hT:dh P tt) {ρ:Pos->Loc} {st:St} {w:World} {fr:Fr} {a:Act} {fn:Func} {LS:List Ly} {vs:List AV} (hW:bM ρ C st w) (hF:oa ρ st.next.toNat C fr a.tmps)
  (hc:tr tt fn.results.toList=some LS) (hr:gB (fun b=>st.heap.get b) fr LS=some vs):
  ∃y,(results fn a.tmps).run P w= .ok y w/\aA ρ st.next.toNat C (wH vs) y:=by
 obtain ⟨ys,h1,h2⟩:=Bs hT hW hF _ LS vs hc hr
 have h3:(fn.results.mapM (Jh a.tmps)).run P w= .ok ys.toArray w:=by
  rw[Array.mapM_eq_mapM_toList]
  simp[h1]
 have h4:(results fn a.tmps).run P w= .ok (if h:ys.toArray.size=1 then ys.toArray[0] else .tuple ys.toArray) w:=by
  have hfun:results fn a.tmps=(fn.results.mapM (Jh a.tmps) >>= fun vs=>pure (if h:vs.size=1 then vs[0] else .tuple vs)):=by
   unfold results
   congr 2
  rw[hfun,Sem.run_bind,h3]
  simp
 refine ⟨_,h4,?_⟩
 cases vs with
 |nil=>have:=h2.kQ;subst this;simp[wH];exact .mP (by simpa using az.nil)
 |cons v vs=>
  obtain ⟨y,ys',rfl,hv,o8⟩:=h2.cons_inv
  cases vs with
  |nil=>have:=o8.kQ;subst this;simpa [wH] using hv
  |cons v' vs'=>
   obtain ⟨y',ys'',rfl,Ej,ZE⟩:=o8.cons_inv
   simp[wH]
   exact .mP (by simpa using az.cons hv (az.cons Ej ZE))
def LU (P:Program) (tt:TT) (G:T aM):Prop:=
 ∀p F,G.get p=some F-> ∃fn,P.funcs[p.toNat - 1]? =some fn/\(fn.name== "runtime.NumGoroutine")=false/\aq tt fn=some F
def qZ (P:Program) (C:Cells) (O:eW):Prop:=
 ∀  (f:FuncId) (s:List AV->St->Option (AV×St)),O f=some s->
    ∀(ρ:Pos->Loc) (st:St) (w:World) (args:List AV) (v:AV) (st':St) (bu:List Value),s args st=some (v,st')->
     bM ρ C st w->az ρ st.next.toNat C args bu->Reaches P (lM ρ C st w v st') ((callFunc f bu.toArray).run P w)
theorem Fq {ρ:Pos->Loc} {n:Nat} {tmps:Array Value}: ∀(vs:List AV) (xs:List Value) (i:Nat) (fr:Fr),az ρ n C vs xs->
  (∀(j:Nat) (x:Value),xs[j]? =some x->tmps[i+j]? =some x)->oa ρ n C fr tmps->oa ρ n C (params i vs fr) tmps
 |[],_,_,_,_,_,hF=>hF
 |v ::vs,xs,i,fr,h,hx,hF=>by
  obtain ⟨x,uW,rfl,hv,o8⟩:=h.cons_inv
  unfold params
  refine Fq vs uW (i+1) _ o8 (fun j y hy=>by rw[<-hx (j+1) y (by simpa using hy)];congr 1;omega) fun p u hp=> ?_
  by_cases Un:key i=p
  . subst Un
    rw[T.fj] at hp
    simp only[Option.some.injEq] at hp;subst hp
    exact ⟨x,by rw[jY,Nat.add_sub_cancel];exact hx 0 x rfl,hv⟩
  . rw[T.bN _ Un] at hp
    exact hF p u hp
theorem JY (hT:dh P tt) {O:eW} {G:T aM} (hO:qZ P C O) (hG:LU P tt G) (m:Nat) (wT: ∀d,j0 P C (nF O G m d)->Ie P tt C (nF O G m d)): ∀d,j0 P C (nF O G m d)
 |0=>fun ρ st w f args v st' bu h=>by simp[nF] at h
 |d +   1 =>by
  intro ρ st w f args v st' bu h hW vw
  have ih:=JY hT hO hG m wT d
  unfold nF at h
  split at h
  . rename_i s hs
    exact hO f s hs ρ st w args v st' bu h hW vw
  . split at h<;>first|(cases h;done)|skip
    rename_i F hF
    split at h<;>first|(cases h;done)|skip
    rename_i hlen
    have hlen:=Nat.eq_of_beq_eq_true hlen
    obtain ⟨fn,jM,o9,Bt⟩:=hG _ _ hF
    rw[jY,Nat.add_sub_cancel] at jM
    unfold aq at Bt
    split at Bt<;>first|(cases Bt;done)|skip
    rename_i c hb
    split at Bt<;>first|(cases Bt;done)|skip
    rename_i ac rs Xh Ig hle
    simp only[Option.some.injEq] at Bt;subst Bt
    simp only at h hlen
    have hle:=Nat.le_of_ble_eq_true hle
    have cA:(callFunc f bu.toArray).run P w= .ok (.enter f bu.toArray) w:=by
        have Qt: ¬fn.name= "runtime.NumGoroutine" :=by simpa using o9
        simp[callFunc,jM,Qt,hb]
    rw[cA]
    simp only[Reaches]
    refine calls_of_wp jM hb ?_
    have fh:bu.length<=fn.ntmps:=by rw[<-vw.1,hlen];exact hle
    have hS:Fo fn.ntmps ρ C (params 0 args .e) st { tmps:=bu.toArray++Array.replicate (fn.ntmps - bu.toArray.size) undef,defers:=[] } w:=by
        refine ⟨hW,?_,?_,rfl⟩
        . refine Fq args bu 0 .e vw (fun j x hx=> ?_) (fun p v hp=>by rw[T.eE] at hp;cases hp)
          have hj:j<bu.length:=(List.getElem?_eq_some_iff.1 hx).1
          rw[Nat.zero_add,Array.getElem?_append_left (by simpa using hj)]
          simpa using hx
        . simp;omega
    split at h<;>first|(cases h;done)|skip
    .   rename_i gH cm h1
        split at h<;>first|(cases h;done)|skip
        rename_i vs o8
        simp only[Option.some.injEq,Prod.mk.injEq] at h
        obtain ⟨rfl,rfl⟩:=h
        refine (wU hT ih (wT _ ih) m).1 c ac _ gH st cm .normal ρ _ w _ Xh h1 hS fun a' w' hp=> ?_
        obtain ⟨jC,tG,k1,k2,k3⟩:=hp
        obtain ⟨y,JL,JM⟩:=vu hT tG.W tG.F Ig o8
        exact ⟨tG.defers,y,JL,jC,JM,k1,k2,tG.W,k3⟩
    .   rename_i gH cm h1
        split at h<;>first|(cases h;done)|skip
        rename_i vs o8
        simp only[Option.some.injEq,Prod.mk.injEq] at h
        obtain ⟨rfl,rfl⟩:=h
        refine (wU hT ih (wT _ ih) m).1 c ac _ gH st cm .ret ρ _ w _ Xh h1 hS fun a' w' hp=> ?_
        obtain ⟨jC,tG,k1,k2,k3⟩:=hp
        obtain ⟨y,JL,JM⟩:=vu hT tG.W tG.F Ig o8
        exact ⟨tG.defers,y,JL,jC,JM,k1,k2,tG.W,k3⟩
end
end Go.Ai
end
