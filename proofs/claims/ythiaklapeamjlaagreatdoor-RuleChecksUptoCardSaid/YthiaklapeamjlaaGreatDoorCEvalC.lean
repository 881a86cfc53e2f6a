/- The evaluator's operations answer as the model's do, second part; regions and calls. -/
import Derived.Test.YthiaklapeamjlaaGreatDoorCEvalB
import Derived.Laws.IdiomStrings
import Derived.Laws.RangeString
import Derived.Laws.AppendOwn
import Derived.Lib.UnsafeStr
import Derived.Test.YthiaklapeamjlaaGreatDoorCEvalA
import Derived.Calls
import Derived.LoopN
set_option linter.all false
set_option linter.unusedSectionVars false
set_option linter.deprecated false
namespace Go.Ai
section
open Go Go.RowKit
section
variable {P : Program} {tt : TT} {ρ : Pos -> Loc} {C : Cells} {st : St} {w w' : World}
theorem xJ (del:Option Pos) (h:T AB) {b:Pos} {x:AB} (hb:(Cu del h).get b=some x):h.get b=some x/\ ∀c,del=some c->b≠c:=by
 cases del with
 |none=>exact ⟨hb,fun _ h=>by cases h⟩
 |some c=>
  by_cases he:c=b
  . subst he;simp only[Cu] at hb;rw[T.fq] at hb;cases hb
  . simp only[Cu] at hb;rw[T.bK _ he] at hb
    exact ⟨hb,fun d hd=>by cases hd;exact fun e=>he e.symm⟩
theorem wo (hW:bA ρ C st w) {o:Obj} {x0:AB} {base size:Nat} (del:Option Pos) (hh:w'.heap=w.heap.push o) (h1:w'.os=w.os) (h2:w'.tape=w.tape) (h3:w'.output=w.output)
   (hB: ∀ρ' n',(∀b:Pos,b.toNat<st.next.toNat->ρ' b=ρ b)->st.next.toNat<=n'->lR ρ' n' C ⟨w.heap.size,base,size⟩ w' x0):
   ∃ρ':Pos->Loc,(∀b:Pos,b.toNat<st.next.toNat->ρ' b=ρ b)/\ρ' st.next=⟨w.heap.size,base,size⟩/\bA ρ' C (st.aL del none (some x0)) w'/\ni ρ st w ρ' (st.aL del none (some x0)) w':=by
 let ρ':Pos->Loc:=fun b=>if b=st.next then ⟨w.heap.size,base,size⟩ else ρ b
 have aS: ∀b:Pos,b.toNat<st.next.toNat->ρ' b=ρ b:=fun b hb=>if_neg (fun e=>by rw[e] at hb;omega)
 have cT:ρ' st.next=⟨w.heap.size,base,size⟩:=if_pos rfl
 have eI:w'.heap.size=w.heap.size+1:=by rw[hh];simp
 have hold: ∀k,k<w.heap.size->w'.heap[k]? =w.heap[k]? :=fun k hk=>by rw[hh,Array.getElem?_push,if_neg (by omega)]
 refine ⟨ρ',aS,cT,?_,⟨h1,h2,h3,by omega,fun k hk _=>hold k hk,fun b x hb=> ?_⟩⟩
 rotate_left
 . by_cases he:b=st.next
   . right;rw[he,cT];exact Nat.le_refl _
   . left
     simp only[St.aL,EA] at hb
     rw[T.bK _ (fun e=>he e.symm)] at hb
     have eS:=(xJ del _ hb).1
     exact ⟨b,x,eS,by rw[aS b (hW.live b x eS).1]⟩
 refine hW.Zh (b0:=st.next) (x0:=x0) (by rw[Pos.ax];omega) (by rw[Pos.ax];omega) (by rw[T.fq]) ?_ aS (by rw[cT];exact hB _ _ aS (by rw[Pos.ax];omega)) ?_ (by rw[cT,eI];simp) (by omega) (fun k hk _=>hold k hk)
 . intro b x hb hx
   rw[T.bK _ (fun e=>hb e.symm)] at hx
   have hx:=(xJ del _ hx).1
   refine ⟨hx,?_⟩
   rw[cT]
   have:=(hW.live b x hx).2.1
   simp only;omega
 . intro a v ha
   have:=World.block_lt_of_cell? _ _ (hW.cZ a v ha).1
   rw[cT];simp only;omega
theorem TU (hW:bA ρ C st w) {b:Pos} {x x0:AB} (hb:st.heap.get b=some x) (h1:w'.os=w.os) (h2:w'.tape=w.tape) (h3:w'.output=w.output) (eI:w'.heap.size=w.heap.size)
   (A9: ∀k,k≠(ρ b).aE->w'.heap[k]? =w.heap[k]?) (hB:lR ρ st.next.toNat C (ρ b) w' x0):
   bA ρ C (st.aL none (some (b,x0)) none) w'/\ni ρ st w ρ (st.aL none (some (b,x0)) none) w':=by
 obtain ⟨aP,tQ,_⟩:=hW.live b x hb
 refine ⟨?_,⟨h1,h2,h3,by omega,fun k _ hk=>A9 k (fun e=>hk b x hb e.symm),fun c y hc=> ?_⟩⟩
 rotate_left
 . left
   by_cases he:c=b
   . exact ⟨b,x,hb,by rw[he]⟩
   . simp only[St.aL,EA,Cu] at hc
     rw[T.bK _ (fun e=>he e.symm)] at hc
     exact ⟨c,y,hc,rfl⟩
 refine hW.Zh (b0:=b) (x0:=x0) (Nat.le_refl _) aP (by simp only[EA,Cu];rw[T.fq]) ?_ (fun _ _=>rfl) hB ?_ (by omega) (by omega) (fun k _ hk=>A9 k hk)
 . intro c y hc hy
   simp only[EA,Cu] at hy
   rw[T.bK _ (fun e=>hc e.symm)] at hy
   exact ⟨hy,fun e=>hc (hW.inj _ _ _ _ hy hb e)⟩
 . exact fun a v ha e=>(hW.cZ a v ha).2 b x hb e.symm
theorem uf {cs:List AV} {c:Array Value} {e:TypeId} {fr:Nat×Nat} {g:Nat} {n:Nat} (hg:w'.heap[g]? =some (.cells c e fr)) (hle:cs.length<=c.size) (hv:aA ρ n C cs (c.toList.take cs.length))
  (hf: ∀i,i<c.size-> ¬(fr.1<=i/\i<fr.2)):lR ρ n C ⟨g,0,c.size⟩ w' (.cells cs 0):=
 ⟨c,e,fr,hg,rfl,by simpa using hle,by simpa using hv,fun i _ hi=>by simpa using hf i (by simpa using hi)⟩
theorem aeO (hT:cr P tt) (t:TypeId):cS P tt (.alloc t):=by
 intro ρ C st w k xs cls fr a o vs res ho hc hW hF hx hr
 simp only[fL] at hc
 split at hc<;>first|(cases hc;done)|skip
 rename_i ti cY
 split at hc<;>first|(cases hc;done)|skip
 rename_i z hz
 split at hc
 . cases hc
   simp only[ey,Option.some.injEq] at hx;subst hx
   simp only[aC.run,Gy,Option.some.injEq] at hr;subst hr
   obtain ⟨zv,AM,_,rS⟩:=ue hT cY hz (ρ:=ρ) (n:=st.next.toNat) (C:=C) w
   have hl:z.length=zv.cells.size:=by simpa using rS.1
   obtain ⟨ρ',aS,cT,dX,hE⟩:=wo (w':=w.alloc (.cells zv.cells t)) (o:= .cells zv.cells t) (x0:= .typed t z) (base:=0) (size:=zv.cells.size) hW none rfl rfl rfl rfl (fun ρ' n' aS hn=>
     ⟨zv.cells,(0,0),by show (w.heap.push _)[w.heap.size]? =_;simp,rfl,by simp only[Nat.zero_add];omega,by rw[hl,List.drop_zero,List.take_of_length_le (by simp)];exact rS.mono aS hn,fun i _=>by simp,rfl⟩)
   refine ⟨_,.pointer (some ⟨w.heap.size,0,none⟩),_,ρ',?_,Yields.value _,aS,dX,?_,hE⟩
   . simp[execOp,ho,Instr.alloc,AM,newVar,newRow]
   . have:=av.ptr (ρ:=ρ') (n:=(st.aL none none (some (.typed t z))).next.toNat) (C:=C) st.next 0 (by simp[St.aL,Pos.ax])
     rw[cT] at this;simpa using this
 cases hc
 simp only[ey,Option.some.injEq] at hx;subst hx
 simp only[aC.run,Kq,Option.some.injEq] at hr;subst hr
 obtain ⟨zv,AM,_,rS⟩:=ue hT cY hz (ρ:=ρ) (n:=st.next.toNat) (C:=C) w
 have hl:z.length=zv.cells.size:=by simpa using rS.1
 obtain ⟨ρ',aS,cT,dX,hE⟩:=wo (w':=w.alloc (.cells zv.cells t)) (o:= .cells zv.cells t) (x0:= .cells z 0) (base:=0) (size:=zv.cells.size) hW none rfl rfl rfl rfl (fun ρ' n' aS hn=>
   uf (w':=w.alloc (.cells zv.cells t)) (e:=t) (fr:=(0,0)) (by show (w.heap.push _)[w.heap.size]? =_;simp) (by omega) (by rw[hl,List.take_of_length_le (by simp)];exact rS.mono aS hn) (fun i _=>by simp))
 refine ⟨_,.pointer (some ⟨w.heap.size,0,none⟩),_,ρ',?_,Yields.value _,aS,dX,?_,hE⟩
 . simp[execOp,ho,Instr.alloc,AM,newVar,newRow]
 . have:=av.ptr (ρ:=ρ') (n:=(st.aL none none (some (.cells z 0))).next.toNat) (C:=C) st.next 0 (by simp[St.aL,Pos.ax])
   rw[cT] at this;simpa using this
theorem aiv (t:TypeId) (x:Operand):cS P tt (.box t x):=by
 intro ρ C st w k xs cls fr a o vs res ho hc hW hF hx hr
 simp only[fL] at hc
 split at hc<;>first|(cases hc;done)|skip
 rename_i b hb
 cases hc
 obtain ⟨v,rfl,hv⟩:=eR hb hF hx
 simp only[aC.run,TH,Option.some.injEq] at hr;subst hr
 have rS:=hv.cells
 have hl:v.cells.length=(a.eval x).cells.size:=by simpa using rS.1
 obtain ⟨ρ',aS,cT,dX,hE⟩:=wo (w':=w.alloc (.cells (a.eval x).cells t)) (o:= .cells (a.eval x).cells t) (x0:= .cells v.cells 0) (base:=0) (size:=(a.eval x).cells.size) hW none rfl rfl rfl rfl (fun ρ' n' aS hn=>
   uf (w':=w.alloc (.cells (a.eval x).cells t)) (e:=t) (fr:=(0,0)) (by show (w.heap.push _)[w.heap.size]? =_;simp) (by omega) (by rw[hl,List.take_of_length_le (by simp)];exact rS.mono aS hn) (fun i _=>by simp))
 refine ⟨_,.pointer (some ⟨w.heap.size,0,none⟩),_,ρ',?_,Yields.value _,aS,dX,?_,hE⟩
 . simp[execOp,ho,Instr.box,newVar,newRow]
 . have:=av.ptr (ρ:=ρ') (n:=(st.aL none none (some (.cells v.cells 0))).next.toNat) (C:=C) st.next 0 (by simp[St.aL,Pos.ax])
   rw[cT] at this;simpa using this
theorem Ib {n:Nat} {z:List AV} {zs:List Value} (h:aA ρ n C z zs): ∀m,aA ρ n C (bC z m) (bC zs m)
 |0=>aA.nil
 |m+1=>h.append (Ib h m)
theorem iQ {α:Type} (z:List α): ∀m,(bC z m).length=m*z.length
 |0=>by simp[bC]
 |m+1=>by simp[bC,iQ z m,Nat.add_mul,Nat.add_comm]
theorem RD {α:Type} (z:List α): ∀(m i:Nat),i<m*z.length->(bC z m)[i]? =z[i % z.length]?
 |0,i,h=>by simp at h
 |m +1,i,h=>by
  simp only[bC]
  by_cases hi:i<z.length
  . rw[List.getElem?_append_left hi,Nat.mod_eq_of_lt hi]
  . have hi:z.length<=i:=by omega
    rw[List.getElem?_append_right hi,RD z m _ (by rw[Nat.add_mul] at h;omega)]
    congr 1
    rw[<-Nat.mod_eq_sub_mod hi]
theorem Zq (z:Array Value) (m:Nat) (hz:0<z.size):((Array.range (m*z.size)).map (z[· % z.size]!)).toList=bC z.toList m:=by
 apply List.ext_getElem?
 intro i
 by_cases hi:i<m*z.size
 . rw[RD _ _ _ (by simpa using hi)]
   have aP:i % z.size<z.size:=Nat.mod_lt _ hz
   simp[hi,aP]
 . rw[List.getElem?_eq_none (by simp;omega),List.getElem?_eq_none (by rw[iQ];simp;omega)]
theorem yl {ρ':Pos->Loc} {b:Pos} {n g len es aN size:Nat} {cap:Option Nat} (hb:b.toNat<n) (aS:ρ' b=⟨g,0,size⟩) (hl:len<=aN) (hc: ∀c,cap=some c->c=aN) (hs:aN*es<=size):
  av ρ' n C (.slice b 0 len cap es) (.slice (some ⟨g,0,none⟩) len aN):=
 .slice _ _ _ _ _ _ _ hl hc (fun _=>⟨hb,by rw[aS],by rw[aS];simpa using hs⟩) (fun _=>hb)
theorem TV {z:List AV} {zv:Value} {n m size:Nat} (rS:aA ρ n C z zv.cells.toList) (hl:z.length=size):
   aA ρ n C (bC z m) ((Array.range (m*size)).map ((if m*size=0 then (#[]:Array Value) else zv.cells)[· % (if m*size=0 then (#[]:Array Value) else zv.cells).size]!)).toList/\
   ((Array.range (m*size)).map ((if m*size=0 then (#[]:Array Value) else zv.cells)[· % (if m*size=0 then (#[]:Array Value) else zv.cells).size]!)).size=m*size:=by
 refine ⟨?_,by simp⟩
 by_cases h0:m*size=0
 . have:bC z m=[]:=by apply List.eq_nil_of_length_eq_zero;rw[iQ,hl];exact h0
   rw[this]
   have:(Array.range (m*size))= #[]:=by rw[h0];rfl
   rw[this];simpa using (aA.nil:aA ρ n C [] [])
 . rw[if_neg h0]
   have WX:zv.cells.size=size:=by have:=rS.1;simp at this;omega
   have N4:0<zv.cells.size:=by
    rw[WX];rcases Nat.eq_zero_or_pos size with h|h
    . rw[h] at h0;simp at h0
    . exact h
   have:=Zq zv.cells m N4
   rw[WX] at this ⊢
   rw[this]
   exact Ib rS m
theorem aiw {k:IntKind} {i:Int} (h1:AH k<=i) (h2:i<=hiI k):k.wrap i=i:=by
 rw[<-ud]
 unfold ay
 split
 . split
   . rfl
   . exact absurd h2 (by assumption)
 . exact absurd h1 (by assumption)
theorem Zr {j:Nat} (h:j<=9223372036854775807):IntKind.i64.wrap (j:Int)=(j:Int):=aiw (by simp only[AH];omega) (by simp only[hiI];omega)
theorem abK (hT:cr P tt) (t:TypeId) (l c:Operand):cS P tt (.makeSlice t l c):=by
 intro ρ C st w k xs cls fr a o vs res ho hc hW hF hx hr
 simp only[fL] at hc
 split at hc<;>first|(cases hc;done)|skip
 rename_i ti l0 cY hl
 split at hc<;>first|(cases hc;done)|skip
 rename_i e hk
 split at hc<;>first|(cases hc;done)|skip
 rename_i te ff
 split at hc<;>first|(cases hc;done)|skip
 rename_i z hz
 cases hc
 obtain ⟨d,hd,bW⟩:=(hT.at cY).und
 rw[hk] at bW;rw[mD bW] at hd
 obtain ⟨i0,jG,j7,hib,AL⟩:=(hT.at ff).info
 obtain ⟨u,v,rfl,h1,h2⟩:=VD hl hF hx
 simp only[aC.run,y7] at hr
 split at hr<;>first|(cases hr;done)|skip
 rename_i jl jc hjl hjc
 split at hr<;>first|(cases hr;done)|skip
 rename_i e1 e2 e3
 have e1:=Nat.le_of_ble_eq_true e1
 have e2:=Nat.le_of_ble_eq_true e2
 have e3:=Nat.le_of_ble_eq_true e3
 simp only[Option.some.injEq] at hr;subst hr
 obtain ⟨kl,hkl⟩:=jv h1 hjl
 obtain ⟨kc,N5⟩:=jv h2 hjc
 obtain ⟨zv0,hzv0,_,TW,_⟩:=AL z hz
 obtain ⟨zv,AM,_,rS⟩:=ue hT ff hz (ρ:=ρ) (n:=st.next.toNat) (C:=C) w
 obtain ⟨N6,VE⟩:=TV (m:=jc) rS TW
 generalize eJ:(Array.range (jc*te.size)).map ((if jc*te.size=0 then (#[]:Array Value) else zv.cells)[· % (if jc*te.size=0 then (#[]:Array Value) else zv.cells).size]!)=row at N6 VE
 obtain ⟨ρ',aS,cT,dX,hE⟩:=wo (w':=w.alloc (.cells row e)) (o:= .cells row e) (x0:= .cells (bC z jc) 0) (base:=0) (size:=row.size) hW none rfl rfl rfl rfl (fun ρ' n' aS hn=>
   uf (w':=w.alloc (.cells row e)) (e:=e) (fr:=(0,0)) (by show (w.heap.push _)[w.heap.size]? =_;simp) (by rw[iQ,VE,TW];exact Nat.le_refl _)
    (by rw[iQ,TW, <-VE, <-Array.length_toList,List.take_length];exact N6.mono aS hn) (fun i _=>by simp))
 refine ⟨_,.slice (some ⟨w.heap.size,0,none⟩) jl jc,_,ρ',?_,Yields.value _,aS,dX,?_,hE⟩
 . have aX:=Zr (Nat.le_trans e1 e3)
   have eP:=Zr e3
   have hb: ¬((te.bytes:Int)*(jc:Int)>2 ^ 48):=by
    have h:=Int.ofNat_le.2 e2
    rw[Int.natCast_mul] at h
    exact Int.not_lt.2 h
   have bU:(Instr.makeSlice t (.int kl jl) (.int kc jc)).run P w= .ok (.slice (some ⟨w.heap.size,0,none⟩) jl jc) (w.alloc (.cells row e)):=by
    unfold Instr.makeSlice
    simp only[Sem.run_bind,aO hd,Result.andThen_ok,asInt,asIntOf,Sem.run_pure,Zf jG,aX,eP,hib]
    have adq: ¬((decide ((jc:Int)<0)||decide ((te.bytes:Int)*(jc:Int)>2 ^ 48)||decide ((jl:Int)<0)||decide ((jl:Int)>(jc:Int)))=true):=by
        simp only[Bool.or_eq_true,decide_eq_true_eq]
        rintro (((h|h)|h)|h)
        . omega
        . exact hb h
        . omega
        . omega
    rw[if_neg adq]
    simp only[Sem.run_bind,run_askRoom,Result.andThen_ok,gW jG,j7,Int.toNat_natCast]
    rw[<-eJ]
    by_cases h0:jc*te.size=0
    .   simp only[h0,if_true,Sem.run_bind,Sem.run_pure,Result.andThen_ok,newRow,run_newObj,World.alloc_eq]
    .   simp only[h0,if_false,Sem.run_bind,Sem.run_pure,Result.andThen_ok,AM,newRow,run_newObj,World.alloc_eq]
   simp[execOp,ho,hkl,N5,bU]
 . exact yl (by simp[St.aL,Pos.ax]) cT e1 (fun c hc=>by cases hc;rfl) (by rw[VE];exact Nat.le_refl _)
theorem VF (hT:cr P tt) (t:TypeId) (len:Nat) (ps:Array (Nat×Operand)):cS P tt (.buildSlice t len ps):=by
 intro ρ C st w k xs cls fr a o vs res ho hc hW hF hx hr
 simp only[fL] at hc
 split at hc<;>first|(cases hc;done)|skip
 rename_i ti l0 cY hl
 split at hc<;>first|(cases hc;done)|skip
 rename_i e hk
 split at hc<;>first|(cases hc;done)|skip
 rename_i te ff
 split at hc<;>first|(cases hc;done)|skip
 rename_i z hz hlim
 have hlim:=Nat.le_of_ble_eq_true hlim
 cases hc
 obtain ⟨d,hd,bW⟩:=(hT.at cY).und
 rw[hk] at bW;rw[mD bW] at hd
 obtain ⟨i0,jG,j7,hib,AL⟩:=(hT.at ff).info
 have hv:=eD hl hF hx
 simp only[aC.run,rO] at hr
 split at hr<;>first|(cases hr;done)|skip
 rename_i cs vg
 simp only[Option.some.injEq] at hr;subst hr
 obtain ⟨zv0,hzv0,_,TW,_⟩:=AL z hz
 obtain ⟨zv,AM,_,rS⟩:=ue hT ff hz (ρ:=ρ) (n:=st.next.toNat) (C:=C) w
 obtain ⟨N6,VE⟩:=TV (m:=len) rS TW
 generalize eJ:(Array.range (len*te.size)).map ((if len*te.size=0 then (#[]:Array Value) else zv.cells)[· % (if len*te.size=0 then (#[]:Array Value) else zv.cells).size]!)=row at N6 VE
 have hps:(ps.map fun (i,x)=>(i,a.eval x)).toList=ps.toList.map fun x=>(x.1,a.eval x.2):=by simp
 obtain ⟨je,e1,e2⟩:=SY (fun i=>some (i*te.size,te.size)) vg N6 (ps:=ps.toList.map fun x=>(x.1,a.eval x.2)) (by simpa [List.map_map,Function.comp_def] using hv) (by simp[List.map_map,Function.comp_def])
 have hlen:cs.length=je.size:=by simpa using e2.1
 have akF: ∀{pp:List (Nat×Nat)} {vs cells r:List AV},bJ cells pp vs=some r->r.length=cells.length:=by
   intro pp
   induction pp with
   |nil=>intro vs cells r h;unfold bJ at h;split at h<;>first|(cases h;done)|(simp only[Option.some.injEq] at h;subst h;rfl)|(rename_i hh;cases hh)
   |cons p pp ih=>
    intro vs cells r h
    unfold bJ at h
    split at h<;>first|(cases h;done)|(rename_i hh;cases hh;done)|skip
    rename_i hh
    simp only[List.cons.injEq] at hh
    obtain ⟨rfl,rfl⟩:=hh
    split at h<;>first|(cases h;done)|skip
    rename_i g1 g2
    have g1:=Nat.eq_of_beq_eq_true g1
    have g2:=Nat.le_of_ble_eq_true g2
    rw[ih h];simp[aG];omega
 have hcsl:=akF vg
 rw[iQ,TW] at hcsl
 obtain ⟨ρ',aS,cT,dX,hE⟩:=wo (w':=w.alloc (.cells je e)) (o:= .cells je e) (x0:= .cells cs 0) (base:=0) (size:=je.size) hW none rfl rfl rfl rfl (fun ρ' n' aS hn=>
   uf (w':=w.alloc (.cells je e)) (e:=e) (fr:=(0,0)) (by show (w.heap.push _)[w.heap.size]? =_;simp) (by omega)
    (by rw[hlen, <-Array.length_toList,List.take_length];exact e2.mono aS hn) (fun i _=>by simp))
 refine ⟨_,.slice (some ⟨w.heap.size,0,none⟩) len len,_,ρ',?_,Yields.value _,aS,dX,?_,hE⟩
 . have bU:(Instr.buildSlice t len (ps.map fun (i,x)=>(i,a.eval x))).run P w= .ok (.slice (some ⟨w.heap.size,0,none⟩) len len) (w.alloc (.cells je e)):=by
    unfold Instr.buildSlice
    simp only[Sem.run_bind,aO hd,Result.andThen_ok,gW jG,j7]
    rw[if_neg (by omega)]
    by_cases h0:len*te.size=0
    .   simp only[h0,if_true,Sem.run_bind,Sem.run_pure,Result.andThen_ok]
        simp only[h0,if_true] at eJ
        rw[eJ,hps,e1]
        simp only[newRow,Sem.run_bind,run_newObj,World.alloc_eq,Result.andThen_ok,Sem.run_pure]
    .   simp only[h0,if_false,Sem.run_bind,Sem.run_pure,Result.andThen_ok,AM]
        simp only[h0,if_false] at eJ
        rw[eJ,hps,e1]
        simp only[newRow,Sem.run_bind,run_newObj,World.alloc_eq,Result.andThen_ok,Sem.run_pure]
   simp only[execOp,ho,Sem.run_bind]
   rw[bU];rfl
 . exact yl (by simp[St.aL,Pos.ax]) cT (Nat.le_refl _) (fun c hc=>by cases hc;rfl) (by omega)
theorem aeP (t:TypeId) (r:Option Operand) (hT:cr P tt):cS P tt (.makeMap t r):=by
 intro ρ C st w k xs cls fr a o vs res ho hc hW hF hx hr
 have key:k= .mkMap/\(execOp a.eval o).run P w= .ok (.value (.map (some w.heap.size))) (w.alloc (.map #[] 0)):=by
  simp only[fL] at hc
  split at hc<;>first|(cases hc;done)|skip
  rename_i ti cY
  obtain ⟨d,hd,bW⟩:=(hT.at cY).und
  split at hc<;>first|(cases hc;done)|skip
  . cases hc
    exact ⟨rfl,by simp[execOp,ho,Instr.makeMap]⟩
  . rename_i hk
    rw[hk] at bW;rw[NX bW] at hd
    cases hc
    exact ⟨rfl,by simp[execOp,ho,Instr.makeMap,aO hd,Act.eval,asInt,asIntOf]⟩
 obtain ⟨rfl,bU⟩:=key
 simp only[aC.run,Kt,Option.some.injEq] at hr;subst hr
 obtain ⟨ρ',aS,cT,dX,hE⟩:=wo (w':=w.alloc (.map #[] 0)) (o:= .map #[] 0) (x0:= .map [] 0) (base:=0) (size:=0) hW none rfl rfl rfl rfl (fun ρ' n' aS hn=>
  ⟨#[],by show (w.heap.push _)[w.heap.size]? =_;simp,rfl,fun i e e' h=>by simp at h⟩)
 refine ⟨_,_,_,ρ',bU,Yields.value _,aS,dX,?_,hE⟩
 have:=av.map (ρ:=ρ') (n:=(st.aL none none (some (.map [] 0))).next.toNat) (C:=C) st.next (by simp[St.aL,Pos.ax])
 rw[cT] at this;exact this
theorem adr (hT:cr P tt) (t:TypeId) (x:Operand):cS P tt (.range t x):=by
 intro ρ C st w k xs cls fr a o vs res ho hc hW hF hx hr
 simp only[fL] at hc
 split at hc<;>first|(cases hc;done)|skip
 rename_i ti b cY hb
 split at hc<;>first|(cases hc;done)|skip
 rename_i hk
 cases hc
 obtain ⟨d,hd,bW⟩:=(hT.at cY).und
 rw[hk] at bW;rw[l9 bW] at hd
 obtain ⟨v,rfl,hv⟩:=eR hb hF hx
 simp only[aC.run,Gx] at hr
 split at hr<;>first|(cases hr;done)|skip
 rename_i s
 simp only[Option.some.injEq] at hr;subst hr
 obtain ⟨bs,he,hs⟩:=hv.dW
 obtain ⟨ρ',aS,cT,dX,hE⟩:=wo (w':=w.alloc (.stringIter bs 0)) (o:= .stringIter bs 0) (x0:= .jM s 0) (base:=0) (size:=0) hW none rfl rfl rfl rfl (fun ρ' n' aS hn=>
   ⟨bs,by show (w.heap.push _)[w.heap.size]? =_;simp,hs,rfl⟩)
 refine ⟨_,.pointer (some ⟨w.heap.size,0,none⟩),_,ρ',?_,Yields.value _,aS,dX,?_,hE⟩
 . simp[execOp,ho,he,Instr.range,aO hd]
 . have:=av.ptr (ρ:=ρ') (n:=(st.aL none none (some (.jM s 0))).next.toNat) (C:=C) st.next 0 (by simp[St.aL,Pos.ax])
   rw[cT] at this;simpa using this
theorem X9 (hT:cr P tt) (src dst:TypeId) (x:Operand) (hb: ∃xs cls,fL tt (.convert src dst x)=some (.conv .bytes,xs,cls)):cS P tt (.convert src dst x):=by
 intro ρ C st w k xs cls fr a o vs res ho hc hW hF hx hr
 obtain ⟨_,_,eS⟩:=hb
 rw[hc] at eS
 simp only[Option.some.injEq,Prod.mk.injEq] at eS
 obtain ⟨rfl,_⟩:=eS
 simp only[fL] at hc
 split at hc<;>first|(cases hc;done)|skip
 rename_i s d b hs hd hb
 obtain ⟨ds,EJ,Jm⟩:=(hT.at hs).und
 obtain ⟨dd,hdd,bW⟩:=(hT.at hd).und
 split at hc<;>first|(cases hc;done)|skip
 . rename_i e h1 h2
   split at hc<;>first|(cases hc;done)|skip
   rename_i te ff
   split at hc<;>first|(cases hc;done)|skip
   rename_i hk8
   cases hc
   rw[h1] at Jm;rw[h2] at bW
   rw[l9 Jm] at EJ;rw[mD bW] at hdd
   obtain ⟨de,hde,hke⟩:=(hT.at ff).und
   rw[hk8] at hke;rw[Jf hke] at hde
   obtain ⟨v,rfl,hv⟩:=eR hb hF hx
   simp only[aC.run,A3] at hr
   split at hr<;>first|(cases hr;done)|(rename_i heq;cases heq;done)|(rename_i heq;cases heq)
   rename_i u
   simp only[Option.some.injEq] at hr;subst hr
   obtain ⟨bs,he,hs⟩:=hv.dW
   have bU:=run_bytes_of_string (P:=P) w src dst e bs EJ hdd hde
   have NZ:bs.size<=grownCap w bs.size 0 e:=by unfold grownCap Question.cut;exact Nat.le_add_right _ _
   generalize grownCap w bs.size 0 e=cap at bU NZ
   have eI:(bytesRow bs cap).size=cap:=by
     have:bs.data.size=bs.size:=rfl
     simp[bytesRow,this];omega
   have hul:u.length=bs.size:=(xI hs).symm
   have hrel: ∀ρ' n',aA ρ' n' C (u.map fun c=>AV.int .u8 (.ofNat c)) ((bytesRow bs cap).toList.take (u.map fun c=>AV.int .u8 (.ofNat c)).length):=by
     intro ρ' n'
     have h1:(bytesRow bs cap).toList.take (u.map fun c=>AV.int .u8 (.ofNat c)).length=u.map fun c=>Value.int .u8 (.ofNat c):=by
        have hdl:bs.data.toList.length=bs.size:=by simp
        rw[List.length_map,hul]
        simp only[bytesRow,Array.toList_append,Array.toList_map]
        rw[List.take_left' (by simp), <-hs,List.map_map]
        rfl
     rw[h1]
     refine ⟨by simp,fun i v x hv hx=> ?_⟩
     simp only[List.getElem?_map,Option.map_eq_some_iff] at hv hx
     obtain ⟨c,hc,rfl⟩:=hv
     obtain ⟨c',wq,rfl⟩:=hx
     rw[hc] at wq;cases wq
     exact .int _ _
   obtain ⟨ρ',aS,cT,dX,hE⟩:=wo (w':=w.drew.alloc (.cells (bytesRow bs cap) e ((bytesRow bs cap).size,(bytesRow bs cap).size+1))) (o:= .cells (bytesRow bs cap) e ((bytesRow bs cap).size,(bytesRow bs cap).size+1))
     (x0:= .cells (u.map fun c=>AV.int .u8 (.ofNat c)) 0) (base:=0) (size:=(bytesRow bs cap).size) hW none rfl rfl rfl rfl (fun ρ' n' aS hn=>
     uf (e:=e) (fr:=((bytesRow bs cap).size,(bytesRow bs cap).size+1)) (by show (w.heap.push _)[w.heap.size]? =_;simp) (by rw[List.length_map,hul,eI];exact NZ) (hrel _ _) (fun i hi=>by simp;omega))
   refine ⟨_,.slice (some ⟨w.heap.size,0,none⟩) u.length cap,_,ρ',?_,Yields.value _,aS,dX,?_,hE⟩
   . simp only[execOp,ho,he,Sem.run_bind]
     rw[bU,hul];rfl
   . exact yl (by simp[St.aL,Pos.ax]) cT (by omega) (fun c hc=>by cases hc) (by omega)
 all_goals
   repeat' split at hc
   all_goals (cases hc;done)
end
end
section
open Go Go.RowKit
section
variable {P : Program} {tt : TT} {ρ : Pos -> Loc} {C : Cells} {st : St} {w w' : World}
theorem zf {n:Nat}: ∀{l:List AV} {ys:List Value},aK l=true->aA ρ n C l ys-> ∀y∈ys,y.oneCell'=true
 |[],ys,_,h=>by have:=h.su;subst this;simp
 |v::l,ys,h1,h=>by
  unfold aK at h1
  split at h1<;>first|(cases h1;done)|skip
  rename_i ho
  obtain ⟨y,ys',rfl,hv,hs⟩:=h.cons_inv
  intro z hz
  simp at hz
  rcases hz with rfl|hz
  . cases hv<;>first|rfl|(simp[AV.one] at ho;done)
  . exact zf h1 hs z hz
theorem DV {α:Type} (l:List α) {i:Nat} (vs:List α) (hi:i<=l.length) (k:Nat):(aG l i vs)[k]? =if k<i then l[k]? else if k<i+vs.length then vs[k - i]? else l[k]? :=by
 unfold aG
 have hl:(l.take i).length=i:=by simp;omega
 split
 . rename_i h;rw[List.getElem?_append_left (by omega),List.getElem?_take,if_pos h]
 . rename_i h
   rw[List.getElem?_append_right (by omega),hl]
   split
   . rename_i h';rw[List.getElem?_append_left (by omega)]
   . rename_i h'
     rw[List.getElem?_append_right (by omega),List.getElem?_drop]
     congr 1;omega
theorem Ic {α:Type} (l:List α) (b off:Nat) (vs:List α) (h:b+off<=l.length):(aG l (b+off) vs).drop b=aG (l.drop b) off vs:=by
 apply List.ext_getElem?
 intro k
 rw[List.getElem?_drop,DV l vs h,DV (l.drop b) vs (by simp;omega),List.getElem?_drop]
 by_cases h1:k<off
 . rw[if_pos (by omega),if_pos h1]
 . rw[if_neg (by omega),if_neg h1]
   by_cases h2:k<off+vs.length
   . rw[if_pos (by omega),if_pos h2];congr 1;omega
   . rw[if_neg (by omega),if_neg h2]
theorem RE {α:Type} (l:List α) (off m:Nat) (vs:List α) (h:off+vs.length<=m) (h':m<=l.length):(aG l off vs).take m=aG (l.take m) off vs:=by
 apply List.ext_getElem?
 intro k
 rw[List.getElem?_take,DV l vs (by omega),DV (l.take m) vs (by simp;omega),List.getElem?_take]
 by_cases h1:k<off
 . rw[if_pos (by omega),if_pos h1,if_pos h1,if_pos (by omega)]
 . by_cases h2:k<off+vs.length
   . rw[if_pos (by omega),if_neg h1,if_pos h2,if_neg h1,if_pos h2]
   . rw[if_neg h1,if_neg h2,if_neg h1,if_neg h2]
theorem KG (hW:bA ρ C st w) {b:Pos} {cs vs:List AV} {fz off:Nat} {ys:List Value} (hb:st.heap.get b=some (.cells cs fz)) (hle:off+vs.length<=cs.length) (hfz:fz<=off)
   (h1:aK vs=true) (hv:aA ρ st.next.toNat C vs ys):
   ∃w',(storeCells ⟨(ρ b).aE,(ρ b).base+off,none⟩ ys).run P w= .ok () w'/\bA ρ C (st.aL none (some (b,.cells (aG cs off vs) fz)) none) w'/\ni ρ st w ρ (st.aL none (some (b,.cells (aG cs off vs) fz)) none) w':=by
 obtain ⟨_,_,c,e,fr,g1,g2,g3,g4,g5⟩:=hW.live b _ hb
 have hl:vs.length=ys.length:=hv.1
 obtain ⟨w',e1,e2,e3,e4,e5,e6,e7⟩:=jQ (P:=P) (ρ b).aE e fr ys 0 ((ρ b).base+off) c w g1 (by omega) (zf h1 hv) (fun k hk kM=>by
   have:=g5 (k - (ρ b).base) (by omega) (by omega)
   rwa [show (ρ b).base+(k - (ρ b).base)=k from by omega] at this)
 simp only[Nat.add_zero] at e1 e2
 refine ⟨w',e1,?_⟩
 have hlen:(aG cs off vs).length=cs.length:=by simp[aG];omega
 refine TU hW hb e5 e6 e7 e3 e4 ⟨_,e,fr,e2,?_,?_,?_,fun i hi Zs=>g5 i hi ?_⟩
 . simp[aG];omega
 . rw[hlen];simp[aG];omega
 . rw[hlen]
   rw[Ic _ _ _ _ (by simp;omega),RE _ _ _ _ (by omega) (by simp;omega)]
   exact g4.aG hv off
 . simp[aG] at Zs;omega
theorem aeQ (hW:bA ρ C st w) {b:Pos} {cs vs:List AV} {t:TypeId} {off:Nat} {ys:List Value} (hb:st.heap.get b=some (.typed t cs)) (hle:off+vs.length<=cs.length)
   (h1:aK vs=true) (hv:aA ρ st.next.toNat C vs ys):
   ∃w',(storeCells ⟨(ρ b).aE,(ρ b).base+off,none⟩ ys).run P w= .ok () w'/\bA ρ C (st.aL none (some (b,.typed t (aG cs off vs))) none) w'/\ni ρ st w ρ (st.aL none (some (b,.typed t (aG cs off vs))) none) w':=by
 obtain ⟨_,_,c,fr,g1,g2,g3,g4,g5,g6⟩:=hW.live b _ hb
 have hl:vs.length=ys.length:=hv.1
 obtain ⟨w',e1,e2,e3,e4,e5,e6,e7⟩:=jQ (P:=P) (ρ b).aE t fr ys 0 ((ρ b).base+off) c w g1 (by omega) (zf h1 hv) (fun k hk kM=>by
   have:=g5 (k - (ρ b).base) (by omega) (by omega)
   rwa [show (ρ b).base+(k - (ρ b).base)=k from by omega] at this)
 simp only[Nat.add_zero] at e1 e2
 refine ⟨w',e1,?_⟩
 have hlen:(aG cs off vs).length=cs.length:=by simp[aG];omega
 refine TU hW hb e5 e6 e7 e3 e4 ⟨_,fr,e2,?_,?_,?_,fun i hi Zs=>g5 i hi ?_,g6⟩
 . simp[aG];omega
 . rw[hlen];simp[aG];omega
 . rw[hlen]
   rw[Ic _ _ _ _ (by simp;omega),RE _ _ _ _ (by omega) (by simp;omega)]
   exact g4.aG hv off
 . simp[aG] at Zs;omega
theorem av.xK {n:Nat}:av ρ n C .undef undef:= .tuple [] #[] rfl (fun _ _ _ h=>by simp at h)
theorem aeR (hT:cr P tt) (t:TypeId) (x y:Operand):cS P tt (.store t x y):=by
 intro ρ C st w k xs cls fr a o vs res ho hc hW hF hx hr
 simp only[fL] at hc
 split at hc<;>first|(cases hc;done)|skip
 rename_i ti l cY hl
 cases hc
 obtain ⟨p,v,rfl,h1,h2⟩:=VD hl hF hx
 obtain ⟨i0,jG,j7,_⟩:=(hT.at cY).info
 simp only[aC.run,Ez] at hr
 split at hr<;>first|(cases hr;done)|skip
 rename_i b off
 split at hr<;>first|(cases hr;done)|skip
 rotate_left
 . rename_i t0 cs hb
   split at hr<;>first|(cases hr;done)|skip
   rename_i e1 e2 e4
   have e1:=Nat.eq_of_beq_eq_true e1
   have e2:=Nat.le_of_ble_eq_true e2
   simp only[Option.some.injEq] at hr;subst hr
   obtain ⟨_,he⟩:=h1.fu
   have hc:=h2.cells
   obtain ⟨w',bU,dX,hE⟩:=aeQ (P:=P) (vs:=v.cells) (off:=off) hW hb (by omega) e4 hc
   refine ⟨.skip,undef,w',ρ,?_,.inr ⟨rfl,rfl⟩,fun _ _=>rfl,dX,av.xK,hE⟩
   have eI:(a.eval y).cells.size=ti.size:=by have:=hc.1;simp at this;omega
   simp[execOp,ho,he,Instr.storeAt,Instr.sureAddr,storeVar,gW jG,j7,eI,bU]
 rename_i cs fz hb
 split at hr<;>first|(cases hr;done)|skip
 rename_i e1 e2 e3 e4
 have e1:=Nat.eq_of_beq_eq_true e1
 have e2:=Nat.le_of_ble_eq_true e2
 have e3:=Nat.le_of_ble_eq_true e3
 simp only[Option.some.injEq] at hr;subst hr
 obtain ⟨_,he⟩:=h1.fu
 have hc:=h2.cells
 obtain ⟨w',bU,dX,hE⟩:=KG (P:=P) hW hb (by omega) e3 e4 hc
 refine ⟨.skip,undef,w',ρ,?_,.inr ⟨rfl,rfl⟩,fun _ _=>rfl,dX,av.xK,hE⟩
 have eI:(a.eval y).cells.size=ti.size:=by have:=hc.1;simp at this;omega
 simp[execOp,ho,he,Instr.storeAt,Instr.sureAddr,storeVar,gW jG,j7,eI,bU]
theorem run_setObj_map {r:Nat} {es:Array MapEntry} {c:Nat} {o:Obj} {w:World} (h:w.heap[r]? =some (.map es c)):(setObj r o).run P w= .ok () { w with heap:=w.heap.setIfInBounds r o }:=by
 simp[setObj,Sem.run,h]
theorem TX (hW:bA ρ C st w) {b:Pos} {es:List (AV×AV×Nat)} {clock:Nat} (hb:st.heap.get b=some (.map es clock)) {N7:List (AV×AV×Nat)} {ads:Array MapEntry} {Jp:Nat}
  (hE:GM ρ st.next.toNat C N7 ads.toList):
  bA ρ C (st.aL none (some (b,.map N7 Jp)) none) { w with heap:=w.heap.setIfInBounds (ρ b).aE (.map ads Jp) }/\ni ρ st w ρ (st.aL none (some (b,.map N7 Jp)) none) { w with heap:=w.heap.setIfInBounds (ρ b).aE (.map ads Jp) }:=by
 have aP:=(hW.live b _ hb).2.1
 refine TU hW hb rfl rfl rfl (by simp) (fun k hk=>by simp[Array.getElem?_setIfInBounds_ne (Ne.symm hk)]) ⟨ads,by simp[aP],by simpa using hE.1,fun i e e' h1 h2=>hE.2 i e e' h1 (by simpa using h2)⟩
theorem SZ {n:Nat} {pk:PK} {u v:AV} {x y:Value} (h1:av ρ n C u x) (h2:av ρ n C v y) (h:tU pk u v=some true) (m:Nat):Instr.sameBits m y x=true:=by
 unfold tU at h
 split at h<;>first|(cases h;done)|skip
 . simp only[Option.some.injEq] at h
   rw[h1.iH,h2.iH]
   rename_i p q
   have:p=q:=by simpa using h
   subst this
   cases m<;>simp[Instr.sameBits]
 . split at h<;>first|(cases h;done)|skip
   rename_i GI
   have:=yj GI;subst this
   simp only[Option.some.injEq,mE] at h
   rw[h1.iP,h2.iP]
   rename_i p q _
   have:p=q:=by simpa using h
   subst this
   cases m<;>simp[Instr.sameBits]
 . simp only[Option.some.injEq] at h
   obtain ⟨bx,rfl,e1⟩:=h1.dW
   obtain ⟨bz,rfl,e2⟩:=h2.dW
   have:bz==bx:=by rw[beq_toListBytes,Jj e2 e1,lS];exact (lS.1 h).symm
   cases m<;>simpa [Instr.sameBits] using this
theorem WY {pk:PK} {u:AV}: ∀{es:List (AV×AV×Nat)} {i j:Nat} {v:AV},fH pk u es i=some (some (j,v))-> ∃e,i<=j/\es[j - i]? =some e/\tU pk u e.1=some true
 |[],i,j,v,h=>by simp[fH] at h
 |(k',v',born)::es,i,j,v,h=>by
  unfold fH at h
  split at h<;>first|(cases h;done)|skip
  . rename_i hq
    simp only[Option.some.injEq,Prod.mk.injEq] at h
    obtain ⟨rfl,_⟩:=h
    exact ⟨(k',v',born),Nat.le_refl _,by simp,hq⟩
  . obtain ⟨e,h1,h2,h3⟩:=WY h
    refine ⟨e,by omega,?_,h3⟩
    rw[show j - i=(j - (i+1))+1 from by omega]
    simpa using h2
theorem N8 (k v:AV): ∀(es:List (AV×AV×Nat)) (i j:Nat),(oF k v es i)[j]? =if j=i then (es[i]?).map (fun e=>(k,v,e.2.2)) else es[j]?
 |[],i,j=>by cases i<;>cases j<;>simp[oF]
 |(a,b,born)::es,0,j=>by cases j<;>simp[oF]
 |e::es,i+1,j=>by
  cases j with
  |zero=>simp[oF]
  |succ j=>simp[oF,N8 k v es i j]
theorem TY (hT:cr P tt) (op:Op) (t:TypeId) (m k0 v0:Operand) (Zt:op= .mapUpdate t m k0 v0\/op= .insert t m k0 v0):cS P tt op:=by
 intro ρ C st w k xs cls fr a o vs res ho hc hW hF hx hr
 have hc:fL.adg tt t m k0 v0=some (k,xs,cls):=by rcases Zt with rfl|rfl<;>simpa only[fL] using hc
 have hex:(execOp a.eval o).run P w=((Instr.mapUpdate t (a.eval m) (a.eval k0) (a.eval v0)).run P w).andThen fun _ w=> .ok .skip w:=by
   rcases Zt with rfl|rfl<;>simp[execOp,ho]
 unfold fL.adg at hc
 split at hc<;>first|(cases hc;done)|skip
 rename_i ti l cY hl
 split at hc<;>first|(cases hc;done)|skip
 rename_i kt et hk
 split at hc<;>first|(cases hc;done)|skip
 rename_i tk Zo
 obtain ⟨d,hd,bW⟩:=(hT.at cY).und
 rw[hk] at bW;rw[NX bW] at hd
 obtain ⟨dk,WV,GI⟩:=(hT.at Zo).und
 have key: ∃pk,k= .mapSet pk/\xs=l/\pk.fits dk=true:=by
   split at hc<;>first|(cases hc;done)|skip
   all_goals
     rename_i h1
     cases hc
     refine ⟨_,rfl,rfl,ah9 tk.k GI ?_⟩
   . exact .inr (.inl ⟨⟨_,h1⟩,rfl⟩)
   . exact .inr (.inr ⟨h1,rfl⟩)
   . exact .inl ⟨h1,rfl⟩
 obtain ⟨pk,rfl,rfl,H9⟩:=key
 obtain ⟨mm,kk,vv,rfl,h1,h2,h3⟩:=evs3 hl hF hx
 have hck: ∀e w,(Instr.checkKey e 10000 kt (a.eval k0)).run P w= .ok () w:=fun e w=>Jn WV H9 e 9999 _ w
 simp only[aC.run,tV] at hr
 split at hr<;>first|(cases hr;done)|skip
 rename_i b
 split at hr<;>first|(cases hr;done)|skip
 rename_i es clock hb
 obtain ⟨_,he⟩:=h1.Bb
 obtain ⟨_,_,es',ei,hlen,nC⟩:=hW.live _ _ hb
 have hE:GM ρ st.next.toNat C es es'.toList:=⟨by simpa using hlen,fun i e e' h1 h2=>nC i e e' h1 (by simpa using h2)⟩
 split at hr<;>first|(cases hr;done)|skip
 . rename_i i v hpk hf
   simp only[Option.some.injEq] at hr;subst hr
   obtain ⟨r',hf',kA⟩:=BQ H9 h2 hE hf
   rcases kA with ⟨e1,_⟩|⟨j',v',y,e1,e2,e3,_,e5⟩
   . cases e1
   . cases  e1;subst e2
     obtain ⟨e,_,hei,hek⟩:=WY hf
     rw[Nat.sub_zero] at hei
     have hi:i<es'.size:=by omega
     have adt:es'[i]? =some es'[i]:=Array.getElem?_eq_getElem hi
     have hkey:=(nC i e es'[i] hei adt).1
     have hsb:=SZ h2 hkey hek 10000
     have hE2:GM ρ st.next.toNat C (oF kk vv es i) (es'.modify i fun e=>{ e with key:=a.eval k0,val:=a.eval v0 }).toList:=by
        refine ⟨?_,fun j e e' g1 g2=> ?_⟩
        . have RF: ∀(es:List (AV×AV×Nat)) (i:Nat),(oF kk vv es i).length=es.length:=by
            intro es
            induction es with
            |nil=>intro i;cases i<;>rfl
            | cons e es ih=>intro i;cases i with
              |zero=>obtain ⟨a,b,c⟩:=e;rfl
              |succ i=>simp[oF,ih i]
          rw[RF];simpa using hlen
        . rw[N8] at g1
          simp only[Array.getElem?_toList,Array.getElem?_modify] at g2
          by_cases hji:j=i
          . subst hji
            rw[if_pos rfl,hei] at g1
            simp[adt] at g1 g2
            subst g1;subst g2
            exact ⟨h2,h3,(nC j e es'[j] hei adt).2.2⟩
          . rw[if_neg hji] at g1
            rw[if_neg (fun e=>hji e.symm)] at g2
            exact nC j e e' g1 g2
     obtain ⟨dX,hE'⟩:=TX hW hb (Jp:=clock) hE2
     refine ⟨.skip,undef,_,ρ,?_,.inr ⟨rfl,rfl⟩,fun _ _=>rfl,dX,av.xK,hE'⟩
     rw[hex]
     simp only[Instr.mapUpdate,Sem.run_bind,aO hd,Result.andThen_ok,he,run_getObj_map ei,hck,run_findKey WV hf',adt,Option.map_some,Option.getD_some,Instr.keyThatStays,hsb,if_true,Sem.run_pure,run_setObj_map ei]
 . rename_i hpk hf
   simp only[Option.some.injEq] at hr;subst hr
   obtain ⟨r',hf',kA⟩:=BQ H9 h2 hE hf
   rcases kA with ⟨_,e2⟩|⟨j',v',y,e1,_⟩
   . subst  e2
     have hE2:GM ρ st.next.toNat C (es++[(kk,vv,clock)]) (es'.push { key:=a.eval k0,val:=a.eval v0,born:=clock }).toList:=by
        refine ⟨by simp[hlen],fun j e e' g1 g2=> ?_⟩
        simp only[Array.toList_push] at g2
        rcases Nat.lt_or_ge j es.length with hj|hj
        . rw[List.getElem?_append_left hj] at g1
          rw[List.getElem?_append_left (by simp;omega)] at g2
          exact nC j e e' g1 (by simpa using g2)
        . rw[List.getElem?_append_right hj] at g1
          rw[List.getElem?_append_right (by simp;omega)] at g2
          have:j - es.length=0:=by
            have:=(List.getElem?_eq_some_iff.1 g1).1;simp at this;omega
          rw[this] at g1
          have:j - es'.toList.length=0:=by simp;omega
          rw[this] at g2
          simp at g1 g2
          subst g1;subst g2
          exact ⟨h2,h3,rfl⟩
     obtain ⟨dX,hE'⟩:=TX hW hb (Jp:=clock+1) hE2
     refine ⟨.skip,undef,_,ρ,?_,.inr ⟨rfl,rfl⟩,fun _ _=>rfl,dX,av.xK,hE'⟩
     rw[hex]
     simp only[Instr.mapUpdate,Sem.run_bind,aO hd,Result.andThen_ok,he,run_getObj_map ei,hck,run_findKey WV hf',run_setObj_map ei]
   . cases e1
theorem aeS (it:Operand) (isS:Bool):cS P tt (.next it isS):=by
 intro ρ C st w k xs cls fr a o vs res ho hc hW hF hx hr
 simp only[fL] at hc
 split at hc<;>first|(cases hc;done)|skip
 rename_i b hb
 cases hc
 obtain ⟨v,rfl,hv⟩:=eR hb hF hx
 simp only[aC.run,Ku] at hr
 split at hr<;>first|(cases hr;done)|skip
 rename_i bb
 split at hr<;>first|(cases hr;done)|skip
 rename_i s pos jR
 obtain ⟨_,he⟩:=hv.fu
 obtain ⟨_,_,bs,kz,hs,YU⟩:=hW.live _ _ jR
 have eI:=xI hs
 have oI:(getObj (ρ bb).aE).run P w= .ok (.stringIter bs pos) w:=by simp[getObj,Sem.run,kz]
 rw[YU] at he
 split at hr
 . rename_i aP
   have aP:pos<s.length:=by simpa using aP
   split at hr<;>first|(cases hr;done)|skip
   rename_i c wd S0
   simp only[Option.some.injEq] at hr;subst hr
   have KE:pos<bs.size:=by omega
   unfold acu at S0
   split at S0<;>first|(cases S0;done)|skip
   rename_i c' wq
   split at S0<;>first|(cases S0;done)|skip
   rename_i agA
   simp only[Option.some.injEq,Prod.mk.injEq] at S0
   obtain ⟨rfl,rfl⟩:=S0
   have agA:c'<128:=by simpa using agA
   have hcb:(bs[pos]'KE).toNat=c':=by
     rw[kZ, <-hs,List.getElem?_map] at wq
     obtain ⟨b',cJ,dD⟩:=Option.map_eq_some_iff.1 wq
     obtain ⟨hl,hbb'⟩:=List.getElem?_eq_some_iff.1 cJ
     rw[<-dD, <-hbb'];rfl
   have acw:=decode_ascii bs pos KE (by rw[hcb];exact agA)
   rw[hcb] at acw
   have Bc:(setObj (ρ bb).aE (.stringIter bs (pos+1))).run P w= .ok () { w with heap:=w.heap.setIfInBounds (ρ bb).aE (.stringIter bs (pos+1)) }:=by simp[setObj,Sem.run,kz]
   have hltb:=(hW.live _ _ jR).2.1
   obtain ⟨dX,hE'⟩:=TU (w':={ w with heap:=w.heap.setIfInBounds (ρ bb).aE (.stringIter bs (pos+1)) }) (x0:= .jM s (pos+1)) hW jR rfl rfl rfl (by simp)
     (fun k hk=>by simp[Array.getElem?_setIfInBounds_ne (Ne.symm hk)]) ⟨bs,by simp[hltb],hs,YU⟩
   refine ⟨.value (.tuple #[.bool true,goInt pos,.int .i32 (c':Int)]),_,_,ρ,?_,Yields.value _,fun _ _=>rfl,dX,?_,hE'⟩
   . simp only[execOp,ho,he,Instr.next,Sem.run_bind,oI,Result.andThen_ok,KE,if_true,acw,Bc,Sem.run_pure]
   . exact .tZ (aA.cons (.bool true) (aA.cons (.int _ _) (aA.cons (.int _ _) aA.nil)))
 . rename_i aP
   have aP: ¬pos<s.length:=fun h=>by
     have:Nat.blt pos s.length=true:=by simpa using h
     rw[this] at aP;cases aP
   simp only[Option.some.injEq] at hr;subst hr
   have KE: ¬pos<bs.size:=by omega
   refine .pure (x:= .tuple #[.bool false]) ?_ (.tZ (aA.cons (.bool false) aA.nil))
   simp only[execOp,ho,he,Instr.next,Sem.run_bind,oI,Result.andThen_ok,KE,if_false,Sem.run_pure]
end
end
section
open Go Go.RowKit
section
variable {P : Program} {tt : TT} {ρ : Pos -> Loc} {C : Cells} {st : St} {w w' : World}
theorem bA.of_heap (hW:bA ρ C st w) (h:w'.heap=w.heap):bA ρ C st w' where
 live b x hb:=let ⟨h1,h2,h3⟩:=hW.live b x hb;⟨h1,by rw[h];exact h2,h3.of_heap (by rw[h])⟩
 inj:=hW.inj
 cZ a v ha:=let ⟨h1,h2⟩:=hW.cZ a v ha;⟨by unfold World.cell? at h1 ⊢; rw[h];exact h1,h2⟩
 whole a v ha o ho:=by have:=hW.whole a v ha o ho;unfold World.cell? at this ⊢; rw[h];exact this
theorem RG {es:Nat}: ∀{xs:List (List AV)} (_h: ∀(i:Nat) (cs:List AV),xs[i]? =some cs->cs.length=es) (q:Nat) (v:AV),
  xs.flatten[q]? =some v-> ∃cs,xs[q / es]? =some cs/\cs[q % es]? =some v
 |[],_,q,v,hv=>by simp at hv
 |c ::xs,h,q,v,hv=>by
  have hc:c.length=es:=h 0 c rfl
  have gZ: ∀(i:Nat) (cs:List AV),xs[i]? =some cs->cs.length=es:=fun i cs hi=>h (i+1) cs (by simpa using hi)
  rw[List.flatten_cons] at hv
  rcases Nat.lt_or_ge q c.length with hq|hq
  . rw[List.getElem?_append_left hq] at hv
    refine ⟨c,?_,?_⟩
    .   rw[Nat.div_eq_of_lt (by omega)];rfl
    .   rw[Nat.mod_eq_of_lt (by omega)];exact hv
  . rw[   List.getElem?_append_right hq] at hv
    obtain ⟨cs,h1,h2⟩:=RG gZ (q - c.length) v hv
    rw[hc] at hq h1 h2
    have N4:0<es:=by
        rcases Nat.eq_zero_or_pos es with h0|h0
        . subst h0
          have hl:=gZ _ _ h1
          have:=(List.getElem?_eq_some_iff.1 h2).1
          omega
        . exact h0
    refine ⟨cs,?_,?_⟩
    .   rw[Nat.div_eq_sub_div N4 hq];simpa using h1
    .   rw[Nat.mod_eq_sub_mod hq];exact h2
theorem RH {es:Nat}: ∀{xs:List (List AV)} (_h: ∀(i:Nat) (cs:List AV),xs[i]? =some cs->cs.length=es),xs.flatten.length=xs.length*es
 |[],_=>by simp
 |c::xs,h=>by
  have hc:c.length=es:=h 0 c rfl
  rw[List.flatten_cons,List.length_append,RH (fun i cs hi=>h (i+1) cs (by simpa using hi)),hc,List.length_cons,Nat.add_mul];omega
theorem ke (hW:bA ρ C st w) {es m:Nat} {u:AV} {x:Value} {new:List AV} {k:Nat} (hu:av ρ st.next.toNat C u x) (hk:dF u=some k) (hmk:m<=k) (h:cA es m (fun b=>st.heap.get b) u=some new) (w2:World) (eP:w2.heap=w.heap):
   ∃ys:List Value,(Builtin.firstCells es m x).run P w2= .ok ys.toArray w2/\aA ρ st.next.toNat C new ys/\(u= .ah\/new.length=m*es):=by
 have hW2:=hW.of_heap (w':=w2) eP
 unfold cA at h
 split at h
 . simp only[Option.some.injEq] at h;subst h
   rw[hu.fD]
   exact ⟨[],by simp[Builtin.firstCells],aA.nil,.inl rfl⟩
 . rename_i b off len cap es'
   simp only[dF,Option.some.injEq] at hk;subst hk
   obtain ⟨aa,aN,he,hle,_,ha⟩:=hu.dA
   rw[he]
   split at h
   . rename_i h0
     have h0:=Nat.eq_of_beq_eq_true h0
     simp only[Option.some.injEq] at h;subst h
     exact ⟨[],by simp[Builtin.firstCells,h0,loadCells,loadCellsFrom],aA.nil,.inr (by simp[h0])⟩
   . rename_i h0
     have h0:=Nat.ne_of_beq_eq_false h0
     split at h<;>first|(cases h;done)|skip
     rename_i cs fz hb
     have hm:m≠0:=by intro e;subst e;simp at h0
     obtain ⟨_,rfl,_⟩:=ha (by omega)
     obtain ⟨ys,h1,h2⟩:=hW2.loadCells (P:=P) hb h
     exact ⟨ys,by simp only[Builtin.firstCells];exact h1,h2,.inr (ve h)⟩
 . rename_i xs es'
   simp only[dF,Option.some.injEq] at hk;subst hk
   split at h<;>first|(cases h;done)|skip
   rename_i Zu he2
   have Zu:=Nat.eq_of_beq_eq_true Zu
   have he2:=Nat.le_of_ble_eq_true he2
   subst Zu
   simp only[Option.some.injEq] at h;subst h
   obtain ⟨aa,aN,cell,he,hle,tq,g1,g2,g3⟩:=hu.ua
   rw[he]
   have ei: ∀(i:Nat) (cs:List AV),(xs.take m)[i]? =some cs->cs.length=es:=fun i cs hi=>by
     rw[List.getElem?_take] at hi;split at hi
     . exact g1 i cs hi
     . cases hi
   have hfl:=RH ei
   rw[List.length_take,Nat.min_eq_left he2] at hfl
   have aia: ∀q v,(xs.take m).flatten[q]? =some v-> ∃cs,xs[q / es]? =some cs/\cs[q % es]? =some v:=fun q v hv=>by
     obtain ⟨cs,h1,h2⟩:=RG ei q v hv
     rw[List.getElem?_take] at h1;split at h1
     . exact ⟨cs,h1,h2⟩
     . cases h1
   refine ⟨(List.range (m*es)).map fun q=>cell (q / es) (q % es),?_,⟨by simp[hfl],fun q v y hv hy=> ?_⟩,.inr hfl⟩
   . simp only[Builtin.firstCells]
     refine run_loadCells w2 _ _ _ fun q hq=> ?_
     have aP:q<(xs.take m).flatten.length:=by rw[hfl];exact hq
     obtain ⟨cs,h1,h2⟩:=aia q _ (List.getElem?_eq_getElem aP)
     have tq:=tq (by intro e;rw[e] at h1;simp at h1)
     obtain ⟨ab,ao,asp⟩:=aa
     simp only at tq;subst tq
     have:=(hW2.cZ _ _ (g2 _ _ _ _ h1 h2)).1
     rw[k9]
     simp only at this
     rw[show ao+q=ao+q / es*es+q % es from by rw[Nat.add_assoc,Nat.mul_comm,Nat.div_add_mod]]
     exact this
   . obtain ⟨cs,h1,h2⟩:=aia q v hv
     have hq:q<m*es:=by rw[<-hfl];exact (List.getElem?_eq_some_iff.1 hv).1
     simp[hq] at hy
     subst hy
     exact g3 _ _ _ _ h1 h2
 . rename_i s
   simp only[dF,Option.some.injEq] at hk;subst hk
   split at h<;>first|(cases h;done)|skip
   rename_i Zu he2
   have Zu:=Nat.eq_of_beq_eq_true Zu
   have he2:=Nat.le_of_ble_eq_true he2
   subst Zu
   simp only[Option.some.injEq] at h;subst h
   obtain ⟨bs,rfl,hs⟩:=hu.dW
   refine ⟨(s.take m).map fun (c:Nat)=>Value.int .u8 (.ofNat c),?_,⟨by simp,fun q v y hv hy=> ?_⟩,.inr (by simp;omega)⟩
   . simp only[Builtin.firstCells,Sem.run_pure]
     congr 1
     apply Array.ext'
     simp only[Array.toList_map,ByteArray.data_extract,Array.toList_extract,List.extract,List.drop_zero,Nat.sub_zero]
     rw[<-hs, <-List.map_take,List.map_map];rfl
   . simp only[List.getElem?_map,Option.map_eq_some_iff] at hv hy
     obtain ⟨c,hc,rfl⟩:=hv
     obtain ⟨c',wq,rfl⟩:=hy
     rw[hc] at wq;cases wq
     exact .int _ _
 . cases h
theorem S6 {n:Nat} {u:AV} {x:Value} {k:Nat} (hu:av ρ n C u x) (hk:dF u=some k):(Builtin.lenOf x).run P w= .ok k w:=by
 unfold dF at hk
 split at hk<;>first|(cases hk;done)|skip
 all_goals simp only[Option.some.injEq] at hk;subst hk
 . rw[hu.fD];rfl
 . obtain ⟨_,_,he,_⟩:=hu.dA;rw[he];rfl
 . obtain ⟨_,_,_,he,_⟩:=hu.ua;rw[he];rfl
 . obtain ⟨bs,rfl,hs⟩:=hu.dW;rw[<-xI hs];rfl
theorem WZ (nl:Nat): ∀(r c:Nat),c<=nl+(nl+768) / 4->Builtin.growBy nl r c<=nl+(nl+768) / 4
 |0,c,h=>h
 |r+1,c,h=>by
  unfold Builtin.growBy
  split
  . exact h
  . exact WZ nl r _ (by omega)
theorem nextslicecap_le {adu c9:Nat} (h:c9<adu):Builtin.nextslicecap adu c9<=2*adu+768:=by
 unfold Builtin.nextslicecap
 split
 . omega
 . split
   . omega
   . have:=WZ adu 4 c9 (by omega)
     omega
theorem KH (hT:cr P tt) {t t2 e:Nat} {ts:Array TypeId} {ti Mp te:TI} (cY:tt.get (key t)=some ti) (N9:tt.get (key t2)=some Mp) (hk:ti.k= .slice e) (o9: ∀k,Mp.k≠ .int k)
  (ff:tt.get (key e)=some te) (h0:ts[0]? =some t) (h1:ts[1]? =some t2) (ty:TypeId) (base:Option Addr) (n cap m:Nat) (x:Value) (w:World)
  (hx:(Builtin.lenOf x).run P w= .ok m w) (hb:(2*(n+m)+768)*te.bytes<=281474976710656) (hi:n+m<=9223372036854775807):
  (Builtin.append_ ts ty #[.slice base n cap,x]).run P w=
    if n+m<=cap then ((Builtin.firstCells te.size m x).run P w).andThen fun new w=>((match base with|some a=>storeCells (a.add (n*te.size)) new.toList|none=>pure ()).run P w).andThen fun _ w=> .ok (.slice base (n+m) cap) w
    else ((Builtin.firstCells te.size n (.slice base n cap)).run P w.drew).andThen fun c9 w1=>((Builtin.firstCells te.size m x).run P w1).andThen fun new w2=>((zeroValue e).run P w2).andThen fun z w3=>
        .ok (.slice (some ⟨w3.heap.size,0,none⟩) (n+m) (grownCap w (n+m) cap e)) (w3.alloc (.cells (c9++new++Builtin.zeroCells z.cells (grownCap w (n+m) cap e - (n+m))) e)):=by
 obtain ⟨d,hd,bW⟩:=(hT.at cY).und
 rw[hk] at bW;rw[mD bW] at hd
 obtain ⟨d2,hd2,agB⟩:=(hT.at N9).und
 obtain ⟨i0,jG,j7,hib,_⟩:=(hT.at ff).info
 have akG: ∀k,d2≠ .int k:=by
  rintro k rfl
  cases GI:Mp.k<;>rw[GI] at agB<;>first|(simp[bF] at agB;done)|exact absurd GI (o9 _)
 have adv: ¬(((n+m:Nat):Int)>IntKind.i64.max):=by
  have:IntKind.i64.max=9223372036854775807:=by decide
  rw[this];omega
 have akH: ¬(n+m<=cap)-> ¬(Builtin.nextslicecap (n+m) cap*te.bytes>2 ^ 48):=fun hc=>by
  have h1:=nextslicecap_le (Nat.lt_of_not_le hc)
  have h2:=Nat.mul_le_mul_right te.bytes h1
  have:(2:Nat) ^ 48=281474976710656:=by decide
  omega
 have NZ: ∀q,(Question.appendCap (n+m) cap e).forced=q->q=false:=by rintro q rfl;rfl
 clear agB
 cases d2<;>first|(exact absurd rfl (akG _))|skip
 all_goals
  unfold Builtin.append_
  simp only[h0,h1,List.getElem?_toArray,List.getElem?_cons_zero,List.getElem?_cons_succ,Sem.run_bind,aO hd,Result.andThen_ok,gW jG,j7,aO hd2,Sem.run_pure,hx,Bool.false_eq_true,if_false,Bool.not_false,if_true,Sem.run_ite]
  by_cases hc:n+m<=cap
  . rw[if_pos hc,if_pos hc]
    cases base<;>simp only[Sem.run_bind,Sem.run_pure,Result.andThen_ok]
  . rw[if_neg hc,if_neg hc]
    simp only[Sem.run_bind,Zf jG,hib,Result.andThen_ok,adv,false_and,if_false,akH hc,run_choose,Question.forced,Bool.false_eq_true,World.drew_eq,run_askRoom,Sem.run_pure,newRow,run_newObj,World.alloc_eq]
    rfl
end
end
section
open Go Go.RowKit
section
variable {P : Program} {tt : TT} {ρ : Pos -> Loc} {C : Cells} {st : St} {w w' : World}
theorem agC {L:Loc} {cs:List AV} {n:Nat} (fz:Nat) (h:lR ρ n C L w' (.cells cs 0)):lR ρ n C L w' (.cells cs fz):=
 let ⟨c,e,fr,h1,h2,h3,h4,h5⟩:=h
 ⟨c,e,fr,h1,h2,h3,h4,fun i _ hi=>h5 i (Nat.zero_le _) hi⟩
theorem adw (hW:bA ρ C st w) (del:Option Pos) (fz:Nat) {c9 new rest:List Value} {ol nl:List AV} {e:TypeId} {n m es aN:Nat} (h1:aA ρ st.next.toNat C ol c9) (h2:aA ρ st.next.toNat C nl new)
  (vt:ol.length=n*es) (RI:nl.length=m*es) (hr:rest.length=(aN - (n+m))*es) (hc:n+m<=aN) {w2:World} (eP:w2=w.drew.alloc (.cells (c9++new++rest).toArray e)):
  ∃ρ':Pos->Loc,(∀b:Pos,b.toNat<st.next.toNat->ρ' b=ρ b)/\bA ρ' C (st.aL del none (some (.cells (ol++nl) fz))) w2/\ni ρ st w ρ' (st.aL del none (some (.cells (ol++nl) fz))) w2/\
   av ρ' (st.aL del none (some (.cells (ol++nl) fz))).next.toNat C (.slice st.next 0 (n+m) none es) (.slice (some ⟨w.heap.size,0,none⟩) (n+m) aN):=by
 subst eP
 have vr:c9.length=n*es:=by rw[<-h1.1,vt]
 have jF:new.length=m*es:=by rw[<-h2.1,RI]
 have eI:(c9++new++rest).length=aN*es:=by
  simp only[List.length_append,vr,jF,hr]
  rw[<-Nat.add_mul, <-Nat.add_mul];congr 1;omega
 obtain ⟨ρ',aS,cT,dX,hE⟩:=wo (w':=w.drew.alloc (.cells (c9++new++rest).toArray e)) (o:= .cells (c9++new++rest).toArray e) (x0:= .cells (ol++nl) fz) (base:=0) (size:=(c9++new++rest).toArray.size) hW del rfl rfl rfl rfl (fun ρ' n' aS hn=>
  agC   fz <| uf (e:=e) (fr:=(0,0)) (by show (w.heap.push _)[w.heap.size]? =_;simp) (by simp[vt,RI,vr,jF])
   (by
        have:(c9++new++rest).toArray.toList.take (ol++nl).length=c9++new:=by
         rw[List.take_left' (by simp[vt,RI,vr,jF])]
        rw[this];exact (h1.append h2).mono aS hn) (fun i _=>by simp))
 refine ⟨ρ',aS,dX,hE,yl (by simp[St.aL,Pos.ax]) cT hc (fun c hc=>by cases hc) (by simp only[List.size_toArray,eI];exact Nat.le_refl _)⟩
theorem Cv (z:Array Value) (m:Nat):(Builtin.zeroCells z m).toList.length=m*z.size:=by simp[Builtin.zeroCells]
theorem agD {m:Nat} (h:Nat.beq m 0=false):m≠0:=Nat.ne_of_beq_eq_false h
theorem KI (hT:cr P tt) {t t2 e:Nat} {ts:Array TypeId} {ti Mp te:TI} {z:List AV} (cY:tt.get (key t)=some ti) (N9:tt.get (key t2)=some Mp) (hk:ti.k= .slice e) (o9: ∀k,Mp.k≠ .int k)
   (ff:tt.get (key e)=some te) (hz:te.zero=some z) (h0:ts[0]? =some t) (h1:ts[1]? =some t2) (ty:TypeId) {s u:AV} {xs xu:Value} {res:cq} (hW:bA ρ C st w)
   (hs:av ρ st.next.toNat C s xs) (hu:av ρ st.next.toNat C u xu) (hr:fK (fun b=>st.heap.get b) st.next te.size te.bytes [s,u]=some res):
   u9 P ρ C st w (((Builtin.append_ ts ty #[xs,xu]).run P w).andThen fun v w=> .ok (.value v) w) res:=by
 simp only[fK] at hr
 split at hr<;>first|(cases hr;done)|skip
 rename_i n m hn hm
 split at hr<;>first|(cases hr;done)|skip
 rename_i b1 b2
 have b1:=Nat.le_of_ble_eq_true b1
 have b2:=Nat.le_of_ble_eq_true b2
 have hlen:=S6 (P:=P) (w:=w) hu hm
 obtain ⟨i0,jG,j7,_,AL⟩:=(hT.at ff).info
 obtain ⟨zv0,hzv0,_,TW,_⟩:=AL z hz
 have TQ:=fun w=>ue hT ff hz (ρ:=ρ) (n:=st.next.toNat) (C:=C) w
 have RF: ∃base aN,xs= .slice base n aN/\n<=aN:=by
   unfold dF at hn
   split at hn<;>first|(cases hn;done)|skip
   . cases hn;exact ⟨none,0,hs.fD,Nat.le_refl _⟩
   . cases hn;obtain ⟨a,c,he,hle,_⟩:=hs.dA;exact ⟨_,c,he,hle⟩
   . cases hn;obtain ⟨a,c,_,he,hle,_⟩:=hs.ua;exact ⟨_,c,he,hle⟩
   . rename_i s'
     exfalso
     cases hbm:Nat.beq m 0<;>simp[hbm] at hr
 obtain ⟨base,aN,gZ,hle⟩:=RF
 have bU:=KH hT cY N9 hk o9 ff h0 h1 ty base n aN m xu w hlen b1 b2
 rw[gZ,bU]
 have hg: ∀c,n+m<=grownCap w (n+m) c e:=fun c=>by unfold grownCap Question.cut;exact Nat.le_add_right _ _
 have S7: ∀(del:Option Pos) (fz:Nat) (ol nl:List AV),¬(n+m<=aN)->cA te.size n (fun b=>st.heap.get b) s=some ol->cA te.size m (fun b=>st.heap.get b) u=some nl->ol.length=n*te.size->nl.length=m*te.size->
     u9 P ρ C st w ((if n+m<=aN then ((Builtin.firstCells te.size m xu).run P w).andThen fun new w=>((match base with|some a=>storeCells (a.add (n*te.size)) new.toList|none=>pure ()).run P w).andThen fun _ w=> .ok (.slice base (n+m) aN) w
     else ((Builtin.firstCells te.size n (.slice base n aN)).run P w.drew).andThen fun c9 w1=>((Builtin.firstCells te.size m xu).run P w1).andThen fun new w2=>((zeroValue e).run P w2).andThen fun z w3=>
        .ok (.slice (some ⟨w3.heap.size,0,none⟩) (n+m) (grownCap w (n+m) aN e)) (w3.alloc (.cells (c9++new++Builtin.zeroCells z.cells (grownCap w (n+m) aN e - (n+m))) e))).andThen fun v w=> .ok (.value v) w)
        (.aL (.slice st.next 0 (n+m) none te.size) del none (some (.cells (ol++nl) fz))):=by
   intro del fz ol nl hc ho ug vt RI
   obtain ⟨c9,e1,e2,_⟩:=ke (P:=P) hW hs hn (Nat.le_refl _) ho w.drew rfl
   obtain ⟨new,e3,e4,_⟩:=ke (P:=P) hW hu hm (Nat.le_refl _) ug w.drew rfl
   obtain ⟨zv,AM,_,rS⟩:=TQ w.drew
   rw[gZ] at e1
   have GH:(Builtin.zeroCells zv.cells (grownCap w (n+m) aN e - (n+m))).toList.length=(grownCap w (n+m) aN e - (n+m))*te.size:=by
     rw[Cv];congr 1;have:=rS.1;simp at this;omega
   obtain ⟨ρ',aS,dX,hE,hv⟩:=adw hW del fz e2 e4 vt RI GH (hg aN) (e:=e) rfl
   refine ⟨_,_,_,ρ',?_,Yields.value _,aS,dX,hv,hE⟩
   rw[if_neg hc]
   simp only[e1,e3,AM,Result.andThen_ok,World.size_drew]
   congr 2
   simp
 have hlu: ∀nl,cA te.size m (fun b=>st.heap.get b) u=some nl->m≠0->nl.length=m*te.size:=by
   intro nl ug hm0
   obtain ⟨_,_,_,h⟩:=ke (P:=P) hW hu hm (Nat.le_refl _) ug w rfl
   rcases h with rfl|h
   . simp[dF] at hm;omega
   . exact h
 have hls: ∀ol,cA te.size n (fun b=>st.heap.get b) s=some ol->ol.length=n*te.size:=by
   intro ol wu
   obtain ⟨ys,_,tY,h⟩:=ke (P:=P) hW hs hn (Nat.le_refl _) wu w rfl
   rcases h with rfl|h
   . simp[dF] at hn;subst hn
     simp[cA] at wu;subst wu;simp
   . exact h
 have hzero:m=0->av ρ st.next.toNat C s xs->u9 P ρ C st w ((if n+m<=aN then ((Builtin.firstCells te.size m xu).run P w).andThen fun new w=>((match base with|some a=>storeCells (a.add (n*te.size)) new.toList|none=>pure ()).run P w).andThen fun _ w=> .ok (.slice base (n+m) aN) w
     else ((Builtin.firstCells te.size n (.slice base n aN)).run P w.drew).andThen fun c9 w1=>((Builtin.firstCells te.size m xu).run P w1).andThen fun new w2=>((zeroValue e).run P w2).andThen fun z w3=>
        .ok (.slice (some ⟨w3.heap.size,0,none⟩) (n+m) (grownCap w (n+m) aN e)) (w3.alloc (.cells (c9++new++Builtin.zeroCells z.cells (grownCap w (n+m) aN e - (n+m))) e))).andThen fun v w=> .ok (.value v) w) (.val s):=by
   rintro rfl hsx
   have hf:(Builtin.firstCells te.size 0 xu).run P w= .ok #[] w:=by
     unfold dF at hm
     split at hm<;>first|(cases hm;done)|skip
     .  rw[hu.fD];simp[Builtin.firstCells]
     .  obtain ⟨_,_,he,_⟩:=hu.dA;rw[he];simp[Builtin.firstCells,loadCells,loadCellsFrom]
     .  obtain ⟨_,_,_,he,_⟩:=hu.ua;rw[he];simp[Builtin.firstCells,loadCells,loadCellsFrom]
     .  obtain ⟨bs,rfl,_⟩:=hu.dW
        simp only[Builtin.firstCells,Sem.run_pure]
        congr 1
        apply Array.ext'
        simp
   rw[gZ] at hsx
   refine .pure (x:= .slice base n aN) ?_ hsx
   rw[if_pos (by omega),hf]
   cases base<;>simp[storeCells]
 split at hr<;>first|(cases hr;done)|skip
 . rename_i zg;simp only[Option.some.injEq] at hr;subst hr;exact hzero (Nat.eq_of_beq_eq_true zg) hs
 . rename_i zg;simp only[Option.some.injEq] at hr;subst hr;exact hzero (Nat.eq_of_beq_eq_true zg) hs
 . rename_i zg;simp only[Option.some.injEq] at hr;subst hr;exact hzero (Nat.eq_of_beq_eq_true zg) hs
 ·
   rename_i zg
   have zg:=agD zg
   split at hr<;>first|(cases hr;done)|skip
   rename_i new ug
   simp only[Option.some.injEq] at hr;subst hr
   have he:=hs.fD
   rw[he] at gZ
   simp only[Value.slice.injEq] at gZ
   obtain ⟨rfl,rfl,rfl⟩:=gZ
   have:=S7 none 0 [] new (by omega) rfl ug (by simp) (hlu new ug zg)
   simpa using this
 ·
   rename_i b off n' c es' zg
   have zg:=agD zg
   simp only[dF,Option.some.injEq] at hn;subst hn
   obtain ⟨aa,cc,he,hlec,Zv,ha⟩:=hs.dA
   rw[he] at gZ
   simp only[Value.slice.injEq] at gZ
   obtain ⟨rfl,_,rfl⟩:=gZ
   have:=Zv c rfl;subst this
   split at hr
   . rename_i qx
     have qx:=Nat.le_of_ble_eq_true qx
     split at hr<;>first|(cases hr;done)|skip
     rename_i cs fz new hb ug
     split at hr<;>first|(cases hr;done)|skip
     rename_i c1 c2 c3
     have c1:=Nat.le_of_ble_eq_true c1
     simp only[Bool.and_eq_true] at c2
     have c2a:=Nat.le_of_ble_eq_true c2.1
     have c2b:=Nat.eq_of_beq_eq_true c2.2
     subst c2b
     simp only[Option.some.injEq] at hr;subst hr
     obtain ⟨aP,rfl,hbound⟩:=ha (by omega)
     obtain ⟨ys,e1,e2,_⟩:=ke (P:=P) hW hu hm (Nat.le_refl _) ug w rfl
     have KJ:=hlu new ug zg
     obtain ⟨w2,e3,dX,hE⟩:=KG (P:=P) hW hb (by rw[KJ];rw[Nat.add_mul] at c1;omega) c2a c3 e2
     refine ⟨_,.slice (some ⟨(ρ b).aE,(ρ b).base+off,none⟩) (n'+m) c,w2,ρ,?_,Yields.value _,fun _ _=>rfl,dX,?_,hE⟩
     .  rw[if_pos qx,e1]
        simp only[Result.andThen_ok,k9]
        rw[Nat.add_assoc,e3];rfl
     .  exact .slice _ _ _ _ _ _ _ qx (fun c hc=>by cases hc;rfl) (fun _=>⟨aP,rfl,hbound⟩) (fun h=>by cases h)
   . rename_i qx
     have qx: ¬(n'+m<=c):=fun h=>by rw[Nat.ble_eq_true_of_le h] at qx;cases qx
     split at hr<;>first|(cases hr;done)|skip
     rename_i c9 new wu ug
     simp only[Option.some.injEq] at hr;subst hr
     exact S7 none 0 c9 new qx wu ug (hls c9 wu) (hlu new ug zg)
 ·
   rename_i b off n' es' zg
   have zg:=agD zg
   simp only[dF,Option.some.injEq] at hn;subst hn
   split at hr<;>first|(cases hr;done)|skip
   rename_i cs fz c9 new hb wu ug
   split at hr<;>first|(cases hr;done)|skip
   rename_i c2 c3
   simp only[Bool.and_eq_true] at c2
   have c2a:=Nat.le_of_ble_eq_true c2.1
   have c2b:=Nat.eq_of_beq_eq_true c2.2
   subst c2b
   simp only[Option.some.injEq] at hr;subst hr
   by_cases qx:n'+m<=aN
   ·
     obtain ⟨aa,cc,he,hlec,Zv,ha⟩:=hs.dA
     rw[he] at gZ
     simp only[Value.slice.injEq] at gZ
     obtain ⟨rfl,_,rfl⟩:=gZ
     obtain ⟨aP,rfl,hbound⟩:=ha (by omega)
     obtain ⟨ys,e1,e2,_⟩:=ke (P:=P) hW hu hm (Nat.le_refl _) ug w rfl
     have KJ:=hlu new ug zg
     have aib:=hls c9 wu
     obtain ⟨tQ,kz,c,ce,fr,g1,g2,g3,g4,g5⟩:=hW.live b _ hb
     have hmul:(n'+m)*te.size<=cc*te.size:=Nat.mul_le_mul_right _ qx
     have hmul2:(n'+m)*te.size=n'*te.size+m*te.size:=Nat.add_mul _ _ _
     have hyl:ys.length=m*te.size:=by rw[<-e2.1,KJ]
     have hold:aA ρ st.next.toNat C c9 ((c.toList.drop ((ρ b).base+off)).take (n'*te.size)):=by
        simp only[cA] at wu
        split at wu
        . rename_i hz0
          have hz0:=Nat.eq_of_beq_eq_true hz0
          simp only[Option.some.injEq] at wu;subst wu
          rw[hz0];simpa using (aA.nil:aA ρ st.next.toNat C [] [])
        . rw[hb] at wu
          simp only at wu
          obtain ⟨ho1,ho2⟩:=EG wu
          have h:=(g4.drop off).take (n'*te.size)
          rw[<-ho1] at h
          have:List.take (n'*te.size) (List.drop off (List.take cs.length (List.drop (ρ b).base c.toList)))=(c.toList.drop ((ρ b).base+off)).take (n'*te.size):=by
            rw[List.drop_take,List.take_take,List.drop_drop,Nat.min_eq_left (by omega)]
          rw[this] at h
          exact h
     obtain ⟨w2,s1,s2,s3,s4,s5,s6,s7⟩:=jQ (P:=P) (ρ b).aE ce fr ys 0 ((ρ b).base+off+n'*te.size) c w g1 (by omega) (zf c3 e2) (fun k hk kM=>by
        have:=g5 (k - (ρ b).base) (by omega) (by omega)
        rwa [show (ρ b).base+(k - (ρ b).base)=k from by omega] at this)
     simp only[Nat.add_zero] at s1 s2
     let ρ':Pos->Loc:=fun q=>if q=st.next then ⟨(ρ b).aE,(ρ b).base+off,(ρ b).size⟩ else ρ q
     have aS: ∀q:Pos,q.toNat<st.next.toNat->ρ' q=ρ q:=fun q hq=>if_neg (fun e=>by rw[e] at hq;omega)
     have cT:ρ' st.next=⟨(ρ b).aE,(ρ b).base+off,(ρ b).size⟩:=if_pos rfl
     have hcl:c.toList.length=c.size:=by simp
     have hWn:bA ρ' C (st.aL (some b) none (some (.cells (c9++new) (fz - off)))) w2:=by
        refine hW.Zh (b0:=st.next) (x0:= .cells (c9++new) (fz - off)) (by rw[Pos.ax];omega) (by rw[Pos.ax];omega) (by rw[T.fq]) ?_ aS ?_ ?_ (by rw[cT,s3];exact kz) (by omega) (fun k hk kM=>s4 k (by rw[cT] at kM;exact kM))
        . intro q x hq hx
          rw[T.bK _ (fun e=>hq e.symm)] at hx
          obtain ⟨h1,h2⟩:=xJ (some b) _ hx
          refine ⟨h1,?_⟩
          rw[cT]
          exact fun e=>h2 b rfl (hW.inj _ _ _ _ h1 hb e)
        . rw[cT]
          refine ⟨_,ce,fr,s2,by simp[aG];omega,by simp[aG,aib,KJ];omega,?_,fun i jG hi=> ?_⟩
          . simp only
            rw[Ic _ _ _ _ (by omega)]
            have Zo:(aG (c.toList.drop ((ρ b).base+off)) (n'*te.size) ys).take (c9++new).length=(c.toList.drop ((ρ b).base+off)).take (n'*te.size)++ys:=by
             unfold aG
             rw[<-List.append_assoc,List.take_left']
             simp[aib,KJ,hyl];omega
            rw[Zo]
            exact (hold.append e2).mono aS (by rw[Pos.ax];omega)
          . have Zs:(ρ b).base+off+i<c.size:=by
             simp only[List.size_toArray] at hi
             have:(aG c.toList ((ρ b).base+off+n'*te.size) ys).length=c.size:=by simp[aG];omega
             omega
            have:=g5 (off+i) (by omega) (by omega)
            simp only
            rwa [<-Nat.add_assoc] at this
        . intro ad v hv
          rw[cT]
          exact fun e=>(hW.cZ ad v hv).2 b _ hb e.symm
     refine ⟨_,(.slice (some ⟨(ρ b).aE,(ρ b).base+off,none⟩) (n'+m) cc),w2,ρ',?_,Yields.value _,aS,hWn,?_,⟨s5,s6,s7,by omega,fun k _ hk=>s4 k (fun e=>hk b _ hb e.symm),fun q x hx=> ?_⟩⟩
     rotate_left
     rotate_left
     .  left
        by_cases hq:q=st.next
        . exact ⟨b,_,hb,by rw[hq,cT]⟩
        . simp only[St.aL,EA] at hx
          rw[T.bK _ (fun e=>hq e.symm)] at hx
          obtain ⟨h1,_⟩:=xJ (some b) _ hx
          exact ⟨q,x,h1,by rw[aS q (hW.live q x h1).1]⟩
     .  rw[if_pos qx,e1]
        simp only[Result.andThen_ok,k9]
        rw[s1];rfl
     .  refine .slice _ _ _ _ _ _ _ qx (fun c hc=>by cases hc) (fun _=>⟨by simp[St.aL,Pos.ax],by rw[cT];rfl,?_⟩) (fun _=>by simp[St.aL,Pos.ax])
        rw[cT];simp only;omega
   . exact S7 (some b) _ c9 new qx wu ug (hls c9 wu) (hlu new ug zg)
end
end
section
open Go Go.RowKit
section
variable {P : Program} {tt : TT} {ρ : Pos -> Loc} {C : Cells} {st : St} {w w' : World}
theorem alv {u:List Nat} {ρ':Pos->Loc} {n':Nat}:aA ρ' n' C (u.map fun c=>AV.int .u8 (.ofNat c)) (u.map fun c=>Value.int .u8 (.ofNat c)):=
 ⟨by simp,fun i v x hv hx=>by
  simp only[List.getElem?_map,Option.map_eq_some_iff] at hv hx
  obtain ⟨c,hc,rfl⟩:=hv
  obtain ⟨c',wq,rfl⟩:=hx
  rw[hc] at wq;cases wq
  exact .int _ _⟩
theorem W4: ∀l:List Nat,aK (l.map fun c=>AV.int .u8 (.ofNat c))=true
 |[]=>rfl
 |a::l=>by simpa [aK,AV.one] using W4 l
theorem RJ (hW:bA ρ C st w) (del:Option Pos) {c9 new rest:List Value} {ol nl:List AV} {e:TypeId} {n m aN:Nat} (h1:aA ρ st.next.toNat C ol c9) (h2:aA ρ st.next.toNat C nl new)
  (vt:ol.length=n) (RI:nl.length=m) (hr:rest.length=aN - (n+m)) (hc:n+m<=aN) {w2:World} (eP:w2=w.drew.alloc (.cells (c9++new++rest).toArray e)):
  ∃ρ':Pos->Loc,(∀b:Pos,b.toNat<st.next.toNat->ρ' b=ρ b)/\bA ρ' C (st.aL del none (some (.typed e (ol++nl)))) w2/\ni ρ st w ρ' (st.aL del none (some (.typed e (ol++nl)))) w2/\
   av ρ' (st.aL del none (some (.typed e (ol++nl)))).next.toNat C (.slice st.next 0 (n+m) none 1) (.slice (some ⟨w.heap.size,0,none⟩) (n+m) aN):=by
 subst eP
 have vr:c9.length=n:=by rw[<-h1.1,vt]
 have jF:new.length=m:=by rw[<-h2.1,RI]
 have eI:(c9++new++rest).length=aN:=by
  simp only[List.length_append,vr,jF,hr];omega
 obtain ⟨ ρ',aS,cT,dX,hE⟩:=wo (w':=w.drew.alloc (.cells (c9++new++rest).toArray e)) (o:= .cells (c9++new++rest).toArray e) (x0:= .typed e (ol++nl)) (base:=0) (size:=(c9++new++rest).toArray.size) hW del rfl rfl rfl rfl (fun ρ' n' aS hn=>
  ⟨_,   (0,0),by show (w.heap.push _)[w.heap.size]? =_;simp,rfl,by simp[vt,RI,vr,jF],by
        have:(c9++new++rest).toArray.toList.take (ol++nl).length=c9++new:=by
          rw[List.take_left' (by simp[vt,RI,vr,jF])]
        rw[List.drop_zero,this];exact (h1.append h2).mono aS hn,fun i _=>by simp,rfl⟩)
 refine ⟨ρ',aS,dX,hE,yl (by simp[St.aL,Pos.ax]) cT hc (fun c hc=>by cases hc) (by simp only[List.size_toArray,eI,Nat.mul_one];exact Nat.le_refl _)⟩
theorem abL (hT:cr P tt) {t t2 e:Nat} {ts:Array TypeId} {ti Mp te:TI} {z:List AV} (cY:tt.get (key t)=some ti) (N9:tt.get (key t2)=some Mp) (hk:ti.k= .slice e) (o9: ∀k,Mp.k≠ .int k)
  (ff:tt.get (key e)=some te) (hz:te.zero=some z) (h8:te.size=1) (h0:ts[0]? =some t) (h1:ts[1]? =some t2) (ty:TypeId) {s u:AV} {xs xu:Value} {res:cq} (hW:bA ρ C st w)
  (hs:av ρ st.next.toNat C s xs) (hu:av ρ st.next.toNat C u xu) (hr:u7 (fun b=>st.heap.get b) st.next e te.bytes [s,u]=some res):
  u9 P ρ C st w (((Builtin.append_ ts ty #[xs,xu]).run P w).andThen fun v w=> .ok (.value v) w) res:=by
 have TQ:=fun w=>ue hT ff hz (ρ:=ρ) (n:=st.next.toNat) (C:=C) w
 simp only[u7] at hr
 split at hr<;>first|(cases hr;done)|skip
 rename_i us
 obtain ⟨bs,rfl,kz⟩:=hu.dW
 have hm:dF (AV.str us)=some us.length:=rfl
 have hlen:=S6 (P:=P) (w:=w) hu hm
 have aeT: ∀{n:Nat} {s:AV},dF s=some n->Nat.ble ((2*(n+us.length)+768)*te.bytes) 281474976710656=true->Nat.ble (n+us.length) 9223372036854775807=true->us.length=0->(s= .ah\/ ∃b,s= .slice b 0 n none 1)->
    fK (fun b=>st.heap.get b) st.next te.size te.bytes [s,.str us]=some (.val s):=by
  intro n s h1 h2 h3 h4 h5
  rw[h4] at h2 h3
  rcases h5 with rfl|⟨b,rfl⟩
  . simp only[fK,h1,hm,h2,h3,h4];try rfl
  . simp only[fK,h1,hm,h2,h3,h4];try rfl
 have ug:cA te.size us.length (fun b=>st.heap.get b) (.str us)=some (us.map fun c=>AV.int .u8 (.ofNat c)):=by
  have e1:Nat.beq te.size 1=true:=by rw[h8];rfl
  have e2:Nat.ble us.length us.length=true:=Nat.ble_self_eq_true _
  simp only[cA,e1,e2,List.take_length]
 split at hr<;>first|(cases hr;done)|skip
 ·
  split at hr<;>first|(cases hr;done)|skip
  rename_i b1 b2
  split at hr
  . rename_i hb
    simp only[Option.some.injEq] at hr;subst hr
    exact KI hT cY N9 hk o9 ff hz h0 h1 ty hW hs hu (aeT rfl b1 b2 (Nat.eq_of_beq_eq_true hb) (.inl rfl))
  . rename_i hb
    have hb:=Nat.ne_of_beq_eq_false hb
    simp only[Option.some.injEq] at hr;subst hr
    have gZ:=hs.fD
    subst gZ
    have bU:=KH hT cY N9 hk o9 ff h0 h1 ty none 0 0 us.length (.string bs) w hlen (Nat.le_of_ble_eq_true b1) (Nat.le_of_ble_eq_true b2)
    rw[bU,if_neg (by omega)]
    have hg:0+us.length<=grownCap w (0+us.length) 0 e:=by unfold grownCap Question.cut;exact Nat.le_add_right _ _
    obtain ⟨new,e3,e4,_⟩:=ke (P:=P) hW hu hm (Nat.le_refl _) ug w.drew rfl
    obtain ⟨zv,AM,_,rS⟩:=TQ w.drew
    have WX:zv.cells.size=1:=by have:=rS.1;have h2:=(hT.at ff).info;obtain ⟨i0,jG,j7,_,AL⟩:=h2;obtain ⟨v0,GN,_,NO,_⟩:=AL z hz;simp at this;omega
    have GH:(Builtin.zeroCells zv.cells (grownCap w (0+us.length) 0 e - (0+us.length))).toList.length=grownCap w (0+us.length) 0 e - (0+us.length):=by
        rw[Cv,WX,Nat.mul_one]
    obtain ⟨ρ',aS,dX,hE,hv⟩:=RJ hW none (aA.nil (ρ:=ρ)) e4 (by simp) (by simp) GH hg (e:=e) rfl
    refine ⟨_,_,_,ρ',?_,Yields.value _,aS,dX,hv,hE⟩
    have e0:(Builtin.firstCells te.size 0 (.slice none 0 0)).run P w.drew= .ok #[] w.drew:=by simp[Builtin.firstCells]
    simp only[e0,e3,AM,Result.andThen_ok,World.size_drew]
    congr 2
    simp
 ·
  rename_i b n
  split at hr<;>first|(cases hr;done)|skip
  rename_i b1 b2
  split at hr
  . rename_i hb
    simp only[Option.some.injEq] at hr;subst hr
    exact KI hT cY N9 hk o9 ff hz h0 h1 ty hW hs hu (aeT rfl b1 b2 (Nat.eq_of_beq_eq_true hb) (.inr ⟨_,rfl⟩))
  . rename_i hbm
    have hbm:=Nat.ne_of_beq_eq_false hbm
    split at hr<;>first|(cases hr;done)|skip
    rename_i e' cs hb
    split at hr<;>first|(cases hr;done)|skip
    rename_i c9 mB wu
    have mB:=Nat.eq_of_beq_eq_true mB
    subst mB
    simp only[Option.some.injEq] at hr;subst hr
    obtain ⟨aa,aN,gZ,hle,Zv,ha⟩:=hs.dA
    subst gZ
    have bU:=KH hT cY N9 hk o9 ff h0 h1 ty (some aa) n aN us.length (.string bs) w hlen (Nat.le_of_ble_eq_true b1) (Nat.le_of_ble_eq_true b2)
    rw[bU]
    obtain ⟨ho1,ho2⟩:=EG wu
    have adx:=ve wu
    obtain ⟨tQ,hbs2,c,fr,g1,g2,g3,g4,g5,g6⟩:=hW.live b _ hb
    by_cases qx:n+us.length<=aN
    ·
        obtain ⟨aP,rfl,hbound⟩:=ha (by omega)
        rw[Nat.mul_one,g6,Nat.add_zero,Nat.zero_add] at hbound
        rw[g6] at g3 g4 g5
        simp only[Nat.zero_add,List.drop_zero] at g3 g4 g5
        obtain ⟨ys,e1,e2,_⟩:=ke (P:=P) hW hu hm (Nat.le_refl _) ug w rfl
        have hyl:ys.length=us.length:=by rw[<-e2.1];simp
        have hold:aA ρ st.next.toNat C c9 (c.toList.take n):=by
          have h:=(g4.drop 0).take n
          rw[<-ho1,List.drop_zero,List.take_take,Nat.min_eq_left (by omega)] at h
          exact h
        obtain ⟨w2,s1,s2,s3,s4,s5,s6,s7⟩:=jQ (P:=P) (ρ b).aE e fr ys 0 n c w g1 (by omega) (zf (W4 us) e2) (fun k hk kM=>g5 k (Nat.zero_le _) kM)
        simp only[Nat.add_zero] at s1 s2
        let ρ':Pos->Loc:=fun q=>if q=st.next then ⟨(ρ b).aE,0,(ρ b).size⟩ else ρ q
        have aS: ∀q:Pos,q.toNat<st.next.toNat->ρ' q=ρ q:=fun q hq=>if_neg (fun e=>by rw[e] at hq;omega)
        have cT:ρ' st.next=⟨(ρ b).aE,0,(ρ b).size⟩:=if_pos rfl
        have hcl:c.toList.length=c.size:=by simp
        have hWn:bA ρ' C (st.aL (some b) none (some (.typed e (c9++us.map fun c=>AV.int .u8 (.ofNat c))))) w2:=by
          refine hW.Zh (b0:=st.next) (x0:= .typed e (c9++us.map fun c=>AV.int .u8 (.ofNat c))) (by rw[Pos.ax];omega) (by rw[Pos.ax];omega) (by rw[T.fq]) ?_ aS ?_ ?_ (by rw[cT,s3];exact hbs2) (by omega) (fun k hk kM=>s4 k (by rw[cT] at kM;exact kM))
          . intro q x hq hx
            rw[T.bK _ (fun e=>hq e.symm)] at hx
            obtain ⟨h1,h2⟩:=xJ (some b) _ hx
            refine ⟨h1,?_⟩
            rw[cT]
            exact fun e=>h2 b rfl (hW.inj _ _ _ _ h1 hb e)
          . rw[cT]
            refine ⟨_,fr,s2,by simp[aG];omega,by simp[aG,adx];omega,?_,fun i jG hi=> ?_,rfl⟩
            . simp only[List.drop_zero]
              have Zo:(aG c.toList n ys).take (c9++us.map fun c=>AV.int .u8 (.ofNat c)).length=c.toList.take n++ys:=by
               unfold aG
               rw[<-List.append_assoc,List.take_left']
               simp[adx,hyl];omega
              rw[Zo]
              exact (hold.append e2).mono aS (by rw[Pos.ax];omega)
            . have Zs:i<c.size:=by
               simp only[List.size_toArray,Nat.zero_add] at hi
               have:(aG c.toList n ys).length=c.size:=by simp[aG];omega
               omega
              simpa using g5 i (Nat.zero_le _) Zs
          . intro ad v hv
            rw[cT]
            exact fun e=>(hW.cZ ad v hv).2 b _ hb e.symm
        refine ⟨_,(.slice (some ⟨(ρ b).aE,(ρ b).base+0,none⟩) (n+us.length) aN),w2,ρ',?_,Yields.value _,aS,hWn,?_,⟨s5,s6,s7,by omega,fun k _ hk=>s4 k (fun e=>hk b _ hb e.symm),fun q x hx=> ?_⟩⟩
        rotate_left
        rotate_left
        . left
          by_cases hq:q=st.next
          . exact ⟨b,_,hb,by rw[hq,cT]⟩
          . simp only[St.aL,EA] at hx
            rw[T.bK _ (fun e=>hq e.symm)] at hx
            obtain ⟨h1,_⟩:=xJ (some b) _ hx
            exact ⟨q,x,h1,by rw[aS q (hW.live q x h1).1]⟩
        . rw[if_pos qx,e1]
          simp only[Result.andThen_ok,k9,h8,Nat.mul_one,g6,Nat.zero_add]
          rw[s1];rfl
        . refine .slice _ _ _ _ _ _ _ qx (fun c hc=>by cases hc) (fun _=>⟨by simp[St.aL,Pos.ax],by rw[cT,g6],?_⟩) (fun _=>by simp[St.aL,Pos.ax])
          rw[cT];simp only;omega
    .   rw[ if_neg qx]
        have hg:n+us.length<=grownCap w (n+us.length) aN e:=by unfold grownCap Question.cut;exact Nat.le_add_right _ _
        obtain ⟨new,e3,e4,_⟩:=ke (P:=P) hW hu hm (Nat.le_refl _) ug w.drew rfl
        obtain ⟨zv,AM,_,rS⟩:=TQ w.drew
        have WX:zv.cells.size=1:=by have:=rS.1;have h2:=(hT.at ff).info;obtain ⟨i0,jG,j7,_,AL⟩:=h2;obtain ⟨v0,GN,_,NO,_⟩:=AL z hz;simp at this;omega
        have GH:(Builtin.zeroCells zv.cells (grownCap w (n+us.length) aN e - (n+us.length))).toList.length=grownCap w (n+us.length) aN e - (n+us.length):=by
          rw[Cv,WX,Nat.mul_one]
        have hold: ∃os:List Value,(Builtin.firstCells te.size n (.slice (some aa) n aN)).run P w.drew= .ok os.toArray w.drew/\aA ρ st.next.toNat C c9 os:=by
          by_cases EL:n=0
          . subst EL
            have:c9=[]:=List.eq_nil_of_length_eq_zero adx
            subst this
            exact ⟨[],by simp[Builtin.firstCells,loadCells,loadCellsFrom],aA.nil⟩
          . obtain ⟨aP,rfl,hbound⟩:=ha (by omega)
            obtain ⟨ys,tY,qu⟩:=(show bA ρ C st w.drew from ⟨fun b x hb=>hW.live b x hb,hW.inj,hW.cZ,hW.whole⟩).TN (P:=P) hb wu
            exact ⟨ys,by simpa [Builtin.firstCells,h8] using tY,qu⟩
        obtain ⟨os,e5,e6⟩:=hold
        obtain ⟨ρ',aS,dX,hE,hv⟩:=RJ hW (some b) e6 e4 adx (by simp) GH hg (e:=e) rfl
        refine ⟨_,_,_,ρ',?_,Yields.value _,aS,dX,hv,hE⟩
        simp only[e5,e3,AM,Result.andThen_ok,World.size_drew]
        congr 2
        simp
theorem Ya {ts:Array TypeId} (ty:TypeId) {s:AV} {xs:Value} {res:cq} (hs:av ρ st.next.toNat C s xs) (hW:bA ρ C st w) (hr:tW (fun b=>st.heap.get b) st.next [s]=some res):
   u9 P ρ C st w (((Builtin.unsafeSliceData_ ts ty #[xs]).run P w).andThen fun v w=> .ok (.value v) w) res:=by
 simp only[tW] at hr
 split at hr<;>first|(cases hr;done)|skip
 . simp only[Option.some.injEq] at hr;subst hr
   have:=hs.fD;subst this
   exact .pure (x:= .pointer none) rfl .dP
 . rename_i b off n cap es
   split at hr<;>first|(cases hr;done)|skip
   rename_i h0
   have h0:=Nat.ne_of_beq_eq_false h0
   simp only[Option.some.injEq] at hr;subst hr
   obtain ⟨aa,aN,gZ,hle,_,ha⟩:=hs.dA
   subst gZ
   have hc:aN≠0:=by omega
   obtain ⟨h1,h2,_⟩:=ha hc
   refine .pure (x:= .pointer (some aa)) (by rw[Lib.run_unsafeSliceData_row w ts ty aa n aN hc];rfl) ?_
   rw[h2]
   exact .ptr b off h1
theorem ajQ (hW:bA ρ C st w) {b:Pos} {x:AB} (hb:st.heap.get b=some x) (h1:w'.os=w.os) (h2:w'.tape=w.tape) (h3:w'.output=w.output) (eI:w'.heap.size=w.heap.size)
   (A9: ∀k,k≠(ρ b).aE->w'.heap[k]? =w.heap[k]?):
   bA ρ C (st.aL (some b) none none) w'/\ni ρ st w ρ (st.aL (some b) none none) w':=by
 have oI: ∀c y,(st.aL (some b) none none).heap.get c=some y->st.heap.get c=some y/\c≠b:=fun c y hc=>by
   obtain ⟨g1,g2⟩:=xJ (some b) _ (show (Cu (some b) st.heap).get c=some y from hc)
   exact ⟨g1,fun e=>g2 b rfl e⟩
 refine ⟨⟨fun c y hc=> ?_,fun c c' y y' hc wq e=>hW.inj c c' y y' (oI c y hc).1 (oI c' y' wq).1 e,fun a v ha=> ?_,fun a v ha o ho=> ?_⟩,⟨h1,h2,h3,by omega,fun k _ hk=>A9 k (fun e=>hk b x hb e.symm),fun c y hc=> .inl ⟨c,y,(oI c y hc).1,rfl⟩⟩⟩
 . obtain ⟨g1,g2⟩:=oI c y hc
   obtain ⟨k1,k2,k3⟩:=hW.live c y g1
   exact ⟨k1,by omega,k3.of_heap (A9 _ fun e=>g2 (hW.inj _ _ _ _ g1 hb e))⟩
 . obtain ⟨g1,g2⟩:=hW.cZ a v ha
   refine ⟨?_,fun c y hc=>g2 c y (oI c y hc).1⟩
   have:=A9 a.block (fun e=>g2 b x hb e.symm)
   rw[<-g1]
   simp only[World.cell?,this]
 . have:=A9 a.block (fun e=>(hW.cZ a v ha).2 b x hb e.symm)
   rw[<-hW.whole a v ha o ho]
   simp only[World.cell?,this]
theorem Yb (hT:cr P tt) {t t2 e:Nat} {ts:Array TypeId} {ti te:TI} (cY:tt.get (key t)=some ti) (hk:ti.k= .ptr e) (ff:tt.get (key e)=some te) (h8:te.size=1) (qy:ts.toList=[t,t2])
   (ty:TypeId) {s u:AV} {xs xu:Value} {res:cq} (hW:bA ρ C st w)
   (hs:av ρ st.next.toNat C s xs) (hu:av ρ st.next.toNat C u xu) (hr:pH (fun b=>st.heap.get b) st.next e [s,u]=some res):
   u9 P ρ C st w (((Builtin.unsafeString_ ts ty #[xs,xu]).run P w).andThen fun v w=> .ok (.value v) w) res:=by
 obtain rfl:ts= #[t,t2]:=by apply Array.ext';rw[qy]
 simp only[pH] at hr
 split at hr<;>first|(cases hr;done)|skip
 rename_i n
 have:=hu.iP;subst this
 split at hr
 . rename_i h0
   have:=Nat.eq_of_beq_eq_true h0;subst this
   split at hr<;>first|(cases hr;done)|skip
   . simp only[Option.some.injEq] at hr;subst hr
     have:=hs.qH;subst this
     exact .pure (x:= .string .empty) (by rw[show (Int.ofNat 0)=(0:Int) from rfl,Lib.run_unsafeString_none];rfl) (.str _ _ rfl)
   . simp only[Option.some.injEq] at hr;subst hr
     obtain ⟨_,he⟩:=hs.fu
     subst he
     exact .pure (x:= .string .empty) (by rw[show (Int.ofNat 0)=(0:Int) from rfl,Lib.run_unsafeString_none];rfl) (.str _ _ rfl)
 . rename_i h0
   have h0:=Nat.ne_of_beq_eq_false h0
   split at hr<;>first|(cases hr;done)|skip
   rename_i b
   split at hr<;>first|(cases hr;done)|skip
   rename_i e' cs hb
   split at hr<;>first|(cases hr;done)|skip
   rename_i l he hcut adv
   have he:=Nat.eq_of_beq_eq_true he
   have adv:=Nat.le_of_ble_eq_true adv
   subst he
   split at hr<;>first|(cases hr;done)|skip
   rename_i s' Zn
   simp only[Option.some.injEq] at hr;subst hr
   obtain ⟨_,gZ⟩:=hs.fu
   subst gZ
   obtain ⟨d,hd,bW⟩:=(hT.at cY).und
   rw[hk] at bW;rw[TM bW] at hd
   obtain ⟨i0,jG,j7,_⟩:=(hT.at ff).info
   have xo:P.cellsOf e=1:=by simp[Program.cellsOf,jG,j7,h8]
   obtain ⟨tQ,hbs2,c,fr,g1,g2,g3,g4,g5,g6⟩:=hW.live b _ hb
   rw[g6] at g3 g4 ⊢
   simp only[Nat.zero_add,List.drop_zero] at g3 g4
   have Rz:w.shape? (ρ b).aE=some (e,c.size):=by simp[World.shape?,g1]
   obtain ⟨vr,jF⟩:=EG hcut
   have RI:=ve hcut
   have qu:aA ρ st.next.toNat C l (c.toList.take n):=by
     have h:=(g4.drop 0).take n
     rw[<-vr,List.drop_zero,List.take_take,Nat.min_eq_left (by omega)] at h
     exact h
   obtain ⟨e1,e2⟩:=Ia Zn qu
   have RF:s'.length=n:=by
     have:=congrArg List.length e1
     simp at this;omega
   have bU:=Lib.run_unsafeString_row (P:=P) w t t2 ty e hd xo (ρ b).aE c.size Rz (s'.map UInt8.ofNat) (by intro h;simp at h;rw[h] at RF;simp at RF;omega) (by simp;omega) (by simp;omega) (fun j x hj=>by
     simp only[List.getElem?_map,Option.map_eq_some_iff] at hj
     obtain ⟨k,hk,rfl⟩:=hj
     have hjn:j<n:=by rw[<-RF];exact (List.getElem?_eq_some_iff.1 hk).1
     have h2:(c.toList.take n)[j]? =some (.int .u8 (k:Int)):=by rw[e1];simp[hk]
     rw[List.getElem?_take,if_pos hjn] at h2
     have hk256:=e2 k (List.mem_of_getElem? hk)
     rw[k9]
     simp only[World.cell?,g1,Nat.zero_add]
     rw[<-Array.getElem?_toList,h2]
     congr 2
     simp
     omega)
   have hlen:(s'.map UInt8.ofNat).length=n:=by simp[RF]
   rw[hlen] at bU
   obtain ⟨q1,q2⟩:=ajQ (w':=w.freeze ⟨(ρ b).aE,0,none⟩ n) hW hb (by unfold World.freeze;split<;>rfl) (by unfold World.freeze;split<;>rfl) (by unfold World.freeze;split<;>rfl) (by unfold World.freeze;split<;>simp) (fun k hk=>by
     unfold World.freeze
     split
     .  rfl
     .  simp only[Array.getElem?_modify]
        rw[if_neg (fun e=>hk e.symm)])
   refine ⟨_,.string ⟨(s'.map UInt8.ofNat).toArray⟩,_,ρ,?_,Yields.value _,fun _ _=>rfl,q1,.str _ _ ?_,q2⟩
   . show ((Builtin.unsafeString_ #[t,t2] ty #[.pointer (some ⟨(ρ b).aE,0,none⟩),.int .i64 (n:Int)]).run P w).andThen _=_
     rw[bU];rfl
   . simp only[List.map_map]
     have e3:s'.map (UInt8.toNat∘UInt8.ofNat)=s'.map id:=List.map_congr_left fun c hc=>by
        have:=e2 c hc
        simp only[Function.comp,id,UInt8.toNat_ofNat']
        omega
     rw[e3,List.map_id]
end
end
section
open Go Go.RowKit
section
variable {P : Program} {tt : TT} {ρ : Pos -> Loc} {C : Cells} {st : St} {w w' : World}
theorem Jq {n:Nat} {xs:Array Value} {u v:AV} (h:aA ρ n C [u,v] xs.toList): ∃x y,xs= #[x,y]/\av ρ n C u x/\av ρ n C v y:=by
 obtain ⟨x,l,h1,h2,h3⟩:=h.cons_inv
 obtain ⟨y,l',h4,h5,h6⟩:=h3.cons_inv
 have:=h6.su;subst this
 exact ⟨x,y,by apply Array.ext';rw[h1,h4],h2,h5⟩
theorem Zw {n:Nat} {xs:Array Value} {u:AV} (h:aA ρ n C [u] xs.toList): ∃x,xs= #[x]/\av ρ n C u x:=by
 obtain ⟨x,l,h1,h2,h3⟩:=h.cons_inv
 have:=h3.su;subst this
 exact ⟨x,by apply Array.ext';rw[h1],h2⟩
theorem Zx {ts:Array TypeId} {t:TypeId} {l:List TypeId} (h:ts.toList=t::l):ts[0]? =some t:=by
 rw[<-Array.getElem?_toList,h];rfl
theorem arr1 {ts:Array TypeId} {t t2:TypeId} {l:List TypeId} (h:ts.toList=t::t2::l):ts[1]? =some t2:=by
 rw[<-Array.getElem?_toList,h];rfl
theorem agE (hT:cr P tt) {t e:Nat} {ts:Array TypeId} {ti te:TI} (cY:tt.get (key t)=some ti) (hk:ti.k= .slice e)
   (ff:tt.get (key e)=some te) (h0:ts[0]? =some t) (ty:TypeId) {d u:AV} {xd xu:Value} {res:cq} (hW:bA ρ C st w)
   (hd:av ρ st.next.toNat C d xd) (hu:av ρ st.next.toNat C u xu) (hr:A4 (fun b=>st.heap.get b) st.next te.size [d,u]=some res):
   u9 P ρ C st w (((Builtin.copy_ ts ty #[xd,xu]).run P w).andThen fun v w=> .ok (.value v) w) res:=by
 obtain ⟨dd,hdd,bW⟩:=(hT.at cY).und
 rw[hk] at bW;rw[mD bW] at hdd
 obtain ⟨i0,jG,j7,_⟩:=(hT.at ff).info
 simp only[A4] at hr
 split at hr<;>first|(cases hr;done)|skip
 rename_i n m hn hm
 have hlen:=S6 (P:=P) (w:=w) hu hm
 have RF:(∃s,d= .str s)\/ ∃base aN,xd= .slice base n aN/\n<=aN:=by
   unfold dF at hn
   split at hn<;>first|(cases hn;done)|skip
   . cases hn;exact .inr ⟨none,0,hd.fD,Nat.le_refl _⟩
   . cases hn;obtain ⟨a,c,he,hle,_⟩:=hd.dA;exact .inr ⟨_,c,he,hle⟩
   . cases hn;obtain ⟨a,c,_,he,hle,_⟩:=hd.ua;exact .inr ⟨_,c,he,hle⟩
   . exact .inl ⟨_,rfl⟩
 have ajR:m=0\/n=0->(Builtin.firstCells te.size 0 xu).run P w= .ok #[] w:=by
   intro _
   unfold dF at hm
   split at hm<;>first|(cases hm;done)|skip
   . rw[hu.fD];simp[Builtin.firstCells]
   . obtain ⟨_,_,he,_⟩:=hu.dA;rw[he];simp[Builtin.firstCells,loadCells,loadCellsFrom]
   . obtain ⟨_,_,_,he,_⟩:=hu.ua;rw[he];simp[Builtin.firstCells,loadCells,loadCellsFrom]
   . obtain ⟨bs,rfl,_⟩:=hu.dW
     simp only[Builtin.firstCells,Sem.run_pure]
     congr 1
     apply Array.ext'
     simp
 have qw: ∀base aN,xd= .slice base n aN->(Builtin.copy_ ts ty #[xd,xu]).run P w=((Builtin.firstCells te.size (Nat.min m n) xu).run P w).andThen fun cells w=>((match base with|some a=>storeCells a cells.toList|none=>pure ()).run P w).andThen fun _ w=> .ok (goInt (Nat.min m n)) w:=by
   intro base aN he
   unfold Builtin.copy_
   simp only[h0,he,List.getElem?_toArray,List.getElem?_cons_zero,List.getElem?_cons_succ,Sem.run_bind,aO hdd,Result.andThen_ok,gW jG,j7,hlen]
   cases base<;>simp only[Sem.run_bind,Sem.run_pure,Result.andThen_ok]
 split at hr
 . rename_i uh
   have uh:=Nat.eq_of_beq_eq_true uh
   split at hr<;>first|(cases hr;done)|skip
   rename_i hns
   simp only[Option.some.injEq] at hr;subst hr
   rcases RF with ⟨s,rfl⟩|⟨base,aN,he,hle⟩
   . exact absurd rfl (hns s)
   . have hk0':Nat.min m n=0:=uh
     refine .pure (x:=goInt 0) ?_ (.int _ _)
     rw[qw base aN he,hk0',ajR (by have:min m n=0:=uh;omega)]
     cases base<;>simp[storeCells]
 . rename_i uh
   have uh:=Nat.ne_of_beq_eq_false uh
   split at hr<;>first|(cases hr;done)|skip
   rename_i b off n' cap es'
   split at hr<;>first|(cases hr;done)|skip
   rename_i cs fz new hb ug
   split at hr<;>first|(cases hr;done)|skip
   rename_i c1 c2 c3
   have c1:=Nat.le_of_ble_eq_true c1
   have c2:=Nat.le_of_ble_eq_true c2
   simp only[Option.some.injEq] at hr;subst hr
   simp only[dF,Option.some.injEq] at hn;subst hn
   obtain ⟨aa,aN,he,hle,_,ha⟩:=hd.dA
   have hmin:min m n'<=m/\min m n'<=n':=⟨Nat.min_le_left _ _,Nat.min_le_right _ _⟩
   obtain ⟨aP,rfl,_⟩:=ha (by omega)
   obtain ⟨ys,e1,e2,e3⟩:=ke (P:=P) hW hu hm hmin.1 ug w rfl
   have KJ:new.length=min m n'*te.size:=by
     rcases e3 with rfl|e3
     . simp[dF] at hm;omega
     . exact e3
   obtain ⟨w2,f1,dX,hE⟩:=KG (P:=P) hW hb (by rw[KJ];exact c1) c2 c3 e2
   refine ⟨_,goInt ((min m n':Nat):Int),w2,ρ,?_,Yields.value _,fun _ _=>rfl,dX,.int _ _,hE⟩
   rw[qw _ _ he]
   have hmm:Nat.min m n'=min m n':=rfl
   rw[hmm,e1]
   simp only[Result.andThen_ok]
   rw[f1];rfl
theorem aix (hT:cr P tt) {t:Nat} {ts:Array TypeId} {ti:TI} (cY:tt.get (key t)=some ti) {k:LK} (hk:(k= .s/\ti.k= .string)\/(k= .l/\ ∃e,ti.k= .slice e)\/(k= .m/\ ∃a b,ti.k= .map a b))
   (h0:ts[0]? =some t) (ty:TypeId) {u:AV} {xu:Value} {res:cq} (hW:bA ρ C st w)
   (hu:av ρ st.next.toNat C u xu) (hr:Jb (fun b=>st.heap.get b) st.next k [u]=some res):
   u9 P ρ C st w (((Builtin.len_ ts ty #[xu]).run P w).andThen fun v w=> .ok (.value v) w) res:=by
 obtain ⟨d,hd,bW⟩:=(hT.at cY).und
 have qw: ∀x,xu=x->(Builtin.len_ ts ty #[xu]).run P w=(Builtin.len_ ts ty #[x]).run P w:=fun x e=>by rw[e]
 simp only[Jb] at hr
 rcases hk with ⟨rfl,hk⟩|⟨rfl,e,hk⟩|⟨rfl,a,b,hk⟩<;>rw[hk] at bW
 . rw[l9 bW] at hd
   cases u<;>simp only[reduceCtorEq] at hr<;>first|(cases hr;done)|skip
   simp only[Option.some.injEq] at hr;subst hr
   obtain ⟨bs,rfl,hs⟩:=hu.dW
   exact .pure (x:=goInt bs.size) (by unfold Builtin.len_;simp[h0,aO hd]) (by rw[xI hs];exact .int _ _)
 . rw[mD bW] at hd
   cases u<;>simp only[reduceCtorEq] at hr<;>first|(cases hr;done)|skip
   . simp only[Option.some.injEq] at hr;subst hr
     rw[hu.fD]
     exact .pure (x:=goInt 0) (by unfold Builtin.len_;simp[h0,aO hd]) (.int _ _)
   . simp only[Option.some.injEq] at hr;subst hr
     obtain ⟨aa,c,he,_⟩:=hu.dA
     rw[he]
     exact .pure (by unfold Builtin.len_;simp[h0,aO hd];rfl) (.int _ _)
   . simp only[Option.some.injEq] at hr;subst hr
     obtain ⟨aa,c,_,he,_⟩:=hu.ua
     rw[he]
     exact .pure (by unfold Builtin.len_;simp[h0,aO hd];rfl) (.int _ _)
 . rw[NX bW] at hd
   cases u<;>simp only[reduceCtorEq] at hr<;>first|(cases hr;done)|skip
   . simp only[Option.some.injEq] at hr;subst hr
     rw[hu.Ba]
     exact .pure (x:=goInt 0) (by unfold Builtin.len_;simp[h0,aO hd]) (.int _ _)
   . split at hr<;>first|(cases hr;done)|skip
     rename_i es c hb
     simp only[Option.some.injEq] at hr;subst hr
     obtain ⟨_,he⟩:=hu.Bb
     obtain ⟨_,_,es',ei,hlen,_⟩:=hW.live _ _ hb
     rw[he]
     exact .pure (x:=goInt es'.size) (by unfold Builtin.len_;simp[h0,aO hd,run_getObj_map ei]) (by rw[<-hlen];exact .int _ _)
theorem VG (z:Array Value) (m:Nat):(Builtin.zeroCells z m).toList=bC z.toList m:=by
 unfold Builtin.zeroCells
 by_cases h:0<z.size
 . exact Zq z m h
 . have h0:z.size=0:=by omega
   have:z= #[]:=Array.eq_empty_of_size_eq_zero h0
   subst this
   have h1:bC ([]:List Value) m=[]:=List.eq_nil_of_length_eq_zero (by rw[iQ];simp)
   simp[h1]
theorem aeU (hT:cr P tt) {t e:Nat} {ts:Array TypeId} {ti te:TI} {z:List AV} (cY:tt.get (key t)=some ti) (hk:ti.k= .slice e)
   (ff:tt.get (key e)=some te) (hz:te.zero=some z) (h0:ts[0]? =some t) (ty:TypeId) {u:AV} {xu:Value} {res:cq} (hW:bA ρ C st w)
   (hu:av ρ st.next.toNat C u xu) (hr:oc (fun b=>st.heap.get b) st.next te.size z [u]=some res):
   u9 P ρ C st w (((Builtin.clear_ ts ty #[xu]).run P w).andThen fun v w=> .ok (.value v) w) res:=by
 obtain ⟨dd,hdd,bW⟩:=(hT.at cY).und
 rw[hk] at bW;rw[mD bW] at hdd
 obtain ⟨i0,jG,j7,_,AL⟩:=(hT.at ff).info
 obtain ⟨zv0,_,_,TW,_⟩:=AL z hz
 obtain ⟨zv,AM,_,rS⟩:=ue hT ff hz (ρ:=ρ) (n:=st.next.toNat) (C:=C) w
 simp only[oc] at hr
 split at hr<;>first|(cases hr;done)|skip
 . simp only[Option.some.injEq] at hr;subst hr
   rw[hu.fD]
   exact .pure (x:=undef) (by unfold Builtin.clear_;simp[h0,aO hdd];rfl) av.xK
 . rename_i b off n cap es'
   obtain ⟨aa,aN,he,hle,_,ha⟩:=hu.dA
   rw[he]
   split at hr
   . rename_i EL
     have:=Nat.eq_of_beq_eq_true EL;subst this
     simp only[Option.some.injEq] at hr;subst hr
     exact .pure (x:=undef) (by unfold Builtin.clear_;simp[h0,aO hdd];rfl) av.xK
   . rename_i EL
     have EL:=Nat.ne_of_beq_eq_false EL
     split at hr<;>first|(cases hr;done)|skip
     rename_i cs fz hb
     split at hr<;>first|(cases hr;done)|skip
     rename_i c1 c2 c3
     have c1:=Nat.le_of_ble_eq_true c1
     have c2:=Nat.le_of_ble_eq_true c2
     simp only[Option.some.injEq] at hr;subst hr
     obtain ⟨_,rfl,_⟩:=ha (by omega)
     obtain ⟨w2,f1,dX,hE⟩:=KG (P:=P) hW hb (vs:=bC z n) (ys:=bC zv.cells.toList n) (by rw[iQ,TW];exact c1) c2 c3 (Ib rS n)
     refine ⟨_,undef,w2,ρ,?_,Yields.value _,fun _ _=>rfl,dX,av.xK,hE⟩
     unfold Builtin.clear_
     cases n with
     |zero=>exact absurd rfl EL
     |succ n=>simp[h0,aO hdd,AM,VG,f1,undef]
theorem Jr (c:Call) (f:Operand) (hc:c.callee= .value f) (a:Act) (o:Oper) (ho:o.op= .call c) {g:FuncId} {x y:Array Value} (he:a.eval f= .func (.func g) x y):
  (execOp a.eval o).run P w=(callFunc g (x++c.args.map a.eval++y)).run P w:=by
 simp[execOp,ho,resolve,hc,he,Deferred.ofValue,invoke]
theorem agF (hT:cr P tt) (c:Call):cS P tt (.call c):=by
 intro ρ C st w k xs cls fr a o vs res ho hc hW hF hx hr
 simp only[fL] at hc
 split at hc<;>first|(cases hc;done)|skip
 rename_i l hl
 split at hc<;>first|(cases hc;done)|skip
 ·
  rename_i g Zy
  cases hc
  have hv:=eD hl hF hx
  simp only[aC.run,SR,Option.some.injEq] at hr;subst hr
  refine ⟨c.args.toList.map a.eval,?_,hv⟩
  rw[Jr c _ Zy a o ho (g:=g) (x:= #[]) (y:= #[]) rfl]
  congr 2
  apply Array.ext'
  simp
 ·
  rename_i f hnf Zy
  split at hc<;>first|(cases hc;done)|skip
  rename_i ao hao
  cases hc
  unfold ey at hx
  split at hx<;>first|(cases hx;done)|skip
  rename_i fv hfv
  split at hx<;>first|(cases hx;done)|skip
  rename_i vs' agG
  simp only[Option.some.injEq] at hx;subst hx
  have h1:=EF hao hF hfv
  have h2:=eD hl hF agG
  simp only[aC.run,SS] at hr
  split at hr<;>first|(cases hr;done)|skip
  rename_i g first captured
  simp only[Option.some.injEq] at hr;subst hr
  obtain ⟨x,y,he,hx,hy⟩:=h1.Ky
  refine ⟨x.toList++(c.args.toList.map a.eval++y.toList),?_,hx.append (h2.append hy)⟩
  rw[Jr c f Zy a o ho he]
  congr 2
  apply Array.ext'
  simp
 ·
  rename_i b Zy
  have hex: ∀(s:Sem Value),(∀consts,builtin b c.argTypes o.type consts (c.args.map a.eval)=(do pure (.value (<-s))))->(execOp a.eval o).run P w=(s.run P w).andThen fun v w=> .ok (.value v) w:=by
   intro s hs
   simp only[execOp,ho,resolve,Zy,pure_bind,invoke]
   rw[hs]
   simp
  split at hc<;>first|(cases hc;done)|skip
  ·
   split at hc<;>first|(cases hc;done)|skip
   rename_i t _ _ qy
   split at hc<;>first|(cases hc;done)|skip
   rename_i ti cY
   have hv:=eD hl hF (vs:=vs) (by
        split at hc<;>first|(cases hc;done)|skip
        all_goals cases hc;exact hx)
   rw[fR] at hv
   rw[hex (Builtin.len_ c.argTypes o.type (c.args.map a.eval)) (fun _=>rfl)]
   have hu: ∃u,vs=[u]      :=by
        have h1:=hv.1
        have h2:(c.args.toList).length=1:=by
         have: ∀{xs:List   Operand} {os:List fB},ju xs=some os->xs.length=os.length:=by
            intro xs
            induction xs with
            |nil=>intro os h;simp[ju] at h;subst h;rfl
            |cons x xs ih=>intro os h;unfold ju at h;split at h<;>first|(cases h;done)|skip
                           rename_i e1 e2;simp only[Option.some.injEq] at h;subst h;simp[ih e2]
         rw[this hl];rfl
        match vs,h1 with
        |[u],_=>exact ⟨u,rfl⟩
        |[],h1=>simp at h1 h2;omega
        |_::_::_,h1=>simp at h1 h2;omega
   obtain ⟨u,rfl⟩:=hu
   obtain ⟨x,gZ,hux⟩:=Zw hv
   rw[gZ]
   split at hc<;>first|(cases hc;done)|skip
   all_goals
        rename_i hk
        cases hc
        simp only[aC.run] at hr
        refine aix hT cY ?_ (Zx qy) o.type hW hux hr
   .    exact .inl ⟨rfl,hk⟩
   .    exact .inr (.inl ⟨rfl,_,hk⟩)
   .    exact .inr (.inr ⟨rfl,_,_,hk⟩)
  ·
   split at hc<;>first|(cases hc;done)|skip
   rename_i t t2 _ qy
   split at hc<;>first|(cases hc;done)|skip
   rename_i ti Mp cY N9
   split at hc<;>first|(cases hc;done)|skip
   .    rename_i e hk o9
        split at hc<;>first|(cases hc;done)|skip
        rename_i te ff
        split at hc<;>first|(cases hc;done)|skip
        rename_i z hz hk8 h8
        have h8:=Nat.eq_of_beq_eq_true h8
        cases hc
        have hv:=eD hl hF hx
        rw[fR] at hv
        rw[hex (Builtin.append_ c.argTypes o.type (c.args.map a.eval)) (fun _=>rfl)]
        simp only[aC.run] at hr
        have hu: ∃s u,vs=[s,u]:=by
         unfold u7 at hr
         split at hr<;>first|(cases hr;done)|skip
         exact ⟨_,_,rfl⟩
        obtain ⟨s,u,rfl⟩:=hu
        obtain ⟨x,y,gZ,h1,h2⟩:=Jq hv
        rw[gZ]
        exact abL hT cY N9 hk (fun k hk=>by rw[o9] at hk;cases hk) ff hz h8 (Zx qy) (arr1 qy) o.type hW h1 h2 hr
   rename_i e hk o9 _
   split at hc<;>first|(cases hc;done)|skip
   rename_i te ff
   split at hc<;>first|(cases hc;done)|skip
   rename_i z hz
   cases hc
   have hv:=eD hl hF hx
   rw[fR] at hv
   rw[hex (Builtin.append_ c.argTypes o.type (c.args.map a.eval)) (fun _=>rfl)]
   simp only[aC.run] at hr
   have hu: ∃s u,vs=[s,u]:=by
        unfold fK at hr
        split at hr<;>first|(cases hr;done)|skip
        exact ⟨_,_,rfl⟩
   obtain ⟨s,u,rfl⟩:=hu
   obtain ⟨x,y,gZ,h1,h2⟩:=Jq hv
   rw[gZ]
   exact KI hT cY N9 hk (fun k hk=>o9 k hk) ff hz (Zx qy) (arr1 qy) o.type hW h1 h2 hr
  ·
   split at hc<;>first|(cases hc;done)|skip
   rename_i t _ qy
   split at hc<;>first|(cases hc;done)|skip
   rename_i ti cY
   split at hc<;>first|(cases hc;done)|skip
   rename_i e hk
   split at hc<;>first|(cases hc;done)|skip
   rename_i te ff
   cases hc
   have hv:=eD hl hF hx
   rw[fR] at hv
   rw[hex (Builtin.copy_ c.argTypes o.type (c.args.map a.eval)) (fun _=>rfl)]
   simp only[aC.run] at hr
   have hu: ∃s u,vs=[s,u]:=by
        unfold A4 at hr
        split at hr<;>first|(cases hr;done)|skip
        exact ⟨_,_,rfl⟩
   obtain ⟨s,u,rfl⟩:=hu
   obtain ⟨x,y,gZ,h1,h2⟩:=Jq hv
   rw[gZ]
   exact agE hT cY hk ff (Zx qy) o.type hW h1 h2 hr
  ·
   split at hc<;>first|(cases hc;done)|skip
   cases hc
   have hv:=eD hl hF hx
   rw[fR] at hv
   rw[hex (Builtin.unsafeSliceData_ c.argTypes o.type (c.args.map a.eval)) (fun _=>rfl)]
   simp only[aC.run] at hr
   have hu: ∃s,vs=[s]:=by
        unfold tW at hr
        split at hr<;>first|(cases hr;done)|skip
        exact ⟨_,rfl⟩
   obtain ⟨s,rfl⟩:=hu
   obtain ⟨x,gZ,h1⟩:=Zw hv
   rw[gZ]
   exact Ya o.type h1 hW hr
  ·
   split at hc<;>first|(cases hc;done)|skip
   rename_i t t2 qy
   split at hc<;>first|(cases hc;done)|skip
   rename_i ti cY
   split at hc<;>first|(cases hc;done)|skip
   rename_i e hk
   split at hc<;>first|(cases hc;done)|skip
   rename_i te ff
   split at hc<;>first|(cases hc;done)|skip
   rename_i hk8 h8
   have h8:=Nat.eq_of_beq_eq_true h8
   cases hc
   have hv:=eD hl hF hx
   rw[fR] at hv
   rw[hex (Builtin.unsafeString_ c.argTypes o.type (c.args.map a.eval)) (fun _=>rfl)]
   simp only[aC.run] at hr
   have hu: ∃s u,vs=[s,u]:=by
        unfold pH at hr
        split at hr<;>first|(cases hr;done)|skip
        exact ⟨_,_,rfl⟩
   obtain ⟨s,u,rfl⟩:=hu
   obtain ⟨x,y,gZ,h1,h2⟩:=Jq hv
   rw[gZ]
   exact Yb hT cY hk ff h8 qy o.type hW h1 h2 hr
  ·
   split at hc<;>first|(cases hc;done)|skip
   cases hc
   have hv:=eD hl hF hx
   rw[fR] at hv
   rw[hex (Builtin.min_ c.argTypes o.type (c.args.map a.eval)) (fun _=>rfl)]
   simp only[aC.run] at hr
   have hu: ∃s u r,vs=[s,u]/\res= .val r:=by
        unfold El at hr
        split at hr<;>first|(cases hr;done)|skip
        split at hr<;>first|(cases hr;done)|skip
        all_goals cases hr;exact ⟨_,_,_,rfl,rfl⟩
   obtain ⟨s,u,r,rfl,rfl⟩:=hu
   obtain ⟨x,y,gZ,h1,h2⟩:=Jq hv
   obtain ⟨z,hz,hvz⟩:=agx (P:=P) (w:=w) h1 h2 hr
   rw[gZ]
   refine .pure (x:=z) ?_ hvz
   simp[Builtin.min_,hz]
  ·
   split at hc<;>first|(cases hc;done)|skip
   cases hc
   have hv:=eD hl hF hx
   rw[fR] at hv
   rw[hex (Builtin.max_ c.argTypes o.type (c.args.map a.eval)) (fun _=>rfl)]
   simp only[aC.run] at hr
   have hu: ∃s u r,vs=[s,u]/\res= .val r:=by
        unfold Em at hr
        split at hr<;>first|(cases hr;done)|skip
        split at hr<;>first|(cases hr;done)|skip
        all_goals cases hr;exact ⟨_,_,_,rfl,rfl⟩
   obtain ⟨s,u,r,rfl,rfl⟩:=hu
   obtain ⟨x,y,gZ,h1,h2⟩:=Jq hv
   obtain ⟨z,hz,hvz⟩:=agy (P:=P) (w:=w) h1 h2 hr
   rw[gZ]
   refine .pure (x:=z) ?_ hvz
   simp[Builtin.max_,hz]
  ·
   split at hc<;>first|(cases hc;done)|skip
   rename_i t _ qy
   split at hc<;>first|(cases hc;done)|skip
   rename_i ti cY
   split at hc<;>first|(cases hc;done)|skip
   rename_i e hk
   split at hc<;>first|(cases hc;done)|skip
   rename_i te ff
   split at hc<;>first|(cases hc;done)|skip
   rename_i z hz
   cases hc
   have hv:=eD hl hF hx
   rw[fR] at hv
   rw[hex (Builtin.clear_ c.argTypes o.type (c.args.map a.eval)) (fun _=>rfl)]
   simp only[aC.run] at hr
   have hu: ∃u,vs=[u]:=by
        unfold oc at hr
        split at hr<;>first|(cases hr;done)|skip
        exact ⟨_,rfl⟩
   obtain ⟨u,rfl⟩:=hu
   obtain ⟨x,gZ,hux⟩:=Zw hv
   rw[gZ]
   exact aeU hT cY hk ff hz (Zx qy) o.type hW hux hr
theorem Qu (hT:cr P tt) (op:Op):cS P tt op:=by
 cases op with
 |move x=>exact agt x
 |assign x=>exact adm x
 |pick c x y=>exact agu c x y
 |alloc t=>exact aeO hT t
 |box t x=>exact aiv t x
 |build t ps=>exact aeN hT t ps
 |buildSlice t n ps=>exact VF hT t n ps
 |insert t m k v=>exact TY hT _ t m k v (.inr rfl)
 |load t x=>exact agw hT t x
 |store t x y=>exact aeR hT t x y
 |nilCheck x=>exact Zl x
 |binOp op t x y yt=>exact aeJ hT op t x y yt
 |unOp op t x=>exact agv op t x
 |convert s d x=>
  by_cases h: ∃xs cls,fL tt (.convert s d x)=some (.conv .bytes,xs,cls)
  . exact X9 hT s d x h
  . exact abJ hT s d x fun k xs cls hc e=>h ⟨xs,cls,by rw[hc,e]⟩
 |makeInterface t x=>exact abH hT t x
 |makeFunc f x y=>exact adn f x y
 |makeMap t r=>exact aeP t r hT
 |makeSlice t l c=>exact abK hT t l c
 |slice t x l h m=>exact aeM hT t x l h m
 |fieldAddr t x f=>exact X7 hT t x f
 |field t x f=>exact aeK hT t x f
 |indexAddr t x i=>exact X8 hT t x i
 |index t x i=>exact aeL hT t x i
 |lookup t x i ok=>exact adp hT t x i ok
 |mapUpdate t m k v=>exact TY hT _ t m k v (.inl rfl)
 |range t x=>exact adr hT t x
 |next it s=>exact aeS it s
 |extract x i=>exact abG x i
 |call c=>exact agF hT c
 |_=>intro ρ C st w k xs cls fr a o vs res ho hc;simp[fL] at hc
end
end
section
open Go Go.RowKit
def Reaches (P:Program) (R:Value->World->Prop):Result Next->Prop
 | .ok (.value x) w'=>R x w'
 | .ok .skip w'=>R undef w'
 | .ok (.enter f args) w'=>Calls P f args w' fun| .returned v,w''=>R v w''|_,_=>False
 | .ok (.row row args) w'=>Rows P row args w' R
 |_=>False
theorem Reaches.mono {P:Program} {R R':Value->World->Prop} (h: ∀x w,R x w->R' x w): ∀{r:Result Next},Reaches P R r->Reaches P R' r
 | .ok (.value _) _,hr=>h _ _ hr
 | .ok .skip _,hr=>h _ _ hr
 | .ok (.enter _ _) _,hr=>Calls.mono hr fun e w he=>by cases e<;>first|exact h _ _ he|exact he
 | .ok (.row _ _) _,hr=>Rows.mono hr h
theorem Reaches.upon {P:Program} {R:Value->World->Prop} {o:Oper} {a:Act} {K:Act->World->Prop} {Q:Exit->Act->World->Prop} {r:Result Next}
  (hr:Reaches P R r) (h: ∀x w,R x w->K (a.put o.dst x) w):o.upon P a K Q r:=by
 cases r with
 |ok n w=>
  cases n<;>simp only[Reaches] at hr
  . exact h _ _ hr
  . exact h _ _ hr
  . exact Calls.mono hr fun e w he=>by
        cases e with
        |returned v=>exact h _ _ he
        |panicked c=>exact he.elim
        |outgrown=>exact he.elim
  . exact Rows.mono hr fun v w he=>h _ _ he
 |halt x w=>simp only[Reaches] at hr
def jY (ρ:Pos->Loc) (C:Cells) (st:St) (w:World) (v:AV) (st':St) (x:Value) (w':World):Prop:=
 ∃ρ',av ρ' st'.next.toNat C v x/\(∀b:Pos,b.toNat<st.next.toNat->ρ' b=ρ b)/\st.next.toNat<=st'.next.toNat/\bA ρ' C st' w'/\ni ρ st w ρ' st' w'
def jS (P:Program) (C:Cells) (call:ak):Prop:=
 ∀  (ρ:Pos->Loc) (st:St) (w:World) (f:FuncId) (args:List AV) (v:AV) (st':St) (bQ:List Value),call f args st=some (v,st')->
    bA ρ C st w->aA ρ st.next.toNat C args bQ->Reaches P (jY ρ C st w v st') ((callFunc f bQ.toArray).run P w)
section
variable {P : Program} {tt : TT} {C : Cells} {call : ak}
theorem St.KL (st:St) (del:Option Pos) (set:Option (Pos×AB)) (new:Option AB):st.next.toNat<=(st.aL del set new).next.toNat:=by
 cases new with
 |none=>exact Nat.le_refl _
 |some x=>simp only[St.aL,Pos.ax];omega
theorem RM (hT:cr P tt) (gw:jS P C call) {ρ:Pos->Loc} {st st':St} {w:World} {k:aC} {xs:List fB} {cls:Cls} {fr:Fr} {a:Act} {o:Oper} {vs:List AV} {v:AV}
   (hc:fL tt o.op=some (k,xs,cls)) (hW:bA ρ C st w) (hF:mC ρ st.next.toNat C fr a.tmps) (hx:ey fr xs=some vs)
   (hs:bP call k vs st=some (v,st')):Reaches P (jY ρ C st w v st') ((execOp a.eval o).run P w):=by
 have H:=Qu hT o.op ρ C st w k xs cls fr a o vs
 unfold bP at hs
 split at hs
 . rename_i u hr
   simp only[Option.some.injEq,Prod.mk.injEq] at hs
   obtain ⟨rfl,rfl⟩:=hs
   obtain ⟨N,x,he,hy,hv⟩:=H _ rfl hc hW hF hx hr
   have hp:jY ρ C st w u st x w:=⟨ρ,hv,fun _ _=>rfl,Nat.le_refl _,hW,ni.refl _ _ _⟩
   rw[he]
   rcases hy with rfl|⟨rfl,rfl⟩<;>exact hp
 . rename_i u del set new hr
   simp only[Option.some.injEq,Prod.mk.injEq] at hs
   obtain ⟨rfl,rfl⟩:=hs
   obtain ⟨N,x,w',ρ',he,hy,aS,dX,hv,hE⟩:=H _ rfl hc hW hF hx hr
   have hp:jY ρ C st w u (st.aL del set new) x w':=⟨ρ',hv,aS,St.KL _ _ _ _,dX,hE⟩
   rw[he]
   rcases hy with rfl|⟨rfl,rfl⟩<;>exact hp
 . rename_i f args hr
   obtain ⟨bQ,he,hv⟩:=H _ rfl hc hW hF hx hr
   rw[he]
   exact gw ρ st w f args v st' bQ hs hW hv
 . cases hs
structure vh (tt:TT) (nt:Nat) (ops:Array Oper) (o:Oper) (ao:bD):Prop where
 dst:ao.dst=o.dst.map key
 lt: ∀d,o.dst=some d->d<nt
 guard:TL ops o.guard=some ao.guard
 op:(fL tt o.op=some (ao.k,ao.xs,ao.cls))\/(ao.k= .bad/\ao.cls= .aL)
theorem BF {nt:Nat} {ops:Array Oper}: ∀{os:List Oper} {bs:List Nat} {l:List bD},zb tt nt ops os bs=some l->
  l.length=os.length/\ ∀(i:Nat) (o:Oper),os[i]? =some o-> ∃ao,l[i]? =some ao/\vh tt nt ops o ao/\ao.bE=bs.getD i 0
 |[],bs,l,h=>by simp[zb] at h;subst h;exact ⟨rfl,fun i o ho=>by simp at ho⟩
 |o ::os,bs,l,h=>by
  unfold zb at h
  split at h<;>first|(cases h;done)|skip
  rename_i g l' hg hl hd
  obtain ⟨h1,h2⟩:=BF hl
  have aP: ∀d,o.dst=some d->d<nt:=fun d hdd=>by
    rw[hdd] at hd
    simpa [zb.ah7] using hd
  have hb: ∀i,bs.tail.getD i 0=bs.getD (i+1) 0:=fun i=>by cases bs<;>simp
  have rR:bs.headD 0=bs.getD 0 0:=by cases bs<;>simp
  split at h
  . rename_i k xs cls hc
    simp only[Option.some.injEq] at h;subst h
    refine ⟨by simp[h1],fun i o' ho=> ?_⟩
    cases i with
    |   zero=>
        simp at ho;subst ho
        exact ⟨_,rfl,⟨rfl,aP,hg,.inl hc⟩,rR⟩
    |   succ i=>
        simp at ho
        obtain ⟨ao,h3,h4,h5⟩:=h2 i o' ho
        exact ⟨ao,by simpa using h3,h4,by rw[h5,hb]⟩
  . simp only[Option.some.injEq] at h;subst h
    refine ⟨by simp[h1],fun i o' ho=> ?_⟩
    cases i with
    |   zero=>
        simp at ho;subst ho
        exact ⟨_,rfl,⟨rfl,aP,hg,.inr ⟨rfl,rfl⟩⟩,rR⟩
    |   succ i=>
        simp at ho
        obtain ⟨ao,h3,h4,h5⟩:=h2 i o' ho
        exact ⟨ao,by simpa using h3,h4,by rw[h5,hb]⟩
theorem EM {ops:Array Oper} {ρ:Pos->Loc} {n:Nat} {fr:Fr} {a:Act} {o:Oper} {g:Option (Pos×Bool)} {b:Bool} (hg:TL ops o.guard=some g)
   (hF: ∀p v,fr.get p=some v->(∃q,g=some (p,q))-> ∃x,a.tmps[p.toNat - 1]? =some x/\av ρ n C v x)
   (hw:bM fr g=some b):Region.wanted o (yielded ops a.tmps)=b:=by
 unfold Region.wanted
 unfold TL at hg
 split at hg
 . rename_i hn
   simp only[Option.some.injEq] at hg;subst hg
   simp only[bM,Option.some.injEq] at hw;subst hw
   rw[hn]
 . rename_i j want hn
   rw[hn]
   split at hg<;>first|(cases hg;done)|skip
   rename_i oj hj
   split at hg<;>first|(cases hg;done)|skip
   rename_i d hd
   simp only[Option.some.injEq] at hg;subst hg
   simp only[bM] at hw
   split at hw
   . rename_i u hu
     simp only[Option.some.injEq] at hw;subst hw
     obtain ⟨x,hx,hv⟩:=hF _ _ hu ⟨_,rfl⟩
     rw[iO,Nat.add_sub_cancel] at hx
     have:=hv.iH;subst this
     simp[yielded,hj,hd,hx]
   . rename_i l hu
     simp only[Option.some.injEq] at hw;subst hw
     obtain ⟨x,hx,hv⟩:=hF _ _ hu ⟨_,rfl⟩
     rw[iO,Nat.add_sub_cancel] at hx
     obtain ⟨cs,rfl,_⟩:=hv.WR
     simp[yielded,hj,hd,hx]
   . cases hw
theorem av.W5 {ρ:Pos->Loc} {n:Nat}:av ρ n C AV.undef undef:= .tuple [] #[] rfl fun _ _ _ h=>by simp at h
theorem Act.KM (a:Act) (d:Option Tmp) (v:Value):(a.put d v).tmps.size=a.tmps.size:=by cases d<;>simp[Act.put]
theorem Act.BG (a:Act) (d:Option Tmp) (v:Value):(a.put d v).defers=a.defers:=by cases d<;>rfl
theorem mC.put {ρ:Pos->Loc} {n nt:Nat} {fr:Fr} {a:Act} {d:Option Tmp} {v:AV} {x:Value} (hF:mC ρ n C fr a.tmps) (hs:a.tmps.size=nt)
  (hd: ∀e,d=some e->e<nt) (hv:av ρ n C v x):mC ρ n C (dc fr (d.map key) v) (a.put d x).tmps:=by
 cases d with
 |none=>exact hF
 |some e=>
  have he:=hd e rfl
  intro p u hp
  simp only[Option.map_some,dc] at hp
  simp only[Act.put]
  by_cases hpe:key e=p
  . subst hpe
    rw[T.fq] at hp
    simp only[Option.some.injEq] at hp;subst hp
    refine ⟨x,?_,hv⟩
    rw[iO,Nat.add_sub_cancel,Array.getElem?_setIfInBounds]
    simp[hs,he]
  . rw[T.bK _ hpe] at hp
    obtain ⟨y,hy,hr⟩:=hF p u hp
    refine ⟨y,?_,hr⟩
    rw[Array.getElem?_setIfInBounds_ne,hy]
    intro h
    apply hpe
    apply Pos.toNat_inj
    rw[iO]
    have:=p.toNat_pos
    omega
theorem mC.mono {ρ ρ':Pos->Loc} {n n':Nat} {fr:Fr} {tmps:Array Value} (hF:mC ρ n C fr tmps) (aS: ∀b:Pos,b.toNat<n->ρ' b=ρ b) (hn:n<=n'):mC ρ' n' C fr tmps:=
 fun p v hp=>let ⟨x,hx,hv⟩:=hF p v hp;⟨x,hx,hv.mono aS hn⟩
structure KN (nt:Nat) (ρ:Pos->Loc) (C:Cells) (fr:Fr) (st:St) (a:Act) (w:World):Prop where
 W:bA ρ C st w
 F:mC ρ st.next.toNat C fr a.tmps
 size:a.tmps.size=nt
 defers:a.defers=[]
def lU (nt:Nat) (ρ:Pos->Loc) (C:Cells) (st:St) (w:World) (bn:Fr) (st':St) (a':Act) (w':World):Prop:=
 ∃ρ',KN nt ρ' C bn st' a' w'/\(∀b:Pos,b.toNat<st.next.toNat->ρ' b=ρ b)/\st.next.toNat<=st'.next.toNat/\ni ρ st w ρ' st' w'
theorem lU.refl {nt:Nat} {ρ:Pos->Loc} {fr:Fr} {st:St} {a:Act} {w:World} (h:KN nt ρ C fr st a w):lU nt ρ C st w fr st a w:=
 ⟨ρ,h,fun _ _=>rfl,Nat.le_refl _,ni.refl _ _ _⟩
theorem lU.trans {nt:Nat} {ρ ig:Pos->Loc} {Mr:Fr} {st bk yh:St} {a2:Act} {w w1 w2:World}
  (h1: ∀b:Pos,b.toNat<st.next.toNat->ig b=ρ b) (h2:st.next.toNat<=bk.next.toNat) (h3:ni ρ st w ig bk w1)
  (h:lU nt ig C bk w1 Mr yh a2 w2):lU nt ρ C st w Mr yh a2 w2:=by
 obtain ⟨BP,k1,k2,k3,k4⟩:=h
 exact ⟨BP,k1,fun b hb=>(k2 b (Nat.lt_of_lt_of_le hb h2)).trans (h1 b hb),Nat.le_trans h2 k3,h3.trans k4⟩
theorem Reaches.bad {k:aC} {vs:List AV} {st:St} {r:AV×St} (hk:k= .bad) (h:bP call k vs st=some r):False:=by
 subst hk;simp[bP,aC.run] at h
theorem KO (hT:cr P tt) (gw:jS P C call) {nt:Nat} {ops:Array Oper} {Q:Exit->Act->World->Prop}: ∀(Zz:List bD) (k:Nat) (fr bn:Fr) (st st':St) (ρ:Pos->Loc) (a:Act) (w:World),
  (∀(i:Nat) (ao:bD),Zz[i]? =some ao-> ∃o,ops[k+i]? =some o/\vh tt nt ops o ao)->
  jt call Zz fr st=some (bn,st')->KN nt ρ C fr st a w->(∀a' w',lU nt ρ C st w bn st' a' w'->Q .normal a' w')->wpOps P ops Q (List.range' k Zz.length) a w
 |[],k,fr,bn,st,st',ρ,a,w,_,h,hS,hQ=>by
  simp only[jt,Option.some.injEq,Prod.mk.injEq] at h
  obtain ⟨rfl,rfl⟩:=h
  exact hQ a w (lU.refl hS)
 |ao::Zz,k,fr,bn,st,st',ρ,a,w,ho,h,hS,hQ=>by
  obtain ⟨o,bu,hR⟩:=ho 0 ao rfl
  rw[Nat.add_zero] at bu
  have GO: ∀(i:Nat) (ao':bD),Zz[i]? =some ao'-> ∃o,ops[k+1+i]? =some o/\vh tt nt ops o ao':=fun i ao' hi=>by
    obtain ⟨o',h1,h2⟩:=ho (i+1) ao' (by simpa using hi)
    exact ⟨o',by rw[<-h1];congr 1;omega,h2⟩
  simp only[List.length_cons,List.range'_succ,wpOps,bu]
  unfold jt at h
  split at h
  . rename_i hw
    rw[if_pos (EM hR.guard (fun p v hp _=>hS.F p v hp) hw)]
    split at h<;>first|(cases h;done)|skip
    rename_i vs qu
    split at h<;>first|(cases h;done)|skip
    rename_i v bk lf
    rcases hR.op with hc|⟨hk,_⟩
    .   have hr:=RM hT gw hc hS.W hS.F qu lf
        refine .inl (hr.upon fun x w1 hp=> ?_)
        obtain ⟨ig,hv,h1,h2,hW1,hE⟩:=hp
        rw[hR.dst] at h
        refine KO hT gw Zz (k+1) _ bn bk st' ig _ w1 GO h ⟨hW1,mC.put (hS.F.mono h1 h2) hS.size hR.lt hv,by rw[Act.KM];exact hS.size,by rw[Act.BG];exact hS.defers⟩ fun a' w' hp=>hQ a' w' (lU.trans h1 h2 hE hp)
    .   exact (Reaches.bad hk lf).elim
  . rename_i hw
    rw[if_neg (by rw[EM hR.guard (fun p v hp _=>hS.F p v hp) hw];simp)]
    rw[hR.dst] at h
    exact KO hT gw Zz (k+1) _ bn st st' ρ _ w GO h ⟨hS.W,mC.put hS.F hS.size hR.lt .W5,by rw[Act.KM];exact hS.size,by rw[Act.BG];exact hS.defers⟩ hQ
  . cases h
theorem ZA {nt:Nat} {ops:Array Oper} {l:List bD} {bs:List Nat} (h:zb tt nt ops ops.toList bs=some l) (i:Nat) (ao:bD) (hi:l[i]? =some ao):
  ∃o,ops[i]? =some o/\vh tt nt ops o ao/\ao.bE=bs.getD i 0:=by
 obtain ⟨h1,h2⟩:=BF h
 have aP:i<ops.toList.length:=by rw[<-h1];exact (List.getElem?_eq_some_iff.1 hi).1
 obtain ⟨ao',h3,h4,h5⟩:=h2 i _ (List.getElem?_eq_getElem aP)
 rw[hi] at h3
 simp only[Option.some.injEq] at h3;subst h3
 exact ⟨_,by rw[<-Array.getElem?_toList];exact List.getElem?_eq_getElem aP,h4,h5⟩
theorem ZB (hT:cr P tt) (gw:jS P C call) {nt id:Nat} {ops:Array Oper} {bs:List Nat} {l:List bD} {Q:Exit->Act->World->Prop} {fr bn:Fr} {st st':St} {ρ:Pos->Loc} {a:Act} {w:World}
  (hl:zb tt nt ops ops.toList bs=some l) (h:jt call l fr st=some (bn,st')) (hS:KN nt ρ C fr st a w)
  (hQ: ∀a' w',lU nt ρ C st w bn st' a' w'->Q .normal a' w'):(Code.region id ops false).wp P Q a w:=by
 apply wp_region
 have hlen:l.length=ops.size:=by rw[(BF hl).1,Array.length_toList]
 rw[List.range_eq_range', <-hlen]
 exact KO hT gw l 0 fr bn st st' ρ a w (fun i ao hi=>by
  obtain ⟨o,h1,h2,_⟩:=ZA hl i ao hi
  exact ⟨o,by rw[Nat.zero_add];exact h1,h2⟩) h hS hQ
end
end
section
open Go Go.RowKit
section
variable {P : Program} {tt : TT} {C : Cells} {call : ak}
def Oa (P:Program) (tt:TT) (C:Cells) (call:ak):Prop:=
 ∀  (nt id:Nat) (ops:Array Oper) (l:List bD) (Q:Exit->Act->World->Prop) (fr bn:Fr) (st st':St) (ρ:Pos->Loc) (a:Act) (w:World),
    zb tt nt ops ops.toList (Zb ops.toList [])=some l->Je l.length 0 (xk (EB 0 l) [])=true->cW call (xk (EB 0 l) []) [] st.heap fr st=some (bn,st')->KN nt ρ C fr st a w->
    (∀a' w',lU nt ρ C st w bn st' a' w'->Q .normal a' w')->(Code.region id ops true).wp P Q a w
def Qv:lQ->Exit
 | .normal=> .normal
 | .exit id=> .exit id
 | .ret=> .ret
def TZ (P:Program) (tt:TT) (C:Cells) (call:ak) (nt m:Nat):Prop:=
 ∀  (c:Code) (ac:AC) (fr bn:Fr) (st st':St) (ex:lQ) (ρ:Pos->Loc) (a:Act) (w:World) (Q:Exit->Act->World->Prop),
    BE tt nt c=some ac->exec call m ac fr st=some (ex,bn,st')->KN nt ρ C fr st a w->
    (∀a' w',lU nt ρ C st w bn st' a' w'->Q (Qv ex) a' w')->c.wp P Q a w
def T6 (P:Program) (tt:TT) (C:Cells) (call:ak) (nt m:Nat):Prop:=
 ∀  (c:Code) (ac:AC) (fr bn:Fr) (st st':St) (ex:lQ) (ρ:Pos->Loc) (a:Act) (w:World) (Q:Exit->Act->World->Prop),
    BE tt nt c=some ac->exec call m (.loop ac) fr st=some (ex,bn,st')->KN nt ρ C fr st a w->
    (∀a' w',lU nt ρ C st w bn st' a' w'->Q (Qv ex) a' w')->Code.rounds P c Q m a w
theorem W6 {nt m:Nat} (EN:TZ P tt C call nt m) (ihL:T6 P tt C call nt m):T6 P tt C call nt (m+1):=by
 intro c ac fr bn st st' ex ρ a w Q hc h hS hQ
 simp only[exec,bg] at h
 rw[rounds_succ]
 split at h
 . rename_i fE bk h1
   refine EN c ac fr fE st bk .normal ρ a w _ hc h1 hS fun a1 w1 hp=> ?_
   obtain ⟨ig,uj,k1,k2,k3⟩:=hp
   exact ihL c ac fE bn bk st' ex ig a1 w1 Q hc h uj fun a2 w2 hp=>hQ a2 w2 (lU.trans k1 k2 k3 hp)
 . rename_i bX
   cases ex with
   |normal=>exact (bX _ _ h).elim
   |exit id=>exact EN c ac fr bn st st' (.exit id) ρ a w _ hc h hS fun a1 w1 hp=>hQ a1 w1 hp
   |ret=>exact EN c ac fr bn st st' .ret ρ a w _ hc h hS fun a1 w1 hp=>hQ a1 w1 hp
theorem aeV (hT:cr P tt) (gw:jS P C call) (zh:Oa P tt C call) {nt m:Nat} (EN:TZ P tt C call nt m) (ihL:T6 P tt C call nt m):TZ P tt C call nt (m+1):=by
 intro c ac fr bn st st' ex ρ a w Q hc h hS hQ
 have akI:=W6 EN ihL
 unfold BE at hc
 split at hc<;>first|(cases hc;done)|skip
 . simp only[Option.some.injEq] at hc;subst hc
   simp only[exec,bg,Option.some.injEq,Prod.mk.injEq] at h
   obtain ⟨rfl,rfl,rfl⟩:=h
   exact wp_skip (hQ _ _ (lU.refl hS))
 . rename_i ix ops draw
   split at hc<;>first|(cases hc;done)|skip
   rename_i l hl
   split at hc
   . simp only[Option.some.injEq] at hc;subst hc
     simp only[exec,bg] at h
     split at h<;>first|(cases h;done)|skip
     rename_i fE bk h1
     simp only[Option.some.injEq,Prod.mk.injEq] at h
     obtain ⟨rfl,rfl,rfl⟩:=h
     exact ZB hT gw hl h1 hS hQ
   . split at hc<;>first|(cases hc;done)|skip
     rename_i ht
     simp only[Option.some.injEq] at hc;subst hc
     simp only[exec,bg] at h
     split at h<;>first|(cases h;done)|skip
     rename_i fE bk h1
     simp only[Option.some.injEq,Prod.mk.injEq] at h
     obtain ⟨rfl,rfl,rfl⟩:=h
     exact zh nt _ ops l Q fr fE st bk ρ a w hl ht h1 hS hQ
 . split at hc<;>first|(cases hc;done)|skip
   rename_i x y h1 h2
   simp only[Option.some.injEq] at hc;subst hc
   simp only[exec,bg] at h
   apply wp_seq
   split at h
   . rename_i fE bk h3
     refine EN _ _ fr fE st bk .normal ρ a w _ h1 h3 hS fun a1 w1 hp=> ?_
     obtain ⟨ig,uj,k1,k2,k3⟩:=hp
     exact EN _ _ fE bn bk st' ex ig a1 w1 Q h2 h uj fun a2 w2 hp=>hQ a2 w2 (lU.trans k1 k2 k3 hp)
   . rename_i bX
     cases ex with
     |normal=>exact (bX _ _ h).elim
     |exit id=>exact EN _ _ fr bn st st' (.exit id) ρ a w _ h1 h hS fun a1 w1 hp=>hQ a1 w1 hp
     |ret=>exact EN _ _ fr bn st st' .ret ρ a w _ h1 h hS fun a1 w1 hp=>hQ a1 w1 hp
 . split at hc<;>first|(cases hc;done)|skip
   rename_i x y z h1 h2 h3
   simp only[Option.some.injEq] at hc;subst hc
   simp only[exec,bg] at h
   split at h
   . rename_i hx
     exact wp_cond_true ((EF h1 hS.F hx).iH) (EN _ _ fr bn st st' ex ρ a w Q h2 h hS hQ)
   . rename_i hx
     exact wp_cond_false ((EF h1 hS.F hx).iH) (EN _ _ fr bn st st' ex ρ a w Q h3 h hS hQ)
   . cases h
 . split at hc<;>first|(cases hc;done)|skip
   rename_i x h1
   simp only[Option.some.injEq] at hc;subst hc
   simp only[exec,bg] at h
   apply wp_block
   split at h
   . rename_i tj fE bk h2
     split at h
     .  rename_i he
        simp only[Option.some.injEq,Prod.mk.injEq] at h
        obtain ⟨rfl,rfl,rfl⟩:=h
        have:=Nat.eq_of_beq_eq_true he;subst this
        exact EN _ _ fr fE st bk (.exit tj) ρ a w _ h1 h2 hS fun a1 w1 hp=>by
         simp only[Qv,Exit.inBlock,if_true];exact hQ a1 w1 hp
     .  rename_i he
        simp only[Option.some.injEq,Prod.mk.injEq] at h
        obtain ⟨rfl,rfl,rfl⟩:=h
        have:=Nat.ne_of_beq_eq_false he
        exact EN _ _ fr fE st bk (.exit tj) ρ a w _ h1 h2 hS fun a1 w1 hp=>by
         simp only[Qv,Exit.inBlock,if_neg this];exact hQ a1 w1 hp
   . rename_i bX
     cases ex with
     |normal=>exact EN _ _ fr bn st st' .normal ρ a w _ h1 h hS fun a1 w1 hp=>hQ a1 w1 hp
     |exit id=>exact (bX _ _ _ h).elim
     |ret=>exact EN _ _ fr bn st st' .ret ρ a w _ h1 h hS fun a1 w1 hp=>hQ a1 w1 hp
 . split at hc<;>first|(cases hc;done)|skip
   rename_i x h1
   simp only[Option.some.injEq] at hc;subst hc
   exact wp_loop_rounds (m+1) (akI _ _ fr bn st st' ex ρ a w Q h1 h hS hQ)
 . simp only[Option.some.injEq] at hc;subst hc
   simp only[exec,bg,Option.some.injEq,Prod.mk.injEq] at h
   obtain ⟨rfl,rfl,rfl⟩:=h
   exact wp_exit (hQ _ _ (lU.refl hS))
 . simp only[Option.some.injEq] at hc;subst hc
   simp only[exec,bg,Option.some.injEq,Prod.mk.injEq] at h
   obtain ⟨rfl,rfl,rfl⟩:=h
   exact wp_ret (hQ _ _ (lU.refl hS))
 . simp only[Option.some.injEq] at hc;subst hc
   simp[exec,bg,jt,bM,ey,bP,aC.run] at h
theorem zi (hT:cr P tt) (gw:jS P C call) (zh:Oa P tt C call) {nt:Nat}: ∀m,TZ P tt C call nt m/\T6 P tt C call nt m
 |0=>⟨fun c ac fr bn st st' ex ρ a w Q hc h=>by simp[exec] at h,fun c ac fr bn st st' ex ρ a w Q hc h=>by simp[exec] at h⟩
 |m+1=>let ⟨h1,h2⟩:=zi hT gw zh m;⟨aeV hT gw zh h1 h2,W6 h1 h2⟩
def Qw (tmps:Array Value):ResultVar->Sem Value
 | .tmp t=>pure (tmps.getD t undef)
 | .cell a t=>do loadVar t (<-asAddr (tmps.getD a undef))
theorem ady (hT:cr P tt) {ρ:Pos->Loc} {st:St} {w:World} {fr:Fr} {a:Act} {x:Tmp} {t:TypeId} {ti:TI} {q v:AV} (cY:tt.get (key t)=some ti)
  (hW:bA ρ C st w) (hF:mC ρ st.next.toNat C fr a.tmps) (hq:fr.get (key x)=some q) (hr:(aC.load (y9 ti)).run (fun b=>st.heap.get b) .h [q]=some (.val v)):
  ∃y,(Qw a.tmps (.cell x t)).run P w= .ok y w/\av ρ st.next.toNat C v y:=by
 have hc:fL tt (.load t (.tmp x))=some (.load (y9 ti),[.t (key x)],.read):=by simp[fL,cY,pI]
 have hx:ey fr [.t (key x)]=some [q]:=by simp[ey,BO,hq]
 have kA:(aC.load (y9 ti)).run (fun b=>st.heap.get b) st.next [q]=some (.val v):=hr
 obtain ⟨N,y,he,hy,hv⟩:=Qu hT (.load t (.tmp x)) ρ C st w _ _ _ fr a { dst:=none,op:= .load t (.tmp x),type:=t,pos:=default,after:= #[],guard:=none } _ _ rfl hc hW hF hx kA
 refine ⟨y,?_,hv⟩
 simp only[execOp,Instr.loadAt,Act.eval] at he
 simp only[Qw]
 obtain ⟨z,hz,hzq⟩:=hF _ _ hq
 rw[iO,Nat.add_sub_cancel] at hz
 have hzd:a.tmps.getD x undef=z:=by simp[Array.getD_eq_getD_getElem?,hz]
 rw[hzd] at he ⊢
 have hp: ∃ad,z= .pointer (some ad):=by
  simp only[aC.run,u6] at hr
  split at hr<;>first|(cases hr;done)|skip
  . obtain ⟨_,h⟩:=hzq.fu;exact ⟨_,h⟩
  . obtain ⟨_,_,_,_,h,_⟩:=hzq.Jh;exact ⟨_,h⟩
 obtain ⟨ad,rfl⟩:=hp
 simp only[Instr.sureAddr,asAddr,Sem.run_bind,Sem.run_pure,Result.andThen] at he ⊢
 cases hl:(loadVar t ad).run P w with
 |ok u w1=>
  rw[hl] at he
  simp at he
  obtain ⟨h1,h2⟩:=he
  subst h2
  rcases hy with hy|⟨hy,_⟩
  . rw[hy] at h1;simp at h1;rw[h1]
  . rw[hy] at h1;simp at h1
 |halt u w1=>rw[hl] at he;simp at he
theorem EO (hT:cr P tt) {ρ:Pos->Loc} {st:St} {w:World} {fr:Fr} {a:Act} (hW:bA ρ C st w) (hF:mC ρ st.next.toNat C fr a.tmps):
   ∀(rs:List ResultVar) (T7:List NU) (vs:List AV),tX tt rs=some T7->fC (fun b=>st.heap.get b) fr T7=some vs->
    ∃ys,(rs.mapM (Qw a.tmps)).run P w= .ok ys w/\aA ρ st.next.toNat C vs ys
 | [],T7,vs,hc,hr=>by
   simp only[tX,Option.some.injEq] at hc;subst hc
   simp only[fC,Option.some.injEq] at hr;subst hr
   exact ⟨[],by simp,aA.nil⟩
 | .tmp t::rs,T7,vs,hc,hr=>by
   simp only[tX] at hc
   split at hc<;>first|(cases hc;done)|skip
   rename_i l hl
   simp only[Option.some.injEq] at hc;subst hc
   simp only[fC] at hr
   split at hr<;>first|(cases hr;done)|skip
   rename_i v hv
   split at hr<;>first|(cases hr;done)|skip
   rename_i us hus
   simp only[Option.some.injEq] at hr;subst hr
   obtain ⟨ys,h1,h2⟩:=EO hT hW hF rs l us hl hus
   obtain ⟨z,hz,hzq⟩:=hF _ _ hv
   rw[iO,Nat.add_sub_cancel] at hz
   refine ⟨z::ys,?_,aA.cons hzq h2⟩
   simp[List.mapM_cons,Qw,h1,Array.getD_eq_getD_getElem?,hz]
 | .cell x t::rs,T7,vs,hc,hr=>by
   simp only[tX] at hc
   split at hc<;>first|(cases hc;done)|skip
   rename_i ti l WW hl
   simp only[Option.some.injEq] at hc;subst hc
   simp only[fC] at hr
   split at hr<;>first|(cases hr;done)|skip
   rename_i q hq
   split at hr<;>first|(cases hr;done)|skip
   rename_i v hv
   split at hr<;>first|(cases hr;done)|skip
   rename_i us hus
   simp only[Option.some.injEq] at hr;subst hr
   obtain ⟨ys,h1,h2⟩:=EO hT hW hF rs l us hl hus
   obtain ⟨y,h3,h4⟩:=ady hT WW hW hF hq hv
   refine ⟨y::ys,?_,aA.cons h4 h2⟩
   simp[List.mapM_cons,h1,h3]
theorem xp (hT:cr P tt) {ρ:Pos->Loc} {st:St} {w:World} {fr:Fr} {a:Act} {fn:Func} {T7:List NU} {vs:List AV} (hW:bA ρ C st w) (hF:mC ρ st.next.toNat C fr a.tmps)
  (hc:tX tt fn.results.toList=some T7) (hr:fC (fun b=>st.heap.get b) fr T7=some vs):
  ∃y,(results fn a.tmps).run P w= .ok y w/\av ρ st.next.toNat C (xg vs) y:=by
 obtain ⟨ys,h1,h2⟩:=EO hT hW hF _ T7 vs hc hr
 have h3:(fn.results.mapM (Qw a.tmps)).run P w= .ok ys.toArray w:=by
  rw[Array.mapM_eq_mapM_toList]
  simp[h1]
 have h4:(results fn a.tmps).run P w= .ok (if h:ys.toArray.size=1 then ys.toArray[0] else .tuple ys.toArray) w:=by
  have hfun:results fn a.tmps=(fn.results.mapM (Qw a.tmps) >>= fun vs=>pure (if h:vs.size=1 then vs[0] else .tuple vs)):=by
   unfold results
   congr 2
  rw[hfun,Sem.run_bind,h3]
  simp
 refine ⟨_,h4,?_⟩
 cases vs with
 |nil=>have:=h2.su;subst this;simp[xg];exact .tZ (by simpa using aA.nil)
 |cons v vs=>
  obtain ⟨y,ys',rfl,hv,qu⟩:=h2.cons_inv
  cases vs with
  |nil=>have:=qu.su;subst this;simpa [xg] using hv
  |cons v' vs'=>
   obtain ⟨y',ys'',rfl,Jk,agG⟩:=qu.cons_inv
   simp[xg]
   exact .tZ (by simpa using aA.cons hv (aA.cons Jk agG))
def T8 (P:Program) (tt:TT) (G:T cL):Prop:=
 ∀p F,G.get p=some F-> ∃fn,P.funcs[p.toNat - 1]? =some fn/\(fn.name== "runtime.NumGoroutine")=false/\YQ tt fn=some F
def qI (P:Program) (C:Cells) (O:dQ):Prop:=
 ∀  (f:FuncId) (s:List AV->St->Option (AV×St)),O f=some s->
    ∀(ρ:Pos->Loc) (st:St) (w:World) (args:List AV) (v:AV) (st':St) (bQ:List Value),s args st=some (v,st')->
     bA ρ C st w->aA ρ st.next.toNat C args bQ->Reaches P (jY ρ C st w v st') ((callFunc f bQ.toArray).run P w)
theorem KP {ρ:Pos->Loc} {n:Nat} {tmps:Array Value}: ∀(vs:List AV) (xs:List Value) (i:Nat) (fr:Fr),aA ρ n C vs xs->
  (∀(j:Nat) (x:Value),xs[j]? =some x->tmps[i+j]? =some x)->mC ρ n C fr tmps->mC ρ n C (params i vs fr) tmps
 |[],_,_,_,_,_,hF=>hF
 |v ::vs,xs,i,fr,h,hx,hF=>by
  obtain ⟨x,yg,rfl,hv,qu⟩:=h.cons_inv
  unfold params
  refine KP vs yg (i+1) _ qu (fun j y hy=>by rw[<-hx (j+1) y (by simpa using hy)];congr 1;omega) fun p u hp=> ?_
  by_cases hpe:key i=p
  . subst hpe
    rw[T.fq] at hp
    simp only[Option.some.injEq] at hp;subst hp
    exact ⟨x,by rw[iO,Nat.add_sub_cancel];exact hx 0 x rfl,hv⟩
  . rw[T.bK _ hpe] at hp
    exact hF p u hp
theorem RN (hT:cr P tt) {O:dQ} {G:T cL} (hO:qI P C O) (hG:T8 P tt G) (m:Nat) (zh: ∀d,jS P C (od O G m d)->Oa P tt C (od O G m d)): ∀d,jS P C (od O G m d)
 |0=>fun ρ st w f args v st' bQ h=>by simp[od] at h
 |d +   1 =>by
  intro ρ st w f args v st' bQ h hW xq
  have ih:=RN hT hO hG m zh d
  unfold od at h
  split at h
  . rename_i s hs
    exact hO f s hs ρ st w args v st' bQ h hW xq
  . split at h<;>first|(cases h;done)|skip
    rename_i F hF
    split at h<;>first|(cases h;done)|skip
    rename_i hlen
    have hlen:=Nat.eq_of_beq_eq_true hlen
    obtain ⟨fn,kY,qJ,EP⟩:=hG _ _ hF
    rw[iO,Nat.add_sub_cancel] at kY
    unfold YQ at EP
    split at EP<;>first|(cases EP;done)|skip
    rename_i c hb
    split at EP<;>first|(cases EP;done)|skip
    rename_i ac rs hac hrs hle
    simp only[Option.some.injEq] at EP;subst EP
    simp only at h hlen
    have hle:=Nat.le_of_ble_eq_true hle
    have bU:(callFunc f bQ.toArray).run P w= .ok (.enter f bQ.toArray) w:=by
        have ZC: ¬fn.name= "runtime.NumGoroutine" :=by simpa using qJ
        simp[callFunc,kY,ZC,hb]
    rw[bU]
    simp only[Reaches]
    refine calls_of_wp kY hb ?_
    have eI:bQ.length<=fn.ntmps:=by rw[<-xq.1,hlen];exact hle
    have hS:KN fn.ntmps ρ C (params 0 args .e) st { tmps:=bQ.toArray++Array.replicate (fn.ntmps - bQ.toArray.size) undef,defers:=[] } w:=by
        refine ⟨hW,?_,?_,rfl⟩
        . refine KP args bQ 0 .e xq (fun j x hx=> ?_) (fun p v hp=>by rw[T.cX] at hp;cases hp)
          have hj:j<bQ.length:=(List.getElem?_eq_some_iff.1 hx).1
          rw[Nat.zero_add,Array.getElem?_append_left (by simpa using hj)]
          simpa using hx
        . simp;omega
    split at h<;>first|(cases h;done)|skip
    .   rename_i fE bk h1
        split at h<;>first|(cases h;done)|skip
        rename_i vs qu
        simp only[Option.some.injEq,Prod.mk.injEq] at h
        obtain ⟨rfl,rfl⟩:=h
        refine (zi hT ih (zh _ ih) m).1 c ac _ fE st bk .normal ρ _ w _ hac h1 hS fun a' w' hp=> ?_
        obtain ⟨ig,uj,k1,k2,k3⟩:=hp
        obtain ⟨y,Rx,Ry⟩:=xp hT uj.W uj.F hrs qu
        exact ⟨uj.defers,y,Rx,ig,Ry,k1,k2,uj.W,k3⟩
    .   rename_i fE bk h1
        split at h<;>first|(cases h;done)|skip
        rename_i vs qu
        simp only[Option.some.injEq,Prod.mk.injEq] at h
        obtain ⟨rfl,rfl⟩:=h
        refine (zi hT ih (zh _ ih) m).1 c ac _ fE st bk .ret ρ _ w _ hac h1 hS fun a' w' hp=> ?_
        obtain ⟨ig,uj,k1,k2,k3⟩:=hp
        obtain ⟨y,Rx,Ry⟩:=xp hT uj.W uj.F hrs qu
        exact ⟨uj.defers,y,Rx,ig,Ry,k1,k2,uj.W,k3⟩
end
end
end Go.Ai
