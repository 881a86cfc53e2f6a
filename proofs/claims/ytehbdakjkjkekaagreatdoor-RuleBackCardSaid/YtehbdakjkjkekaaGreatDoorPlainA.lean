/- Functions of the program as plain functions. -/
import Derived.Test.YtehbdakjkjkekaaGreatDoorTabs
import Derived.Test.YtehbdakjkjkekaaGreatDoorEvalD
import Derived.Test.YtehbdakjkjkekaaGreatDoorEvalE
import Derived.Test.YtehbdakjkjkekaaGreatDoorWalkC
import Derived.Test.YtehbdakjkjkekaaGreatDoorWalkA
import Derived.Lib.LaidTab
import Derived.Lib.AppendIntMem
set_option linter.all false
set_option linter.unusedSectionVars false
set_option linter.deprecated false
section
noncomputable section
namespace Go.Proofs
open Go Go.Ai Go.RowKit Go.af Go.Proofs.YtehbdakjkjkekaaGreatDoor
def af.jd (b:ByteArray):List Nat:=b.data.toList.map UInt8.toNat
def af.r8 (r:af.RR):List AV:=[.int .u8 r.k,.int .i64 r.wt,.str (af.jd r.a),.str (af.jd r.b),.str (af.jd r.t),.int .i64 r.n]
def af.EZ:Int ⊕ af.RR->AV
 | .inl e=> .tuple [.agg [.int .u8 0,.int .i64 0,.str [],.str [],.str [],.int .i64 0],.int .i64 e]
 | .inr r=> .tuple [.agg (af.r8 r),.int .i64 0]
theorem JA {P:Program} {C:Cells} {f:FuncId} {fn:Func} {c:Code} {s:List AV->St->Option (AV×St)} (hf:P.funcs[f]? =some fn) (lT: ¬fn.name= "runtime.NumGoroutine") (hb:fn.body=some c)
  (hs: ∀args st v st',s args st=some (v,st')->st'=st)
  (h: ∀(ρ:Pos->Go.Ai.Loc) (st:St) (w:World) (args:List AV) (v:AV) (bl:List Value),s args st=some (v,st)->bn ρ C st w->aq ρ st.next.toNat C args bl->
   Calls P f bl.toArray w fun e w'=>(∃x,e= .returned x/\ax ρ st.next.toNat C v x)/\Below w.heap.size w w'):mC P C f s where
 mono args st v st' hh:=by rw[hs _ _ _ _ hh];exact Nat.le_refl _
 runs ρ st w args v st' bl hh hW hv:=by
  have:=hs _ _ _ _ hh;subst this
  have bH:(callFunc f bl.toArray).run P w= .ok (.enter f bl.toArray) w:=by simp[callFunc,hf,lT,hb]
  rw[bH]
  refine Calls.mono (h ρ _ w args v bl hh hW hv) fun e w' he=> ?_
  obtain ⟨⟨x,rfl,hx⟩,PL⟩:=he
  exact ⟨ρ,hx,fun _ _=>rfl,Nat.le_refl _,hW.later PL,jY.later hW PL⟩
def TG:List AV->St->Option (AV×St)
 |[v],st=>some (v,st)
 |_,_=>none
theorem YP {P:Program} {C:Cells} {f:FuncId} {fn:Func} (hf:P.funcs[f]? =some fn) (lT:(fn.name== "runtime.NumGoroutine")=false) (hb:fn.body.isNone=true)
  (hx:Extern.findNext fn=none) (he:Extern.find fn=some Extern.AbiNoEscape.same):mC P C f TG where
 mono args st v st' h:=by
  unfold TG at h
  split at h<;>cases h
  exact Nat.le_refl _
 runs ρ st w args v st' bl h hW hv:=by
  unfold TG at h
  split at h<;>cases h
  obtain ⟨x,xs,rfl,h1,h2⟩:=hv.cons_inv
  have:=h2.iE;subst this
  have bH:(callFunc f [x].toArray).run P w= .ok (.value x) w:=by
   rw[run_callFunc_extern hf lT hb hx he]
   show ((Extern.AbiNoEscape.same #[x]).run P w).andThen _=_
   rw[Lib.run_noEscape]
   rfl
  rw[bH]
  exact ⟨ρ,h1,fun _ _=>rfl,Nat.le_refl _,hW,jY.refl _ _ _⟩
def wN:List AV->Option (List (List Nat))
 |[]=>some []
 |  .str s::l=>match wN l with
    |some r=>some (s::r)
    |none=>none
 |_=>none
def e8 (sep:List Nat):List (List Nat)->List Nat
 |[]=>[]
 |[x]=>x
 |x::y::r=>x++(sep++e8 sep (y::r))
def BZ:List AV->St->Option (AV×St)
 |  [.slice b o n _ 1,.str sep],st=>match st.heap.get b with
    |some (.cells cs _)=>match cut cs o n with
     |some vs=>match wN vs with
      |some l=>match Nat.blt 0 n,Nat.ble n 1000000,Nat.ble (e8 sep l).length 140737488355328 with
       |true,true,true=>some (.str (e8 sep l),st)
       |_,_,_=>none
      |none=>none
     |none=>none
    |_=>none
 |_,_=>none
theorem IN {ρ:Pos->Go.Ai.Loc} {n:Nat} {C:Cells}: ∀{vs:List AV} {l:List (List Nat)} {xs:List Value},wN vs=some l->aq ρ n C vs xs-> ∃bs:List ByteArray,xs=bs.map Value.string/\l=bs.map af.jd
 |[],l,xs,h,hv=>by
  simp only[wN,Option.some.injEq] at h;subst h
  have:=hv.iE;subst this
  exact ⟨[],rfl,rfl⟩
 |v ::vs,l,xs,h,hv=>by
  unfold wN at h
  split at h<;>first|(cases h;done)|skip
  . rename_i heq;cases heq
  . rename_i s Xz heq
    simp only[List.cons.injEq] at heq
    obtain ⟨rfl,rfl⟩:=heq
    split at h<;>first|(cases h;done)|skip
    rename_i r hr
    simp only[Option.some.injEq] at h;subst h
    obtain ⟨x,pY,rfl,h1,h2⟩:=hv.cons_inv
    obtain ⟨b,rfl,hb⟩:=h1.cv
    obtain ⟨bs,rfl,rfl⟩:=IN hr h2
    exact ⟨b::bs,rfl,by rw[<-hb];rfl⟩
theorem Nq (sep:ByteArray): ∀bs:List ByteArray,e8 (af.jd sep) (bs.map af.jd)=(Lib.join (bs.map (·.data.toList)) sep.data.toList).map UInt8.toNat
 |[]=>rfl
 |[x]=>by simp[e8,Lib.join_one,af.jd]
 |x::y::r=>by
  have ih:=Nq sep (y::r)
  simp only[List.map_cons,e8] at ih ⊢
  rw[ih]
  simp only[Lib.join,List.intercalate,List.intersperse,af.jd,List.flatten_cons,List.map_append]
theorem RA {C:Cells}:mC Tryz.prog C 34 BZ:=
 JA Tryz.func34 (by decide) rfl (fun args st v st' h=>by
  unfold BZ at h
  repeat' split at h
  all_goals first|(cases h;done)|skip
  all_goals (injection h with h;injection h with h1 h2;exact h2.symm)) fun ρ st w args v bl h hW hv=>by
  unfold BZ at h
  split at h<;>first|(cases h;done)|skip
  rename_i b o n cp sep
  split at h<;>first|(cases h;done)|skip
  rename_i cs fz hb
  split at h<;>first|(cases h;done)|skip
  rename_i vs hcut
  split at h<;>first|(cases h;done)|skip
  rename_i l hl
  split at h<;>first|(cases h;done)|skip
  rename_i h0 hn hlen
  have h0:0<n:=by simpa using h0
  have hn:=Nat.le_of_ble_eq_true hn
  have hlen:=Nat.le_of_ble_eq_true hlen
  simp only[Option.some.injEq,Prod.mk.injEq,and_true] at h
  subst h
  obtain ⟨x,xs,rfl,h1,h2⟩:=hv.cons_inv
  obtain ⟨y,ys,rfl,h3,h4⟩:=h2.cons_inv
  have:=h4.iE;subst this
  obtain ⟨sp,rfl,rM⟩:=h3.cv
  obtain ⟨a,aH,rfl,hle,_,ha⟩:=h1.cE
  obtain ⟨XW,rfl,hbound⟩:=ha (by omega)
  obtain ⟨_,qE,c,e,fr,g1,g2,g3,g4,g5⟩:=hW.live b _ hb
  obtain ⟨CU,hc2⟩:=uq hcut
  have RV:=nY hcut
  have lS:aq ρ st.next.toNat C vs ((c.toList.drop ((ρ b).base+o)).take n):=by
    have h:=(g4.drop o).take n
    rw[<-CU] at h
    have e:List.take n (List.drop o (List.take cs.length (List.drop (ρ b).base c.toList)))=(c.toList.drop ((ρ b).base+o)).take n:=by
        rw[List.drop_take,List.take_take,List.drop_drop,Nat.min_eq_left (by omega)]
    rw[e] at h
    exact h
  obtain ⟨bs,jJ,rfl⟩:=IN hl lS
  have iH:bs.length=n:=by
    have:=lS.1
    rw[jJ,List.length_map] at this
    omega
  have hj:=Nq sp bs
  rw[show sep=af.jd sp from rM.symm] at hlen ⊢
  rw[hj] at hlen ⊢
  rw[List.length_map] at hlen
  subst iH
  refine Calls.mono (Tryz.strings_Join (ρ b).aA ((ρ b).base+o) aH bs sp w (fun j x hx=> ?_) qE (by omega) hle hlen) fun e w' he=> ?_
  . have hj:j<bs.length:=(List.getElem?_eq_some_iff.1 hx).1
    have:((c.toList.drop ((ρ b).base+o)).take bs.length)[j]? =some (.string x):=by rw[jJ];simp[hx]
    rw[List.getElem?_take,if_pos hj,List.getElem?_drop] at this
    simpa [World.cell?,g1] using this
  . obtain ⟨rfl,PL⟩:=he
    exact ⟨⟨_,rfl,.str _ _ rfl⟩,PL⟩
def dm (n:Int):List Nat:=(Lib.itoa n).map UInt8.toNat
def BX:List AV->St->Option (AV×St)
 |  [.int .i64 n],st=>match Int.decLe (-9223372036854775808) n,Int.decLe n 9223372036854775807 with
    | .isTrue _,.isTrue _=>some (.str (dm n),st)
    |_,_=>none
 |_,_=>none
def xR (C:Cells):Prop:= ∀w:World,(∀ad v,C ad=some v->w.cell? ad=some v)->(∀a v,C a=some v-> ∀o,C ⟨a.block,o,none⟩=none->w.cell? ⟨a.block,o,none⟩=none)->Lib.TabIs Tryz.prog w "internal/strconv.uint64pow10" .u64 Lib.pow10Tab
theorem RB {C:Cells} (hC:xR C):mC Tryz.prog C 33 BX:=
 JA Tryz.func33 (by decide) rfl (fun args st v st' h=>by
  unfold BX at h
  repeat' split at h
  all_goals first|(cases h;done)|skip
  all_goals (injection h with h;injection h with h1 h2;exact h2.symm)) fun ρ st w args v bl h hW hv=>by
  unfold BX at h
  split at h<;>first|(cases h;done)|skip
  rename_i n
  split at h<;>first|(cases h;done)|skip
  rename_i h1 h2 _ _
  simp only[Option.some.injEq,Prod.mk.injEq,and_true] at h
  subst h
  obtain ⟨x,xs,rfl,h3,h4⟩:=hv.cons_inv
  have:=h4.iE;subst this
  have:=h3.gy;subst this
  refine Calls.mono (Tryz.strconv_Itoa n h1 h2 w (hC w (fun ad v ha=>(hW.cj ad v ha).1) hW.whole)) fun e w' he=> ?_
  obtain ⟨rfl,k,os,rfl⟩:=he
  exact ⟨⟨_,rfl,.str _ _ rfl⟩,Lib.below_grow _ w (Nat.le_refl _) k os⟩
def B4:List AV->St->Option (AV×St)
 |  [.str t],st=>match Nat.ble t.length 2097152 with
    |true=>some (af.EZ (af.js (af.aD t)),st)
    |false=>none
 |_,_=>none
theorem TH {t:List Nat} {bs:ByteArray} (h:bs.data.toList.map UInt8.toNat=t):bs.size=t.length:=by
 rw[<-h];simp
theorem TJ {ρ:Pos->Go.Ai.Loc} {n:Nat} {C:Cells} (x:Int ⊕ af.RR):ax ρ n C (af.EZ x) (af.valOf x):=by
 cases x with
 |inl e=>
  exact .jQ (aq.cons (.rI (aq.cons (.int _ _) (aq.cons (.int _ _) (aq.cons (.str _ _ rfl) (aq.cons (.str _ _ rfl) (aq.cons (.str _ _ rfl) (aq.cons (.int _ _) aq.nil))))))) (aq.cons (.int _ _) aq.nil))
 |inr r=>
  exact .jQ (aq.cons (.rI (aq.cons (.int _ _) (aq.cons (.int _ _) (aq.cons (.str _ _ rfl) (aq.cons (.str _ _ rfl) (aq.cons (.str _ _ rfl) (aq.cons (.int _ _) aq.nil))))))) (aq.cons (.int _ _) aq.nil))
theorem RD {C:Cells} {m:Int} (hC:C ⟨1,0,none⟩=some (.int .i64 m)):mC Tryz.prog C 35 B4:=
 JA Tryz.func35 (by decide) rfl (fun args st v st' h=>by
  unfold B4 at h
  repeat' split at h
  all_goals first|(cases h;done)|skip
  all_goals (injection h with h;injection h with h1 h2;exact h2.symm)) fun ρ st w args v bl h hW hv=>by
  unfold B4 at h
  split at h<;>first|(cases h;done)|skip
  rename_i t
  split at h<;>first|(cases h;done)|skip
  rename_i hle
  have hle:=Nat.le_of_ble_eq_true hle
  simp only[Option.some.injEq,Prod.mk.injEq,and_true] at h
  subst h
  obtain ⟨x,xs,rfl,h3,h4⟩:=hv.cons_inv
  have:=h4.iE;subst this
  obtain ⟨bs,rfl,hs⟩:=h3.cv
  have jJ:=af.GF hs
  refine Calls.mono (af.line bs m w (by rw[TH hs];exact hle) (hW.cj _ _ hC).1) fun e w' he=> ?_
  obtain ⟨rfl,PL⟩:=he
  rw[<-jJ]
  exact ⟨⟨_,rfl,TJ _⟩,PL⟩
def uI:List AV->St->Option (AV×St)
 |  [.str t],st=>match Nat.ble t.length maxLen with
    |true=>match (af.gH (af.aD t)).2.2 with
     |[]=>some (.tuple [.ai,.int .i64 (af.gH (af.aD t)).2.1,.int .i64 (af.gH (af.aD t)).1],st)
     |r::rs=>some (.tuple [.slice st.next 0 (rs.length+1) none 6,.int .i64 (af.gH (af.aD t)).2.1,.int .i64 (af.gH (af.aD t)).1],st.aE none none (some (.cells ((r::rs).flatMap af.r8) 0)))
    |false=>none
 |_,_=>none
theorem PM {ρ:Pos->Go.Ai.Loc} {n:Nat} {C:Cells}: ∀rs:List af.RR,aq ρ n C (rs.flatMap af.r8) (af.cellsOf rs)
 |[]=>aq.nil
 |r::rs=>by
  have:=(show aq ρ n C (af.r8 r) r.cells from aq.cons (.int _ _) (aq.cons (.int _ _) (aq.cons (.str _ _ rfl) (aq.cons (.str _ _ rfl) (aq.cons (.str _ _ rfl) (aq.cons (.int _ _) aq.nil)))))).append (PM rs)
  simpa [af.cellsOf] using this
set_option maxRecDepth 100000 in
theorem G2 {C:Cells} {m:Int} (hC:C ⟨1,0,none⟩=some (.int .i64 m)):mC Tryz.prog C 9 uI where
 mono args st v st' h:=by
  unfold uI at h
  split at h<;>first|(cases h;done)|skip
  split at h<;>first|(cases h;done)|skip
  split at h
  . injection h with h;injection h with h1 h2;subst h2;exact Nat.le_refl _
  . injection h with h;injection h with h1 h2;subst h2;exact St.tG _ _ _ _
 runs ρ st w args v st' bl h hW hv:=by
  unfold uI at h
  split at h<;>first|(cases h;done)|skip
  rename_i t
  split at h<;>first|(cases h;done)|skip
  rename_i hle
  obtain ⟨x,xs,rfl,h1,h2⟩:=hv.cons_inv
  have:=h2.iE;subst this
  obtain ⟨bs,rfl,hs⟩:=h1.cv
  have jJ:=af.GF hs
  have hm:=(hW.cj _ _ hC).1
  have hc:Calls Tryz.prog 9 #[.string bs] w (af.IP bs w):=by
    by_cases dM:bs.size<=65536
    .   exact af.TM (fun s m w h=>af.line s m w (Nat.le_trans h (by decide))) bs m w dM hm
    .   exact af.Rf bs w (by omega) (by rw[TH hs];exact Nat.le_of_ble_eq_true hle)
  have bH:(callFunc 9 ([Value.string bs]:List Value).toArray).run Tryz.prog w= .ok (.enter 9 #[.string bs]) w:=enters_of Tryz.func9 (by kernel_rfl) rfl _ _
  rw[bH]
  refine Calls.mono hc fun e w' LJ=> ?_
  obtain ⟨v',he,eX,hb,wX⟩:=LJ
  rw[jJ] at he eX wX
  subst he
  split at h
  . rename_i jD
    injection h with h;injection h with e1 e2;subst e1;subst e2
    have u7:=wX (.inr jD)
    subst u7
    exact ⟨ρ,.jQ (aq.cons .ai (aq.cons (.int _ _) (aq.cons (.int _ _) aq.nil))),fun _ _=>rfl,Nat.le_refl _,hW.later hb,jY.later hW hb⟩
  . rename_i r rs ES
    injection h with h;injection h with e1 e2;subst e1;subst e2
    rw[ES] at eX
    rcases eX.2 with ⟨_,h0⟩|⟨g,cap,cur,rfl,hg,TN,tE,hcm,Nr,Rg⟩
    .   simp at h0
    .   have IB:=(Array.getElem?_eq_some_iff.1 TN).1
        have hrel:=fun ρ' n'=>PM (ρ:=ρ') (n:=n') (C:=C) (r::rs)
        have hlen:((r::rs).flatMap af.r8).length=(r::rs).length*6:=by
         rw[(hrel ρ 0).1,af.Ac]
        obtain ⟨ρ',aL,ck,di,hE⟩:=TO (x0:= .cells ((r::rs).flatMap af.r8) 0) (base:=0) (size:=cur.size) hW hb hg IB (fun ρ' n' _ _=>
         nJ TN (by rw[hlen,Nr];exact Nat.mul_le_mul_right _ tE) (by rw[hlen,Rg];exact hrel _ _) (fun i _=>by simp))
        refine ⟨ρ',.jQ (aq.cons ?_ (aq.cons (.int _ _) (aq.cons (.int _ _) aq.nil))),aL,St.tG _ _ _ _,di,hE⟩
        exact oX (by simp[St.aE,Pos.az]) ck (by simpa using tE) (fun c hc=>by cases hc) (by rw[Nr];exact Nat.le_refl _)
end Go.Proofs
namespace Go.Proofs.YtehbdakjkjkekaaGreatDoor
open Go Go.Ai Go.Proofs
def yP:eE:=qt [(277,uZ),(6,EW),(175,TG),(34,BZ),(33,BX),(35,B4),(9,uI)]
def Sem (c:ak):Prop:=c=run yP gg
theorem Sem.of {c:ak} (hc:Sem c) {f:FuncId} {A:aN} {F:Nat} {L:Env (AV×St)} {s:Sh} {args:List AV} {st:St} {r:AV×St} (ho:yP f=none) (hF:gg.get (key f)=some A)
  (hL: ∀x∈cK A.code s,dP c F L x.1 x.2) (h:qJ c F L A s args st=some r):c f args st=some (tidy st r):=by
 subst hc;exact Mt ho hF hL h
theorem Sem.IQ {c:ak} (hc:Sem c) {f:FuncId} {A:aN} {F:Nat} {s:Sh} {args:List AV} {st:St} {r:AV×St} {k:Option (AV×St)} (ho:yP f=none) (hF:gg.get (key f)=some A)
  (hl:cK A.code s=[]) (hd:qJ c F (n9 []) A s args st=k) (h:k=some r):c f args st=some (tidy st r):=
 hc.of (L:=n9 []) ho hF (by rw[hl];intro x hx;cases hx) (hd.trans h)
theorem On {c:ak} (hc:Sem c) (v:AV) (st:St):c 175 [v] st=some (v,st):=by
 subst hc;exact rW (O:=yP) (s:=TG) rfl rfl
theorem Zs {c:ak} (hc:Sem c) {args:List AV} {st:St} {r:AV×St} (h:BZ args st=some r):c 34 args st=some r:=by
 subst hc;exact rW (O:=yP) (s:=BZ) rfl h
theorem Zq {c:ak} (hc:Sem c) {args:List AV} {st:St} {r:AV×St} (h:BX args st=some r):c 33 args st=some r:=by
 subst hc;exact rW (O:=yP) (s:=BX) rfl h
theorem Zu {c:ak} (hc:Sem c) {args:List AV} {st:St} {r:AV×St} (h:B4 args st=some r):c 35 args st=some r:=by
 subst hc;exact rW (O:=yP) (s:=B4) rfl h
end Go.Proofs.YtehbdakjkjkekaaGreatDoor
end
section
set_option maxRecDepth 100000
noncomputable section
namespace Go.Proofs.YtehbdakjkjkekaaGreatDoor
open Go Go.Ai Go.Proofs
def frzC (f:FuncId):List AV->St->Option (AV×St):=DP (run yP gg) f 4
def Bf:eE:=qt [(277,uZ),(6,EW),(7,frzC 7),(9,uI)]
def dS (c:ak):Prop:=c=run Bf gg
theorem dS.of {c:ak} (hc:dS c) {f:FuncId} {A:aN} {F:Nat} {L:Env (AV×St)} {s:Sh} {args:List AV} {st:St} {r:AV×St} (ho:Bf f=none) (hF:gg.get (key f)=some A)
  (hL: ∀x∈cK A.code s,dP c F L x.1 x.2) (h:qJ c F L A s args st=some r):c f args st=some (tidy st r):=by
 subst hc;exact Mt ho hF hL h
theorem dS.IQ {c:ak} (hc:dS c) {f:FuncId} {A:aN} {F:Nat} {s:Sh} {args:List AV} {st:St} {r:AV×St} {k:Option (AV×St)} (ho:Bf f=none) (hF:gg.get (key f)=some A)
  (hl:cK A.code s=[]) (hd:qJ c F (n9 []) A s args st=k) (h:k=some r):c f args st=some (tidy st r):=
 hc.of (L:=n9 []) ho hF (by rw[hl];intro x hx;cases hx) (hd.trans h)
theorem dS.at {c:ak} (hc:dS c) {f:FuncId} {s:List AV->St->Option (AV×St)} {args:List AV} {st:St} {r:AV×St} (ho:Bf f=some s) (h:s args st=some r):c f args st=some r:=by
 subst hc;exact rW ho h
end Go.Proofs.YtehbdakjkjkekaaGreatDoor
end
section
set_option linter.all false
set_option maxRecDepth 100000
noncomputable section
namespace Go.Proofs.YtehbdakjkjkekaaGreatDoor
open Go Go.Ai Go.Proofs
def jT:aN:=g7.getD default
def lC:Sh:=(.seq none .leaf (.seq none (.seq none .leaf (.cond (.seq none .leaf .leaf) .leaf)) (.seq none .leaf (.seq none .leaf (.seq none (.seq none .leaf (.block (.loop 0 [(.o (.o .h)),(.i (.o .h)),(.i (.i (.o (.o .h)))),(.o (.o (.i (.o .h)))),(.i (.o (.i (.o .h))))] [(1,[(.i .h)]),(2,[(.o (.o .h))])] (.seq none .leaf (.seq none (.cond .leaf .leaf) (.seq (some [(.o (.o .h)),(.i (.o .h)),(.i (.i (.o (.o .h)))),(.o (.o (.i (.o .h)))),(.i (.o (.i (.o .h))))]) (.block (.seq none .leaf (.seq none .leaf (.seq none .leaf (.seq (some [(.o (.o .h)),(.i (.o .h)),(.i (.i .h)),(.o (.o (.o .h))),(.i (.o (.o .h))),(.i (.i (.o (.o .h)))),(.o (.o (.i (.o .h)))),(.i (.o (.i (.o .h))))]) (.seq none .leaf (.cond .leaf .leaf)) (.seq none .leaf (.seq none (.seq none .leaf (.block (.loop 1 [(.o (.o .h)),(.i (.o .h)),(.i (.i .h)),(.o (.o (.o .h))),(.i (.o (.o .h))),(.i (.i (.o (.o .h)))),(.o (.o (.i (.o .h)))),(.i (.o (.i (.o .h)))),(.i (.i (.o (.i (.i .h))))),(.o (.o (.i (.i (.i .h))))),(.i (.o (.i (.i (.i .h)))))] [(4,[(.o (.o .h)),(.i (.o .h)),(.i (.i .h)),(.o (.o (.o .h))),(.i (.o (.o .h))),(.i (.i (.o (.o .h)))),(.o (.o (.i (.o .h)))),(.i (.o (.i (.o .h))))])] (.seq none .leaf (.seq none (.cond .leaf .leaf) (.seq (some [(.o (.o .h)),(.i (.o .h)),(.i (.i .h)),(.o (.o (.o .h))),(.i (.o (.o .h))),(.i (.i (.o (.o .h)))),(.o (.o (.i (.o .h)))),(.i (.o (.i (.o .h)))),(.i (.i (.o (.i (.i .h))))),(.o (.o (.i (.i (.i .h))))),(.i (.o (.i (.i (.i .h)))))]) (.block (.seq none .leaf (.seq (some [(.o (.o .h)),(.i (.o .h)),(.i (.i .h)),(.o (.o (.o .h))),(.i (.o (.o .h))),(.i (.i (.o .h))),(.i (.i (.o (.o .h)))),(.o (.o (.i (.o .h)))),(.i (.o (.i (.o .h)))),(.i (.i (.o (.i (.i .h))))),(.o (.o (.i (.i (.i .h))))),(.i (.o (.i (.i (.i .h)))))]) (.seq none .leaf (.cond .leaf .leaf)) (.seq none .leaf (.cond .leaf .leaf))))) .leaf)))))) (.seq (some [(.o (.o .h)),(.i (.o .h)),(.i (.i .h)),(.i (.o (.o .h))),(.i (.i (.o (.o .h)))),(.o (.o (.i (.o .h)))),(.i (.o (.i (.o .h))))]) (.seq none .leaf (.cond .leaf .leaf)) (.seq none .leaf (.seq none (.seq none .leaf (.seq none .leaf (.cond (.seq none .leaf .leaf) .leaf))) .leaf)))))))))) .leaf)))))) (.seq none .leaf .leaf))))))
def fy (c:ak) (F:Nat) (k4:List AV->St->Option (AV×St)):Nat->List AV->St->Option (AV×St)
 |0,_,_=>none
 |n+1,vs,s=>au vs fun x3 vs=>au vs fun x4 vs=>au vs fun x6 vs=>au vs fun x7 vs=>au vs fun x8 vs=>au vs fun cW vs=>au vs fun ek vs=>au vs fun dH vs=>au vs fun gJ vs=>au vs fun jg vs=>au vs fun ni vs=>bW vs (
 ag c (.bin .lss .num) [ni,jg] s fun Ad yB=>
 b9 Ad  (
    cI (fun j63=>
    ag c (.idxA 2 none) [gJ,ni] yB fun Ae Af=>
    ag c (.load (some 2)) [Ae] Af fun Ag Ah=>
    ag c (.alloc [(.bool false),(.str [])]) [] Ah fun eJ yC=>
    ag c (.store 2) [eJ,Ag] yC fun _ Aj=>
    cI (fun j69=>
     ag c (.fieldA 0) [eJ] Aj fun wY CV=>
     ag c (.load none) [wY] CV fun Ak CW=>
     ag c .move [Ak] CW fun vn D7=>
     cS c vn true (.fieldA 1) [eJ] D7 fun Al Am=>
     cS c vn true (.load none) [Al] Am fun An wZ=>
     cS c vn true (.bin .eql .num) [An,(.str [])] wZ fun Ao Ap=>
     ag c .pick [vn,Ao,(.bool false)] Ap fun Aq yD=>
     b9 Aq (
        ag c (.fieldA 1) [eJ] yD fun yE Ar=>
        ag c (.store 1) [yE,(.str [45])] Ar fun _ At=>
        j69 [x3,x4,x6,x7,x8,eJ,cW,ek,dH,gJ,jg,ni] At) (
        j69 [x3,x4,x6,x7,x8,eJ,cW,ek,dH,gJ,jg,ni] yD))
    (fun vs D8=>au vs fun x3 vs=>au vs fun x4 vs=>au vs fun x6 vs=>au vs fun x7 vs=>au vs fun x8 vs=>au vs fun eJ vs=>au vs fun cW vs=>au vs fun ek vs=>au vs fun dH vs=>au vs fun gJ vs=>au vs fun jg vs=>au vs fun ni vs=>bW vs (
     ag c (.fieldA 0) [eJ] D8 fun Au Av=>
     ag c (.load none) [Au] Av fun Aw w6=>
     b9 Aw (
        ag c .move [x8] w6 fun vo Ay=>
        ag c (.fieldA 1) [eJ] Ay fun yF CX=>
        ag c (.load none) [yF] CX fun Az AA=>
        ag c (.buildSlice 1 1 [(.str [])] [0]) [Az] AA fun AD AE=>
        ag c (.append 1 16) [vo,AD] AE fun AG yG=>
        ag c .move [AG] yG fun x8 CY=>
        j63 [x3,x4,x6,x7,x8,cW,ek,dH,gJ,jg,ni] CY) (
        j63 [x3,x4,x6,x7,x8,cW,ek,dH,gJ,jg,ni] w6))))
 (fun vs yH=>au vs fun x3 vs=>au vs fun x4 vs=>au vs fun x6 vs=>au vs fun x7 vs=>au vs fun x8 vs=>au vs fun cW vs=>au vs fun ek vs=>au vs fun dH vs=>au vs fun gJ vs=>au vs fun jg vs=>au vs fun ni vs=>bW vs (
    ag c (.bin .add .num) [ni,(.int .i64 1)] yH fun AH D9=>
    ag c .move [AH] D9 fun ni pP=>
    fy c F k4 n [x3,x4,x6,x7,x8,cW,ek,dH,gJ,jg,ni] pP))) (
    k4 [x3,x4,x6,x7,x8,cW,ek,dH] yB))
def fV (c:ak) (F:Nat) (k1 k2:List AV->St->Option (AV×St)):Nat->List AV->St->Option (AV×St)
 |0,_,_=>none
 |n+1,vs,s=>au vs fun x3 vs=>au vs fun x4 vs=>au vs fun cW vs=>au vs fun ek vs=>au vs fun dH vs=>bW vs (
 ag c (.bin .lss .num) [dH,ek] s fun qf jf=>
 b9 qf  (
    cI (fun Tz=>
    ag c (.idxA 6 none) [cW,dH] jf fun pQ kQ=>
    ag c (.load (some 6)) [pQ] kQ fun uK kR=>
    ag c (.alloc [(.int .u8 0),(.int .i64 0),(.str []),(.str []),(.str []),(.int .i64 0)]) [] kR fun x6 nh=>
    ag c (.store 6) [x6,uK] nh fun _ kZ=>
    ag c .move [x4] kZ fun uL kG=>
    ag c (.fieldA 0) [x6] kG fun uM mM=>
    ag c (.load none) [uM] mM fun w7 oD=>
    ag c (.lookup .i (.agg [(.str []),(.int .u8 0),(.bool false),(.int .u8 0),(.bool false),(.int .i64 0),(.bool false),.av]) false) [uL,w7] oD fun w9 qg=>
    ag c (.alloc [(.str []),(.int .u8 0),(.bool false),(.int .u8 0),(.bool false),(.int .i64 0),(.bool false),.av]) [] qg fun x7 sj=>
    ag c (.store 8) [x7,w9] sj fun _ uN=>
    ag c (.buildSlice 1 1 [(.str [])] [0]) [(.str [104,97,114,100])] uN fun xe su=>
    ag c .move [xe] su fun x8 sw=>
    cI (fun j26=>
     ag c (.fieldA 1) [x6] sw fun xj sU=>
     ag c (.load none) [xj] sU fun xk uO=>
     ag c (.bin .gtr .num) [xk,(.int .i64 0)] uO fun xo sV=>
     b9 xo (
        ag c (.fieldA 1) [x6] sV fun xp sW=>
        ag c (.load none) [xp] sW fun xq uP=>
        ag c (.callF 33) [xq] uP fun xw sY=>
        ag c (.buildSlice 1 2 [(.str [])] [0,1]) [(.str [119,101,105,103,104]),xw] sY fun xx sZ=>
        ag c .move [xx] sZ fun x8 vp=>
        j26 [x3,x4,x6,x7,x8,cW,ek,dH] vp) (
        j26 [x3,x4,x6,x7,x8,cW,ek,dH] sV))
    (fun vs ru=>au vs fun x3 vs=>au vs fun x4 vs=>au vs fun x6 vs=>au vs fun x7 vs=>au vs fun x8 vs=>au vs fun cW vs=>au vs fun ek vs=>au vs fun dH vs=>bW vs (
     ag c .move [x8] ru fun xz uQ=>
     ag c (.fieldA 0) [x7] uQ fun vq xA=>
     ag c (.load none) [vq] xA fun AI uR=>
     ag c (.buildSlice 1 1 [(.str [])] [0]) [AI] uR fun AK uS=>
     ag c (.append 1 16) [xz,AK] uS fun AL CZ=>
     ag c .move [AL] CZ fun x8 td=>
     ag c (.fieldA 1) [x7] td fun AM vr=>
     ag c (.load none) [AM] vr fun AN AO=>
     ag c (.bin .neq .num) [AN,(.int .u8 0)] AO fun AP vt=>
     ag c (.fieldA 2) [x6] vt fun AQ sx=>
     ag c (.load none) [AQ] sx fun vu AR=>
     ag c (.build [(.bool false),(.str [])] [(0,1),(1,1)]) [AP,vu] AR fun AS C2=>
     ag c (.fieldA 2) [x7] C2 fun AT AU=>
     ag c (.load none) [AT] AU fun AW yI=>
     ag c (.fieldA 3) [x6] yI fun o9 Ec=>
     ag c (.load none) [o9] Ec fun vw xB=>
     ag c (.build [(.bool false),(.str [])] [(0,1),(1,1)]) [AW,vw] xB fun AX AY=>
     ag c (.fieldA 3) [x7] AY fun xC vz=>
     ag c (.load none) [xC] vz fun AZ yJ=>
     ag c (.bin .neq .num) [AZ,(.int .u8 0)] yJ fun A3 A4=>
     ag c (.fieldA 4) [x6] A4 fun A5 xD=>
     ag c (.load none) [A5] xD fun xE A6=>
     ag c (.build [(.bool false),(.str [])] [(0,1),(1,1)]) [A3,xE] A6 fun A7 Ed=>
     ag c (.buildSlice 2 3 [(.bool false),(.str [])] [0,1,2]) [AS,AX,A7] Ed fun gJ C3=>
     ag c (.lenB .l) [gJ] C3 fun jg C4=>
     ag c .move [(.int .i64 0)] C4 fun ni A8=>
     fy c F (fun vs Ee=>au vs fun x3 vs=>au vs fun x4 vs=>au vs fun x6 vs=>au vs fun x7 vs=>au vs fun x8 vs=>au vs fun cW vs=>au vs fun ek vs=>au vs fun dH vs=>bW vs (
        cI (fun j91=>
        ag c (.fieldA 4) [x7] Ee fun A9 Ef=>
        ag c (.load none) [A9] Ef fun xF vC=>
        b9 xF (
         ag c .move [x8] vC fun vD yK=>
         ag c (.fieldA 5) [x6] yK fun Ba wP=>
         ag c (.load none) [Ba] wP fun Bb uF=>
         ag c (.callF 33) [Bb] uF fun Bc rj=>
         ag c (.buildSlice 1 1 [(.str [])] [0]) [Bc] rj fun uE Eg=>
         ag c (.append 1 16) [vD,uE] Eg fun C5 u5=>
         ag c .move [C5] u5 fun x8 Cg=>
         j91 [x3,x4,x6,x8,cW,ek,dH] Cg) (
         j91 [x3,x4,x6,x8,cW,ek,dH] vC))
     (fun vs yL=>au vs fun x3 vs=>au vs fun x4 vs=>au vs fun x6 vs=>au vs fun x8 vs=>au vs fun cW vs=>au vs fun ek vs=>au vs fun dH vs=>bW vs (
        ag c .move [x8] yL fun Eh Ch=>
        ag c (.callF 34) [Eh,(.str [32])] Ch fun Ei Ci=>
        ag c (.bin .add .num) [Ei,(.str [10])] Ci fun IU Cj=>
        ag c .move [IU] Cj fun dI Ck=>
        ag c .move [dI] Ck fun IV Cl=>
        ag c (.callF 35) [IV] Cl fun Ej Cm=>
        ag c .move [Ej] Cm fun FT Cn=>
        ag c (.extract 0) [FT] Cn fun Ek Co=>
        ag c (.extract 1) [FT] Co fun IW zj=>
        ag c (.alloc [(.int .u8 0),(.int .i64 0),(.str []),(.str []),(.str []),(.int .i64 0)]) [] zj fun cU GG=>
        ag c (.store 6) [cU,Ek] GG fun _ El=>
        ag c .move [IW] El fun eL GH=>
        ag c .move [eL] GH fun IX Em=>
        ag c (.bin .neq .num) [IX,(.int .i64 0)] Em fun IY Ns=>
        ag c .move [IY] Ns fun xG GJ=>
        cS c xG false (.load (some 6)) [cU] GJ fun FU Cp=>
        cS c xG false (.load (some 6)) [x6] Cp fun sy We=>
        cS c xG false (.bin .neq (.struct [(0,.i),(1,.i),(2,.s),(3,.s),(4,.s),(5,.i)])) [FU,sy] We fun Cq GK=>
        ag c .pick [xG,(.bool true),Cq] GK fun Cr JB=>
        b9 Cr (
         ag c .move [(.str [])] JB fun x2 Nt=>
         k1 [x2] Nt) (
         ag c .move [dI] JB fun zk JC=>
        ag c (.callF 36) [x3,zk] JC fun Eo JD=>
        Tz [x3,x4,cW,ek,dH] JD))))) F [x3,x4,x6,x7,x8,cW,ek,dH,gJ,jg,ni] A8)))
 (fun vs kY=>au vs fun x3 vs=>au vs fun x4 vs=>au vs fun cW vs=>au vs fun ek vs=>au vs fun dH vs=>bW vs (
    ag c (.bin .add .num) [dH,(.int .i64 1)] kY fun Cs Nu=>
    ag c .move [Cs] Nu fun dH Nv=>
    fV c F k1 k2 n [x3,x4,cW,ek,dH] Nv))) (
    k2 [x3] jf))
def qd (c:ak) (F:Nat) (x0:AV) (s:St):Option (AV×St):=
 ag c .move [(.str [])] s fun x2 s0=>
 ag c .move [x0] s0 fun gO s1=>
 ag c (.lenB .l) [gO] s1 fun mj s2=>
 ag c (.bin .gtr .num) [mj,(.int .i64 64)] s2 fun mo s3=>
 b9 mo (
    ag c .move [(.str [])] s3 fun x2 s4=>
    some (x2,s4)) (
    ag c (.allocT 81 [.bF,.ai]) [] s3 fun x3 s5=>
 ag c (.callF 32) [] s5 fun k9 s6=>
 ag c .move [k9] s6 fun x4 s7=>
 ag c .move [x0] s7 fun cW s8=>
 ag c (.lenB .l) [cW] s8 fun ek s9=>
 ag c .move [(.int .i64 0)] s9 fun dH j8=>
 fV c F (fun vs Gq=>au vs fun x2 vs=>bW vs (
    some (x2,Gq))) (fun vs DT=>au vs fun x3 vs=>bW vs (
    ag c (.callF 37) [x3] DT fun pV MU=>
 ag c .move [pV] MU fun x2 Gr=>
 some (x2,Gr))) F [x3,x4,cW,ek,dH] j8)
def qz (c:ak) (F:Nat):Env (AV×St):=n9 [(0,fun K n=>fV c F (K 1) (K 2) n),(1,fun K n=>fy c F (K 4) n)]
theorem JE (c:ak) (F:Nat):dP c F (qz c F) (fQ jT lC 0).1 (fQ jT lC 0).2:=iF (j:=0) (ins:=[(.o (.o .h)),(.i (.o .h)),(.i (.i (.o (.o .h)))),(.o (.o (.i (.o .h)))),(.i (.o (.i (.o .h))))]) (outs:=[(1,[(.i .h)]),(2,[(.o (.o .h))])]) (s:=(.seq none .leaf (.seq none (.cond .leaf .leaf) (.seq (some [(.o (.o .h)),(.i (.o .h)),(.i (.i (.o (.o .h)))),(.o (.o (.i (.o .h)))),(.i (.o (.i (.o .h))))]) (.block (.seq none .leaf (.seq none .leaf (.seq none .leaf (.seq (some [(.o (.o .h)),(.i (.o .h)),(.i (.i .h)),(.o (.o (.o .h))),(.i (.o (.o .h))),(.i (.i (.o (.o .h)))),(.o (.o (.i (.o .h)))),(.i (.o (.i (.o .h))))]) (.seq none .leaf (.cond .leaf .leaf)) (.seq none .leaf (.seq none (.seq none .leaf (.block (.loop 1 [(.o (.o .h)),(.i (.o .h)),(.i (.i .h)),(.o (.o (.o .h))),(.i (.o (.o .h))),(.i (.i (.o (.o .h)))),(.o (.o (.i (.o .h)))),(.i (.o (.i (.o .h)))),(.i (.i (.o (.i (.i .h))))),(.o (.o (.i (.i (.i .h))))),(.i (.o (.i (.i (.i .h)))))] [(4,[(.o (.o .h)),(.i (.o .h)),(.i (.i .h)),(.o (.o (.o .h))),(.i (.o (.o .h))),(.i (.i (.o (.o .h)))),(.o (.o (.i (.o .h)))),(.i (.o (.i (.o .h))))])] (.seq none .leaf (.seq none (.cond .leaf .leaf) (.seq (some [(.o (.o .h)),(.i (.o .h)),(.i (.i .h)),(.o (.o (.o .h))),(.i (.o (.o .h))),(.i (.i (.o (.o .h)))),(.o (.o (.i (.o .h)))),(.i (.o (.i (.o .h)))),(.i (.i (.o (.i (.i .h))))),(.o (.o (.i (.i (.i .h))))),(.i (.o (.i (.i (.i .h)))))]) (.block (.seq none .leaf (.seq (some [(.o (.o .h)),(.i (.o .h)),(.i (.i .h)),(.o (.o (.o .h))),(.i (.o (.o .h))),(.i (.i (.o .h))),(.i (.i (.o (.o .h)))),(.o (.o (.i (.o .h)))),(.i (.o (.i (.o .h)))),(.i (.i (.o (.i (.i .h))))),(.o (.o (.i (.i (.i .h))))),(.i (.o (.i (.i (.i .h)))))]) (.seq none .leaf (.cond .leaf .leaf)) (.seq none .leaf (.cond .leaf .leaf))))) .leaf)))))) (.seq (some [(.o (.o .h)),(.i (.o .h)),(.i (.i .h)),(.i (.o (.o .h))),(.i (.i (.o (.o .h)))),(.o (.o (.i (.o .h)))),(.i (.o (.i (.o .h))))]) (.seq none .leaf (.cond .leaf .leaf)) (.seq none .leaf (.seq none (.seq none .leaf (.seq none .leaf (.cond (.seq none .leaf .leaf) .leaf))) .leaf)))))))))) .leaf)))) (by kernel_rfl) (fun _ _ _=>by kernel_rfl) (fun _ _ _ _=>by kernel_rfl)
theorem JF (c:ak) (F:Nat):dP c F (qz c F) (fQ jT lC 1).1 (fQ jT lC 1).2:=iF (j:=1) (ins:=[(.o (.o .h)),(.i (.o .h)),(.i (.i .h)),(.o (.o (.o .h))),(.i (.o (.o .h))),(.i (.i (.o (.o .h)))),(.o (.o (.i (.o .h)))),(.i (.o (.i (.o .h)))),(.i (.i (.o (.i (.i .h))))),(.o (.o (.i (.i (.i .h))))),(.i (.o (.i (.i (.i .h)))))]) (outs:=[(4,[(.o (.o .h)),(.i (.o .h)),(.i (.i .h)),(.o (.o (.o .h))),(.i (.o (.o .h))),(.i (.i (.o (.o .h)))),(.o (.o (.i (.o .h)))),(.i (.o (.i (.o .h))))])]) (s:=(.seq none .leaf (.seq none (.cond .leaf .leaf) (.seq (some [(.o (.o .h)),(.i (.o .h)),(.i (.i .h)),(.o (.o (.o .h))),(.i (.o (.o .h))),(.i (.i (.o (.o .h)))),(.o (.o (.i (.o .h)))),(.i (.o (.i (.o .h)))),(.i (.i (.o (.i (.i .h))))),(.o (.o (.i (.i (.i .h))))),(.i (.o (.i (.i (.i .h)))))]) (.block (.seq none .leaf (.seq (some [(.o (.o .h)),(.i (.o .h)),(.i (.i .h)),(.o (.o (.o .h))),(.i (.o (.o .h))),(.i (.i (.o .h))),(.i (.i (.o (.o .h)))),(.o (.o (.i (.o .h)))),(.i (.o (.i (.o .h)))),(.i (.i (.o (.i (.i .h))))),(.o (.o (.i (.i (.i .h))))),(.i (.o (.i (.i (.i .h)))))]) (.seq none .leaf (.cond .leaf .leaf)) (.seq none .leaf (.cond .leaf .leaf))))) .leaf)))) (by kernel_rfl) (fun _ _ _=>by kernel_rfl) (fun _ _ _ _=>by kernel_rfl)
theorem K5 (c:ak) (F:Nat): ∀x∈cK jT.code lC,dP c F (qz c F) x.1 x.2:=mD 2 (by kernel_rfl) fun i hi=>match i,hi with|0,_=>JE c F|1,_=>JF c F|n+2,h=>absurd h (by omega)
theorem K6 (c:ak) (F:Nat) (x0:AV) (s:St):qJ c F (qz c F) jT lC [x0] s=qd c F x0 s:=by kernel_rfl
theorem yx {c:ak} (hc:Sem c) (F:Nat){x0:AV} {s:St} {r:AV×St} (h:qd c F x0 s=some r):c 7 [x0] s=some (tidy s r):=hc.of (A:=jT) (by kernel_rfl) (by kernel_rfl) (K5 _ F) (by rw[K6];exact h)
def nk:aN:=g8.getD default
def nr:Sh:=(.seq none .leaf (.seq none (.seq none .leaf (.cond (.seq none .leaf .leaf) .leaf)) (.seq none .leaf (.seq none (.seq none .leaf (.block (.loop 0 [.h,(.o (.o .h)),(.i (.o .h))] [(1,[(.i .h)]),(2,[(.o (.o .h))])] (.seq none (.seq none .leaf (.cond .leaf .leaf)) (.seq (some [.h,(.o (.o .h)),(.i (.o .h))]) (.block (.seq none .leaf (.seq none (.seq none .leaf (.cond (.seq none .leaf .leaf) .leaf)) (.seq (some [.h,(.o (.o .h)),(.i (.o .h)),(.o (.i .h))]) (.seq none .leaf (.cond .leaf .leaf)) (.seq (some [.h,(.o (.o .h)),(.i (.o .h)),(.o (.i .h))]) (.seq none .leaf (.cond .leaf .leaf)) (.seq (some [.h,(.o (.o .h)),(.i (.o .h)),(.o (.i .h))]) (.seq none .leaf (.cond .leaf .leaf)) (.seq (some [.h,(.o (.o .h)),(.i (.o .h)),(.o (.i .h))]) (.seq none .leaf (.cond .leaf .leaf)) (.seq (some [.h,(.o (.o .h)),(.i (.o .h))]) (.seq none .leaf (.cond .leaf .leaf)) .leaf)))))))) .leaf))))) (.seq none .leaf .leaf)))))
def qh (c:  ak) (F:Nat) (k1 k2:List AV->St->Option (AV×St)):Nat->List AV->St->Option (AV×St)
 |0,_,_=>none
 |n+1,vs,s=>au vs fun x0 vs=>au vs fun x3 vs=>au vs fun x4 vs=>bW vs (
 ag c .move [x4] s fun x9 s7=>
 ag c .move [x0] s7 fun eJ s8=>
 ag c (.lenB .l) [eJ] s8 fun dI s9=>
 ag c (.bin .lss .num) [x9,dI] s9 fun cU j8=>
 b9 cU  (
    cI (fun j11=>
    ag c .move [x0] j8 fun mj kY=>
    ag c .move [x4] kY fun mo kQ=>
    ag c (.idxA 6 none) [mj,mo] kQ fun k9 kR=>
    ag c (.load (some 6)) [k9] kR fun cW nh=>
    ag c (.alloc [(.int .u8 0),(.int .i64 0),(.str []),(.str []),(.str []),(.int .i64 0)]) [] nh fun x5 kZ=>
    ag c (.store 6) [x5,cW] kZ fun _ kG=>
    ag c (.load (some 6)) [x5] kG fun ek mM=>
    ag c (.callF 38) [ek] mM fun dH oD=>
    ag c (.un .not) [dH] oD fun qf qg=>
    b9 qf (
     ag c .move [(.str [])] qg fun x2 sj=>
     k1 [x2] sj) (
     cI (fun j23=>
     ag c (.fieldA 1) [x5] qg fun pQ sw=>
     ag c (.load none) [pQ] sw fun uK xH=>
     ag c (.bin .eql .num) [uK,(.int .i64 0)] xH fun uL ru=>
     b9 uL (
        ag c .move [x3] ru fun uM sU=>
        ag c (.fieldA 0) [x5] sU fun w7 uO=>
        ag c (.load none) [w7] uO fun w9 sV=>
        ag c (.callF 39) [w9] sV fun xe sW=>
        ag c (.bin .add .num) [(.str [104,97,114,100,32]),xe] sW fun xj uP=>
        ag c (.bin .add .num) [uM,xj] uP fun xk sY=>
        ag c .move [xk] sY fun x3 sZ=>
        j23 [x0,x3,x4,x5] sZ) (
        aJ (.fieldA 1) [x5] fun xp=>
        ei (.load none) [xp] ru.heap (fun _=>true) fun xq=>
        ag c (.callF 40) [xq] ru fun xw vp=>
        aJ (.fieldA 0) [x5] fun vq=>
        ei (.load none) [vq] vp.heap (fun v=>fL (.load none) [vq] v (fo [] ru.heap)&&true) fun AI=>
        ag c (.callF 39) [AI] vp fun AK uQ=>
        aJ .move [x3] fun xo=>
        aJ (.bin .add .num) [(.str [119,101,105,103,104,32]),xw] fun xx=>
        aJ (.bin .add .num) [xx,(.str [32])] fun xz=>
        aJ (.bin .add .num) [xz,AK] fun AL=>
        aJ (.bin .add .num) [xo,AL] fun AM=>
        aJ .move [AM] fun x3=>
        j23 [x0,x3,x4,x5] uQ))
    (fun vs su=>au vs fun x0 vs=>au vs fun x3 vs=>au vs fun x4 vs=>au vs fun x5 vs=>bW vs (
     cI (fun j37=>
        ag c (.fieldA 0) [x5] su fun AN uS=>
        ag c (.load none) [AN] uS fun AP CZ=>
        ag c (.callF 41) [AP] CZ fun AQ td=>
        ag c .move [AQ] td fun vu vr=>
        cS c vu false (.fieldA 0) [x5] vr fun AS AO=>
        cS c vu false (.load none) [AS] AO fun AT vt=>
        cS c vu false (.callF 42) [AT] vt fun AW sx=>
        ag c .pick [vu,(.bool true),AW] sx fun o9 AR=>
        ag c .move [o9] AR fun vw C2=>
        cS c vw false (.fieldA 0) [x5] C2 fun AX AU=>
        cS c vw false (.load none) [AX] AU fun xC yI=>
        cS c vw false (.bin .eql .num) [xC,(.int .u8 17)] yI fun AZ Ec=>
        ag c .pick [vw,(.bool true),AZ] Ec fun A3 xB=>
        b9 A3 (
         ag c .move [x3] xB fun A5 AY=>
         ag c (.fieldA 2) [x5] AY fun xE vz=>
         ag c (.load none) [xE] vz fun A7 yJ=>
         ag c (.callF 43) [A7] yJ fun gJ A4=>
         ag c (.bin .add .num) [(.str [32]),gJ] A4 fun jg xD=>
         ag c (.bin .add .num) [A5,jg] xD fun ni A6=>
         ag c .move [ni] A6 fun x3 Ed=>
         j37 [x0,x3,x4,x5] Ed) (
         j37 [x0,x3,x4,x5] xB))
     (fun vs  uR=>au vs fun x0 vs=>au vs fun x3 vs=>au vs fun x4 vs=>au vs fun x5 vs=>bW vs (
        cI (fun j59=>
         ag c (.fieldA 0) [x5] uR fun Ad A8=>
         ag c (.load none) [Ad] A8 fun Ae yB=>
         ag c (.callF 41) [Ae] yB fun Ag C6=>
         b9 Ag (
            ag c .move [x3] C6 fun wY yH=>
            ag c (.fieldA 3) [x5] yH fun Ak Af=>
            ag c (.load none) [Ak] Af fun vn Ah=>
            ag c (.bin .add .num) [(.str [32]),vn] Ah fun Al yC=>
            ag c (.bin .add .num) [wY,Al] yC fun An Aj=>
            ag c .move [An] Aj fun x3 Ep=>
            j59 [x0,x3,x4,x5] Ep) (
            j59 [x0,x3,x4,x5] C6))
        (fun vs C4=>au vs fun x0 vs=>au vs fun x3 vs=>au vs fun x4 vs=>au vs fun x5 vs=>bW vs (
         cI ( fun j70=>
            ag c (.fieldA 0) [x5] C4 fun Ao CW=>
            ag c (.load none) [Ao] CW fun Aq D7=>
            ag c (.callF 44) [Aq] D7 fun yE Am=>
            ag c (.bin .gtr .num) [yE,(.int .i64 0)] Am fun Au wZ=>
            b9 Au (
              ag c .move [x3] wZ fun Aw Ap=>
              ag c (.fieldA 4) [x5] Ap fun vo yD=>
              ag c (.load none) [vo] yD fun yF Ar=>
              ag c (.callF 43) [yF] Ar fun Az At=>
              ag c (.bin .add .num) [(.str [32]),Az] At fun AD Av=>
              ag c (.bin .add .num) [Aw,AD] Av fun AG w6=>
              ag c .move [AG] w6 fun x3 Ay=>
              j70 [x0,x3,x4,x5] Ay) (
              j70 [x0,x3,x4,x5] wZ))
         (fun vs CV=>au vs fun x0 vs=>au vs fun x3 vs=>au vs fun x4 vs=>au vs fun x5 vs=>bW vs (
            cI (fun j83=>
              ag c (.fieldA 0) [x5] CV fun AH AE=>
              ag c (.load none) [AH] AE fun A9 yG=>
              ag c (.callF 45) [A9] yG fun xF CY=>
              b9 xF (
                ag c .move [x3] CY fun vD D9=>
                ag c (.fieldA 5) [x5] D9 fun Ba pP=>
                ag c (.load none) [Ba] pP fun Bb Ee=>
                ag c (.callF 40) [Bb] Ee fun Bc C7=>
                ag c (.bin .add .num) [(.str [32]),Bc] C7 fun uE yL=>
                ag c (.bin .add .num) [vD,uE] yL fun C5 Ef=>
                ag c .move [C5] Ef fun x3 vC=>
                j83 [x0,x3,x4] vC) (
                j83 [x0,x3,x4] CY))
            (fun vs AA=>au vs fun x0 vs=>au vs fun x3 vs=>au vs fun x4 vs=>bW vs (
              ag c .move [x3] AA fun Eh yK=>
              ag c (.bin .add .num) [Eh,(.str [10])] yK fun Ei wP=>
              ag c .move [Ei] wP fun x3 uF=>
              j11 [x0,x3,x4] uF))))))))))))
 (fun vs nu=>au vs fun x0 vs=>au vs fun x3 vs=>au vs fun x4 vs=>bW vs (
    ag c .move [x4] nu fun eL rj=>
    ag c (.bin .add .num) [eL,(.int .i64 1)] rj fun gO Eg=>
    ag c .move [gO] Eg fun x4 u5=>
    qh c F k1 k2 n [x0,x3,x4] u5))) (
    k2 [x3] j8))
def ry (c:ak) (F:Nat):Env (AV×St):=n9 [(0,fun K n=>qh c F (K 1) (K 2) n)]
theorem zl (c:ak) (F:Nat):dP c F (ry c F) (fQ nk nr 0).1 (fQ nk nr 0).2:=iF (j:=0) (ins:=[.h,(.o (.o .h)),(.i (.o .h))]) (outs:=[(1,[(.i .h)]),(2,[(.o (.o .h))])]) (s:=(.seq none (.seq none .leaf (.cond .leaf .leaf)) (.seq (some [.h,(.o (.o .h)),(.i (.o .h))]) (.block (.seq none .leaf (.seq none (.seq none .leaf (.cond (.seq none .leaf .leaf) .leaf)) (.seq (some [.h,(.o (.o .h)),(.i (.o .h)),(.o (.i .h))]) (.seq none .leaf (.cond .leaf .leaf)) (.seq (some [.h,(.o (.o .h)),(.i (.o .h)),(.o (.i .h))]) (.seq none .leaf (.cond .leaf .leaf)) (.seq (some [.h,(.o (.o .h)),(.i (.o .h)),(.o (.i .h))]) (.seq none .leaf (.cond .leaf .leaf)) (.seq (some [.h,(.o (.o .h)),(.i (.o .h)),(.o (.i .h))]) (.seq none .leaf (.cond .leaf .leaf)) (.seq (some [.h,(.o (.o .h)),(.i (.o .h))]) (.seq none .leaf (.cond .leaf .leaf)) .leaf)))))))) .leaf))) (by kernel_rfl) (fun _ _ _=>by kernel_rfl) (fun _ _ _ _=>by kernel_rfl)
theorem PN (c:ak) (F:Nat): ∀x∈cK nk.code nr,dP c F (ry c F) x.1 x.2:=mD 1 (by kernel_rfl) fun i hi=>match i,hi with|0,_=>zl c F|n+1,h=>absurd h (by omega)
def gI:aN:=g10.getD default
def jt:Sh:=(.seq none .leaf (.seq none (.seq none .leaf (.cond (.seq none .leaf .leaf) .leaf)) (.seq none (.seq none .leaf (.block (.loop 0 [.h,(.o .h),(.o (.i .h))] [(1,[(.i (.o .h))]),(2,[])] (.seq none (.seq none .leaf (.cond .leaf .leaf)) (.seq none (.block (.seq none .leaf (.cond (.seq none .leaf .leaf) .leaf))) .leaf))))) (.seq none .leaf .leaf))))
def eR (c:ak) (F:Nat) (k1 k2:List AV->St->Option (AV×St)):Nat->List AV->St->Option (AV×St)
 |0,_,_=>none
 |n+1,vs,s=>au vs fun x0 vs=>au vs fun x1 vs=>au vs fun x5 vs=>bW vs (
 ag c .move [x5] s fun dI s8=>
 ag c .move [x0] s8 fun cU s9=>
 ag c (.lenB .l) [cU] s9 fun eL j8=>
 ag c (.bin .lss .num) [dI,eL] j8 fun gO jf=>
 b9 gO (
    aJ .move [x0] fun k9=>
 aJ .move [x5] fun cW=>
 aJ (.idxA 6 none) [k9,cW] fun ek=>
 ei (.load (some 6)) [ek] jf.heap (fun _=>true) fun dH=>
 aJ .move [x1] fun qf=>
 aJ .move [x5] fun pQ=>
 aJ (.idxA 6 none) [qf,pQ] fun uK=>
 ei (.load (some 6)) [uK] jf.heap (fun _=>true) fun uL=>
 aJ (.bin .neq (.struct [(0,.i),(1,.i),(2,.s),(3,.s),(4,.s),(5,.i)])) [dH,uL] fun uM=>
 b9 uM (
    ag c .move [(.bool false)] jf fun x4 nu=>
    k1 [x4] nu) (
    ag c .move [x5] jf fun mj kY=>
 ag c (.bin .add .num) [mj,(.int .i64 1)] kY fun mo kQ=>
 ag c .move [mo] kQ fun x5 kR=>
 eR c F k1 k2 n [x0,x1,x5] kR)) (
    k2 [] jf))
def od (c:ak) (F:Nat) (x0 x1:AV) (s:St):Option (AV×St):=
 ag c .move [(.bool false)] s fun x4 s0=>
 ag c .move [x0] s0 fun x6 s1=>
 ag c (.lenB .l) [x6] s1 fun x7 s2=>
 ag c .move [x1] s2 fun x8 s3=>
 ag c (.lenB .l) [x8] s3 fun x9 s4=>
 ag c (.bin .neq .num) [x7,x9] s4 fun eJ s5=>
 b9 eJ (
    ag c .move [(.bool false)] s5 fun x4 s6=>
    some (x4,s6)) (
    ag c .move [(.int .i64 0)] s5 fun x5 s7=>
 eR c F (fun vs nh=>au vs fun x4 vs=>bW vs (
    some (x4,nh))) (fun vs kZ=>bW vs (
    ag c .move [(.bool true)] kZ fun x4 kG=>
 some (x4,kG))) F [x0,x1,x5] s7)
def mG (c:ak) (F:Nat):Env (AV×St):=n9 [(0,fun K n=>eR c F (K 1) (K 2) n)]
theorem xN (c:ak) (F:Nat):dP c F (mG c F) (fQ gI jt 0).1 (fQ gI jt 0).2:=iF (j:=0) (ins:=[.h,(.o .h),(.o (.i .h))]) (outs:=[(1,[(.i (.o .h))]),(2,[])]) (s:=(.seq none (.seq none .leaf (.cond .leaf .leaf)) (.seq none (.block (.seq none .leaf (.cond (.seq none .leaf .leaf) .leaf))) .leaf))) (by kernel_rfl) (fun _ _ _=>by kernel_rfl) (fun _ _ _ _=>by kernel_rfl)
theorem zh (c:ak) (F:Nat): ∀x∈cK gI.code jt,dP c F (mG c F) x.1 x.2:=mD 1 (by kernel_rfl) fun i hi=>match i,hi with|0,_=>xN c F|n+1,h=>absurd h (by omega)
theorem zi (c:ak) (F:Nat) (x0 x1:AV) (s:St):qJ c F (mG c F) gI jt [x0,x1] s=od c F x0 x1 s:=by kernel_rfl
def nN (c:ak) (F:Nat) (x0 x1:AV) (s:St):Option (AV×St):=
 ag c .move [(.int .i64 0)] s fun x4 s0=>
 ag c .move [.lp] s0 fun x5 s1=>
 ag c .move [x0] s1 fun x6 s2=>
 ag c (.callF 105) [x6] s2 fun x7 s3=>
 ag c .move [x0] s3 fun x8 s4=>
 ag c .move [x0] s4 fun x9 s5=>
 ag c .nilCheck [x9] s5 fun eJ s6=>
 ag c (.fieldA 1) [eJ] s6 fun dI s7=>
 ag c (.load none) [dI] s7 fun cU s8=>
 ag c .move [x1] s8 fun eL s9=>
 ag c (.appendT 5 1) [cU,eL] s9 fun gO j8=>
 ag c .nilCheck [x8] j8 fun mj jf=>
 ag c (.fieldA 1) [mj] jf fun mo nu=>
 ag c (.store 1) [mo,gO] nu fun _ kY=>
 ag c .move [x1] kY fun k9 kQ=>
 ag c (.lenB .s) [k9] kQ fun cW kR=>
 ag c .move [cW] kR fun x4 nh=>
 ag c .move [.lp] nh fun x5 kZ=>
 some (.tuple [x4,x5],kZ)
theorem rB {c:ak} (hc:Sem c) (F:Nat){x0 x1:AV} {s:St} {r:AV×St} (h:nN c F x0 x1 s=some r):c 36 [x0,x1] s=some (tidy s r):=hc.IQ (A:=g36.getD default) (F:=F) (s:=(.seq none .leaf (.seq none .leaf (.seq none .leaf (.seq none .leaf .leaf))))) (by kernel_rfl) (by kernel_rfl) (by kernel_rfl) (by kernel_rfl) h
def mF (c:ak) (F:Nat) (x0:AV) (s:St):Option (AV×St):=
 ag c .move [(.str [])] s fun x2 s0=>
 aJ .move [x0] fun x3=>
 aJ .nilCheck [x3] fun x4=>
 aJ (.fieldA 1) [x4] fun x5=>
 ei (.load none) [x5] s0.heap (fun _=>true) fun x6=>
 aJ .sliceData [x6] fun x7=>
 aJ .move [x0] fun x8=>
 aJ .nilCheck [x8] fun x9=>
 aJ (.fieldA 1) [x9] fun eJ=>
 ei (.load none) [eJ] s0.heap (fun _=>true) fun dI=>
 aJ (.lenB .l) [dI] fun cU=>
 ag c (.unsafeStr 5) [x7,cU] s0 fun eL s1=>
 aJ .move [eL] fun x2=>
 some (x2,s1)
theorem ow {c:ak} (hc:Sem c) (F:Nat){x0:AV} {s:St} {r:AV×St} (h:mF c F x0 s=some r):c 37 [x0] s=some (tidy s r):=hc.IQ (A:=g37.getD default) (F:=F) (s:=(.seq none .leaf (.seq none .leaf .leaf))) (by kernel_rfl) (by kernel_rfl) (by kernel_rfl) (by kernel_rfl) h
def kz (c:ak) (F:Nat) (x0:AV) (s:St):Option (AV×St):=
 ag c .move [x0] s fun x2 s0=>
 ag c .nilCheck [x2] s0 fun x3 s1=>
 ag c (.fieldA 0) [x3] s1 fun x4 s2=>
 ag c (.load none) [x4] s2 fun x5 s3=>
 ag c (.bin .eql .ptr) [x5,.bF] s3 fun x6 s4=>
 b9 x6 (
    ag c .move [x0] s4 fun x7 s5=>
    ag c .move [x0] s5 fun x8 s6=>
    ag c .toU [x8] s6 fun x9 s7=>
    ag c (.callF 175) [x9] s7 fun eJ s8=>
    ag c (.fromU 81 2) [eJ] s8 fun dI s9=>
    ag c .nilCheck [x7] s9 fun cU j8=>
    ag c (.fieldA 0) [cU] j8 fun eL jf=>
    ag c (.store 1) [eL,dI] jf fun _ nu=>
    some (.tuple [],nu)) (
    ag c .move [x0] s4 fun gO kY=>
    ag c .nilCheck [gO] kY fun mj kQ=>
    ag c (.fieldA 0) [mj] kQ fun mo kR=>
    ag c (.load none) [mo] kR fun k9 nh=>
    ag c .move [x0] nh fun cW kZ=>
    ag c (.bin .neq .ptr) [k9,cW] kZ fun ek kG=>
    b9 ek (
     ag c .bad [] kG fun _ mM=>
     some (.tuple [],mM)) (
     some (.tuple [],kG)))
theorem mL {c:ak} (hc:Sem c) (F:Nat){x0:AV} {s:St} {r:AV×St} (h:kz c F x0 s=some r):c 105 [x0] s=some (tidy s r):=hc.IQ (A:=g105.getD default) (F:=F) (s:=(.seq none .leaf (.cond .leaf (.seq none .leaf (.cond .leaf .leaf))))) (by kernel_rfl) (by kernel_rfl) (by kernel_rfl) (by kernel_rfl) h
end Go.Proofs.YtehbdakjkjkekaaGreatDoor
end
section
set_option linter.all false
set_option maxRecDepth 100000
noncomputable section
namespace Go.Proofs.YtehbdakjkjkekaaGreatDoor
open Go Go.Ai Go.Proofs
def Iv (c:ak) (F:Nat) (s:St):Option (AV×St):=
 ag c .move [.gh] s fun x0 s0=>
 ag c .mkMap [] s0 fun x1 s1=>
 ag c (.build [(.str []),(.int .u8 0),(.bool false),(.int .u8 0),(.bool false),(.int .i64 0),(.bool false),.av] [(0,1),(1,1),(2,1),(4,1),(7,1)]) [(.str [97,112,97,114,116]),(.int .u8 103),(.bool true),(.bool true),(.func 81 [] [])] s1 fun x2 s2=>
 ag c (.mapSet .i) [x1,(.int .u8 1),x2] s2 fun _ s3=>
 ag c (.build [(.str []),(.int .u8 0),(.bool false),(.int .u8 0),(.bool false),(.int .i64 0),(.bool false),.av] [(0,1),(1,1),(2,1),(7,1)]) [(.str [98,101,115,105,100,101]),(.int .u8 103),(.bool true),(.func 82 [] [])] s3 fun x3 s4=>
 ag c (.mapSet .i) [x1,(.int .u8 2),x3] s4 fun _ s5=>
 ag c (.build [(.str []),(.int .u8 0),(.bool false),(.int .u8 0),(.bool false),(.int .i64 0),(.bool false),.av] [(0,1),(1,1),(2,1),(7,1)]) [(.str [97,99,114,111,115,115]),(.int .u8 103),(.bool true),(.func 83 [] [])] s5 fun x4 s6=>
 ag c (.mapSet .i) [x1,(.int .u8 3),x4] s6 fun _ s7=>
 ag c (.build [(.str []),(.int .u8 0),(.bool false),(.int .u8 0),(.bool false),(.int .i64 0),(.bool false),.av] [(0,1),(1,1),(2,1),(4,1),(5,1),(7,1)]) [(.str [110,101,97,114]),(.int .u8 103),(.bool true),(.bool true),(.int .i64 1),(.func 84 [] [])] s7 fun x5 s8=>
 ag c (.mapSet .i) [x1,(.int .u8 4),x5] s8 fun _ s9=>
 ag c (.build [(.str []),(.int .u8 0),(.bool false),(.int .u8 0),(.bool false),(.int .i64 0),(.bool false),.av] [(0,1),(1,1),(2,1),(7,1)]) [(.str [116,111,103,101,116,104,101,114]),(.int .u8 103),(.bool true),(.func 85 [] [])] s9 fun x6 j8=>
 ag c (.mapSet .i) [x1,(.int .u8 5),x6] j8 fun _ jf=>
 ag c (.build [(.str []),(.int .u8 0),(.bool false),(.int .u8 0),(.bool false),(.int .i64 0),(.bool false),.av] [(0,1),(1,1),(3,1),(7,1)]) [(.str [97,116]),(.int .u8 103),(.int .u8 116),(.func 86 [] [])] jf fun x7 nu=>
 ag c (.mapSet .i) [x1,(.int .u8 6),x7] nu fun _ kY=>
 ag c (.build [(.str []),(.int .u8 0),(.bool false),(.int .u8 0),(.bool false),(.int .i64 0),(.bool false),.av] [(0,1),(1,1),(3,1),(4,1),(6,1),(7,1)]) [(.str [115,101,97,116]),(.int .u8 103),(.int .u8 116),(.bool true),(.bool true),(.func 87 [] [])] kY fun x8 kQ=>
 ag c (.mapSet .i) [x1,(.int .u8 7),x8] kQ fun _ kR=>
 ag c (.build [(.str []),(.int .u8 0),(.bool false),(.int .u8 0),(.bool false),(.int .i64 0),(.bool false),.av] [(0,1),(3,1),(7,1)]) [(.str [97,108,116,101,114,110,97,116,101]),(.int .u8 101),(.func 88 [] [])] kR fun x9 nh=>
 ag c (.mapSet .i) [x1,(.int .u8 8),x9] nh fun _ kZ=>
 ag c (.build [(.str []),(.int .u8 0),(.bool false),(.int .u8 0),(.bool false),(.int .i64 0),(.bool false),.av] [(0,1),(3,1),(7,1)]) [(.str [104,111,115,116]),(.int .u8 101),(.func 89 [] [])] kZ fun eJ kG=>
 ag c (.mapSet .i) [x1,(.int .u8 9),eJ] kG fun _ mM=>
 ag c (.build [(.str []),(.int .u8 0),(.bool false),(.int .u8 0),(.bool false),(.int .i64 0),(.bool false),.av] [(0,1),(1,1),(7,1)]) [(.str [114,101,97,99,104]),(.int .u8 101),(.func 90 [] [])] mM fun dI oD=>
 ag c (.mapSet .i) [x1,(.int .u8 10),dI] oD fun _ qg=>
 ag c (.build [(.str []),(.int .u8 0),(.bool false),(.int .u8 0),(.bool false),(.int .i64 0),(.bool false),.av] [(0,1),(3,1),(7,1)]) [(.str [115,112,101,97,107]),(.int .u8 101),(.func 91 [] [])] qg fun cU sj=>
 ag c (.mapSet .i) [x1,(.int .u8 11),cU] sj fun _ uN=>
 ag c (.build [(.str []),(.int .u8 0),(.bool false),(.int .u8 0),(.bool false),(.int .i64 0),(.bool false),.av] [(0,1),(3,1),(7,1)]) [(.str [112,101,97,99,101]),(.int .u8 101),(.func 92 [] [])] uN fun eL su=>
 ag c (.mapSet .i) [x1,(.int .u8 12),eL] su fun _ sw=>
 ag c (.build [(.str []),(.int .u8 0),(.bool false),(.int .u8 0),(.bool false),(.int .i64 0),(.bool false),.av] [(0,1),(3,1),(7,1)]) [(.str [99,111,109,112,97,110,121]),(.int .u8 101),(.func 93 [] [])] sw fun gO xH=>
 ag c (.mapSet .i) [x1,(.int .u8 13),gO] xH fun _ ru=>
 ag c (.build [(.str []),(.int .u8 0),(.bool false),(.int .u8 0),(.bool false),(.int .i64 0),(.bool false),.av] [(0,1),(3,1),(7,1)]) [(.str [104,111,110,111,117,114]),(.int .u8 101),(.func 94 [] [])] ru fun mj sU=>
 ag c (.mapSet .i) [x1,(.int .u8 14),mj] sU fun _ uO=>
 ag c (.build [(.str []),(.int .u8 0),(.bool false),(.int .u8 0),(.bool false),(.int .i64 0),(.bool false),.av] [(0,1),(3,1),(4,1),(7,1)]) [(.str [102,105,108,108]),(.int .u8 101),(.bool true),(.func 95 [] [])] uO fun mo sV=>
 ag c (.mapSet .i) [x1,(.int .u8 15),mo] sV fun _ sW=>
 ag c (.build [(.str []),(.int .u8 0),(.bool false),(.int .u8 0),(.bool false),(.int .i64 0),(.bool false),.av] [(0,1),(3,1),(4,1),(7,1)]) [(.str [108,105,109,105,116]),(.int .u8 101),(.bool true),(.func 96 [] [])] sW fun k9 uP=>
 ag c (.mapSet .i) [x1,(.int .u8 16),k9] uP fun _ sY=>
 ag c (.build [(.str []),(.int .u8 0),(.bool false),(.int .u8 0),(.bool false),(.int .i64 0),(.bool false),.av] [(0,1),(1,1),(3,1),(7,1)]) [(.str [107,105,116,99,104,101,110]),(.int .u8 100),(.int .u8 116),(.func 97 [] [])] sY fun cW sZ=>
 ag c (.mapSet .i) [x1,(.int .u8 17),cW] sZ fun _ vp=>
 ag c (.build [(.str []),(.int .u8 0),(.bool false),(.int .u8 0),(.bool false),(.int .i64 0),(.bool false),.av] [(0,1),(3,1),(7,1)]) [(.str [109,105,120]),(.int .u8 101),(.func 98 [] [])] vp fun ek uQ=>
 ag c (.mapSet .i) [x1,(.int .u8 18),ek] uQ fun _ xA=>
 ag c .move [x1] xA fun dH uR=>
 ag c .move [dH] uR fun x0 uS=>
 some (x0,uS)
theorem Jq {c:ak} (hc:Sem c) (F:Nat){x:AV} {s:St} {r:AV×St} (h:Iv c F s=some r):c 32 [] s=some (tidy s r):=hc.IQ (A:=g32.getD default) (F:=F) (s:=(.seq none .leaf (.seq none .leaf .leaf))) (by kernel_rfl) (by kernel_rfl) (by kernel_rfl) (by kernel_rfl) h
end Go.Proofs.YtehbdakjkjkekaaGreatDoor
end
section
set_option linter.all false
set_option maxRecDepth 100000
noncomputable section
namespace Go.Proofs.YtehbdakjkjkekaaGreatDoor
open Go Go.Ai Go.Proofs
def gb:aN:=g4.getD default
def iN:Sh:=(.seq none .leaf (.seq none .leaf (.seq none (.seq none .leaf (.block (.loop 0 [(.o .h),(.i .h),(.o (.o (.o .h))),(.i (.o (.o .h)))] [(2,[(.o (.o (.o .h)))])] (.seq none (.seq none .leaf (.cond .leaf .leaf)) (.seq (some [(.o .h),(.i .h),(.o (.o (.o .h))),(.i (.o (.o .h)))]) (.block (.seq (some [(.o .h),(.i .h),(.o (.o (.o .h))),(.i (.o (.o .h)))]) (.seq none .leaf (.cond .leaf .leaf)) (.seq none .leaf (.seq none .leaf (.cond .leaf .leaf))))) .leaf))))) (.seq none .leaf (.seq none .leaf (.seq none .leaf (.seq none .leaf .leaf)))))))
def eI (c:ak) (F:Nat) (k2:List AV->St->Option (AV×St)):Nat->List AV->St->Option (AV×St)
 |0,_,_=>none
 |n+1,vs,s=>au vs fun x1 vs=>au vs fun x2 vs=>au vs fun x7 vs=>au vs fun x8 vs=>bW vs (
 ag c .move [x8] s fun dH s8=>
 ag c .move [x7] s8 fun qf s9=>
 ag c (.lenB .l) [qf] s9 fun pQ j8=>
 ag c (.bin .lss .num) [dH,pQ] j8 fun uK jf=>
 b9 uK  (
    cI (fun Tz=>
    cI (fun j14=>
     ag c .move [x8] jf fun w7 nh=>
     ag c .move [x1] nh fun w9 kZ=>
     ag c (.lenB .l) [w9] kZ fun xe kG=>
     ag c (.bin .lss .num) [w7,xe] kG fun xj mM=>
     b9 xj (
        ag c .move [x7] mM fun xk oD=>
        ag c .move [x8] oD fun xo qg=>
        ag c .move [x1] qg fun xp sj=>
        ag c .move [x8] sj fun xq uN=>
        ag c (.idxA 1 none) [xp,xq] uN fun xw su=>
        ag c (.load none) [xw] su fun xx sw=>
        ag c (.conv (.int .i64)) [xx] sw fun xz xH=>
        ag c (.bin .rem .num) [xz,(.int .i64 1001)] xH fun vq ru=>
        ag c (.idxA 6 none) [xk,xo] ru fun AI sU=>
        ag c (.fieldA 1) [AI] sU fun AK uO=>
        ag c (.store 1) [AK,vq] uO fun _ sV=>
        j14 [x1,x2,x7,x8] sV) (
        j14 [x1,x2,x7,x8] mM))
    (fun vs kR=>au vs fun x1 vs=>au vs fun x2 vs=>au vs fun x7 vs=>au vs fun x8 vs=>bW vs (
     ag c .move [x7] kR fun AL sW=>
     ag c .move [x8] sW fun AM uP=>
     ag c (.idxA 6 none) [AL,AM] uP fun AN sY=>
     ag c (.fieldA 0) [AN] sY fun AP sZ=>
     ag c (.load none) [AP] sZ fun AQ vp=>
     ag c .move [AQ] vp fun x9 uQ=>
     ag c .move [x8] uQ fun vu xA=>
     ag c .move [x2] xA fun AS uR=>
     ag c (.lenB .l) [AS] uR fun AT uS=>
     ag c (.bin .lss .num) [vu,AT] uS fun AW CZ=>
     ag c .move [AW] CZ fun o9 td=>
     cS c o9 true .move [x9] td fun vw vr=>
     cS c o9 true (.bin .eql .num) [vw,(.int .u8 1)] vr fun AX AO=>
     cS c o9 true .move [AX] AO fun xC vt=>
     cS c xC false .move [x9] vt fun AZ sx=>
     cS c xC false (.bin .eql .num) [AZ,(.int .u8 4)] sx fun A3 AR=>
     cS c o9 true .pick [xC,(.bool true),A3] AR fun A5 C2=>
     cS c o9 true .move [A5] C2 fun xE AU=>
     cS c xE false .move [x9] AU fun A7 yI=>
     cS c xE false (.bin .eql .num) [A7,(.int .u8 7)] yI fun gJ Ec=>
     cS c o9 true .pick [xE,(.bool true),gJ] Ec fun jg xB=>
     cS c o9 true .move [jg] xB fun ni AY=>
     cS c ni false .move [x9] AY fun Ad vz=>
     cS c ni false (.bin .eql .num) [Ad,(.int .u8 15)] vz fun Ae yJ=>
     cS c o9 true .pick [ni,(.bool true),Ae] yJ fun Ag A4=>
     cS c o9 true .move [Ag] A4 fun wY xD=>
     cS c wY false .move [x9] xD fun Ak A6=>
     cS c wY false (.bin .eql .num) [Ak,(.int .u8 16)] A6 fun vn Ed=>
     cS c o9 true .pick [wY,(.bool true),vn] Ed fun Al C3=>
     ag c .pick [o9,Al,(.bool false)] C3 fun An C4=>
     b9 An (
        ag c .move [x7] C4 fun Ao A8=>
        ag c .move [x8] A8 fun Aq yB=>
        ag c .move [x2] yB fun yE C6=>
        ag c .move [x8] C6 fun Au yH=>
        ag c (.idxA 1 none) [yE,Au] yH fun Aw Af=>
        ag c (.load none) [Aw] Af fun vo Ah=>
        ag c (.conv (.int .i64)) [vo] Ah fun yF yC=>
        ag c (.bin .rem .num) [yF,(.int .i64 1000000000)] yC fun Az Aj=>
        ag c (.idxA 6 none) [Ao,Aq] Aj fun AD Ep=>
        ag c (.fieldA 5) [AD] Ep fun AG D8=>
        ag c (.store 1) [AG,Az] D8 fun _ CV=>
        Tz [x1,x2,x7,x8] CV) (
        Tz [x1,x2,x7,x8] C4))))
 (fun vs kY=>au vs fun x1 vs=>au vs fun x2 vs=>au vs fun x7 vs=>au vs fun x8 vs=>bW vs (
    ag c .move [x8] kY fun uL CW=>
    ag c (.bin .add .num) [uL,(.int .i64 1)] CW fun uM D7=>
    ag c .move [uM] D7 fun x8 Am=>
    eI c F k2 n [x1,x2,x7,x8] Am))) (
    k2 [x7] jf))
def fM (c:ak) (F:Nat) (x0 x1 x2:AV) (s:St):Option (AV×St):=
 ag c .box [x0] s fun x3 s0=>
 ag c .move [(.bool false)] s0 fun x6 s1=>
 ag c (.load (some 4)) [x3] s1 fun mo s2=>
 ag c (.callF 12) [mo] s2 fun k9 s3=>
 ag c (.field 4 none) [k9] s3 fun cW s4=>
 ag c (.callF 11) [cW] s4 fun ek s5=>
 ag c .move [ek] s5 fun x7 s6=>
 ag c .move [(.int .i64 0)] s6 fun x8 s7=>
 eI c F (fun vs wZ=>au vs fun x7 vs=>bW vs (
    ag c .move [x7] wZ fun AH Ap=>
 ag c (.callF 7) [AH] Ap fun A9 yD=>
 ag c .move [A9] yD fun eJ Ar=>
 ag c .move [eJ] Ar fun vD At=>
 ag c (.callF 9) [vD] At fun Ba Av=>
 ag c .move [Ba] Av fun xF w6=>
 ag c (.extract 0) [xF] w6 fun Bb Ay=>
 ag c (.extract 1) [xF] Ay fun Bc CX=>
 ag c (.extract 2) [xF] CX fun uE AA=>
 ag c .move [Bb] AA fun dI AE=>
 ag c .move [Bc] AE fun cU yG=>
 ag c .move [uE] yG fun eL CY=>
 ag c .move [eJ] CY fun Eh D9=>
 ag c (.callF 13) [Eh] D9 fun Ei pP=>
 ag c .move [Ei] pP fun C5 Ee=>
 ag c (.extract 0) [C5] Ee fun IU C7=>
 ag c (.extract 1) [C5] C7 fun FT yL=>
 ag c .move [IU] yL fun gO Ef=>
 ag c .move [FT] Ef fun mj vC=>
 ag c .move [cU] vC fun IV yK=>
 ag c (.bin .eql .num) [IV,(.int .i64 0)] yK fun Ej wP=>
 ag c .move [Ej] wP fun Ek uF=>
 cS c Ek true .move [eL] uF fun IW rj=>
 cS c Ek true (.bin .eql .num) [IW,(.int .i64 0)] rj fun IX Eg=>
 ag c .pick [Ek,IX,(.bool false)] Eg fun IY u5=>
 ag c .move [IY] u5 fun xG Cg=>
 cS c xG true .move [dI] Cg fun FU Ch=>
 cS c xG true .move [x7] Ch fun sy Ci=>
 cS c xG true (.callF 10) [FU,sy] Ci fun Cq Cj=>
 ag c .pick [xG,Cq,(.bool false)] Cj fun Cr Ck=>
 ag c .move [Cr] Ck fun zk Cl=>
 cS c zk true .move [mj] Cl fun Eo Cm=>
 ag c .pick [zk,Eo,(.bool false)] Cm fun Cs Cn=>
 ag c .move [Cs] Cn fun pV Co=>
 cS c pV true .move [gO] Co fun GM zj=>
 cS c pV true (.lenB .l) [GM] zj fun GN GG=>
 cS c pV true .move [x7] GG fun Er El=>
 cS c pV true (.lenB .l) [Er] El fun GO GH=>
 cS c pV true (.bin .eql .num) [GN,GO] GH fun GP Em=>
 ag c .pick [pV,GP,(.bool false)] Em fun GQ Ns=>
 ag c .move [GQ] Ns fun Ct GJ=>
 cS c Ct true (.callF 6) [] GJ fun GU Cp=>
 ag c .pick [Ct,GU,(.bool false)] Cp fun GV We=>
 ag c .move [GV] We fun x6 GK=>
 some (x6,GK))) F [x1,x2,x7,x8] s7
def lz (c:ak) (F:Nat):Env (AV×St):=n9 [(0,fun K n=>eI c F (K 2) n)]
theorem xI (c:ak) (F:Nat):dP c F (lz c F) (fQ gb iN 0).1 (fQ gb iN 0).2:=iF (j:=0) (ins:=[(.o .h),(.i .h),(.o (.o (.o .h))),(.i (.o (.o .h)))]) (outs:=[(2,[(.o (.o (.o .h)))])]) (s:=(.seq none (.seq none .leaf (.cond .leaf .leaf)) (.seq (some [(.o .h),(.i .h),(.o (.o (.o .h))),(.i (.o (.o .h)))]) (.block (.seq (some [(.o .h),(.i .h),(.o (.o (.o .h))),(.i (.o (.o .h)))]) (.seq none .leaf (.cond .leaf .leaf)) (.seq none .leaf (.seq none .leaf (.cond .leaf .leaf))))) .leaf))) (by kernel_rfl) (fun _ _ _=>by kernel_rfl) (fun _ _ _ _=>by kernel_rfl)
theorem xO (c:ak) (F:Nat): ∀x∈cK gb.code iN,dP c F (lz c F) x.1 x.2:=mD 1 (by kernel_rfl) fun i hi=>match i,hi with|0,_=>xI c F|n+1,h=>absurd h (by omega)
theorem xP (c:ak) (F:Nat) (x0 x1 x2:AV) (s:St):qJ c F (lz c F) gb iN [x0,x1,x2] s=fM c F x0 x1 x2 s:=by kernel_rfl
theorem vN {c:ak} (hc:dS c) (F:Nat){x0 x1 x2:AV} {s:St} {r:AV×St} (h:fM c F x0 x1 x2 s=some r):c 4 [x0,x1,x2] s=some (tidy s r):=hc.of (A:=gb) (by kernel_rfl) (by kernel_rfl) (xO _ F) (by rw[xP];exact h)
def gK:aN:=g11.getD default
def ju:Sh:=(.seq none .leaf (.seq none .leaf (.seq none (.seq none .leaf (.block (.loop 0 [.h,(.o (.o .h)),(.i (.o .h))] [(2,[(.o (.o .h))])] (.seq none (.seq none .leaf (.cond .leaf .leaf)) (.seq none (.block .leaf) .leaf))))) (.seq none .leaf .leaf))))
def dL (c:ak) (F:Nat) (k2:List AV->St->Option (AV×St)):Nat->List AV->St->Option (AV×St)
 |0,_,_=>none
 |n+1,vs,s=>au vs fun x0 vs=>au vs fun x3 vs=>au vs fun x4 vs=>bW vs (
 ag c .move [x4] s fun x5 s3=>
 ag c .move [x0] s3 fun x6 s4=>
 ag c (.lenB .l) [x6] s4 fun x7 s5=>
 ag c (.bin .lss .num) [x5,x7] s5 fun x8 s6=>
 b9 x8 (
    ag c .move [x3] s6 fun dI s7=>
 ag c .move [x0] s7 fun cU s8=>
 ag c .move [x4] s8 fun eL s9=>
 ag c (.idxA 6 none) [cU,eL] s9 fun gO j8=>
 ag c (.load (some 6)) [gO] j8 fun mj jf=>
 ag c (.buildSlice 6 1 [(.int .u8 0),(.int .i64 0),(.str []),(.str []),(.str []),(.int .i64 0)] [0]) [mj] jf fun mo nu=>
 ag c (.append 6 72) [dI,mo] nu fun k9 kY=>
 ag c .move [k9] kY fun x3 kQ=>
 ag c .move [x4] kQ fun x9 kR=>
 ag c (.bin .add .num) [x9,(.int .i64 1)] kR fun eJ nh=>
 ag c .move [eJ] nh fun x4 kZ=>
 dL c F k2 n [x0,x3,x4] kZ) (
    k2 [x3] s6))
def oc (c:ak) (F:Nat) (x0:AV) (s:St):Option (AV×St):=
 ag c .move [.ai] s fun x2 s0=>
 ag c .move [.ai] s0 fun x3 s1=>
 ag c .move [(.int .i64 0)] s1 fun x4 s2=>
 dL c F (fun vs kG=>au vs fun x3 vs=>bW vs (
    ag c .move [x3] kG fun cW mM=>
 ag c .move [cW] mM fun x2 oD=>
 some (x2,oD))) F [x0,x3,x4] s2
def mH (c:ak) (F:Nat):Env (AV×St):=n9 [(0,fun K n=>dL c F (K 2) n)]
theorem xQ (c:ak) (F:Nat):dP c F (mH c F) (fQ gK ju 0).1 (fQ gK ju 0).2:=iF (j:=0) (ins:=[.h,(.o (.o .h)),(.i (.o .h))]) (outs:=[(2,[(.o (.o .h))])]) (s:=(.seq none (.seq none .leaf (.cond .leaf .leaf)) (.seq none (.block .leaf) .leaf))) (by kernel_rfl) (fun _ _ _=>by kernel_rfl) (fun _ _ _ _=>by kernel_rfl)
theorem zm (c:ak) (F:Nat): ∀x∈cK gK.code ju,dP c F (mH c F) x.1 x.2:=mD 1 (by kernel_rfl) fun i hi=>match i,hi with|0,_=>xQ c F|n+1,h=>absurd h (by omega)
theorem zo (c:ak) (F:Nat) (x0:AV) (s:St):qJ c F (mH c F) gK ju [x0] s=oc c F x0 s:=by kernel_rfl
theorem wW {c:ak} (hc:dS c) (F:Nat){x0:AV} {s:St} {r:AV×St} (h:oc c F x0 s=some r):c 11 [x0] s=some (tidy s r):=hc.of (A:=gK) (by kernel_rfl) (by kernel_rfl) (zm _ F) (by rw[zo];exact h)
def dB:aN:=g12.getD default
def ez:Sh:=(.seq none .leaf (.seq none .leaf (.seq none .leaf (.seq none (.seq none .leaf (.block (.loop 0 [(.o .h),(.i .h),(.o (.o .h)),(.i (.o .h)),(.o (.i .h))] [(2,[(.o .h),(.i .h),(.o (.o .h)),(.i (.o .h))])] (.seq none (.seq none .leaf (.cond .leaf .leaf)) (.seq none (.block (.seq none .leaf (.seq none .leaf (.seq none .leaf .leaf)))) .leaf))))) (.seq none .leaf (.seq none .leaf (.seq (some [(.o .h),(.i .h),(.o (.o .h))]) (.seq none .leaf (.cond (.seq none .leaf (.block (.loop 1 [(.o .h),(.i .h),(.o (.o .h)),(.o (.i (.o .h)))] [(4,[(.o .h),(.i .h),(.o (.o .h))])] (.seq none (.seq none .leaf (.cond .leaf .leaf)) (.seq none (.block (.seq none .leaf .leaf)) .leaf))))) .leaf)) (.seq none (.seq none .leaf (.block (.loop 2 [(.o .h),(.i .h),(.o (.o .h)),(.o (.o (.i .h)))] [(6,[(.i .h),(.o (.o .h))])] (.seq none (.seq none .leaf (.cond .leaf .leaf)) (.seq (some [(.o .h),(.i .h),(.o (.o .h)),(.o (.o (.i .h)))]) (.block (.seq none .leaf (.seq none .leaf (.cond (.seq none .leaf .leaf) .leaf)))) .leaf))))) (.seq none .leaf .leaf)))))))))
def c9 (c:ak) (F:Nat) (k2:List AV->St->Option (AV×St)):Nat->List AV->St->Option (AV×St)
 |0,_,_=>none
 |n+1,vs,s=>au vs fun x1 vs=>au vs fun x2 vs=>au vs fun x3 vs=>au vs fun x4 vs=>au vs fun x5 vs=>bW vs (
 ag c .move [x5] s fun mj s5=>
 ag c (.fieldA 0) [x1] s5 fun mo s6=>
 ag c (.load none) [mo] s6 fun k9 s7=>
 ag c (.lenB .l) [k9] s7 fun cW s8=>
 ag c (.bin .lss .num) [mj,cW] s8 fun ek s9=>
 ag c .move [ek] s9 fun dH j8=>
 cS c dH true .move [x5] j8 fun qf jf=>
 cS c dH true (.bin .lss .num) [qf,(.int .i64 3)] jf fun pQ nu=>
 ag c .pick [dH,pQ,(.bool false)] nu fun uK kY=>
 b9 uK (
    ag c .move [x5] kY fun w7 kQ=>
 ag c (.fieldA 0) [x1] kQ fun w9 kR=>
 ag c (.load none) [w9] kR fun xe nh=>
 ag c .move [x5] nh fun xj kZ=>
 ag c (.idxA 1 none) [xe,xj] kZ fun xk kG=>
 ag c (.load none) [xk] kG fun xo mM=>
 ag c (.conv (.int .i64)) [xo] mM fun xp oD=>
 ag c (.callF 47) [w7,xp] oD fun xq qg=>
 ag c (.alloc [(.str []),(.int .u8 0),(.int .i64 0),(.int .i64 0),.ai,(.int .i64 0),(.int .i64 0)]) [] qg fun x6 sj=>
 ag c (.store 7) [x6,xq] sj fun _ uN=>
 ag c (.fieldA 0) [x3] uN fun xw su=>
 ag c (.load none) [xw] su fun xx sw=>
 ag c .move [xx] sw fun x7 xH=>
 ag c .move [x7] xH fun xz ru=>
 ag c (.load (some 7)) [x6] ru fun vq sU=>
 ag c (.buildSlice 7 1 [(.str []),(.int .u8 0),(.int .i64 0),(.int .i64 0),.ai,(.int .i64 0),(.int .i64 0)] [0]) [vq] sU fun AI uO=>
 ag c (.append 7 80) [xz,AI] uO fun AK sV=>
 ag c (.fieldA 0) [x3] sV fun AL sW=>
 ag c (.store 1) [AL,AK] sW fun _ uP=>
 ag c .move [x4] uP fun AM sY=>
 ag c (.load (some 7)) [x6] sY fun AN sZ=>
 ag c (.callF 48) [AN] sZ fun AP vp=>
 ag c (.bin .add .num) [AM,AP] vp fun AQ uQ=>
 ag c .move [AQ] uQ fun x4 xA=>
 ag c .move [x5] xA fun uL uR=>
 ag c (.bin .add .num) [uL,(.int .i64 1)] uR fun uM uS=>
 ag c .move [uM] uS fun x5 CZ=>
 c9 c F k2 n [x1,x2,x3,x4,x5] CZ) (
    k2 [x1,x2,x3,x4] kY))
def fc (c:ak) (F:Nat) (k4:List AV->St->Option (AV×St)):Nat->List AV->St->Option (AV×St)
 |0,_,_=>none
 |n+1,vs,s=>au vs fun x1 vs=>au vs fun x2 vs=>au vs fun x3 vs=>au vs fun x9 vs=>bW vs (
 ag c .move [x9] s fun Al A4=>
 ag c (.fieldA 1) [x3] A4 fun An xD=>
 ag c (.load none) [An] xD fun Ao A6=>
 ag c (.lenB .l) [Ao] A6 fun Aq Ed=>
 ag c (.bin .lss .num) [Al,Aq] Ed fun yE C3=>
 b9 yE (
    ag c (.fieldA 3) [x3] C3 fun vo C4=>
 ag c (.load none) [vo] C4 fun yF A8=>
 ag c .move [yF] A8 fun eJ yB=>
 ag c .move [eJ] yB fun Az C6=>
 ag c (.fieldA 1) [x1] C6 fun AD yH=>
 ag c (.load none) [AD] yH fun AG Af=>
 ag c .move [x9] Af fun AH Ah=>
 ag c (.idxA 1 none) [AG,AH] Ah fun A9 yC=>
 ag c (.load none) [A9] yC fun xF Aj=>
 ag c (.conv (.int .i64)) [xF] Aj fun vD Ep=>
 ag c (.bin .quo .num) [vD,(.int .i64 3)] Ep fun Ba D8=>
 ag c (.bin .rem .num) [Ba,(.int .i64 4)] D8 fun Bb CV=>
 ag c (.buildSlice 1 1 [(.int .i64 0)] [0]) [Bb] CV fun Bc CW=>
 ag c (.append 1 8) [Az,Bc] CW fun uE D7=>
 ag c (.fieldA 3) [x3] D7 fun C5 Am=>
 ag c (.store 1) [C5,uE] Am fun _ wZ=>
 ag c .move [x9] wZ fun Au Ap=>
 ag c (.bin .add .num) [Au,(.int .i64 1)] Ap fun Aw yD=>
 ag c .move [Aw] yD fun x9 Ar=>
 fc c F k4 n [x1,x2,x3,x9] Ar) (
    k4 [x1,x2,x3] C3))
def dW (c:ak) (F:Nat) (k6:List AV->St->Option (AV×St)):Nat->List AV->St->Option (AV×St)
 |0,_,_=>none
 |n+1,vs,s=>au vs fun x1 vs=>au vs fun x2 vs=>au vs fun x3 vs=>au vs fun dI vs=>bW vs (
 ag c .move [dI] s fun Eh w6=>
 ag c (.fieldA 3) [x1] w6 fun Ei Ay=>
 ag c (.load none) [Ei] Ay fun IU CX=>
 ag c (.lenB .l) [IU] CX fun FT AA=>
 ag c (.bin .lss .num) [Eh,FT] AA fun IV AE=>
 ag c .move [IV] AE fun Ej yG=>
 cS c Ej true .move [dI] yG fun Ek CY=>
 cS c Ej true (.bin .lss .num) [Ek,(.int .i64 12)] CY fun IW D9=>
 ag c .pick [Ej,IW,(.bool false)] D9 fun IX pP=>
 b9 IX (
    cI (fun j90=>
    ei (.load (some 5)) [x3] pP.heap (fun _=>true) fun sy=>
    aJ (.fieldA 3) [x1] fun Cq=>
    ei (.load none) [Cq] pP.heap (fun _=>true) fun Cr=>
    aJ .move [dI] fun zk=>
    aJ (.idxA 1 none) [Cr,zk] fun Eo=>
    ei (.load none) [Eo] pP.heap (fun _=>true) fun Cs=>
    aJ (.conv (.int .i64)) [Cs] fun pV=>
    ag c (.callF 50) [sy,pV] pP fun GM yL=>
    aJ .move [GM] fun FU=>
    aJ (.extract 0) [FU] fun GN=>
    CQ (.alloc [(.int .u8 0),(.int .i64 0),(.str []),(.str []),(.str []),(.int .i64 0)]) [] yL fun cU b93=>
    ag c (.store 6) [cU,GN] (ay yL b93) fun _ vC=>
    aJ (.extract 1) [FU] fun Er=>
    aJ .move [Er] fun eL=>
    ag c .move [eL] vC fun GO yK=>
    b9 GO (
     ag c (.fieldA 4) [x3] yK fun GP wP=>
     ag c (.load none) [GP] wP fun GQ uF=>
     ag c .move [GQ] uF fun gO rj=>
     ag c .move [gO] rj fun Ct Eg=>
     ag c (.load (some 6)) [cU] Eg fun GU u5=>
     ag c (.buildSlice 6 1 [(.int .u8 0),(.int .i64 0),(.str []),(.str []),(.str []),(.int .i64 0)] [0]) [GU] u5 fun GV Cg=>
     ag c (.append 6 72) [Ct,GV] Cg fun Nw Ch=>
     ag c (.fieldA 4) [x3] Ch fun Nx Ci=>
     ag c (.store 1) [Nx,Nw] Ci fun _ Cj=>
     j90 [x1,x2,x3,dI] Cj) (
     j90 [x1,x2,x3,dI] yK))
 (fun vs C7=>au vs fun x1 vs=>au vs fun x2 vs=>au vs fun x3 vs=>au vs fun dI vs=>bW vs (
    ag c .move [dI] C7 fun IY Ck=>
    ag c (.bin .add .num) [IY,(.int .i64 1)] Ck fun xG Cl=>
    ag c .move [xG] Cl fun dI Cm=>
    dW c F k6 n [x1,x2,x3,dI] Cm))) (
    k6 [x2,x3] pP))
def iG (c:ak) (F:Nat) (x0:AV) (s:St):Option (AV×St):=
 ag c .box [x0] s fun x1 s0=>
 ag c (.alloc [.ai,.ai,.ai,.ai,.ai]) [] s0 fun x2 s1=>
 ag c (.alloc [.ai,.ai,.ai,.ai,.ai]) [] s1 fun x3 s2=>
 ag c .move [(.int .i64 0)] s2 fun x4 s3=>
 ag c .move [(.int .i64 0)] s3 fun x5 s4=>
 c9 c F (fun vs td=>au vs fun x1 vs=>au vs fun x2 vs=>au vs fun x3 vs=>au vs fun x4 vs=>bW vs (
    aJ (.fieldA 1) [x1] fun vu=>
 ei (.load none) [vu] td.heap (fun _=>true) fun AS=>
 aJ (.fieldA 1) [x1] fun AT=>
 ei (.load none) [AT] td.heap (fun _=>true) fun AW=>
 aJ (.lenB .l) [AW] fun o9=>
 aJ .move [x4] fun vw=>
 aJ .minB [o9,vw] fun AX=>
 aJ (.sliceL 1 false true false) [AS,AX] fun xC=>
 aJ (.fieldA 2) [x1] fun AZ=>
 ei (.load none) [AZ] td.heap (fun _=>true) fun A3=>
 ag c (.callF 49) [xC,A3] td fun A5 vr=>
 CQ (.alloc [.ai,.ai]) [] vr fun x8 b43=>
 ag c (.store 2) [x8,A5] (ay vr b43) fun _ vt=>
 aJ (.fieldA 0) [x8] fun xE=>
 ei (.load none) [xE] vt.heap (fun _=>true) fun A7=>
 aJ (.fieldA 1) [x3] fun ni=>
 ag c (.store 1) [ni,A7] vt fun _ sx=>
 aJ (.fieldA 1) [x8] fun gJ=>
 ei (.load none) [gJ] sx.heap (fun v=>fL (.load none) [gJ] v (fo [] vt.heap)&&true) fun jg=>
 aJ (.fieldA 2) [x3] fun Ad=>
 ag c (.store 1) [Ad,jg] sx fun _ AR=>
 cI (fun j47=>
    ag c (.fieldA 2) [x1] AR fun Ae yI=>
    ag c (.load none) [Ae] yI fun Ag Ec=>
    ag c (.lenB .l) [Ag] Ec fun wY xB=>
    ag c (.bin .rem .num) [wY,(.int .i64 4)] xB fun Ak AY=>
    ag c (.bin .gtr .num) [Ak,(.int .i64 0)] AY fun vn vz=>
    b9 vn (
     ag c .move [(.int .i64 0)] vz fun x9 yJ=>
     fc c F (fun vs At=>au vs fun x1 vs=>au vs fun x2 vs=>au vs fun x3 vs=>bW vs (
        j47 [x1,x2,x3] At)) F [x1,x2,x3,x9] yJ) (
     j47 [x1,x2,x3] vz))
 (fun vs AU=>au vs fun x1 vs=>au vs fun x2 vs=>au vs fun x3 vs=>bW vs (
    ag c .move [(.int .i64 0)] AU fun dI Av=>
    dW c F (fun vs Cn=>au vs fun x2 vs=>au vs fun x3 vs=>bW vs (
     ag c (.load (some 5)) [x3] Cn fun Ny Co=>
    ag c (.store 5) [x2,Ny] Co fun _ zj=>
    yo (some 5) x2 zj fun v111=>some (v111,zj))) F [x1,x2,x3,dI] Av)))) F [x1,x2,x3,x4,x5] s4
def iU (c:ak) (F:Nat):Env (AV×St):=n9 [(0,fun K n=>c9 c F (K 2) n),(1,fun K n=>fc c F (K 4) n),(2,fun K n=>dW c F (K 6) n)]
theorem Cu (c:ak) (F:Nat):dP c F (iU c F) (fQ dB ez 0).1 (fQ dB ez 0).2:=iF (j:=0) (ins:=[(.o .h),(.i .h),(.o (.o .h)),(.i (.o .h)),(.o (.i .h))]) (outs:=[(2,[(.o .h),(.i .h),(.o (.o .h)),(.i (.o .h))])]) (s:=(.seq none (.seq none .leaf (.cond .leaf .leaf)) (.seq none (.block (.seq none .leaf (.seq none .leaf (.seq none .leaf .leaf)))) .leaf))) (by kernel_rfl) (fun _ _ _=>by kernel_rfl) (fun _ _ _ _=>by kernel_rfl)
theorem Cv (c:ak) (F:Nat):dP c F (iU c F) (fQ dB ez 1).1 (fQ dB ez 1).2:=iF (j:=1) (ins:=[(.o .h),(.i .h),(.o (.o .h)),(.o (.i (.o .h)))]) (outs:=[(4,[(.o .h),(.i .h),(.o (.o .h))])]) (s:=(.seq none (.seq none .leaf (.cond .leaf .leaf)) (.seq none (.block (.seq none .leaf .leaf)) .leaf))) (by kernel_rfl) (fun _ _ _=>by kernel_rfl) (fun _ _ _ _=>by kernel_rfl)
theorem Cw (c:ak) (F:Nat):dP c F (iU c F) (fQ dB ez 2).1 (fQ dB ez 2).2:=iF (j:=2) (ins:=[(.o .h),(.i .h),(.o (.o .h)),(.o (.o (.i .h)))]) (outs:=[(6,[(.i .h),(.o (.o .h))])]) (s:=(.seq none (.seq none .leaf (.cond .leaf .leaf)) (.seq (some [(.o .h),(.i .h),(.o (.o .h)),(.o (.o (.i .h)))]) (.block (.seq none .leaf (.seq none .leaf (.cond (.seq none .leaf .leaf) .leaf)))) .leaf))) (by kernel_rfl) (fun _ _ _=>by kernel_rfl) (fun _ _ _ _=>by kernel_rfl)
theorem Db (c:ak) (F:Nat): ∀x∈cK dB.code ez,dP c F (iU c F) x.1 x.2:=mD 3 (by kernel_rfl) fun i hi=>match i,hi with|0,_=>Cu c F|1,_=>Cv c F|2,_=>Cw c F|n+3,h=>absurd h (by omega)
theorem Dc (c:ak) (F:Nat) (x0:AV) (s:St):qJ c F (iU c F) dB ez [x0] s=iG c F x0 s:=by kernel_rfl
theorem Ab {c:ak} (hc:dS c) (F:Nat){x0:AV} {s:St} {r:AV×St} (h:iG c F x0 s=some r):c 12 [x0] s=some (tidy s r):=hc.of (A:=dB) (by kernel_rfl) (by kernel_rfl) (Db _ F) (by rw[Dc];exact h)
def jH:aN:=g13.getD default
def mq:Sh:=(.seq none .leaf (.seq none .leaf (.seq none .leaf (.seq none (.seq none .leaf (.block (.loop 0 [.h,(.i (.o .h)),(.o (.i .h)),(.i (.i .h))] [(2,[.h,(.i (.o .h)),(.o (.i .h))])] (.seq none (.seq none .leaf (.cond .leaf .leaf)) (.seq (some [.h,(.i (.o .h)),(.o (.i .h)),(.i (.i .h))]) (.block (.seq none .leaf (.cond (.seq none .leaf .leaf) .leaf))) .leaf))))) (.seq none (.seq none .leaf (.cond (.seq none .leaf .leaf) .leaf)) (.seq none .leaf .leaf))))))
def ey (c:ak) (F:Nat) (k2:List AV->St->Option (AV×St)):Nat->List AV->St->Option (AV×St)
 |0,_,_=>none
 |n+1,vs,s=>au vs fun x0 vs=>au vs fun x4 vs=>au vs fun x5 vs=>au vs fun x6 vs=>bW vs (
 ag c .move [x6] s fun x7 s5=>
 ag c .move [x0] s5 fun x8 s6=>
 ag c (.lenB .s) [x8] s6 fun x9 s7=>
 ag c (.bin .lss .num) [x7,x9] s7 fun eJ s8=>
 b9 eJ (
    cI (fun j9=>
    ag c .move [x0] s8 fun eL jf=>
    ag c .move [x6] jf fun gO nu=>
    ag c .idxS [eL,gO] nu fun mj kY=>
    ag c (.bin .eql .num) [mj,(.int .u8 10)] kY fun mo kQ=>
    b9 mo (
     ag c .move [x4] kQ fun k9 kR=>
     ag c .move [x0] kR fun cW nh=>
     ag c .move [x5] nh fun ek kZ=>
     ag c .move [x6] kZ fun dH kG=>
     ag c (.sliceS true true) [cW,ek,dH] kG fun qf mM=>
     ag c (.buildSlice 1 1 [(.str [])] [0]) [qf] mM fun pQ oD=>
     ag c (.append 1 16) [k9,pQ] oD fun uK qg=>
     ag c .move [uK] qg fun x4 sj=>
     ag c .move [x6] sj fun uL uN=>
     ag c (.bin .add .num) [uL,(.int .i64 1)] uN fun uM su=>
     ag c .move [uM] su fun x5 sw=>
     j9 [x0,x4,x5,x6] sw) (
     j9 [x0,x4,x5,x6] kQ))
 (fun vs j8=>au vs fun x0 vs=>au vs fun x4 vs=>au vs fun x5 vs=>au vs fun x6 vs=>bW vs (
    ag c .move [x6] j8 fun dI xH=>
    ag c (.bin .add .num) [dI,(.int .i64 1)] xH fun cU ru=>
    ag c .move [cU] ru fun x6 sU=>
    ey c F k2 n [x0,x4,x5,x6] sU))) (
    k2 [x0,x4,x5] s8))
def qO (c:ak) (F:Nat) (x0:AV) (s:St):Option (AV×St):=
 ag c .move [.ai] s fun x2 s0=>
 ag c .move [(.bool false)] s0 fun x3 s1=>
 ag c .move [.ai] s1 fun x4 s2=>
 ag c .move [(.int .i64 0)] s2 fun x5 s3=>
 ag c .move [(.int .i64 0)] s3 fun x6 s4=>
 ey c F (fun vs uO=>au vs fun x0 vs=>au vs fun x4 vs=>au vs fun x5 vs=>bW vs (
    ag c .move [x5] uO fun w7 sV=>
 ag c .move [x0] sV fun w9 sW=>
 ag c (.lenB .s) [w9] sW fun xe uP=>
 ag c (.bin .lss .num) [w7,xe] uP fun xj sY=>
 b9 xj (
    ag c .move [x4] sY fun xk sZ=>
    ag c .move [x0] sZ fun xo vp=>
    ag c .move [x5] vp fun xp uQ=>
    ag c (.sliceS true false) [xo,xp] uQ fun xq xA=>
    ag c (.buildSlice 1 1 [(.str [])] [0]) [xq] xA fun xw uR=>
    ag c (.append 1 16) [xk,xw] uR fun xx uS=>
    ag c .move [xx] uS fun x2 CZ=>
    ag c .move [(.bool false)] CZ fun x3 td=>
    some (.tuple [x2,x3],td)) (
    ag c .move [x4] sY fun xz vr=>
 ag c .move [xz] vr fun x2 AO=>
 ag c .move [(.bool true)] AO fun x3 vt=>
 some (.tuple [x2,x3],vt)))) F [x0,x4,x5,x6] s4
def pg (c:ak) (F:Nat):Env (AV×St):=n9 [(0,fun K n=>ey c F (K 2) n)]
theorem Dd (c:ak) (F:Nat):dP c F (pg c F) (fQ jH mq 0).1 (fQ jH mq 0).2:=iF (j:=0) (ins:=[.h,(.i (.o .h)),(.o (.i .h)),(.i (.i .h))]) (outs:=[(2,[.h,(.i (.o .h)),(.o (.i .h))])]) (s:=(.seq none (.seq none .leaf (.cond .leaf .leaf)) (.seq (some [.h,(.i (.o .h)),(.o (.i .h)),(.i (.i .h))]) (.block (.seq none .leaf (.cond (.seq none .leaf .leaf) .leaf))) .leaf))) (by kernel_rfl) (fun _ _ _=>by kernel_rfl) (fun _ _ _ _=>by kernel_rfl)
theorem Es (c:ak) (F:Nat): ∀x∈cK jH.code mq,dP c F (pg c F) x.1 x.2:=mD 1 (by kernel_rfl) fun i hi=>match i,hi with|0,_=>Dd c F|n+1,h=>absurd h (by omega)
theorem Eu (c:ak) (F:Nat) (x0:AV) (s:St):qJ c F (pg c F) jH mq [x0] s=qO c F x0 s:=by kernel_rfl
theorem Cd {c:ak} (hc:dS c) (F:Nat){x0:AV} {s:St} {r:AV×St} (h:qO c F x0 s=some r):c 13 [x0] s=some (tidy s r):=hc.of (A:=jH) (by kernel_rfl) (by kernel_rfl) (Es _ F) (by rw[Eu];exact h)
def iC:aN:=g47.getD default
def kA:Sh:=(.seq none .leaf (.seq none .leaf (.seq none .leaf (.seq (some [(.o .h),(.i (.o .h)),(.o (.i .h))]) (.seq none .leaf (.block (.seq none .leaf (.cond .leaf (.seq none .leaf (.cond .leaf (.seq none .leaf (.cond .leaf (.seq none .leaf (.cond (.seq none .leaf .leaf) .leaf)))))))))) (.seq none (.seq none .leaf (.block (.loop 0 [(.o .h),(.i (.o .h)),(.o (.i .h)),(.o (.o (.o .h)))] [(3,[(.i (.o .h)),(.o (.i .h))])] (.seq none (.seq none .leaf (.cond .leaf .leaf)) (.seq (some [(.o .h),(.i (.o .h)),(.o (.i .h)),(.o (.o (.o .h)))]) (.block (.seq none .leaf (.cond (.seq none .leaf .leaf) .leaf))) .leaf))))) (.seq none .leaf .leaf))))))
def cL (c:ak) (F:Nat) (k3:List AV->St->Option (AV×St)):Nat->List AV->St->Option (AV×St)
 |0,_,_=>none
 |n+1,vs,s=>au vs fun x1 vs=>au vs fun x4 vs=>au vs fun x5 vs=>au vs fun x7 vs=>bW vs (
 ag c .move [x7] s fun Ag Aj=>
 ag c (.load (some 7)) [x5] Aj fun wY Ep=>
 ag c (.callF 48) [wY] Ep fun Ak D8=>
 ag c (.bin .lss .num) [Ag,Ak] D8 fun vn CV=>
 b9 vn (
    cI (fun j72=>
    ag c .move [x1] CV fun Ao Am=>
    ag c .move [x7] Am fun Aq wZ=>
    ag c (.bin .shr .num) [Ao,Aq] wZ fun yE Ap=>
    ag c (.bin .rem .num) [yE,(.int .i64 2)] Ap fun Au yD=>
    ag c (.bin .eql .num) [Au,(.int .i64 1)] yD fun Aw Ar=>
    ag c .move [Aw] Ar fun vo At=>
    cS c vo true .move [x1] At fun yF Av=>
    cS c vo true (.bin .rem .num) [yF,(.int .i64 3)] Av fun Az w6=>
    cS c vo true (.bin .gtr .num) [Az,(.int .i64 0)] w6 fun AD Ay=>
    ag c .pick [vo,AD,(.bool false)] Ay fun AG CX=>
    b9 AG (
     ag c (.fieldA 4) [x5] CX fun AH AA=>
     ag c (.load none) [AH] AA fun A9 AE=>
     ag c .move [A9] AE fun x8 yG=>
     ag c .move [x8] yG fun xF CY=>
     ag c .move [x7] CY fun vD D9=>
     ag c (.buildSlice 1 1 [(.int .i64 0)] [0]) [vD] D9 fun Ba pP=>
     ag c (.append 1 8) [xF,Ba] pP fun Bb Ee=>
     ag c (.fieldA 4) [x5] Ee fun Bc C7=>
     ag c (.store 1) [Bc,Bb] C7 fun _ yL=>
     j72 [x1,x4,x5,x7] yL) (
     j72 [x1,x4,x5,x7] CX))
 (fun vs D7=>au vs fun x1 vs=>au vs fun x4 vs=>au vs fun x5 vs=>au vs fun x7 vs=>bW vs (
    ag c .move [x7] D7 fun Al Ef=>
    ag c (.bin .add .num) [Al,(.int .i64 1)] Ef fun An vC=>
    ag c .move [An] vC fun x7 yK=>
    cL c F k3 n [x1,x4,x5,x7] yK))) (
    k3 [x4,x5] CV))
def o7 (c :ak) (F:Nat) (x0 x1:AV) (s:St):Option (AV×St):=
 ag c (.alloc [(.str []),(.int .u8 0),(.int .i64 0),(.int .i64 0),.ai,(.int .i64 0),(.int .i64 0)]) [] s fun x4 s0=>
 ag c .move [x0] s0 fun x9 s1=>
 ag c (.callF 109) [x9] s1 fun eJ s2=>
 ag c .move [x1] s2 fun dI s3=>
 ag c (.bin .rem .num) [dI,(.int .i64 4)] s3 fun cU s4=>
 ag c (.bin .add .num) [(.int .i64 1),cU] s4 fun eL s5=>
 ag c (.conv (.int .u8)) [eL] s5 fun gO s6=>
 ag c .move [x1] s6 fun mj s7=>
 ag c .move [x1] s7 fun mo s8=>
 ag c (.bin .sub .num) [(.int .i64 255),mo] s8 fun k9 s9=>
 ag c (.build [(.str []),(.int .u8 0),(.int .i64 0),(.int .i64 0),.ai,(.int .i64 0),(.int .i64 0)] [(0,1),(1,1),(5,1),(6,1)]) [eJ,gO,mj,k9] s9 fun cW j8=>
 ag c (.alloc [(.str []),(.int .u8 0),(.int .i64 0),(.int .i64 0),.ai,(.int .i64 0),(.int .i64 0)]) [] j8 fun x5 jf=>
 ag c (.store 7) [x5,cW] jf fun _ nu=>
 ag c .move [x1] nu fun ek kY=>
 ag c (.bin .quo .num) [ek,(.int .i64 4)] kY fun dH kQ=>
 ag c .move [dH] kQ fun x6 kR=>
 cI (fun  TP=>
    ag c (.fieldA 1) [x5] kR fun qf kG=>
    ag c (.load none) [qf] kG fun pQ mM=>
    ag c (.bin .eql .num) [pQ,(.int .u8 1)] mM fun uL oD=>
    ag c .move [uL] oD fun uK qg=>
    b9 uK (
     ag c .move [x6] qg fun uM sj=>
     ag c (.bin .rem .num) [uM,(.int .i64 6)] sj fun w7 uN=>
     ag c (.bin .add .num) [(.int .i64 1),w7] uN fun w9 su=>
     ag c (.fieldA 2) [x5] su fun xe sw=>
     ag c (.store 1) [xe,w9] sw fun _ xH=>
     TP [x1,x4,x5] xH) (
     ag c (.bin .eql .num) [pQ,(.int .u8 2)] qg fun xk ru=>
     ag c .move [xk] ru fun xj sU=>
     b9 xj (
        ag c .move [x6] sU fun xo uO=>
        ag c (.bin .rem .num) [xo,(.int .i64 3)] uO fun xp sV=>
        ag c (.bin .add .num) [(.int .i64 1),xp] sV fun xq sW=>
        ag c .move [x6] sW fun xw uP=>
        ag c (.bin .quo .num) [xw,(.int .i64 3)] uP fun xx sY=>
        ag c (.bin .rem .num) [xx,(.int .i64 3)] sY fun xz sZ=>
        ag c (.fieldA 2) [x5] sZ fun vq vp=>
        ag c (.store 1) [vq,xq] vp fun _ uQ=>
        ag c (.fieldA 3) [x5] uQ fun AI xA=>
        ag c (.store 1) [AI,xz] xA fun _ uR=>
        TP [x1,x4,x5] uR) (
        ag c (.bin .eql .num) [pQ,(.int .u8 3)] sU fun AL uS=>
        ag c .move [AL] uS fun AK CZ=>
        b9 AK (
          ag c .move [x6] CZ fun AM td=>
          ag c (.bin .rem .num) [AM,(.int .i64 2)] td fun AN vr=>
          ag c (.bin .add .num) [(.int .i64 1),AN] vr fun AP AO=>
          ag c .move [x6] AO fun AQ vt=>
          ag c (.bin .quo .num) [AQ,(.int .i64 2)] vt fun vu sx=>
          ag c (.bin .rem .num) [vu,(.int .i64 2)] sx fun AS AR=>
          ag c (.bin .add .num) [(.int .i64 1),AS] AR fun AT C2=>
          ag c (.fieldA 2) [x5] C2 fun AW AU=>
          ag c (.store 1) [AW,AP] AU fun _ yI=>
          ag c (.fieldA 3) [x5] yI fun o9 Ec=>
          ag c (.store 1) [o9,AT] Ec fun _ xB=>
          TP [x1,x4,x5] xB) (
          ag c (.bin .eql .num) [pQ,(.int .u8 4)] CZ fun AX AY=>
          ag c .move [AX] AY fun vw vz=>
          b9 vw (
           ag c .move [x6] vz fun xC yJ=>
           ag c (.bin .rem .num) [xC,(.int .i64 5)] yJ fun AZ A4=>
           ag c (.bin .add .num) [(.int .i64 1),AZ] A4 fun A3 xD=>
           ag c (.fieldA 2) [x5] xD fun A5 A6=>
           ag c (.store 1) [A5,A3] A6 fun _ Ed=>
           ag c (.fieldA 2) [x5] Ed fun xE C3=>
           ag c (.load none) [xE] C3 fun A7 C4=>
           ag c .move [x6] C4 fun gJ A8=>
           ag c (.bin .quo .num) [gJ,(.int .i64 5)] A8 fun jg yB=>
           ag c (.bin .rem .num) [jg,(.int .i64 4)] yB fun ni C6=>
           ag c .minB [A7,ni] C6 fun Ad yH=>
           ag c (.fieldA 3) [x5] yH fun Ae Af=>
           ag c (.store 1) [Ae,Ad] Af fun _ Ah=>
           TP [x1,x4,x5] Ah) (
           TP [x1,x4,x5] vz)))))
 (fun vs kZ=>au vs fun x1 vs=>au vs fun x4 vs=>au vs fun x5 vs=>bW vs (
    ag c .move [(.int .i64 0)] kZ fun x7 yC=>
    cL c F (fun vs wP=>au vs fun x4 vs=>au vs fun x5 vs=>bW vs (
     ag c (.load (some 7)) [x5] wP fun uE uF=>
    ag c (.store 7) [x4,uE] uF fun _ rj=>
    yo (some 7) x4 rj fun Tf=>some (Tf,rj))) F [x1,x4,x5,x7] yC))
def oe (c:ak) (F:Nat):Env (AV×St):=n9 [(0,fun K n=>cL c F (K 3) n)]
theorem Bd (c:ak) (F:Nat):dP c F (oe c F) (fQ iC kA 0).1 (fQ iC kA 0).2:=iF (j:=0) (ins:=[(.o .h),(.i (.o .h)),(.o (.i .h)),(.o (.o (.o .h)))]) (outs:=[(3,[(.i (.o .h)),(.o (.i .h))])]) (s:=(.seq none (.seq none .leaf (.cond .leaf .leaf)) (.seq (some [(.o .h),(.i (.o .h)),(.o (.i .h)),(.o (.o (.o .h)))]) (.block (.seq none .leaf (.cond (.seq none .leaf .leaf) .leaf))) .leaf))) (by kernel_rfl) (fun _ _ _=>by kernel_rfl) (fun _ _ _ _=>by kernel_rfl)
theorem Cx (c:ak) (F:Nat): ∀x∈cK iC.code kA,dP c F (oe c F) x.1 x.2:=mD 1 (by kernel_rfl) fun i hi=>match i,hi with|0,_=>Bd c F|n+1,h=>absurd h (by omega)
theorem Cy (c:ak) (F:Nat) (x0 x1:AV) (s:St):qJ c F (oe c F) iC kA [x0,x1] s=o7 c F x0 x1 s:=by kernel_rfl
theorem zc {c:ak} (hc:dS c) (F:Nat){x0 x1:AV} {s:St} {r:AV×St} (h:o7 c F x0 x1 s=some r):c 47 [x0,x1] s=some (tidy s r):=hc.of (A:=iC) (by kernel_rfl) (by kernel_rfl) (Cx _ F) (by rw[Cy];exact h)
def vg (c:ak) (F:Nat) (x0:AV) (s:St):Option (AV×St):=
 ag c .box [x0] s fun x1 s0=>
 ag c .move [(.int .i64 0)] s0 fun x2 s1=>
 ag c (.fieldA 1) [x1] s1 fun x3 s2=>
 ag c (.load none) [x3] s2 fun x4 s3=>
 ag c (.bin .eql .num) [x4,(.int .u8 2)] s3 fun x6 s4=>
 ag c .move [x6] s4 fun x5 s5=>
 b9 x5 (
    ag c (.fieldA 2) [x1] s5 fun x7 s6=>
    ag c (.load none) [x7] s6 fun x8 s7=>
    ag c (.bin .mul .num) [(.int .i64 2),x8] s7 fun x9 s8=>
    ag c (.fieldA 3) [x1] s8 fun eJ s9=>
    ag c (.load none) [eJ] s9 fun dI j8=>
    ag c (.bin .add .num) [x9,dI] j8 fun cU jf=>
    ag c .move [cU] jf fun x2 nu=>
    some (x2,nu)) (
    ag c (.bin .eql .num) [x4,(.int .u8 3)] s5 fun gO kY=>
    ag c .move [gO] kY fun eL kQ=>
    b9 eL (
     ag c (.fieldA 2) [x1] kQ fun mj kR=>
     ag c (.load none) [mj] kR fun mo nh=>
     ag c (.fieldA 3) [x1] nh fun k9 kZ=>
     ag c (.load none) [k9] kZ fun cW kG=>
     ag c (.bin .mul .num) [(.int .i64 2),cW] kG fun ek mM=>
     ag c (.bin .add .num) [mo,ek] mM fun dH oD=>
     ag c .move [dH] oD fun x2 qg=>
     some (x2,qg)) (
     ag c (.fieldA 2) [x1] kQ fun qf sj=>
 ag c (.load none) [qf] sj fun pQ uN=>
 ag c .move [pQ] uN fun x2 su=>
 some (x2,su)))
theorem zY {c:ak} (hc:dS c) (F:Nat){x0:AV} {s:St} {r:AV×St} (h:vg c F x0 s=some r):c 48 [x0] s=some (tidy s r):=hc.IQ (A:=g48.getD default) (F:=F) (s:=(.seq none .leaf (.seq none (.seq none .leaf (.block (.seq none .leaf (.cond (.seq none .leaf .leaf) (.seq none .leaf (.cond (.seq none .leaf .leaf) .leaf)))))) (.seq none .leaf .leaf)))) (by kernel_rfl) (by kernel_rfl) (by kernel_rfl) (by kernel_rfl) h
def cg:aN:=g49.getD default
def cO:Sh:=(.seq none .leaf (.seq none .leaf (.seq none (.seq none .leaf (.block (.loop 0 [.h,(.o .h),(.i (.o .h)),(.o (.i .h)),(.i (.i .h))] [(2,[(.o .h),(.i (.o .h)),(.o (.i .h))])] (.seq none (.seq none .leaf (.cond .leaf .leaf)) (.seq (some [.h,(.o .h),(.i (.o .h)),(.o (.i .h)),(.i (.i .h))]) (.block (.seq none .leaf (.seq none .leaf (.seq (some [.h,(.o .h),(.i (.o .h)),(.o (.i .h)),(.i (.i .h)),(.o (.o (.o .h))),(.i (.o (.o .h)))]) (.seq none .leaf (.cond .leaf .leaf)) (.seq (some [.h,(.o .h),(.i (.o .h)),(.o (.i .h)),(.i (.i .h)),(.o (.o (.o .h))),(.i (.o (.o .h)))]) (.seq none .leaf (.cond .leaf .leaf)) (.seq (some [.h,(.o .h),(.i (.o .h)),(.o (.i .h)),(.i (.i .h)),(.o (.o (.o .h))),(.i (.o (.o .h)))]) (.seq none .leaf (.cond .leaf .leaf)) (.seq none (.seq none .leaf (.block (.loop 1 [.h,(.o .h),(.i (.o .h)),(.o (.i .h)),(.i (.i .h)),(.o (.o (.o .h))),(.i (.o (.o .h))),(.o (.i (.o .h)))] [(4,[.h,(.o .h),(.i (.o .h)),(.o (.i .h)),(.i (.i .h)),(.i (.o (.o .h)))])] (.seq none (.seq none .leaf (.cond .leaf .leaf)) (.seq (some [.h,(.o .h),(.i (.o .h)),(.o (.i .h)),(.i (.i .h)),(.o (.o (.o .h))),(.i (.o (.o .h))),(.o (.i (.o .h)))]) (.block (.seq none .leaf (.cond (.seq none .leaf .leaf) .leaf))) .leaf))))) (.seq none .leaf .leaf)))))))) .leaf))))) (.seq none .leaf (.seq none (.seq none .leaf (.block (.loop 2 [(.o .h),(.i (.o .h)),(.o (.i .h)),(.i (.o (.i .h))),(.o (.i (.i .h)))] [(6,[(.i (.o .h)),(.o (.i .h))])] (.seq none (.seq none .leaf (.cond .leaf .leaf)) (.seq none (.block (.seq none .leaf (.block (.loop 3 [(.o .h),(.i (.o .h)),(.o (.i .h)),(.i (.o (.i .h))),(.o (.i (.i .h))),(.i (.i (.i .h)))] [(8,[(.o .h),(.i (.o .h)),(.o (.i .h)),(.i (.o (.i .h))),(.o (.i (.i .h)))])] (.seq none (.seq none .leaf (.cond .leaf .leaf)) (.seq (some [(.o .h),(.i (.o .h)),(.o (.i .h)),(.i (.o (.i .h))),(.o (.i (.i .h))),(.i (.i (.i .h)))]) (.block (.seq none (.seq none .leaf (.cond .leaf .leaf)) (.seq none (.seq none .leaf (.cond .leaf .leaf)) (.seq (some [(.o .h),(.i (.o .h)),(.o (.i .h)),(.i (.o (.i .h))),(.o (.i (.i .h))),(.i (.i (.i .h)))]) (.seq none .leaf (.cond (.seq none .leaf .leaf) .leaf)) .leaf)))) .leaf)))))) .leaf))))) (.seq none .leaf .leaf))))))
def dU (c:ak) (F:Nat) (k4:List AV->St->Option (AV×St)):Nat->List AV->St->Option (AV×St)
 |0,_,_=>none
 |n+1,vs,s=>au vs fun x0 vs=>au vs fun x1 vs=>au vs fun x4 vs=>au vs fun x5 vs=>au vs fun x6 vs=>au vs fun x7 vs=>au vs fun x8 vs=>au vs fun x9 vs=>bW vs (
 ag c .move [x9] s fun yE CV=>
 ag c (.bin .lss .num) [yE,(.int .i64 4)] CV fun Au CW=>
 b9 Au (
    cI (fun j73=>
    ag c .move [x7] CW fun yF wZ=>
    ag c .move [x9] wZ fun Az Ap=>
    ag c (.bin .mul .num) [(.int .i64 2),Az] Ap fun AD yD=>
    ag c (.bin .add .num) [(.int .i64 6),AD] yD fun AG Ar=>
    ag c (.bin .shr .num) [yF,AG] Ar fun AH At=>
    ag c (.bin .rem .num) [AH,(.int .i64 4)] At fun A9 Av=>
    ag c (.bin .eql .num) [A9,(.int .i64 1)] Av fun xF w6=>
    b9 xF (
     ag c (.fieldA 8) [x8] w6 fun vD Ay=>
     ag c (.load none) [vD] Ay fun Ba CX=>
     ag c .move [Ba] CX fun eJ AA=>
     ag c .move [eJ] AA fun Bb AE=>
     ag c .move [x9] AE fun Bc yG=>
     ag c (.callF 110) [Bc] yG fun uE CY=>
     ag c (.buildSlice 1 1 [(.str [])] [0]) [uE] CY fun C5 D9=>
     ag c (.append 1 16) [Bb,C5] D9 fun Eh pP=>
     ag c (.fieldA 8) [x8] pP fun Ei Ee=>
     ag c (.store 1) [Ei,Eh] Ee fun _ C7=>
     j73 [x0,x1,x4,x5,x6,x7,x8,x9] C7) (
     j73 [x0,x1,x4,x5,x6,x7,x8,x9] w6))
 (fun vs Am=>au vs fun x0 vs=>au vs fun x1 vs=>au vs fun x4 vs=>au vs fun x5 vs=>au vs fun x6 vs=>au vs fun x7 vs=>au vs fun x8 vs=>au vs fun x9 vs=>bW vs (
    ag c .move [x9] Am fun Aw yL=>
    ag c (.bin .add .num) [Aw,(.int .i64 1)] yL fun vo Ef=>
    ag c .move [vo] Ef fun x9 vC=>
    dU c F k4 n [x0,x1,x4,x5,x6,x7,x8,x9] vC))) (
    k4 [x0,x1,x4,x5,x6,x8] CW))
def cZ (c:  ak) (F:Nat) (k2:List AV->St->Option (AV×St)):Nat->List AV->St->Option (AV×St)
 |0,_,_=>none
 |n+1,vs,s=>au vs fun x0 vs=>au vs fun x1 vs=>au vs fun x4 vs=>au vs fun x5 vs=>au vs fun x6 vs=>bW vs (
 ag c .move [x6] s fun mo s3=>
 ag c .move [x0] s3 fun k9 s4=>
 ag c (.lenB .l) [k9] s4 fun cW s5=>
 ag c (.bin .lss .num) [mo,cW] s5 fun ek s6=>
 ag c .move [ek] s6 fun dH s7=>
 cS c dH true .move [x6] s7 fun qf s8=>
 cS c dH true (.bin .lss .num) [qf,(.int .i64 12)] s8 fun pQ s9=>
 ag c .pick [dH,pQ,(.bool false)] s9 fun uK j8=>
 b9 uK  (
    cI (fun j11=>
    ag c .move [x0] j8 fun w7 kY=>
    ag c .move [x6] kY fun w9 kQ=>
    ag c (.idxA 1 none) [w7,w9] kQ fun xe kR=>
    ag c (.load none) [xe] kR fun xj nh=>
    ag c (.conv (.int .i64)) [xj] nh fun xk kZ=>
    ag c .move [xk] kZ fun x7 kG=>
    ag c .move [x6] kG fun xo mM=>
    ag c (.bin .mul .num) [(.int .i64 25),xo] mM fun xp oD=>
    ag c (.bin .rem .num) [xp,(.int .i64 312)] oD fun xq qg=>
    ag c .move [x6] qg fun xw sj=>
    ag c (.bin .quo .num) [xw,(.int .i64 12)] sj fun xx uN=>
    ag c (.bin .add .num) [xq,xx] uN fun xz su=>
    ag c (.callF 110) [xz] su fun vq sw=>
    ag c .move [x7] sw fun AI xH=>
    ag c (.bin .rem .num) [AI,(.int .i64 4)] xH fun AK ru=>
    ag c (.bin .mul .num) [AK,(.int .i64 500)] ru fun AL sU=>
    ag c .move [x7] sU fun AM uO=>
    ag c (.bin .rem .num) [AM,(.int .i64 3)] uO fun AN sV=>
    ag c .move [x7] sV fun AP sW=>
    ag c (.bin .rem .num) [AP,(.int .i64 5)] sW fun AQ uP=>
    ag c (.bin .eql .num) [AQ,(.int .i64 0)] uP fun vu sY=>
    ag c .move [x7] sY fun AS sZ=>
    ag c (.bin .rem .num) [AS,(.int .i64 7)] sZ fun AT vp=>
    ag c (.bin .eql .num) [AT,(.int .i64 0)] vp fun AW uQ=>
    ag c (.build [(.str []),(.str []),(.str []),(.int .i64 0),(.int .i64 0),(.str []),(.bool false),(.bool false),.ai] [(0,1),(3,1),(4,1),(6,1),(7,1)]) [vq,AL,AN,vu,AW] uQ fun o9 xA=>
    ag c (.alloc [(.str []),(.str []),(.str []),(.int .i64 0),(.int .i64 0),(.str []),(.bool false),(.bool false),.ai]) [] xA fun x8 uR=>
    ag c (.store 9) [x8,o9] uR fun _ uS=>
    cI (fun PE=>
     ag c .move [x7] uS fun vw vr=>
     ag c (.bin .rem .num) [vw,(.int .i64 2)] vr fun AX AO=>
     ag c (.bin .eql .num) [AX,(.int .i64 1)] AO fun xC vt=>
     b9 xC (
        ag c .move [x7] vt fun AZ sx=>
        ag c (.bin .rem .num) [AZ,(.int .i64 3)] sx fun A3 AR=>
        ag c (.callF 110) [A3] AR fun A5 C2=>
        ag c (.fieldA 1) [x8] C2 fun xE AU=>
        ag c (.store 1) [xE,A5] AU fun _ yI=>
        PE [x0,x1,x4,x5,x6,x7,x8] yI) (
        PE [x0,x1,x4,x5,x6,x7,x8] vt))
    (fun vs td=>au vs fun x0 vs=>au vs fun x1 vs=>au vs fun x4 vs=>au vs fun x5 vs=>au vs fun x6 vs=>au vs fun x7 vs=>au vs fun x8 vs=>bW vs (
     cI (fun j50=>
        ag c .move [x7] td fun A7 AY=>
        ag c (.bin .rem .num) [A7,(.int .i64 8)] AY fun gJ vz=>
        ag c (.bin .gtr .num) [gJ,(.int .i64 4)] vz fun jg yJ=>
        b9 jg (
         ag c .move [x7] yJ fun ni A4=>
         ag c (.bin .rem .num) [ni,(.int .i64 8)] A4 fun Ad xD=>
         ag c (.callF 110) [Ad] xD fun Ae A6=>
         ag c (.fieldA 2) [x8] A6 fun Ag Ed=>
         ag c (.store 1) [Ag,Ae] Ed fun _ C3=>
         j50 [x0,x1,x4,x5,x6,x7,x8] C3) (
         j50 [x0,x1,x4,x5,x6,x7,x8] yJ))
     (fun vs xB=>au vs fun x0 vs=>au vs fun x1 vs=>au vs fun x4 vs=>au vs fun x5 vs=>au vs fun x6 vs=>au vs fun x7 vs=>au vs fun x8 vs=>bW vs (
        cI (fun j60=>
         ag c .move [x7] xB fun wY yB=>
         ag c (.bin .rem .num) [wY,(.int .i64 3)] yB fun Ak C6=>
         ag c (.bin .eql .num) [Ak,(.int .i64 2)] C6 fun vn yH=>
         b9 vn (
            ag c .move [x7] yH fun Al Af=>
            ag c (.bin .rem .num) [Al,(.int .i64 5)] Af fun An Ah=>
            ag c (.callF 110) [An] Ah fun Ao yC=>
            ag c (.fieldA 5) [x8] yC fun Aq Aj=>
            ag c (.store 1) [Aq,Ao] Aj fun _ Ep=>
            j60 [x0,x1,x4,x5,x6,x7,x8] Ep) (
            j60 [x0,x1,x4,x5,x6,x7,x8] yH))
        (fun vs A8=>au vs fun x0 vs=>au vs fun x1 vs=>au vs fun x4 vs=>au vs fun x5 vs=>au vs fun x6 vs=>au vs fun x7 vs=>au vs fun x8 vs=>bW vs (
         ag c .move [(.int .i64 0)] A8 fun x9 D8=>
         dU c F (fun vs yK=>au vs fun x0 vs=>au vs fun x1 vs=>au vs fun x4 vs=>au vs fun x5 vs=>au vs fun x6 vs=>au vs fun x8 vs=>bW vs (
            ag c (.fieldA 0) [x5] yK fun IU wP=>
         ag c (.load none) [IU] wP fun FT uF=>
         ag c .move [FT] uF fun dI rj=>
         ag c .move [dI] rj fun IV Eg=>
         ag c (.load (some 9)) [x8] Eg fun Ej u5=>
         ag c (.buildSlice 9 1 [(.str []),(.str []),(.str []),(.int .i64 0),(.int .i64 0),(.str []),(.bool false),(.bool false),.ai] [0]) [Ej] u5 fun Ek Cg=>
         ag c (.append 9 112) [IV,Ek] Cg fun IW Ch=>
         ag c (.fieldA 0) [x5] Ch fun IX Ci=>
         ag c (.store 1) [IX,IW] Ci fun _ Cj=>
         j11 [x0,x1,x4,x5,x6] Cj)) F [x0,x1,x4,x5,x6,x7,x8,x9] D8)))))))
 (fun vs nu=>au vs fun x0 vs=>au vs fun x1 vs=>au vs fun x4 vs=>au vs fun x5 vs=>au vs fun x6 vs=>bW vs (
    ag c .move [x6] nu fun uL Ck=>
    ag c (.bin .add .num) [uL,(.int .i64 1)] Ck fun uM Cl=>
    ag c .move [uM] Cl fun x6 Cm=>
    cZ c F k2 n [x0,x1,x4,x5,x6] Cm))) (
    k2 [x1,x4,x5] j8))
def cr (c:ak) (F:Nat) (k8:List AV->St->Option (AV×St)):Nat->List AV->St->Option (AV×St)
 |0,_,_=>none
 |n+1,vs,s=>au vs fun x1 vs=>au vs fun x4 vs=>au vs fun x5 vs=>au vs fun cU vs=>au vs fun eL vs=>au vs fun gO vs=>bW vs (
 ag c .move [gO] s fun zk GJ=>
 ag c (.bin .lss .num) [zk,(.int .i64 312)] GJ fun Eo Cp=>
 b9 Eo  (
    cI (fun Nz=>
    ag c (.load (some 2)) [x5] Cp fun GM JB=>
    ag c .move [eL] JB fun GN Nt=>
    ag c (.callF 111) [GM,GN] Nt fun Er JC=>
    ag c (.un .not) [Er] JC fun GO JD=>
    b9 GO (
     k8 [x1,x4,x5,cU,eL] JD) (
     ag c (.load (some 2)) [x5] JD fun GP Nu=>
    ag c .move [gO] Nu fun GQ Nv=>
    ag c (.callF 111) [GP,GQ] Nv fun Ct Gq=>
    ag c (.un .not) [Ct] Gq fun GU DT=>
    b9 GU (
     Nz [x1,x4,x5,cU,eL,gO] DT) (
     cI (fun j128=>
     ag c .move [cU] DT fun GV Wg=>
     ag c .move [x1] Wg fun Nw Wh=>
     ag c (.lenB .l) [Nw] Wh fun Nx Wi=>
     ag c (.bin .lss .num) [GV,Nx] Wi fun Ny Rh=>
     ag c .move [Ny] Rh fun Cz s134=>
     cS c Cz true .move [x1] s134 fun Wj Wl=>
     cS c Cz true .move [cU] Wl fun Wm Ev=>
     cS c Cz true (.idxA 1 none) [Wj,Wm] Ev fun Wn NA=>
     cS c Cz true (.load none) [Wn] NA fun Wo NB=>
     cS c Cz true (.bin .rem .num) [Wo,(.int .u8 4)] NB fun Wp NC=>
     cS c Cz true (.bin .lss .num) [Wp,(.int .u8 2)] NC fun Wq s140=>
     ag c .pick [Cz,Wq,(.bool false)] s140 fun Wr s141=>
     b9 Wr (
        ag c (.fieldA 1) [x5] s141 fun Ws Ri=>
        ag c (.load none) [Ws] Ri fun Wt Wu=>
        ag c .move [Wt] Wu fun mj ND=>
        aJ .move [eL] fun Wv=>
        ag c (.callF 110) [Wv] ND fun Ww Rj=>
        aJ .move [gO] fun Wx=>
        ag c (.callF 110) [Wx] Rj fun Wy NF=>
        aJ .move [mj] fun Wz=>
        aJ .move [x1] fun WA=>
        aJ .move [cU] fun WE=>
        aJ (.idxA 1 none) [WA,WE] fun NG=>
        ei (.load none) [NG] NF.heap (fun v=>(fL (.load none) [NG] v (fo [] Rj.heap)&&(fL (.load none) [NG] v (fo [] ND.heap)&&true))) fun WG=>
        aJ (.bin .rem .num) [WG,(.int .u8 4)] fun WH=>
        aJ (.bin .add .num) [(.int .u8 1),WH] fun WI=>
        aJ (.build [(.str []),(.str []),(.int .u8 0)] [(0,1),(1,1),(2,1)]) [Ww,Wy,WI] fun WJ=>
        CQ (.buildSlice 3 1 [(.str []),(.str []),(.int .u8 0)] [0]) [WJ] NF fun WM b147=>
        ag c (.append 3 40) [Wz,WM] (ay NF b147) fun WN WO=>
        aJ (.fieldA 1) [x5] fun WQ=>
        ag c (.store 1) [WQ,WN] WO fun _ WS=>
        j128 [x1,x4,x5,cU,eL,gO] WS) (
        j128 [x1,x4,x5,cU,eL,gO] s141))
    (fun vs Gr=>au vs fun x1 vs=>au vs fun x4 vs=>au vs fun x5 vs=>au vs fun cU vs=>au vs fun eL vs=>au vs fun gO vs=>bW vs (
     ag c .move [cU] Gr fun WT s150=>
     ag c (.bin .add .num) [WT,(.int .i64 1)] s150 fun WU WV=>
     ag c .move [WU] WV fun cU WW=>
     Nz [x1,x4,x5,cU,eL,gO] WW)))))
 (fun vs GK=>au vs fun x1 vs=>au vs fun x4 vs=>au vs fun x5 vs=>au vs fun cU vs=>au vs fun eL vs=>au vs fun gO vs=>bW vs (
    ag c .move [gO] GK fun Cs WY=>
    ag c (.bin .add .num) [Cs,(.int .i64 1)] WY fun pV Rk=>
    ag c .move [pV] Rk fun gO WZ=>
    cr c F k8 n [x1,x4,x5,cU,eL,gO] WZ))) (
    k8 [x1,x4,x5,cU,eL] Cp))
def e9 (c:ak) (F:Nat) (k6:List AV->St->Option (AV×St)):Nat->List AV->St->Option (AV×St)
 |0,_,_=>none
 |n+1,vs,s=>au vs fun x1 vs=>au vs fun x4 vs=>au vs fun x5 vs=>au vs fun cU vs=>au vs fun eL vs=>bW vs (
 ag c .move [eL] s fun IY GG=>
 ag c (.bin .lss .num) [IY,(.int .i64 312)] GG fun xG El=>
 b9 xG (
    ag c .move [eL] El fun Cq GH=>
 ag c (.bin .add .num) [Cq,(.int .i64 1)] GH fun Cr Em=>
 ag c .move [Cr] Em fun gO Ns=>
 cr c F (fun vs W4=>au vs fun x1 vs=>au vs fun x4 vs=>au vs fun x5 vs=>au vs fun cU vs=>au vs fun eL vs=>bW vs (
    ag c .move [eL] W4 fun FU W6=>
 ag c (.bin .add .num) [FU,(.int .i64 1)] W6 fun sy W7=>
 ag c .move [sy] W7 fun eL W9=>
 e9 c F k6 n [x1,x4,x5,cU,eL] W9)) F [x1,x4,x5,cU,eL,gO] Ns) (
    k6 [x4,x5] El))
def pW (c:ak) (F:Nat) (x0 x1:AV) (s:St):Option (AV×St):=
 ag c (.alloc [.ai,.ai]) [] s fun x4 s0=>
 ag c (.alloc [.ai,.ai]) [] s0 fun x5 s1=>
 ag c .move [(.int .i64 0)] s1 fun x6 s2=>
 cZ c F (fun vs Cn=>au vs fun x1 vs=>au vs fun x4 vs=>au vs fun x5 vs=>bW vs (
    ag c .move [(.int .i64 0)] Cn fun cU Co=>
 ag c .move [(.int .i64 0)] Co fun eL zj=>
 e9 c F (fun vs Xa=>au vs fun x4 vs=>au vs fun x5 vs=>bW vs (
    ag c (.load (some 2)) [x5] Xa fun Xb Xc=>
 ag c (.store 2) [x4,Xb] Xc fun _ Rm=>
 yo (some 2) x4 Rm fun v163=>some (v163,Rm))) F [x1,x4,x5,cU,eL] zj)) F [x0,x1,x4,x5,x6] s2
def gC (c:ak) (F:Nat):Env (AV×St):=n9 [(0,fun K n=>cZ c F (K 2) n),(1,fun K n=>dU c F (K 4) n),(2,fun K n=>e9 c F (K 6) n),(3,fun K n=>cr c F (K 8) n)]
theorem CA (c:ak) (F:Nat):dP c F (gC c F) (fQ cg cO 0).1 (fQ cg cO 0).2:=iF (j:=0) (ins:=[.h,(.o .h),(.i (.o .h)),(.o (.i .h)),(.i (.i .h))]) (outs:=[(2,[(.o .h),(.i (.o .h)),(.o (.i .h))])]) (s:=(.seq none (.seq none .leaf (.cond .leaf .leaf)) (.seq (some [.h,(.o .h),(.i (.o .h)),(.o (.i .h)),(.i (.i .h))]) (.block (.seq none .leaf (.seq none .leaf (.seq (some [.h,(.o .h),(.i (.o .h)),(.o (.i .h)),(.i (.i .h)),(.o (.o (.o .h))),(.i (.o (.o .h)))]) (.seq none .leaf (.cond .leaf .leaf)) (.seq (some [.h,(.o .h),(.i (.o .h)),(.o (.i .h)),(.i (.i .h)),(.o (.o (.o .h))),(.i (.o (.o .h)))]) (.seq none .leaf (.cond .leaf .leaf)) (.seq (some [.h,(.o .h),(.i (.o .h)),(.o (.i .h)),(.i (.i .h)),(.o (.o (.o .h))),(.i (.o (.o .h)))]) (.seq none .leaf (.cond .leaf .leaf)) (.seq none (.seq none .leaf (.block (.loop 1 [.h,(.o .h),(.i (.o .h)),(.o (.i .h)),(.i (.i .h)),(.o (.o (.o .h))),(.i (.o (.o .h))),(.o (.i (.o .h)))] [(4,[.h,(.o .h),(.i (.o .h)),(.o (.i .h)),(.i (.i .h)),(.i (.o (.o .h)))])] (.seq none (.seq none .leaf (.cond .leaf .leaf)) (.seq (some [.h,(.o .h),(.i (.o .h)),(.o (.i .h)),(.i (.i .h)),(.o (.o (.o .h))),(.i (.o (.o .h))),(.o (.i (.o .h)))]) (.block (.seq none .leaf (.cond (.seq none .leaf .leaf) .leaf))) .leaf))))) (.seq none .leaf .leaf)))))))) .leaf))) (by kernel_rfl) (fun _ _ _=>by kernel_rfl) (fun _ _ _ _=>by kernel_rfl)
theorem CB (c:ak) (F:Nat):dP c F (gC c F) (fQ cg cO 1).1 (fQ cg cO 1).2:=iF (j:=1) (ins:=[.h,(.o .h),(.i (.o .h)),(.o (.i .h)),(.i (.i .h)),(.o (.o (.o .h))),(.i (.o (.o .h))),(.o (.i (.o .h)))]) (outs:=[(4,[.h,(.o .h),(.i (.o .h)),(.o (.i .h)),(.i (.i .h)),(.i (.o (.o .h)))])]) (s:=(.seq none (.seq none .leaf (.cond .leaf .leaf)) (.seq (some [.h,(.o .h),(.i (.o .h)),(.o (.i .h)),(.i (.i .h)),(.o (.o (.o .h))),(.i (.o (.o .h))),(.o (.i (.o .h)))]) (.block (.seq none .leaf (.cond (.seq none .leaf .leaf) .leaf))) .leaf))) (by kernel_rfl) (fun _ _ _=>by kernel_rfl) (fun _ _ _ _=>by kernel_rfl)
theorem CC (c:ak) (F:Nat):dP c F (gC c F) (fQ cg cO 2).1 (fQ cg cO 2).2:=iF (j:=2) (ins:=[(.o .h),(.i (.o .h)),(.o (.i .h)),(.i (.o (.i .h))),(.o (.i (.i .h)))]) (outs:=[(6,[(.i (.o .h)),(.o (.i .h))])]) (s:=(.seq none (.seq none .leaf (.cond .leaf .leaf)) (.seq none (.block (.seq none .leaf (.block (.loop 3 [(.o .h),(.i (.o .h)),(.o (.i .h)),(.i (.o (.i .h))),(.o (.i (.i .h))),(.i (.i (.i .h)))] [(8,[(.o .h),(.i (.o .h)),(.o (.i .h)),(.i (.o (.i .h))),(.o (.i (.i .h)))])] (.seq none (.seq none .leaf (.cond .leaf .leaf)) (.seq (some [(.o .h),(.i (.o .h)),(.o (.i .h)),(.i (.o (.i .h))),(.o (.i (.i .h))),(.i (.i (.i .h)))]) (.block (.seq none (.seq none .leaf (.cond .leaf .leaf)) (.seq none (.seq none .leaf (.cond .leaf .leaf)) (.seq (some [(.o .h),(.i (.o .h)),(.o (.i .h)),(.i (.o (.i .h))),(.o (.i (.i .h))),(.i (.i (.i .h)))]) (.seq none .leaf (.cond (.seq none .leaf .leaf) .leaf)) .leaf)))) .leaf)))))) .leaf))) (by kernel_rfl) (fun _ _ _=>by kernel_rfl) (fun _ _ _ _=>by kernel_rfl)
theorem CE (c:ak) (F:Nat):dP c F (gC c F) (fQ cg cO 3).1 (fQ cg cO 3).2:=iF (j:=3) (ins:=[(.o .h),(.i (.o .h)),(.o (.i .h)),(.i (.o (.i .h))),(.o (.i (.i .h))),(.i (.i (.i .h)))]) (outs:=[(8,[(.o .h),(.i (.o .h)),(.o (.i .h)),(.i (.o (.i .h))),(.o (.i (.i .h)))])]) (s:=(.seq none (.seq none .leaf (.cond .leaf .leaf)) (.seq (some [(.o .h),(.i (.o .h)),(.o (.i .h)),(.i (.o (.i .h))),(.o (.i (.i .h))),(.i (.i (.i .h)))]) (.block (.seq none (.seq none .leaf (.cond .leaf .leaf)) (.seq none (.seq none .leaf (.cond .leaf .leaf)) (.seq (some [(.o .h),(.i (.o .h)),(.o (.i .h)),(.i (.o (.i .h))),(.o (.i (.i .h))),(.i (.i (.i .h)))]) (.seq none .leaf (.cond (.seq none .leaf .leaf) .leaf)) .leaf)))) .leaf))) (by kernel_rfl) (fun _ _ _=>by kernel_rfl) (fun _ _ _ _=>by kernel_rfl)
theorem De (c:ak) (F:Nat): ∀x∈cK cg.code cO,dP c F (gC c F) x.1 x.2:=mD 4 (by kernel_rfl) fun i hi=>match i,hi with|0,_=>CA c F|1,_=>CB c F|2,_=>CC c F|3,_=>CE c F|n+4,h=>absurd h (by omega)
theorem Df (c:ak) (F:Nat) (x0 x1:AV) (s:St):qJ c F (gC c F) cg cO [x0,x1] s=pW c F x0 x1 s:=by kernel_rfl
theorem z8 {c:ak} (hc:dS c) (F:Nat){x0 x1:AV} {s:St} {r:AV×St} (h:pW c F x0 x1 s=some r):c 49 [x0,x1] s=some (tidy s r):=hc.of (A:=cg) (by kernel_rfl) (by kernel_rfl) (De _ F) (by rw[Df];exact h)
def jG (c:  ak) (F:Nat) (x0 x1:AV) (s:St):Option (AV×St):=
 ag c .box [x0] s fun x2 s0=>
 ag c (.alloc [(.int .u8 0),(.int .i64 0),(.str []),(.str []),(.str []),(.int .i64 0)]) [] s0 fun x4 s1=>
 ag c .move [(.bool false)] s1 fun x5 s2=>
 ag c .move [x1] s2 fun eL s3=>
 ag c (.bin .rem .num) [eL,(.int .i64 18)] s3 fun gO s4=>
 ag c (.bin .add .num) [(.int .i64 1),gO] s4 fun mj s5=>
 ag c (.conv (.int .u8)) [mj] s5 fun mo s6=>
 ag c (.build [(.int .u8 0),(.int .i64 0),(.str []),(.str []),(.str []),(.int .i64 0)] [(0,1)]) [mo] s6 fun k9 s7=>
 ag c (.alloc [(.int .u8 0),(.int .i64 0),(.str []),(.str []),(.str []),(.int .i64 0)]) [] s7 fun x6 s8=>
 ag c (.store 6) [x6,k9] s8 fun _ s9=>
 ag c .move [x1] s9 fun cW j8=>
 ag c (.bin .quo .num) [cW,(.int .i64 18)] j8 fun ek jf=>
 ag c .move [ek] jf fun x1 nu=>
 cI (fun j13=>
    ag c .move [x1] nu fun dH kR=>
    ag c (.bin .rem .num) [dH,(.int .i64 5)] kR fun qf nh=>
    ag c (.bin .gtr .num) [qf,(.int .i64 1)] nh fun pQ kZ=>
    b9 pQ (
     ag c .move [x1] kZ fun uK kG=>
     ag c (.bin .rem .num) [uK,(.int .i64 7)] kG fun uL mM=>
     ag c (.bin .add .num) [(.int .i64 1),uL] mM fun uM oD=>
     ag c (.fieldA 1) [x6] oD fun w7 qg=>
     ag c (.store 1) [w7,uM] qg fun _ sj=>
     j13 [x1,x2,x4,x6] sj) (
     j13 [x1,x2,x4,x6] kZ))
 (fun vs kQ=>   au vs fun x1 vs=>au vs fun x2 vs=>au vs fun x4 vs=>au vs fun x6 vs=>bW vs (
    ag c .move [x1] kQ fun w9 uN=>
    ag c (.bin .quo .num) [w9,(.int .i64 5)] uN fun xe su=>
    ag c .move [xe] su fun x1 sw=>
    aJ (.fieldA 1) [x2] fun xj=>
    ei (.load none) [xj] sw.heap (fun _=>true) fun xk=>
    aJ (.lenB .l) [xk] fun xo=>
    aJ (.fieldA 0) [x2] fun xp=>
    ei (.load none) [xp] sw.heap (fun _=>true) fun xq=>
    aJ (.lenB .l) [xq] fun xw=>
    aJ .move [xo] fun x7=>
    aJ .move [xw] fun x8=>
    ag c .move [x7] sw fun xx xH=>
    ag c (.bin .eql .num) [xx,(.int .i64 0)] xH fun xz ru=>
    ag c .move [xz] ru fun vq sU=>
    cS c vq false .move [x8] sU fun AI uO=>
    cS c vq false (.bin .eql .num) [AI,(.int .i64 0)] uO fun AK sV=>
    ag c .pick [vq,(.bool true),AK] sV fun AL sW=>
    b9 AL (
     ag c (.load (some 6)) [x6] sW fun AM uP=>
     ag c (.store 6) [x4,AM] uP fun _ sY=>
     ag c .move [(.bool false)] sY fun x5 sZ=>
     yo (some 6) x4 sZ fun v35=>some (.tuple [v35,x5],sZ)) (
     aJ .move [x1] fun AN=>
    aJ .move [x7] fun AP=>
    aJ (.bin .rem .num) [AN,AP] fun AQ=>
    aJ .move [x1] fun vu=>
    aJ .move [x7] fun AS=>
    aJ (.bin .quo .num) [vu,AS] fun AT=>
    aJ .move [x7] fun AW=>
    aJ (.bin .rem .num) [AT,AW] fun o9=>
    aJ .move [x1] fun vw=>
    aJ (.bin .quo .num) [vw,(.int .i64 7)] fun AX=>
    aJ .move [x8] fun xC=>
    aJ (.bin .rem .num) [AX,xC] fun AZ=>
    aJ .move [AQ] fun x9=>
    aJ .move [o9] fun eJ=>
    aJ .move [AZ] fun dI=>
    ag c .move [x1] sW fun A3 uQ=>
    ag c (.bin .quo .num) [A3,(.int .i64 11)] uQ fun A5 xA=>
    ag c (.bin .rem .num) [A5,(.int .i64 4)] xA fun xE uR=>
    ag c .move [xE] uR fun cU uS=>
    cI (fun PE=>
     ag c (.fieldA 0) [x6] uS fun A7 vr=>
     ag c (.load none) [A7] vr fun gJ AO=>
     cI (fun  TQ=>
        ag c (.bin .eql .num) [gJ,(.int .u8 1)] AO fun ni AR=>
        ag c .move [ni] AR fun jg C2=>
        b9 jg (
         TQ [x1,x2,x4,x6,x9,eJ,dI,cU,gJ,jg] C2) (
         ag c (.bin .eql .num) [gJ,(.int .u8 2)] C2 fun Ad AU=>
         ag c .move [Ad] AU fun jg yI=>
         b9 jg  (
            TQ [x1,x2,x4,x6,x9,eJ,dI,cU,gJ,jg] yI) (
            ag c (.bin .eql .num) [gJ,(.int .u8 3)] yI fun Ae Ec=>
            ag c .move [Ae] Ec fun jg xB=>
            b9 jg (
              TQ [x1,x2,x4,x6,x9,eJ,dI,cU,gJ,jg] xB) (
              ag c (.bin .eql .num) [gJ,(.int .u8 4)] xB fun Ag AY=>
              ag c .move [Ag] AY fun jg vz=>
              b9 jg (
                TQ [x1,x2,x4,x6,x9,eJ,dI,cU,gJ,jg] vz) (
                ag c (.bin .eql .num) [gJ,(.int .u8 5)] vz fun wY yJ=>
                ag c .move [wY] yJ fun jg A4=>
                TQ [x1,x2,x4,x6,x9,eJ,dI,cU,gJ,jg] A4)))))
     (fun vs  sx=>  au vs fun x1 vs=>au vs fun x2 vs=>au vs fun x4 vs=>au vs fun x6 vs=>au vs fun x9 vs=>au vs fun eJ vs=>au vs fun dI vs=>au vs fun cU vs=>au vs fun gJ vs=>au vs fun jg vs=>bW vs (
        b9 jg (
         aJ (.fieldA 1) [x2] fun Ak=>
         ei (.load none) [Ak] sx.heap (fun _=>true) fun vn=>
         aJ .move [x9] fun Al=>
         aJ (.idxA 9 none) [vn,Al] fun An=>
         aJ (.fieldA 0) [An] fun Ao=>
         ei (.load none) [Ao] sx.heap (fun _=>true) fun Aq=>
         aJ (.fieldA 2) [x6] fun AD=>
         ag c (.store 1) [AD,Aq] sx fun _ xD=>
         aJ (.fieldA 1) [x2] fun yE=>
         ei (.load none) [yE] xD.heap (fun v=>fL (.load none) [yE] v (fo [] sx.heap)&&true) fun Au=>
         aJ .move [eJ] fun Aw=>
         aJ (.idxA 9 none) [Au,Aw] fun vo=>
         aJ (.fieldA 0) [vo] fun yF=>
         ei (.load none) [yF] xD.heap (fun v=>fL (.load none) [yF] v (fo [] sx.heap)&&true) fun Az=>
         aJ (.fieldA 3) [x6] fun AG=>
         ag c (.store 1) [AG,Az] xD fun _ A6=>
         cI ( fun j58=>
            ag c (.fieldA 0) [x6] A6 fun AH C4=>
            ag c (.load none) [AH] C4 fun A9 A8=>
            ag c (.bin .eql .num) [A9,(.int .u8 1)] A8 fun xF yB=>
            ag c .move [xF] yB fun vD C6=>
            cS c vD false (.fieldA 0) [x6] C6 fun Ba yH=>
            cS c vD false (.load none) [Ba] yH fun Bb Af=>
            cS c vD false (.bin .eql .num) [Bb,(.int .u8 4)] Af fun Bc Ah=>
            ag c .pick [vD,(.bool true),Bc] Ah fun uE yC=>
            b9 uE (
              ag c .move [cU] yC fun C5 Aj=>
              ag c (.fieldA 5) [x6] Aj fun Eh Ep=>
              ag c (.store 1) [Eh,C5] Ep fun _ D8=>
              j58 [x4,x6,x9,eJ] D8) (
              j58 [x4,x6,x9,eJ] yC))
         (fun vs C3=>au vs fun x4 vs=>au vs fun x6 vs=>au vs fun x9 vs=>au vs fun eJ vs=>bW vs (
            cI (fun j71=>
              ag c (.fieldA 0) [x6] C3 fun Ei D7=>
              ag c (.load none) [Ei] D7 fun IU Am=>
              ag c (.bin .eql .num) [IU,(.int .u8 4)] Am fun FT wZ=>
              b9 FT (
                ag c (.fieldA 5) [x6] wZ fun IV Ap=>
                ag c (.load none) [IV] Ap fun Ej yD=>
                ag c (.bin .add .num) [Ej,(.int .i64 1)] yD fun Ek Ar=>
                ag c (.fieldA 5) [x6] Ar fun IW At=>
                ag c (.store 1) [IW,Ek] At fun _ Av=>
                j71 [x4,x6,x9,eJ] Av) (
                j71 [x4,x6,x9,eJ] wZ))
            (fun vs CW=>au vs fun x4 vs=>au vs fun x6 vs=>au vs fun x9 vs=>au vs fun eJ vs=>bW vs (
              ag c (.load (some 6)) [x6] CW fun IX w6=>
              ag c .move [x9] w6 fun IY Ay=>
              ag c .move [eJ] Ay fun xG CX=>
              ag c (.bin .neq .num) [IY,xG] CX fun FU AA=>
              ag c (.store 6) [x4,IX] AA fun _ AE=>
              ag c .move [FU] AE fun x5 yG=>
              yo (some 6) x4 yG fun v87=>some (.tuple [v87,x5],yG)))))) (
         cI ( fun j88=>
            ag c (.bin .eql .num) [gJ,(.int .u8 6)] sx fun Cq Ee=>
            ag c .move [Cq] Ee fun sy C7=>
            b9 sy (
              j88 [x1,x2,x4,x6,x9,dI,cU,gJ,sy] C7) (
              ag c (.bin .eql .num) [gJ,(.int .u8 7)] C7 fun Cr yL=>
              ag c .move [Cr] yL fun sy Ef=>
              j88 [x1,x2,x4,x6,x9,dI,cU,gJ,sy] Ef))
         (fun vs  pP=>au vs fun x1 vs=>au vs fun x2 vs=>au vs fun x4 vs=>au vs fun x6 vs=>au vs fun x9 vs=>au vs fun dI vs=>au vs fun cU vs=>au vs fun gJ vs=>au vs fun sy vs=>bW vs (
            b9 sy (
              aJ (.fieldA 1) [x2] fun zk=>
              ei (.load none) [zk] pP.heap (fun _=>true) fun Eo=>
              aJ .move [x9] fun Cs=>
              aJ (.idxA 9 none) [Eo,Cs] fun pV=>
              aJ (.fieldA 0) [pV] fun GM=>
              ei (.load none) [GM] pP.heap (fun _=>true) fun GN=>
              aJ (.fieldA 2) [x6] fun GV=>
              ag c (.store 1) [GV,GN] pP fun _ vC=>
              aJ (.fieldA 0) [x2] fun Er=>
              ei (.load none) [Er] vC.heap (fun v=>fL (.load none) [Er] v (fo [] pP.heap)&&true) fun GO=>
              aJ .move [dI] fun GP=>
              aJ (.idxA 7 none) [GO,GP] fun GQ=>
              aJ (.fieldA 0) [GQ] fun Ct=>
              ei (.load none) [Ct] vC.heap (fun v=>fL (.load none) [Ct] v (fo [] pP.heap)&&true) fun GU=>
              aJ (.fieldA 4) [x6] fun Nw=>
              ag c (.store 1) [Nw,GU] vC fun _ yK=>
              cI (fun j96=>
                ag c (.fieldA 0) [x6] yK fun Nx rj=>
                ag c (.load none) [Nx] rj fun Ny Eg=>
                ag c (.bin .eql .num) [Ny,(.int .u8 7)] Eg fun Cz u5=>
                b9 Cz (
                  ag c .move [x1] u5 fun Wj Cg=>
                  ag c (.bin .quo .num) [Wj,(.int .i64 13)] Cg fun Wm Ch=>
                  ag c (.fieldA 0) [x2] Ch fun Wn Ci=>
                  ag c (.load none) [Wn] Ci fun Wo Cj=>
                  ag c .move [dI] Cj fun Wp Ck=>
                  ag c (.idxA 7 none) [Wo,Wp] Ck fun Wq Cl=>
                  ag c (.load (some 7)) [Wq] Cl fun Wr Cm=>
                  ag c (.callF 48) [Wr] Cm fun Ws Cn=>
                  ag c (.bin .rem .num) [Wm,Ws] Cn fun Wt Co=>
                  ag c (.fieldA 5) [x6] Co fun Wz zj=>
                  ag c (.store 1) [Wz,Wt] zj fun _ GG=>
                  j96 [x4,x6] GG) (
                  j96 [x4,x6] u5))
              (fun vs uF=>au vs fun x4 vs=>au vs fun x6 vs=>bW vs (
                ag c (.load (some 6)) [x6] uF fun Wv El=>
                ag c (.store 6) [x4,Wv] El fun _ GH=>
                ag c .move [(.bool true)] GH fun x5 Em=>
                yo (some 6) x4 Em fun v115=>some (.tuple [v115,x5],Em)))) (
              ag c (.bin .eql .num) [gJ,(.int .u8 10)] pP fun Wx GJ=>
              ag c .move [Wx] GJ fun Ww Cp=>
              b9 Ww (
                cI (fun Nz=>
                  ag c .move [x1] Cp fun Wy JB=>
                  ag c (.bin .rem .num) [Wy,(.int .i64 3)] JB fun WA Nt=>
                  ag c (.bin .eql .num) [WA,(.int .i64 0)] Nt fun WE JC=>
                  b9 WE (
                    ag c (.fieldA 1) [x2] JC fun NG JD=>
                    ag c (.load none) [NG] JD fun WG Nu=>
                    ag c .move [x9] Nu fun WH Nv=>
                    ag c (.idxA 9 none) [WG,WH] Nv fun WI Gq=>
                    ag c (.fieldA 0) [WI] Gq fun WJ DT=>
                    ag c (.load none) [WJ] DT fun WM MU=>
                    ag c (.fieldA 2) [x6] MU fun WN Gr=>
                    ag c (.store 1) [WN,WM] Gr fun _ Wg=>
                    Nz [x4,x6] Wg) (
                    Nz [x4,x6] JC))
                (fun vs GK=>au vs fun x4 vs=>au vs fun x6 vs=>bW vs (
                  ag c (.load (some 6)) [x6] GK fun WQ Wh=>
                  ag c (.store 6) [x4,WQ] Wh fun _ Wi=>
                  ag c .move [(.bool true)] Wi fun x5 Rh=>
                  yo (some 6) x4 Rh fun v134=>some (.tuple [v134,x5],Rh)))) (
                ag c (.bin .eql .num) [gJ,(.int .u8 17)] Cp fun WU Wl=>
                ag c .move [WU] Wl fun WT Ev=>
                b9 WT (
                  aJ (.fieldA 1) [x2] fun Xb=>
                  ei (.load none) [Xb] Ev.heap (fun _=>true) fun x147=>
                  aJ .move [x9] fun x148=>
                  aJ (.idxA 9 none) [x147,x148] fun x149=>
                  aJ (.fieldA 5) [x149] fun x150=>
                  ei (.load none) [x150] Ev.heap (fun _=>true) fun x151=>
                  aJ (.fieldA 2) [x6] fun x158=>
                  ag c (.store 1) [x158,x151] Ev fun _ NA=>
                  aJ (.fieldA 0) [x2] fun x152=>
                  ei (.load none) [x152] NA.heap (fun v=>fL (.load none) [x152] v (fo [] Ev.heap)&&true) fun x153=>
                  aJ .move [dI] fun x154=>
                  aJ (.idxA 7 none) [x153,x154] fun x155=>
                  aJ (.fieldA 0) [x155] fun x156=>
                  ei (.load none) [x156] NA.heap (fun v=>fL (.load none) [x156] v (fo [] Ev.heap)&&true) fun x157=>
                  aJ (.fieldA 4) [x6] fun x159=>
                  ag c (.store 1) [x159,x157] NA fun _ NB=>
                  ei (.load (some 6)) [x6] NB.heap (fun _=>true) fun x160=>
                  ag c (.store 6) [x4,x160] NB fun _ NC=>
                  aJ (.fieldA 2) [x6] fun x161=>
                  ei (.load none) [x161] NC.heap (fun v=>fL (.load none) [x161] v (fo [] NB.heap)&&true) fun x162=>
                  aJ (.bin .neq .num) [x162,(.str [])] fun x163=>
                  aJ .move [x163] fun x5=>
                  yo (some 6) x4 NC fun v140=>some (.tuple [v140,x5],NC)) (
                  cI (fun j141=>
                    ag c (.bin .eql .num) [gJ,(.int .u8 15)] Ev fun x165 Wu=>
                    ag c .move [x165] Wu fun JG ND=>
                    b9 JG (
                      j141 [x1,x2,x4,x6,dI,cU,JG] ND) (
                      ag c (.bin .eql .num) [gJ,(.int .u8 16)] ND fun x166 Rj=>
                      ag c .move [x166] Rj fun JG NF=>
                      j141 [x1,x2,x4,x6,dI,cU,JG] NF))
                  (fun vs Ri=>au vs fun x1 vs=>au vs fun x2 vs=>au vs fun x4 vs=>au vs fun x6 vs=>au vs fun dI vs=>au vs fun cU vs=>au vs fun JG vs=>bW vs (
                    b9 JG (
                      ag c .move [cU] Ri fun x167 s147=>
                      ag c (.fieldA 5) [x6] s147 fun x168 WO=>
                      ag c (.store 1) [x168,x167] WO fun _ WS=>
                      PE [x1,x2,x4,x6,dI] WS) (
                      PE [x1,x2,x4,x6,dI] Ri))))))))))))
    (fun vs td=>au vs fun x1 vs=>au vs fun x2 vs=>au vs fun x4 vs=>au vs fun x6 vs=>au vs fun dI vs=>bW vs (
     cI (fun j150=>
        ag c .move [x1] td fun x169 WW=>
        ag c (.bin .rem .num) [x169,(.int .i64 3)] WW fun x170 WY=>
        ag c (.bin .gtr .num) [x170,(.int .i64 0)] WY fun x171 Rk=>
        b9 x171 (
         ag c (.fieldA 0) [x2] Rk fun x172 WZ=>
         ag c (.load none) [x172] WZ fun x173 W4=>
         ag c .move [dI] W4 fun x174 W6=>
         ag c (.idxA 7 none) [x173,x174] W6 fun x175 W7=>
         ag c (.fieldA 0) [x175] W7 fun x176 W9=>
         ag c (.load none) [x176] W9 fun x177 Xa=>
         ag c (.fieldA 4) [x6] Xa fun x178 Xc=>
         ag c (.store 1) [x178,x177] Xc fun _ Rm=>
         j150 [x4,x6] Rm) (
         j150 [x4,x6] Rk))
     (fun vs WV=>au vs fun x4 vs=>au vs fun x6 vs=>bW vs (
        ag c (.load (some 6)) [x6] WV fun x179 s163=>
        ag c (.store 6) [x4,x179] s163 fun _ s164=>
        ag c .move [(.bool true)] s164 fun x5 s165=>
        yo (some 6) x4 s165 fun v166=>some (.tuple [v166,x5],s165))))))))
theorem zf {c:ak} (hc:dS c) (F:Nat){x0 x1:AV} {s:St} {r:AV×St} (h:jG c F x0 x1 s=some r):c 50 [x0,x1] s=some (tidy s r):=hc.IQ (A:=g50.getD default) (F:=F) (s:=(.seq none .leaf (.seq none .leaf (.seq none .leaf (.seq (some [(.o .h),(.i .h),(.i (.o .h)),(.i (.i .h))]) (.seq none .leaf (.cond .leaf .leaf)) (.seq none .leaf (.seq none .leaf (.seq none (.seq none .leaf (.cond (.seq none .leaf .leaf) .leaf)) (.seq none .leaf (.seq none .leaf (.seq (some [(.o .h),(.i .h),(.i (.o .h)),(.i (.i .h)),(.o (.o (.i .h)))]) (.seq none .leaf (.block (.seq (some [(.o .h),(.i .h),(.i (.o .h)),(.i (.i .h)),(.o (.i (.o .h))),(.i (.i (.o .h))),(.o (.o (.i .h))),(.i (.o (.i .h))),(.i (.i (.o (.i (.i .h))))),(.o (.o (.i (.i (.i .h)))))]) (.seq none .leaf (.cond .leaf (.seq none .leaf (.cond .leaf (.seq none .leaf (.cond .leaf (.seq none .leaf (.cond .leaf .leaf)))))))) (.cond (.seq none .leaf (.seq (some [(.i (.o .h)),(.i (.i .h)),(.o (.i (.o .h))),(.i (.i (.o .h)))]) (.seq none .leaf (.cond .leaf .leaf)) (.seq (some [(.i (.o .h)),(.i (.i .h)),(.o (.i (.o .h))),(.i (.i (.o .h)))]) (.seq none .leaf (.cond .leaf .leaf)) (.seq none .leaf .leaf)))) (.seq (some [(.o .h),(.i .h),(.i (.o .h)),(.i (.i .h)),(.o (.i (.o .h))),(.o (.o (.i .h))),(.i (.o (.i .h))),(.i (.i (.o (.i (.i .h))))),(.i (.o (.i (.o (.o (.i .h))))))]) (.seq none .leaf (.cond .leaf .leaf)) (.cond (.seq none .leaf (.seq (some [(.i (.o .h)),(.i (.i .h))]) (.seq none .leaf (.cond .leaf .leaf)) (.seq none .leaf .leaf))) (.seq none .leaf (.cond (.seq (some [(.i (.o .h)),(.i (.i .h))]) (.seq none .leaf (.cond .leaf .leaf)) (.seq none .leaf .leaf)) (.seq none .leaf (.cond (.seq none .leaf (.seq none .leaf .leaf)) (.seq (some [(.o .h),(.i .h),(.i (.o .h)),(.i (.i .h)),(.o (.o (.i .h))),(.i (.o (.i .h))),(.i (.o (.i (.o (.o (.i (.o .h)))))))]) (.seq none .leaf (.cond .leaf .leaf)) (.cond .leaf .leaf)))))))))))) (.seq (some [(.i (.o .h)),(.i (.i .h))]) (.seq none .leaf (.cond .leaf .leaf)) (.seq none .leaf .leaf))))))))))))) (by kernel_rfl) (by kernel_rfl) (by kernel_rfl) (by kernel_rfl) h
def ve (c:ak) (F:Nat) (x0:AV) (s:St):Option (AV×St):=
 ag c .move [(.str [])] s fun x2 s0=>
 ag c .move [x0] s0 fun x3 s1=>
 ag c (.bin .rem .num) [x3,(.int .i64 26)] s1 fun x4 s2=>
 ag c (.bin .add .num) [(.int .i64 97),x4] s2 fun x5 s3=>
 ag c (.conv (.int .u8)) [x5] s3 fun x6 s4=>
 ag c (.buildSlice 1 2 [(.int .u8 0)] [0,1]) [(.int .u8 116),x6] s4 fun x7 s5=>
 ag c (.conv .ofBytes) [x7] s5 fun x8 s6=>
 ag c .move [x8] s6 fun x2 s7=>
 some (x2,s7)
theorem zX {c:ak} (hc:dS c) (F:Nat){x0:AV} {s:St} {r:AV×St} (h:ve c F x0 s=some r):c 109 [x0] s=some (tidy s r):=hc.IQ (A:=g109.getD default) (F:=F) (s:=(.seq none .leaf (.seq none .leaf .leaf))) (by kernel_rfl) (by kernel_rfl) (by kernel_rfl) (by kernel_rfl) h
def sQ (c:ak) (F:Nat) (x0:AV) (s:St):Option (AV×St):=
 ag c .move [(.str [])] s fun x2 s0=>
 ag c .move [x0] s0 fun x3 s1=>
 ag c (.bin .quo .num) [x3,(.int .i64 26)] s1 fun x4 s2=>
 ag c (.bin .rem .num) [x4,(.int .i64 26)] s2 fun x5 s3=>
 ag c (.bin .add .num) [(.int .i64 97),x5] s3 fun x6 s4=>
 ag c (.conv (.int .u8)) [x6] s4 fun x7 s5=>
 ag c .move [x0] s5 fun x8 s6=>
 ag c (.bin .rem .num) [x8,(.int .i64 26)] s6 fun x9 s7=>
 ag c (.bin .add .num) [(.int .i64 97),x9] s7 fun eJ s8=>
 ag c (.conv (.int .u8)) [eJ] s8 fun dI s9=>
 ag c (.buildSlice 1 2 [(.int .u8 0)] [0,1]) [x7,dI] s9 fun cU j8=>
 ag c (.conv .ofBytes) [cU] j8 fun eL jf=>
 ag c .move [eL] jf fun x2 nu=>
 some (x2,nu)
theorem xL {c:ak} (hc:dS c) (F:Nat){x0:AV} {s:St} {r:AV×St} (h:sQ c F x0 s=some r):c 110 [x0] s=some (tidy s r):=hc.IQ (A:=g110.getD default) (F:=F) (s:=(.seq none .leaf (.seq none .leaf .leaf))) (by kernel_rfl) (by kernel_rfl) (by kernel_rfl) (by kernel_rfl) h
def iD:aN:=g111.getD default
def kB:Sh:=(.seq none .leaf (.seq none (.seq none .leaf (.block (.loop 0 [(.o .h),(.i .h),(.o (.i .h))] [(1,[(.i (.o .h))]),(2,[])] (.seq none (.seq none .leaf (.cond .leaf .leaf)) (.seq none (.block (.seq none .leaf (.cond (.seq none .leaf .leaf) .leaf))) .leaf))))) (.seq none .leaf .leaf)))
def eH (c:ak) (F:Nat) (k1 k2:List AV->St->Option (AV×St)):Nat->List AV->St->Option (AV×St)
 |0,_,_=>none
 |n+1,vs,s=>au vs fun x1 vs=>au vs fun x2 vs=>au vs fun x5 vs=>bW vs (
 ag c .move [x5] s fun x6 s3=>
 ag c (.fieldA 0) [x2] s3 fun x7 s4=>
 ag c (.load none) [x7] s4 fun x8 s5=>
 ag c (.lenB .l) [x8] s5 fun x9 s6=>
 ag c (.bin .lss .num) [x6,x9] s6 fun eJ s7=>
 b9 eJ (
    aJ .move [x1] fun ek=>
 ag c (.callF 110) [ek] s7 fun dH s8=>
 aJ (.fieldA 0) [x2] fun eL=>
 ei (.load none) [eL] s8.heap (fun v=>fL (.load none) [eL] v (fo [] s7.heap)&&true) fun gO=>
 aJ .move [x5] fun mj=>
 aJ (.idxA 9 none) [gO,mj] fun mo=>
 aJ (.fieldA 0) [mo] fun k9=>
 ei (.load none) [k9] s8.heap (fun v=>fL (.load none) [k9] v (fo [] s7.heap)&&true) fun cW=>
 aJ (.bin .eql .num) [cW,dH] fun qf=>
 b9 qf (
    ag c .move [(.bool true)] s8 fun x4 s9=>
    k1 [x4] s9) (
    ag c .move [x5] s8 fun dI j8=>
 ag c (.bin .add .num) [dI,(.int .i64 1)] j8 fun cU jf=>
 ag c .move [cU] jf fun x5 nu=>
 eH c F k1 k2 n [x1,x2,x5] nu)) (
    k2 [] s7))
def o8 (c:ak) (F:Nat) (x0 x1:AV) (s:St):Option (AV×St):=
 ag c .box [x0] s fun x2 s0=>
 ag c .move [(.bool false)] s0 fun x4 s1=>
 ag c .move [(.int .i64 0)] s1 fun x5 s2=>
 eH c F (fun vs kY=>au vs fun x4 vs=>bW vs (
    some (x4,kY))) (fun vs kQ=>bW vs (
    ag c .move [(.bool false)] kQ fun x4 kR=>
 some (x4,kR))) F [x1,x2,x5] s2
def og (c:ak) (F:Nat):Env (AV×St):=n9 [(0,fun K n=>eH c F (K 1) (K 2) n)]
theorem Be (c:ak) (F:Nat):dP c F (og c F) (fQ iD kB 0).1 (fQ iD kB 0).2:=iF (j:=0) (ins:=[(.o .h),(.i .h),(.o (.i .h))]) (outs:=[(1,[(.i (.o .h))]),(2,[])]) (s:=(.seq none (.seq none .leaf (.cond .leaf .leaf)) (.seq none (.block (.seq none .leaf (.cond (.seq none .leaf .leaf) .leaf))) .leaf))) (by kernel_rfl) (fun _ _ _=>by kernel_rfl) (fun _ _ _ _=>by kernel_rfl)
theorem CG (c:ak) (F:Nat): ∀x∈cK iD.code kB,dP c F (og c F) x.1 x.2:=mD 1 (by kernel_rfl) fun i hi=>match i,hi with|0,_=>Be c F|n+1,h=>absurd h (by omega)
theorem CH (c:ak) (F:Nat) (x0 x1:AV) (s:St):qJ c F (og c F) iD kB [x0,x1] s=o8 c F x0 x1 s:=by kernel_rfl
theorem ze {c:ak} (hc:dS c) (F:Nat){x0 x1:AV} {s:St} {r:AV×St} (h:o8 c F x0 x1 s=some r):c 111 [x0,x1] s=some (tidy s r):=hc.of (A:=iD) (by kernel_rfl) (by kernel_rfl) (CG _ F) (by rw[CH];exact h)
end Go.Proofs.YtehbdakjkjkekaaGreatDoor
end
