/- Functions of the program as plain functions. -/
import Derived.Test.YtehbdakjkjkekaaGreatDoorSTabs
import Derived.Test.YtehbdakjkjkekaaGreatDoorSEvalD
import Derived.Test.YtehbdakjkjkekaaGreatDoorSEvalE
import Derived.Test.YtehbdakjkjkekaaGreatDoorSWalkC
import Derived.Test.YtehbdakjkjkekaaGreatDoorSWalkA
import Derived.Lib.LaidTab
import Derived.Lib.AppendIntMem
set_option linter.all false
set_option linter.unusedSectionVars false
set_option linter.deprecated false
section
namespace Go.Ai
open Go
abbrev aS:Sh:= .seq none .leaf (.cond (.seq none .leaf .leaf) .leaf)
abbrev av:AV:= .int .i64 0
abbrev cj:Sh:= .seq none .leaf (.cond .leaf .leaf)
abbrev aD:AV:= .bool false
abbrev aB:aE:= .load none
abbrev cI:Sh:= .seq none .leaf .leaf
abbrev aC:AV:= .str []
abbrev aN:AV:= .bool true
abbrev bF:aE:= .bin .eql .num
abbrev cT:aE:= .bin .lss .num
abbrev bP:aE:= .bin .add .num
abbrev aW:AV:= .int .u8 0
abbrev cG:aE:= .bin .neq .num
abbrev bS:AV:= .int .i64 1
abbrev iz:Sh:= .cond .leaf .leaf
abbrev gl:aE:= .bin .gtr .num
abbrev dM:aE:= .fieldA 0
abbrev eu:aE:= .fieldA 1
abbrev jz:aE:= .load (some 6)
abbrev dF:aE:= .lenB .l
abbrev eN:aE:= .fieldA 2
abbrev gQ:aE:= .fieldA 3
abbrev iA:aE:= .un .not
abbrev l6:AV:= .int .i64 2
abbrev qd:aE:= .load (some 5)
abbrev l7:aE:= .fieldA 4
abbrev oF:aE:= .mapSet .i
abbrev Jw:Sh:= .seq none (.block .leaf) .leaf
abbrev pK:aE:= .fieldA 5
abbrev xF:aE:= .load (some 7)
abbrev vE:AV:= .int .u8 101
abbrev vF:aE:= .idxA 1 none
abbrev sV:aE:= .extract 0
abbrev sW:aE:= .extract 1
abbrev y5:aE:= .idxA 7 none
abbrev sY:aE:= .lenB .s
abbrev Du:AV:= .int .i64 1000
abbrev xG:aE:= .callF 41
abbrev y6:AV:= .int .u8 7
abbrev y7:aE:= .callF 188
abbrev vG:aE:= .store 6
abbrev AM:AV:= .int .u8 17
abbrev AN:AV:= .int .i64 6
abbrev Dv:aE:= .idxA 6 none
abbrev Dw:AV:= .int .i64 64
abbrev GK:aE:= .bin .rem .num
abbrev Dx:AV:= .int .u8 103
abbrev GL:aE:= .bin .geq .num
abbrev GM:aE:= .bin .sub .num
abbrev GN:aE:= .bin .leq .num
abbrev GO:AV:= .int .i64 (-1)
end Go.Ai
end
section
noncomputable section
namespace Go.Proofs
open Go Go.Ai Go.RowKit Go.ag Go.Proofs.YtehbdakjkjkekaaGreatDoor
def ag.lO (b:ByteArray):List Nat:=b.data.toList.map UInt8.toNat
def ag.Al (r:ag.RR):List AV:=[.int .u8 r.k,.int .i64 r.wt,.str (ag.lO r.a),.str (ag.lO r.b),.str (ag.lO r.t),.int .i64 r.n]
def ag.Jr:Int ⊕ ag.RR->AV
 | .inl e=> .tuple [.agg [.int .u8 0,.int .i64 0,.str [],.str [],.str [],.int .i64 0],.int .i64 e]
 | .inr r=> .tuple [.agg (ag.Al r),.int .i64 0]
theorem NS {P:Program} {C:Cells} {f:FuncId} {fn:Func} {c:Code} {s:List AV->St->Option (AV×St)} (hf:P.funcs[f]? =some fn) (o9: ¬fn.name= "runtime.NumGoroutine") (hb:fn.body=some c)
  (hs: ∀args st v st',s args st=some (v,st')->st'=st)
  (h: ∀(ρ:Pos->Go.Ai.Loc) (st:St) (w:World) (args:List AV) (v:AV) (bu:List Value),s args st=some (v,st)->bM ρ C st w->az ρ st.next.toNat C args bu->
   Calls P f bu.toArray w fun e w'=>(∃x,e= .returned x/\aA ρ st.next.toNat C v x)/\Below w.heap.size w w'):mS P C f s where
 mono args st v st' hh:=by rw[hs _ _ _ _ hh];exact Nat.le_refl _
 runs ρ st w args v st' bu hh hW hv:=by
  have:=hs _ _ _ _ hh;subst this
  have cA:(callFunc f bu.toArray).run P w= .ok (.enter f bu.toArray) w:=by simp[callFunc,hf,o9,hb]
  rw[cA]
  refine Calls.mono (h ρ _ w args v bu hh hW hv) fun e w' he=> ?_
  obtain ⟨⟨x,rfl,hx⟩,MT⟩:=he
  exact ⟨ρ,hx,fun _ _=>rfl,Nat.le_refl _,hW.later MT,ni.later hW MT⟩
def Yl:List AV->St->Option (AV×St)
 |[v],st=>some (v,st)
 |_,_=>none
theorem ace {P:Program} {C:Cells} {f:FuncId} {fn:Func} (hf:P.funcs[f]? =some fn) (o9:(fn.name== "runtime.NumGoroutine")=false) (hb:fn.body.isNone=true)
  (hx:Extern.findNext fn=none) (he:Extern.find fn=some Extern.AbiNoEscape.same):mS P C f Yl where
 mono args st v st' h:=by
  unfold Yl at h
  split at h<;>cases h
  exact Nat.le_refl _
 runs ρ st w args v st' bu h hW hv:=by
  unfold Yl at h
  split at h<;>cases h
  obtain ⟨x,xs,rfl,h1,h2⟩:=hv.cons_inv
  have:=h2.kQ;subst this
  have cA:(callFunc f [x].toArray).run P w= .ok (.value x) w:=by
   rw[run_callFunc_extern hf o9 hb hx he]
   show ((Extern.AbiNoEscape.same #[x]).run P w).andThen _=_
   rw[Lib.run_noEscape]
   rfl
  rw[cA]
  exact ⟨ρ,h1,fun _ _=>rfl,Nat.le_refl _,hW,ni.refl _ _ _⟩
def BG:List AV->Option (List (List Nat))
 |[]=>some []
 |  .str s::l=>match BG l with
    |some r=>some (s::r)
    |none=>none
 |_=>none
def gG (sep:List Nat):List (List Nat)->List Nat
 |[]=>[]
 |[x]=>x
 |x::y::r=>x++(sep++gG sep (y::r))
def F0:List AV->St->Option (AV×St)
 |  [.slice b o n _ 1,.str sep],st=>match st.heap.get b with
    |some (.cells cs _)=>match cut cs o n with
     |some vs=>match BG vs with
      |some l=>match Nat.blt 0 n,Nat.ble n 1000000,Nat.ble (gG sep l).length 140737488355328 with
       |true,true,true=>some (.str (gG sep l),st)
       |_,_,_=>none
      |none=>none
     |none=>none
    |_=>none
 |_,_=>none
theorem MU {ρ:Pos->Go.Ai.Loc} {n:Nat} {C:Cells}: ∀{vs:List AV} {l:List (List Nat)} {xs:List Value},BG vs=some l->az ρ n C vs xs-> ∃bs:List ByteArray,xs=bs.map Value.string/\l=bs.map ag.lO
 |[],l,xs,h,hv=>by
  simp only[BG,Option.some.injEq] at h;subst h
  have:=hv.kQ;subst this
  exact ⟨[],rfl,rfl⟩
 |v ::vs,l,xs,h,hv=>by
  unfold BG at h
  split at h<;>first|(cases h;done)|skip
  . rename_i heq;cases heq
  . rename_i s vs' heq
    simp only[List.cons.injEq] at heq
    obtain ⟨rfl,rfl⟩:=heq
    split at h<;>first|(cases h;done)|skip
    rename_i r hr
    simp only[Option.some.injEq] at h;subst h
    obtain ⟨x,uW,rfl,h1,h2⟩:=hv.cons_inv
    obtain ⟨b,rfl,hb⟩:=h1.dN
    obtain ⟨bs,rfl,rfl⟩:=MU hr h2
    exact ⟨b::bs,rfl,by rw[<-hb];rfl⟩
theorem SN (sep:ByteArray): ∀bs:List ByteArray,gG (ag.lO sep) (bs.map ag.lO)=(Lib.join (bs.map (·.data.toList)) sep.data.toList).map UInt8.toNat
 |[]=>rfl
 |[x]=>by simp[gG,Lib.join_one,ag.lO]
 |x::y::r=>by
  have ih:=SN sep (y::r)
  simp only[List.map_cons,gG] at ih ⊢
  rw[ih]
  simp only[Lib.join,List.intercalate,List.intersperse,ag.lO,List.flatten_cons,List.map_append]
theorem Ym {C:Cells}:mS Tryz.prog C 34 F0:=
 NS Tryz.func34 (by decide) rfl (fun args st v st' h=>by
  unfold F0 at h
  repeat' split at h
  all_goals first|(cases h;done)|skip
  all_goals (injection h with h;injection h with h1 h2;exact h2.symm)) fun ρ st w args v bu h hW hv=>by
  unfold F0 at h
  split at h<;>first|(cases h;done)|skip
  rename_i b o n cp sep
  split at h<;>first|(cases h;done)|skip
  rename_i cs fz hb
  split at h<;>first|(cases h;done)|skip
  rename_i vs hcut
  split at h<;>first|(cases h;done)|skip
  rename_i l hl
  split at h<;>first|(cases h;done)|skip
  rename_i h0 hn hlen
  have h0:0<n:=by simpa using h0
  have hn:=Nat.le_of_ble_eq_true hn
  have hlen:=Nat.le_of_ble_eq_true hlen
  simp only[Option.some.injEq,Prod.mk.injEq,and_true] at h
  subst h
  obtain ⟨x,xs,rfl,h1,h2⟩:=hv.cons_inv
  obtain ⟨y,ys,rfl,h3,h4⟩:=h2.cons_inv
  have:=h4.kQ;subst this
  obtain ⟨sp,rfl,wQ⟩:=h3.dN
  obtain ⟨a,aL,rfl,hle,_,ha⟩:=h1.dR
  obtain ⟨hbn,rfl,hbound⟩:=ha (by omega)
  obtain ⟨_,vK,c,e,fr,g1,g2,g3,g4,g5⟩:=hW.live b _ hb
  obtain ⟨Hh,hc2⟩:=zl hcut
  have WS:=qX hcut
  have o8:az ρ st.next.toNat C vs ((c.toList.drop ((ρ b).base+o)).take n):=by
    have h:=(g4.drop o).take n
    rw[<-Hh] at h
    have e:List.take n (List.drop o (List.take cs.length (List.drop (ρ b).base c.toList)))=(c.toList.drop ((ρ b).base+o)).take n:=by
        rw[List.drop_take,List.take_take,List.drop_drop,Nat.min_eq_left (by omega)]
    rw[e] at h
    exact h
  obtain ⟨bs,mH,rfl⟩:=MU hl o8
  have kS:bs.length=n:=by
    have:=o8.1
    rw[mH,List.length_map] at this
    omega
  have hj:=SN sp bs
  rw[show sep=ag.lO sp from wQ.symm] at hlen ⊢
  rw[hj] at hlen ⊢
  rw[List.length_map] at hlen
  subst kS
  refine Calls.mono (Tryz.strings_Join (ρ b).aF ((ρ b).base+o) aL bs sp w (fun j x hx=> ?_) vK (by omega) hle hlen) fun e w' he=> ?_
  . have hj:j<bs.length:=(List.getElem?_eq_some_iff.1 hx).1
    have:((c.toList.drop ((ρ b).base+o)).take bs.length)[j]? =some (.string x):=by rw[mH];simp[hx]
    rw[List.getElem?_take,if_pos hj,List.getElem?_drop] at this
    simpa [World.cell?,g1] using this
  . obtain ⟨rfl,MT⟩:=he
    exact ⟨⟨_,rfl,.str _ _ rfl⟩,MT⟩
def eG (n:Int):List Nat:=(Lib.itoa n).map UInt8.toNat
def FZ:List AV->St->Option (AV×St)
 |  [.int .i64 n],st=>match Int.decLe (-9223372036854775808) n,Int.decLe n 9223372036854775807 with
    | .isTrue _,.isTrue _=>some (.str (eG n),st)
    |_,_=>none
 |_,_=>none
def AK (C:Cells):Prop:= ∀w:World,(∀ad v,C ad=some v->w.cell? ad=some v)->(∀a v,C a=some v-> ∀o,C ⟨a.block,o,none⟩=none->w.cell? ⟨a.block,o,none⟩=none)->Lib.TabIs Tryz.prog w "internal/strconv.uint64pow10" .u64 Lib.pow10Tab
theorem Yn {C:Cells} (hC:AK C):mS Tryz.prog C 33 FZ:=
 NS Tryz.func33 (by decide) rfl (fun args st v st' h=>by
  unfold FZ at h
  repeat' split at h
  all_goals first|(cases h;done)|skip
  all_goals (injection h with h;injection h with h1 h2;exact h2.symm)) fun ρ st w args v bu h hW hv=>by
  unfold FZ at h
  split at h<;>first|(cases h;done)|skip
  rename_i n
  split at h<;>first|(cases h;done)|skip
  rename_i h1 h2 _ _
  simp only[Option.some.injEq,Prod.mk.injEq,and_true] at h
  subst h
  obtain ⟨x,xs,rfl,h3,h4⟩:=hv.cons_inv
  have:=h4.kQ;subst this
  have:=h3.jB;subst this
  refine Calls.mono (Tryz.strconv_Itoa n h1 h2 w (hC w (fun ad v ha=>(hW.dc ad v ha).1) hW.whole)) fun e w' he=> ?_
  obtain ⟨rfl,k,os,rfl⟩:=he
  exact ⟨⟨_,rfl,.str _ _ rfl⟩,Lib.below_grow _ w (Nat.le_refl _) k os⟩
def F9:List AV->St->Option (AV×St)
 |  [.str t],st=>match Nat.ble t.length 2097152 with
    |true=>some (ag.Jr (ag.l5 (ag.aO t)),st)
    |false=>none
 |_,_=>none
theorem Yo {t:List Nat} {bs:ByteArray} (h:bs.data.toList.map UInt8.toNat=t):bs.size=t.length:=by
 rw[<-h];simp
theorem Yp {ρ:Pos->Go.Ai.Loc} {n:Nat} {C:Cells} (x:Int ⊕ ag.RR):aA ρ n C (ag.Jr x) (ag.valOf x):=by
 cases x with
 |inl e=>
  exact .mP (az.cons (.wM (az.cons (.int _ _) (az.cons (.int _ _) (az.cons (.str _ _ rfl) (az.cons (.str _ _ rfl) (az.cons (.str _ _ rfl) (az.cons (.int _ _) az.nil))))))) (az.cons (.int _ _) az.nil))
 |inr r=>
  exact .mP (az.cons (.wM (az.cons (.int _ _) (az.cons (.int _ _) (az.cons (.str _ _ rfl) (az.cons (.str _ _ rfl) (az.cons (.str _ _ rfl) (az.cons (.int _ _) az.nil))))))) (az.cons (.int _ _) az.nil))
theorem Yq {C:Cells} {m:Int} (hC:C ⟨1,0,none⟩=some (.int .i64 m)):mS Tryz.prog C 35 F9:=
 NS Tryz.func35 (by decide) rfl (fun args st v st' h=>by
  unfold F9 at h
  repeat' split at h
  all_goals first|(cases h;done)|skip
  all_goals (injection h with h;injection h with h1 h2;exact h2.symm)) fun ρ st w args v bu h hW hv=>by
  unfold F9 at h
  split at h<;>first|(cases h;done)|skip
  rename_i t
  split at h<;>first|(cases h;done)|skip
  rename_i hle
  have hle:=Nat.le_of_ble_eq_true hle
  simp only[Option.some.injEq,Prod.mk.injEq,and_true] at h
  subst h
  obtain ⟨x,xs,rfl,h3,h4⟩:=hv.cons_inv
  have:=h4.kQ;subst this
  obtain ⟨bs,rfl,hs⟩:=h3.dN
  have mH:=ag.Lo hs
  refine Calls.mono (ag.line bs m w (by rw[Yo hs];exact hle) (hW.dc _ _ hC).1) fun e w' he=> ?_
  obtain ⟨rfl,MT⟩:=he
  rw[<-mH]
  exact ⟨⟨_,rfl,Yp _⟩,MT⟩
def MV:List AV->St->Option (AV×St)
 |  [.str t],st=>match Nat.ble t.length maxLen with
    |true=>match (ag.ki (ag.aO t)).2.2 with
     |[]=>some (.tuple [.aj,.int .i64 (ag.ki (ag.aO t)).2.1,.int .i64 (ag.ki (ag.aO t)).1],st)
     |r::rs=>some (.tuple [.slice st.next 0 (rs.length+1) none 6,.int .i64 (ag.ki (ag.aO t)).2.1,.int .i64 (ag.ki (ag.aO t)).1],st.aI none none (some (.cells ((r::rs).flatMap ag.Al) 0)))
    |false=>none
 |_,_=>none
theorem U7 {ρ:Pos->Go.Ai.Loc} {n:Nat} {C:Cells}: ∀rs:List ag.RR,az ρ n C (rs.flatMap ag.Al) (ag.cellsOf rs)
 |[]=>az.nil
 |r::rs=>by
  have:=(show az ρ n C (ag.Al r) r.cells from az.cons (.int _ _) (az.cons (.int _ _) (az.cons (.str _ _ rfl) (az.cons (.str _ _ rfl) (az.cons (.str _ _ rfl) (az.cons (.int _ _) az.nil)))))).append (U7 rs)
  simpa [ag.cellsOf] using this
set_option maxRecDepth 100000 in
theorem Wm {C:Cells} {m:Int} (hC:C ⟨1,0,none⟩=some (.int .i64 m)):mS Tryz.prog C 9 MV where
 mono args st v st' h:=by
  unfold MV at h
  split at h<;>first|(cases h;done)|skip
  split at h<;>first|(cases h;done)|skip
  split at h
  . injection h with h;injection h with h1 h2;subst h2;exact Nat.le_refl _
  . injection h with h;injection h with h1 h2;subst h2;exact St.yl _ _ _ _
 runs ρ st w args v st' bu h hW hv:=by
  unfold MV at h
  split at h<;>first|(cases h;done)|skip
  rename_i t
  split at h<;>first|(cases h;done)|skip
  rename_i hle
  obtain ⟨x,xs,rfl,h1,h2⟩:=hv.cons_inv
  have:=h2.kQ;subst this
  obtain ⟨bs,rfl,hs⟩:=h1.dN
  have mH:=ag.Lo hs
  have hm:=(hW.dc _ _ hC).1
  have hc:Calls Tryz.prog 9 #[.string bs] w (ag.MW bs w):=by
    by_cases fh:bs.size<=65536
    .   exact ag.Yr (fun s m w h=>ag.line s m w (Nat.le_trans h (by decide))) bs m w fh hm
    .   exact ag.Wn bs w (by omega) (by rw[Yo hs];exact Nat.le_of_ble_eq_true hle)
  have cA:(callFunc 9 ([Value.string bs]:List Value).toArray).run Tryz.prog w= .ok (.enter 9 #[.string bs]) w:=enters_of Tryz.func9 (by kernel_rfl) rfl _ _
  rw[cA]
  refine Calls.mono hc fun e w' Qe=> ?_
  obtain ⟨v',he,fO,hb,Cm⟩:=Qe
  rw[mH] at he fO Cm
  subst he
  split at h
  . rename_i rO
    injection h with h;injection h with e1 e2;subst e1;subst e2
    have wj:=Cm (.inr rO)
    subst wj
    exact ⟨ρ,.mP (az.cons .aj (az.cons (.int _ _) (az.cons (.int _ _) az.nil))),fun _ _=>rfl,Nat.le_refl _,hW.later hb,ni.later hW hb⟩
  . rename_i r rs Ji
    injection h with h;injection h with e1 e2;subst e1;subst e2
    rw[Ji] at fO
    rcases fO.2 with ⟨_,h0⟩|⟨g,cap,cur,rfl,hg,Ys,yh,hcm,SP,Wo⟩
    .   simp at h0
    .   have hgl:=(Array.getElem?_eq_some_iff.1 Ys).1
        have hrel:=fun ρ' n'=>U7 (ρ:=ρ') (n:=n') (C:=C) (r::rs)
        have hlen:((r::rs).flatMap ag.Al).length=(r::rs).length*6:=by
         rw[(hrel ρ 0).1,ag.ER]
        obtain ⟨ρ',aU,dI,eF,hE⟩:=Yt (x0:= .cells ((r::rs).flatMap ag.Al) 0) (base:=0) (size:=cur.size) hW hb hg hgl (fun ρ' n' _ _=>
         qK Ys (by rw[hlen,SP];exact Nat.mul_le_mul_right _ yh) (by rw[hlen,Wo];exact hrel _ _) (fun i _=>by simp))
        refine ⟨ρ',.mP (az.cons ?_ (az.cons (.int _ _) (az.cons (.int _ _) az.nil))),aU,St.yl _ _ _ _,eF,hE⟩
        exact tB (by simp[St.aI,Pos.aG]) dI (by simpa using yh) (fun c hc=>by cases hc) (by rw[SP];exact Nat.le_refl _)
end Go.Proofs
namespace Go.Proofs.YtehbdakjkjkekaaGreatDoor
open Go Go.Ai Go.Proofs
def vD:List AV:=[.agg [.fl [[.str [97,110,110,97],.str [],.str [],.int .i64 0,.int .i64 1,.str [],.bool true,.bool false,.fl [[.str [108,97,116,105,110]]] 1],[.str [98,111,114,105,115],.str [],.str [],.int .i64 0,.int .i64 1,.str [],.bool false,.bool false,.fl [[.str [108,97,116,105,110]]] 1],[.str [99,97,114,108],.str [],.str [],.int .i64 0,.int .i64 2,.str [],.bool false,.bool true,.fl [[.str [108,97,116,105,110]]] 1],[.str [100,111,114,97],.str [],.str [],.int .i64 0,.int .i64 0,.str [],.bool false,.bool false,.aj]] 9,.fl [[.str [97,110,110,97],.str [98,111,114,105,115],.int .u8 2]] 3]]
def DW:AV:= .tuple [.int .i64 0,.int .i64 0]
def uT:eW:=uB [(277,vP),(6,Jp),(175,Yl),(34,F0),(33,FZ),(35,F9),(9,MV),(113,DK vD DW),(119,DK vD DW)]
def Sem (c:ai):Prop:=c=run uT gg
theorem Sem.of {c:ai} (hc:Sem c) {f:FuncId} {A:aM} {F:Nat} {L:Env (AV×St)} {s:Sh} {args:List AV} {st:St} {r:AV×St} (ho:uT f=none) (hF:gg.get (key f)=some A)
  (hL: ∀x∈cu A.code s,bV c F L x.1 x.2) (h:lN c F L A s args st=some r):c f args st=some (tidy st r):=by
 subst hc;exact QT ho hF hL h
theorem Sem.lF {c:ai} (hc:Sem c) {f:FuncId} {A:aM} {F:Nat} {s:Sh} {args:List AV} {st:St} {r:AV×St} {k:Option (AV×St)} (ho:uT f=none) (hF:gg.get (key f)=some A)
  (hl:cu A.code s=[]) (hd:lN c F (iF []) A s args st=k) (h:k=some r):c f args st=some (tidy st r):=
 hc.of (L:=iF []) ho hF (by rw[hl];intro x hx;cases hx) (hd.trans h)
theorem TB {c:ai} (hc:Sem c) (v:AV) (st:St):c 175 [v] st=some (v,st):=by
 subst hc;exact q9 (O:=uT) (s:=Yl) rfl rfl
theorem abV {c:ai} (hc:Sem c) {args:List AV} {st:St} {r:AV×St} (h:F0 args st=some r):c 34 args st=some r:=by
 subst hc;exact q9 (O:=uT) (s:=F0) rfl h
theorem abT {c:ai} (hc:Sem c) {args:List AV} {st:St} {r:AV×St} (h:FZ args st=some r):c 33 args st=some r:=by
 subst hc;exact q9 (O:=uT) (s:=FZ) rfl h
theorem abX {c:ai} (hc:Sem c) {args:List AV} {st:St} {r:AV×St} (h:F9 args st=some r):c 35 args st=some r:=by
 subst hc;exact q9 (O:=uT) (s:=F9) rfl h
end Go.Proofs.YtehbdakjkjkekaaGreatDoor
end
section
set_option maxRecDepth 100000
noncomputable section
namespace Go.Proofs.YtehbdakjkjkekaaGreatDoor
open Go Go.Ai Go.Proofs
def DX (f:FuncId):List AV->St->Option (AV×St):=Iz (run uT gg) f 4
end Go.Proofs.YtehbdakjkjkekaaGreatDoor
end
section
set_option maxRecDepth 100000
noncomputable section
namespace Go.Proofs.YtehbdakjkjkekaaGreatDoor
open Go Go.Ai Go.Proofs
def AL:List AV:=[.aj,.aj,.aj,.aj,.aj,.gA,.aj,.aj,.aj,.aj,.aj,.aj,.aj,.aj]
def GH:AV:= .agg [.aj,.aj,.aj,.aj,.aj]
def U3:List (List AV):=[[.bq],[.fp [AL] 0 0]]
def Hf:List (List AV):=[[.bq,.aj],[.fp [AL] 0 0,.aj]]
def OS:List (List AV):=[[.bq,.aj,.int .i64 0],[.fp [AL] 0 0,.aj,.int .i64 0]]
def jS:List (List AV):=[[GH,GH]]
def GP:eW:=uB [(277,vP),(6,Jp),(7,DX 7),(8,DX 8),
 (15,DX 15),(16,DX 16),(17,DX 17),
 (18,pP 4 Hf (.tuple [.int .i64 0,.bool false])),(19,pP 4 Hf (.bool false)),(20,pP 4 Hf (.bool false)),(21,pP 4 OS (.int .i64 0)),(22,pP 4 OS (.int .i64 0)),(23,pP 4 Hf (.int .i64 0)),(24,pP 4 Hf (.int .i64 0)),(25,pP 4 Hf .aj),(26,pP 4 Hf .aj),(27,pP 4 OS .aj),(29,pP 4 U3 GH),(28,pP 4 jS (.bool true))]
def iR (c:ai):Prop:=c=run GP gg
theorem iR.of {c:ai} (hc:iR c) {f:FuncId} {A:aM} {F:Nat} {L:Env (AV×St)} {s:Sh} {args:List AV} {st:St} {r:AV×St} (ho:GP f=none) (hF:gg.get (key f)=some A)
  (hL: ∀x∈cu A.code s,bV c F L x.1 x.2) (h:lN c F L A s args st=some r):c f args st=some (tidy st r):=by
 subst hc;exact QT ho hF hL h
theorem iR.lF {c:ai} (hc:iR c) {f:FuncId} {A:aM} {F:Nat} {s:Sh} {args:List AV} {st:St} {r:AV×St} {k:Option (AV×St)} (ho:GP f=none) (hF:gg.get (key f)=some A)
  (hl:cu A.code s=[]) (hd:lN c F (iF []) A s args st=k) (h:k=some r):c f args st=some (tidy st r):=
 hc.of (L:=iF []) ho hF (by rw[hl];intro x hx;cases hx) (hd.trans h)
theorem iR.at {c:ai} (hc:iR c) {f:FuncId} {s:List AV->St->Option (AV×St)} {args:List AV} {st:St} {r:AV×St} (ho:GP f=some s) (h:s args st=some r):c f args st=some r:=by
 subst hc;exact q9 ho h
end Go.Proofs.YtehbdakjkjkekaaGreatDoor
end
section
set_option linter.all false
set_option maxRecDepth 100000
noncomputable section
namespace Go.Proofs.YtehbdakjkjkekaaGreatDoor
open Go Go.Ai Go.Proofs
def mY:aM:=g7.getD default
def oW:Sh:=(.seq none .leaf (.seq none aS (.seq none .leaf (.seq none .leaf (.seq none (.seq none .leaf (.block (.loop 0 [(.o (.o .h)),(.i (.o .h)),(.i (.i (.o (.o .h)))),(.o (.o (.i (.o .h)))),(.i (.o (.i (.o .h))))] [(1,[(.i .h)]),(2,[(.o (.o .h))])] (.seq none .leaf (.seq none iz (.seq (some [(.o (.o .h)),(.i (.o .h)),(.i (.i (.o (.o .h)))),(.o (.o (.i (.o .h)))),(.i (.o (.i (.o .h))))]) (.block (.seq none .leaf (.seq none .leaf (.seq none .leaf (.seq (some [(.o (.o .h)),(.i (.o .h)),(.i (.i .h)),(.o (.o (.o .h))),(.i (.o (.o .h))),(.i (.i (.o (.o .h)))),(.o (.o (.i (.o .h)))),(.i (.o (.i (.o .h))))]) cj (.seq none .leaf (.seq none (.seq none .leaf (.block (.loop 1 [(.o (.o .h)),(.i (.o .h)),(.i (.i .h)),(.o (.o (.o .h))),(.i (.o (.o .h))),(.i (.i (.o (.o .h)))),(.o (.o (.i (.o .h)))),(.i (.o (.i (.o .h)))),(.i (.i (.o (.i (.i .h))))),(.o (.o (.i (.i (.i .h))))),(.i (.o (.i (.i (.i .h)))))] [(4,[(.o (.o .h)),(.i (.o .h)),(.i (.i .h)),(.o (.o (.o .h))),(.i (.o (.o .h))),(.i (.i (.o (.o .h)))),(.o (.o (.i (.o .h)))),(.i (.o (.i (.o .h))))])] (.seq none .leaf (.seq none iz (.seq (some [(.o (.o .h)),(.i (.o .h)),(.i (.i .h)),(.o (.o (.o .h))),(.i (.o (.o .h))),(.i (.i (.o (.o .h)))),(.o (.o (.i (.o .h)))),(.i (.o (.i (.o .h)))),(.i (.i (.o (.i (.i .h))))),(.o (.o (.i (.i (.i .h))))),(.i (.o (.i (.i (.i .h)))))]) (.block (.seq none .leaf (.seq (some [(.o (.o .h)),(.i (.o .h)),(.i (.i .h)),(.o (.o (.o .h))),(.i (.o (.o .h))),(.i (.i (.o .h))),(.i (.i (.o (.o .h)))),(.o (.o (.i (.o .h)))),(.i (.o (.i (.o .h)))),(.i (.i (.o (.i (.i .h))))),(.o (.o (.i (.i (.i .h))))),(.i (.o (.i (.i (.i .h)))))]) cj cj))) .leaf)))))) (.seq (some [(.o (.o .h)),(.i (.o .h)),(.i (.i .h)),(.i (.o (.o .h))),(.i (.i (.o (.o .h)))),(.o (.o (.i (.o .h)))),(.i (.o (.i (.o .h))))]) cj (.seq none .leaf (.seq none (.seq none .leaf aS) .leaf)))))))))) .leaf)))))) cI)))))
def gS (c:ai) (F:Nat) (k4:List AV->St->Option (AV×St)):Nat->List AV->St->Option (AV×St)
 |0,_,_=>none
 |n+1,vs,s=>ay vs fun x3 vs=>ay vs fun x4 vs=>ay vs fun x6 vs=>ay vs fun x7 vs=>ay vs fun x8 vs=>ay vs fun bn vs=>ay vs fun bC vs=>ay vs fun b9 vs=>ay vs fun lB vs=>ay vs fun iV vs=>ay vs fun jO vs=>bw vs (
 af c cT [jO,iV] s fun qu p6=>
 aJ qu  (
    lS (fun j63=>
    af c (.idxA 2 none) [lB,jO] p6 fun dx qP=>
    af c (.load (some 2)) [dx] qP fun ou u9=>
    af c (.alloc [aD,aC]) [] u9 fun aZ qQ=>
    af c (.store 2) [aZ,ou] qQ fun _ oM=>
    lS (fun j69=>
     af c dM [aZ] oM fun qv ve=>
     af c aB [qv] ve fun lV vg=>
     af c .move [lV] vg fun nZ p7=>
     ak c nZ true eu [aZ] p7 fun ov zB=>
     ak c nZ true aB [ov] zB fun mE vh=>
     ak c nZ true bF [mE,aC] vh fun fX wC=>
     af c .pick [nZ,fX,aD] wC fun gO xX=>
     aJ gO (
        af c eu [aZ] xX fun rX xY=>
        af c (.store 1) [rX,(.str [45])] xY fun _ zE=>
        j69 [x3,x4,x6,x7,x8,aZ,bn,bC,b9,lB,iV,jO] zE) (
        j69 [x3,x4,x6,x7,x8,aZ,bn,bC,b9,lB,iV,jO] xX))
    (fun vs uH=>ay vs fun x3 vs=>ay vs fun x4 vs=>ay vs fun x6 vs=>ay vs fun x7 vs=>ay vs fun x8 vs=>ay vs fun aZ vs=>ay vs fun bn vs=>ay vs fun bC vs=>ay vs fun b9 vs=>ay vs fun lB vs=>ay vs fun iV vs=>ay vs fun jO vs=>bw vs (
     af c dM [aZ] uH fun xq zF=>
     af c aB [xq] zF fun qw Dn=>
     aJ qw (
        af c .move [x8] Dn fun zC Ao=>
        af c eu [aZ] Ao fun qx EG=>
        af c aB [qx] EG fun uI BL=>
        af c (.buildSlice 1 1 [aC] [0]) [uI] BL fun zD Ap=>
        af c (.append 1 16) [zC,zD] Ap fun tT BN=>
        af c .move [tT] BN fun x8 zG=>
        j63 [x3,x4,x6,x7,x8,bn,bC,b9,lB,iV,jO] zG) (
        j63 [x3,x4,x6,x7,x8,bn,bC,b9,lB,iV,jO] Dn))))
 (fun vs qO=>ay vs fun x3 vs=>ay vs fun x4 vs=>ay vs fun x6 vs=>ay vs fun x7 vs=>ay vs fun x8 vs=>ay vs fun bn vs=>ay vs fun bC vs=>ay vs fun b9 vs=>ay vs fun lB vs=>ay vs fun iV vs=>ay vs fun jO vs=>bw vs (
    af c bP [jO,bS] qO fun qy BP=>
    af c .move [qy] BP fun jO BR=>
    gS c F k4 n [x3,x4,x6,x7,x8,bn,bC,b9,lB,iV,jO] BR))) (
    k4 [x3,x4,x6,x7,x8,bn,bC,b9] p6))
def ja (c:ai) (F:Nat) (k1 k2:List AV->St->Option (AV×St)):Nat->List AV->St->Option (AV×St)
 |0,_,_=>none
 |n+1,vs,s=>ay vs fun x3 vs=>ay vs fun x4 vs=>ay vs fun bn vs=>ay vs fun bC vs=>ay vs fun b9 vs=>bw vs (
 af c cT [b9,bC] s fun fu bL=>
 aJ fu  (
    lS (fun j12=>
    af c Dv [bn,b9] bL fun dW cK=>
    af c jz [dW] cK fun eX cL=>
    af c (.alloc [aW,av,aC,aC,aC,av]) [] cL fun x6 cO=>
    af c vG [x6,eX] cO fun _ cX=>
    af c .move [x4] cX fun fL cP=>
    af c dM [x6] cP fun fy cQ=>
    af c aB [fy] cQ fun gW eD=>
    af c (.lookup .i (.agg [aC,aW,aD,aW,aD,av,aD,.ax]) false) [fL,gW] eD fun gY fH=>
    af c (.alloc [aC,aW,aD,aW,aD,av,aD,.ax]) [] fH fun x7 gh=>
    af c (.store 8) [x7,gY] gh fun _ ir=>
    af c (.buildSlice 1 1 [aC] [0]) [(.str [104,97,114,100])] ir fun iQ gL=>
    af c .move [iQ] gL fun x8 gj=>
    lS (fun j26=>
     af c eu [x6] gj fun gM gu=>
     af c aB [gM] gu fun gN fV=>
     af c gl [gN,av] fV fun jf iu=>
     aJ jf (
        af c eu [x6] iu fun dX iT=>
        af c aB [dX] iT fun jE lu=>
        af c (.callF 33) [jE] lu fun kI j8=>
        af c (.buildSlice 1 2 [aC] [0,1]) [(.str [119,101,105,103,104]),kI] j8 fun iw j9=>
        af c .move [iw] j9 fun x8 jD=>
        j26 [x3,x4,x6,x7,x8,bn,bC,b9] jD) (
        j26 [x3,x4,x6,x7,x8,bn,bC,b9] iu))
    (fun vs fM=>ay vs fun x3 vs=>ay vs fun x4 vs=>ay vs fun x6 vs=>ay vs fun x7 vs=>ay vs fun x8 vs=>ay vs fun bn vs=>ay vs fun bC vs=>ay vs fun b9 vs=>bw vs (
     af c .move [x8] fM fun mB jN=>
     af c dM [x7] jN fun iU kq=>
     af c aB [iU] kq fun kX kW=>
     af c (.buildSlice 1 1 [aC] [0]) [kX] kW fun jg ku=>
     af c (.append 1 16) [mB,jg] ku fun mC om=>
     af c .move [mC] om fun x8 oo=>
     af c eu [x7] oo fun ji oq=>
     af c aB [ji] oq fun jF pq=>
     af c cG [jF,aW] pq fun mD oK=>
     af c eN [x6] oK fun pz lz=>
     af c aB [pz] lz fun jG pE=>
     af c (.build [aD,aC] [(0,1),(1,1)]) [mD,jG] pE fun lA pF=>
     af c eN [x7] pF fun kg p0=>
     af c aB [kg] p0 fun nX ny=>
     af c gQ [x6] ny fun fW og=>
     af c aB [fW] og fun nY nU=>
     af c (.build [aD,aC] [(0,1),(1,1)]) [nX,nY] nU fun nA nV=>
     af c gQ [x7] nV fun pG nW=>
     af c aB [pG] nW fun jH pH=>
     af c cG [jH,aW] pH fun mL oL=>
     af c l7 [x6] oL fun ot iy=>
     af c aB [ot] iy fun lU rS=>
     af c (.build [aD,aC] [(0,1),(1,1)]) [mL,lU] rS fun kK mM=>
     af c (.buildSlice 2 3 [aD,aC] [0,1,2]) [lA,nA,kK] mM fun lB u7=>
     af c dF [lB] u7 fun iV qt=>
     af c .move [av] qt fun jO rU=>
     gS c F (fun vs Aq=>ay vs fun x3 vs=>ay vs fun x4 vs=>ay vs fun x6 vs=>ay vs fun x7 vs=>ay vs fun x8 vs=>ay vs fun bn vs=>ay vs fun bC vs=>ay vs fun b9 vs=>bw vs (
        lS (fun j91=>
        af c l7 [x7] Aq fun BK BU=>
        af c aB [BK] BU fun xw zI=>
        aJ xw (
         af c .move [x8] zI fun sU EN=>
         af c pK [x6] EN fun uJ BW=>
         af c aB [uJ] BW fun BM BX=>
         af c (.callF 33) [BM] BX fun qz BZ=>
         af c (.buildSlice 1 1 [aC] [0]) [qz] BZ fun BO B5=>
         af c (.append 1 16) [sU,BO] B5 fun tU vU=>
         af c .move [tU] vU fun x8 sD=>
         j91 [x3,x4,x6,x8,bn,bC,b9] sD) (
         j91 [x3,x4,x6,x8,bn,bC,b9] zI))
     (fun vs BT=>ay vs fun x3 vs=>ay vs fun x4 vs=>ay vs fun x6 vs=>ay vs fun x8 vs=>ay vs fun bn vs=>ay vs fun bC vs=>ay vs fun b9 vs=>bw vs (
        af c .move [x8] BT fun BQ vV=>
        af c (.callF 34) [BQ,(.str [32])] vV fun BS tX=>
        af c bP [BS,(.str [10])] tX fun zH tY=>
        af c .move [zH] tY fun bh yF=>
        af c .move [bh] yF fun EH yG=>
        af c (.callF 35) [EH] yG fun EI yH=>
        af c .move [EI] yH fun Dp yI=>
        af c sV [Dp] yI fun BV yK=>
        af c sW [Dp] yK fun rY xy=>
        af c (.alloc [aW,av,aC,aC,aC,av]) [] xy fun bG z8=>
        af c vG [bG,BV] z8 fun _ xz=>
        af c .move [rY] xz fun bQ Ca=>
        af c .move [bQ] Ca fun EJ Cb=>
        af c cG [EJ,av] Cb fun xx vW=>
        af c .move [xx] vW fun tV xB=>
        ak c tV false jz [bG] xB fun EK Aa=>
        ak c tV false jz [x6] Aa fun yC Cc=>
        ak c tV false (.bin .neq (.struct [(0,.i),(1,.i),(2,.s),(3,.s),(4,.s),(5,.i)])) [EK,yC] Cc fun yD Ab=>
        af c .pick [tV,aN,yD] Ab fun qA yM=>
        aJ qA (
         af c .move [aC] yM fun x2 GQ=>
         k1 [x2] GQ) (
         af c .move [bh] yM fun yE Gk=>
        af c (.callF 36) [x3,yE] Gk fun zY Cd=>
        j12 [x3,x4,bn,bC,b9] Cd))))) F [x3,x4,x6,x7,x8,bn,bC,b9,lB,iV,jO] rU)))
 (fun vs cg=>ay vs fun x3 vs=>ay vs fun x4 vs=>ay vs fun bn vs=>ay vs fun bC vs=>ay vs fun b9 vs=>bw vs (
    af c bP [b9,bS] cg fun pS Ce=>
    af c .move [pS] Ce fun b9 Ac=>
    ja c F k1 k2 n [x3,x4,bn,bC,b9] Ac))) (
    k2 [x3] bL))
def u6 (c:ai) (F:Nat) (x0:AV) (s:St):Option (AV×St):=
 af c .move [aC] s fun x2 s0=>
 af c .move [x0] s0 fun bR s1=>
 af c dF [bR] s1 fun bH s2=>
 af c gl [bH,Dw] s2 fun ct s3=>
 aJ ct (
    af c .move [aC] s3 fun x2 s4=>
    some (x2,s4)) (
    af c (.allocT 81 [.bq,.aj]) [] s3 fun x3 s5=>
 af c (.callF 32) [] s5 fun cw s6=>
 af c .move [cw] s6 fun x4 s7=>
 af c .move [x0] s7 fun bn s8=>
 af c dF [bn] s8 fun bC s9=>
 af c .move [av] s9 fun b9 bT=>
 ja c F (fun vs xo=>ay vs fun x2 vs=>bw vs (
    some (x2,xo))) (fun vs yw=>ay vs fun x3 vs=>bw vs (
    af c (.callF 37) [x3] yw fun pR yx=>
 af c .move [pR] yx fun x2 yy=>
 some (x2,yy))) F [x3,x4,bn,bC,b9] bT)
def vH (c:ai) (F:Nat):Env (AV×St):=iF [(0,fun K n=>ja c F (K 1) (K 2) n),(1,fun K n=>gS c F (K 4) n)]
theorem NT (c:ai) (F:Nat):bV c F (vH c F) (cY mY oW 0).1 (cY mY oW 0).2:=dP (j:=0) (ins:=[(.o (.o .h)),(.i (.o .h)),(.i (.i (.o (.o .h)))),(.o (.o (.i (.o .h)))),(.i (.o (.i (.o .h))))]) (outs:=[(1,[(.i .h)]),(2,[(.o (.o .h))])]) (s:=(.seq none .leaf (.seq none iz (.seq (some [(.o (.o .h)),(.i (.o .h)),(.i (.i (.o (.o .h)))),(.o (.o (.i (.o .h)))),(.i (.o (.i (.o .h))))]) (.block (.seq none .leaf (.seq none .leaf (.seq none .leaf (.seq (some [(.o (.o .h)),(.i (.o .h)),(.i (.i .h)),(.o (.o (.o .h))),(.i (.o (.o .h))),(.i (.i (.o (.o .h)))),(.o (.o (.i (.o .h)))),(.i (.o (.i (.o .h))))]) cj (.seq none .leaf (.seq none (.seq none .leaf (.block (.loop 1 [(.o (.o .h)),(.i (.o .h)),(.i (.i .h)),(.o (.o (.o .h))),(.i (.o (.o .h))),(.i (.i (.o (.o .h)))),(.o (.o (.i (.o .h)))),(.i (.o (.i (.o .h)))),(.i (.i (.o (.i (.i .h))))),(.o (.o (.i (.i (.i .h))))),(.i (.o (.i (.i (.i .h)))))] [(4,[(.o (.o .h)),(.i (.o .h)),(.i (.i .h)),(.o (.o (.o .h))),(.i (.o (.o .h))),(.i (.i (.o (.o .h)))),(.o (.o (.i (.o .h)))),(.i (.o (.i (.o .h))))])] (.seq none .leaf (.seq none iz (.seq (some [(.o (.o .h)),(.i (.o .h)),(.i (.i .h)),(.o (.o (.o .h))),(.i (.o (.o .h))),(.i (.i (.o (.o .h)))),(.o (.o (.i (.o .h)))),(.i (.o (.i (.o .h)))),(.i (.i (.o (.i (.i .h))))),(.o (.o (.i (.i (.i .h))))),(.i (.o (.i (.i (.i .h)))))]) (.block (.seq none .leaf (.seq (some [(.o (.o .h)),(.i (.o .h)),(.i (.i .h)),(.o (.o (.o .h))),(.i (.o (.o .h))),(.i (.i (.o .h))),(.i (.i (.o (.o .h)))),(.o (.o (.i (.o .h)))),(.i (.o (.i (.o .h)))),(.i (.i (.o (.i (.i .h))))),(.o (.o (.i (.i (.i .h))))),(.i (.o (.i (.i (.i .h)))))]) cj cj))) .leaf)))))) (.seq (some [(.o (.o .h)),(.i (.o .h)),(.i (.i .h)),(.i (.o (.o .h))),(.i (.i (.o (.o .h)))),(.o (.o (.i (.o .h)))),(.i (.o (.i (.o .h))))]) cj (.seq none .leaf (.seq none (.seq none .leaf aS) .leaf)))))))))) .leaf)))) (by kernel_rfl) (fun _ _ _=>by kernel_rfl) (fun _ _ _ _=>by kernel_rfl)
theorem NU (c:ai) (F:Nat):bV c F (vH c F) (cY mY oW 1).1 (cY mY oW 1).2:=dP (j:=1) (ins:=[(.o (.o .h)),(.i (.o .h)),(.i (.i .h)),(.o (.o (.o .h))),(.i (.o (.o .h))),(.i (.i (.o (.o .h)))),(.o (.o (.i (.o .h)))),(.i (.o (.i (.o .h)))),(.i (.i (.o (.i (.i .h))))),(.o (.o (.i (.i (.i .h))))),(.i (.o (.i (.i (.i .h)))))]) (outs:=[(4,[(.o (.o .h)),(.i (.o .h)),(.i (.i .h)),(.o (.o (.o .h))),(.i (.o (.o .h))),(.i (.i (.o (.o .h)))),(.o (.o (.i (.o .h)))),(.i (.o (.i (.o .h))))])]) (s:=(.seq none .leaf (.seq none iz (.seq (some [(.o (.o .h)),(.i (.o .h)),(.i (.i .h)),(.o (.o (.o .h))),(.i (.o (.o .h))),(.i (.i (.o (.o .h)))),(.o (.o (.i (.o .h)))),(.i (.o (.i (.o .h)))),(.i (.i (.o (.i (.i .h))))),(.o (.o (.i (.i (.i .h))))),(.i (.o (.i (.i (.i .h)))))]) (.block (.seq none .leaf (.seq (some [(.o (.o .h)),(.i (.o .h)),(.i (.i .h)),(.o (.o (.o .h))),(.i (.o (.o .h))),(.i (.i (.o .h))),(.i (.i (.o (.o .h)))),(.o (.o (.i (.o .h)))),(.i (.o (.i (.o .h)))),(.i (.i (.o (.i (.i .h))))),(.o (.o (.i (.i (.i .h))))),(.i (.o (.i (.i (.i .h)))))]) cj cj))) .leaf)))) (by kernel_rfl) (fun _ _ _=>by kernel_rfl) (fun _ _ _ _=>by kernel_rfl)
theorem Pp (c:ai) (F:Nat): ∀x∈cu mY.code oW,bV c F (vH c F) x.1 x.2:=eH 2 (by kernel_rfl) fun i hi=>match i,hi with|0,_=>NT c F|1,_=>NU c F|n+2,h=>absurd h (by omega)
theorem Pq (c:ai) (F:Nat) (x0:AV) (s:St):lN c F (vH c F) mY oW [x0] s=u6 c F x0 s:=by kernel_rfl
theorem Dj {c:ai} (hc:Sem c) (F:Nat){x0:AV} {s:St} {r:AV×St} (h:u6 c F x0 s=some r):c 7 [x0] s=some (tidy s r):=hc.of (A:=mY) (by kernel_rfl) (by kernel_rfl) (Pp _ F) (by rw[Pq];exact h)
def kj:aM:=g8.getD default
def mN:Sh:=(.seq none .leaf (.seq none aS (.seq none .leaf (.seq none (.seq none .leaf (.block (.loop 0 [.h,(.o (.o .h)),(.i (.o .h))] [(1,[(.i .h)]),(2,[(.o (.o .h))])] (.seq none cj (.seq (some [.h,(.o (.o .h)),(.i (.o .h))]) (.block (.seq none .leaf (.seq none aS (.seq (some [.h,(.o (.o .h)),(.i (.o .h)),(.o (.i .h))]) cj (.seq (some [.h,(.o (.o .h)),(.i (.o .h)),(.o (.i .h))]) cj (.seq (some [.h,(.o (.o .h)),(.i (.o .h)),(.o (.i .h))]) cj (.seq (some [.h,(.o (.o .h)),(.i (.o .h)),(.o (.i .h))]) cj (.seq (some [.h,(.o (.o .h)),(.i (.o .h))]) cj .leaf)))))))) .leaf))))) cI))))
def dL (c:  ai) (F:Nat) (k1 k2:List AV->St->Option (AV×St)):Nat->List AV->St->Option (AV×St)
 |0,_,_=>none
 |n+1,vs,s=>ay vs fun x0 vs=>ay vs fun x3 vs=>ay vs fun x4 vs=>bw vs (
 af c .move [x4] s fun x9 s7=>
 af c .move [x0] s7 fun aZ s8=>
 af c dF [aZ] s8 fun bh s9=>
 af c cT [x9,bh] s9 fun bG bT=>
 aJ bG  (
    lS (fun j11=>
    af c .move [x0] bT fun bH cg=>
    af c .move [x4] cg fun ct cK=>
    af c Dv [bH,ct] cK fun cw cL=>
    af c jz [cw] cL fun bn cO=>
    af c (.alloc [aW,av,aC,aC,aC,av]) [] cO fun x5 cX=>
    af c vG [x5,bn] cX fun _ cP=>
    af c jz [x5] cP fun bC cQ=>
    af c (.callF 38) [bC] cQ fun b9 eD=>
    af c iA [b9] eD fun fu fH=>
    aJ fu (
     af c .move [aC] fH fun x2 gh=>
     k1 [x2] gh) (
     lS (fun j23=>
     af c eu [x5] fH fun dW gj=>
     af c aB [dW] gj fun eX iP=>
     af c bF [eX,av] iP fun fL fM=>
     aJ fL (
        af c .move [x3] fM fun fy gu=>
        af c dM [x5] gu fun gW fV=>
        af c aB [gW] fV fun gY iu=>
        af c (.callF 39) [gY] iu fun iQ iT=>
        af c bP [(.str [104,97,114,100,32]),iQ] iT fun gM lu=>
        af c bP [fy,gM] lu fun gN j8=>
        af c .move [gN] j8 fun x3 j9=>
        j23 [x0,x3,x4,x5] j9) (
        bg eu [x5] fun dX=>
        fE aB [dX] fM.heap (fun _=>true) fun jE=>
        af c (.callF 40) [jE] fM fun kI jD=>
        bg dM [x5] fun iU=>
        fE aB [iU] jD.heap (fun v=>dH aB [iU] v (eo [] fM.heap)&&true) fun kX=>
        af c (.callF 39) [kX] jD fun jg jN=>
        bg .move [x3] fun jf=>
        bg bP [(.str [119,101,105,103,104,32]),kI] fun iw=>
        bg bP [iw,(.str [32])] fun mB=>
        bg bP [mB,jg] fun mC=>
        bg bP [jf,mC] fun ji=>
        bg .move [ji] fun x3=>
        j23 [x0,x3,x4,x5] jN))
    (fun vs gL=>ay vs fun x0 vs=>ay vs fun x3 vs=>ay vs fun x4 vs=>ay vs fun x5 vs=>bw vs (
     lS (fun j37=>
        af c dM [x5] gL fun jF ku=>
        af c aB [jF] ku fun mD om=>
        af c xG [mD] om fun pz oo=>
        af c .move [pz] oo fun jG oq=>
        ak c jG false dM [x5] oq fun lA pq=>
        ak c jG false aB [lA] pq fun kg oK=>
        ak c jG false (.callF 42) [kg] oK fun nX lz=>
        af c .pick [jG,aN,nX] lz fun fW pE=>
        af c .move [fW] pE fun nY pF=>
        ak c nY false dM [x5] pF fun nA p0=>
        ak c nY false aB [nA] p0 fun pG ny=>
        ak c nY false bF [pG,AM] ny fun jH og=>
        af c .pick [nY,aN,jH] og fun mL nU=>
        aJ mL (
         af c .move [x3] nU fun ot nV=>
         af c eN [x5] nV fun lU nW=>
         af c aB [lU] nW fun kK pH=>
         af c (.callF 43) [kK] pH fun lB oL=>
         af c bP [(.str [32]),lB] oL fun iV iy=>
         af c bP [ot,iV] iy fun jO rS=>
         af c .move [jO] rS fun x3 mM=>
         j37 [x0,x3,x4,x5] mM) (
         j37 [x0,x3,x4,x5] nU))
     (fun vs  kW=>ay vs fun x0 vs=>ay vs fun x3 vs=>ay vs fun x4 vs=>ay vs fun x5 vs=>bw vs (
        lS (fun j59=>
         af c dM [x5] kW fun qu rU=>
         af c aB [qu] rU fun dx p6=>
         af c xG [dx] p6 fun ou ua=>
         aJ ou (
            af c .move [x3] ua fun qv qO=>
            af c gQ [x5] qO fun lV qP=>
            af c aB [lV] qP fun nZ u9=>
            af c bP [(.str [32]),nZ] u9 fun ov qQ=>
            af c bP [qv,ov] qQ fun mE oM=>
            af c .move [mE] oM fun x3 tS=>
            j59 [x0,x3,x4,x5] tS) (
            j59 [x0,x3,x4,x5] ua))
        (fun vs qt=>ay vs fun x0 vs=>ay vs fun x3 vs=>ay vs fun x4 vs=>ay vs fun x5 vs=>bw vs (
         lS ( fun j70=>
            af c dM [x5] qt fun fX vg=>
            af c aB [fX] vg fun gO p7=>
            af c (.callF 44) [gO] p7 fun rX zB=>
            af c gl [rX,av] zB fun xq vh=>
            aJ xq (
              af c .move [x3] vh fun qw wC=>
              af c l7 [x5] wC fun zC xX=>
              af c aB [zC] xX fun qx xY=>
              af c (.callF 43) [qx] xY fun uI zE=>
              af c bP [(.str [32]),uI] zE fun zD zF=>
              af c bP [qw,zD] zF fun tT Dn=>
              af c .move [tT] Dn fun x3 Ao=>
              j70 [x0,x3,x4,x5] Ao) (
              j70 [x0,x3,x4,x5] vh))
         (fun vs ve=>ay vs fun x0 vs=>ay vs fun x3 vs=>ay vs fun x4 vs=>ay vs fun x5 vs=>bw vs (
            lS (fun j83=>
              af c dM [x5] ve fun qy Ap=>
              af c aB [qy] Ap fun BK BN=>
              af c (.callF 45) [BK] BN fun xw zG=>
              aJ xw (
                af c .move [x3] zG fun sU BP=>
                af c pK [x5] BP fun uJ BR=>
                af c aB [uJ] BR fun BM Aq=>
                af c (.callF 40) [BM] Aq fun qz II=>
                af c bP [(.str [32]),qz] II fun BO BT=>
                af c bP [sU,BO] BT fun tU BU=>
                af c .move [tU] BU fun x3 zI=>
                j83 [x0,x3,x4] zI) (
                j83 [x0,x3,x4] zG))
            (fun vs BL=>ay vs fun x0 vs=>ay vs fun x3 vs=>ay vs fun x4 vs=>bw vs (
              af c .move [x3] BL fun BQ EN=>
              af c bP [BQ,(.str [10])] EN fun BS BW=>
              af c .move [BS] BW fun x3 BX=>
              j11 [x0,x3,x4] BX))))))))))))
 (fun vs cr=>ay vs fun x0 vs=>ay vs fun x3 vs=>ay vs fun x4 vs=>bw vs (
    af c .move [x4] cr fun bQ BZ=>
    af c bP [bQ,bS] BZ fun bR B5=>
    af c .move [bR] B5 fun x4 vU=>
    dL c F k1 k2 n [x0,x3,x4] vU))) (
    k2 [x3] bT))
def lC (c:ai) (F:Nat) (x0:AV) (s:St):Option (AV×St):=
 af c .move [aC] s fun x2 s0=>
 af c .move [x0] s0 fun x6 s1=>
 af c dF [x6] s1 fun x7 s2=>
 af c gl [x7,Dw] s2 fun x8 s3=>
 aJ x8 (
    af c .move [aC] s3 fun x2 s4=>
    some (x2,s4)) (
    af c .move [aC] s3 fun x3 s5=>
 af c .move [av] s5 fun x4 s6=>
 dL c F (fun vs sD=>ay vs fun x2 vs=>bw vs (
    some (x2,sD))) (fun vs vV=>ay vs fun x3 vs=>bw vs (
    af c .move [x3] vV fun zH tX=>
 af c .move [zH] tX fun x2 tY=>
 some (x2,tY))) F [x0,x3,x4] s6)
def qC (c:ai) (F:Nat):Env (AV×St):=iF [(0,fun K n=>dL c F (K 1) (K 2) n)]
theorem D0 (c:ai) (F:Nat):bV c F (qC c F) (cY kj mN 0).1 (cY kj mN 0).2:=dP (j:=0) (ins:=[.h,(.o (.o .h)),(.i (.o .h))]) (outs:=[(1,[(.i .h)]),(2,[(.o (.o .h))])]) (s:=(.seq none cj (.seq (some [.h,(.o (.o .h)),(.i (.o .h))]) (.block (.seq none .leaf (.seq none aS (.seq (some [.h,(.o (.o .h)),(.i (.o .h)),(.o (.i .h))]) cj (.seq (some [.h,(.o (.o .h)),(.i (.o .h)),(.o (.i .h))]) cj (.seq (some [.h,(.o (.o .h)),(.i (.o .h)),(.o (.i .h))]) cj (.seq (some [.h,(.o (.o .h)),(.i (.o .h)),(.o (.i .h))]) cj (.seq (some [.h,(.o (.o .h)),(.i (.o .h))]) cj .leaf)))))))) .leaf))) (by kernel_rfl) (fun _ _ _=>by kernel_rfl) (fun _ _ _ _=>by kernel_rfl)
theorem ES (c:ai) (F:Nat): ∀x∈cu kj.code mN,bV c F (qC c F) x.1 x.2:=eH 1 (by kernel_rfl) fun i hi=>match i,hi with|0,_=>D0 c F|n+1,h=>absurd h (by omega)
theorem ET (c:ai) (F:Nat) (x0:AV) (s:St):lN c F (qC c F) kj mN [x0] s=lC c F x0 s:=by kernel_rfl
theorem uL {c:ai} (hc:Sem c) (F:Nat){x0:AV} {s:St} {r:AV×St} (h:lC c F x0 s=some r):c 8 [x0] s=some (tidy s r):=hc.of (A:=kj) (by kernel_rfl) (by kernel_rfl) (ES _ F) (by rw[ET];exact h)
def qM (c:ai) (F:Nat) (x0 x1:AV) (s:St):Option (AV×St):=
 af c .move [av] s fun x4 s0=>
 af c .move [.oN] s0 fun x5 s1=>
 af c .move [x0] s1 fun x6 s2=>
 af c (.callF 105) [x6] s2 fun x7 s3=>
 af c .move [x0] s3 fun x8 s4=>
 af c .move [x0] s4 fun x9 s5=>
 af c .nilCheck [x9] s5 fun aZ s6=>
 af c eu [aZ] s6 fun bh s7=>
 af c aB [bh] s7 fun bG s8=>
 af c .move [x1] s8 fun bQ s9=>
 af c (.appendT 5 1) [bG,bQ] s9 fun bR bT=>
 af c .nilCheck [x8] bT fun bH bL=>
 af c eu [bH] bL fun ct cr=>
 af c (.store 1) [ct,bR] cr fun _ cg=>
 af c .move [x1] cg fun cw cK=>
 af c sY [cw] cK fun bn cL=>
 af c .move [bn] cL fun x4 cO=>
 af c .move [.oN] cO fun x5 cX=>
 some (.tuple [x4,x5],cX)
theorem wF {c:ai} (hc:Sem c) (F:Nat){x0 x1:AV} {s:St} {r:AV×St} (h:qM c F x0 x1 s=some r):c 36 [x0,x1] s=some (tidy s r):=hc.lF (A:=g36.getD default) (F:=F) (s:=(.seq none .leaf (.seq none .leaf (.seq none .leaf cI)))) (by kernel_rfl) (by kernel_rfl) (by kernel_rfl) (by kernel_rfl) h
def pQ (c:ai) (F:Nat) (x0:AV) (s:St):Option (AV×St):=
 af c .move [aC] s fun x2 s0=>
 bg .move [x0] fun x3=>
 bg .nilCheck [x3] fun x4=>
 bg eu [x4] fun x5=>
 fE aB [x5] s0.heap (fun _=>true) fun x6=>
 bg .sliceData [x6] fun x7=>
 bg .move [x0] fun x8=>
 bg .nilCheck [x8] fun x9=>
 bg eu [x9] fun aZ=>
 fE aB [aZ] s0.heap (fun _=>true) fun bh=>
 bg dF [bh] fun bG=>
 af c (.unsafeStr 5) [x7,bG] s0 fun bQ s1=>
 bg .move [bQ] fun x2=>
 some (x2,s1)
theorem rQ {c:ai} (hc:Sem c) (F:Nat){x0:AV} {s:St} {r:AV×St} (h:pQ c F x0 s=some r):c 37 [x0] s=some (tidy s r):=hc.lF (A:=g37.getD default) (F:=F) (s:=(.seq none .leaf cI)) (by kernel_rfl) (by kernel_rfl) (by kernel_rfl) (by kernel_rfl) h
def Ar (c:ai) (F:Nat) (x0:AV) (s:St):Option (AV×St):=
 af c .box [x0] s fun x1 s0=>
 af c .move [aD] s0 fun x2 s1=>
 af c dM [x1] s1 fun x4 s2=>
 af c aB [x4] s2 fun x5 s3=>
 af c .move [x5] s3 fun x3 s4=>
 af c .move [x3] s4 fun x6 s5=>
 af c (.callF 39) [x6] s5 fun x7 s6=>
 af c bF [x7,aC] s6 fun x8 s7=>
 af c .move [x8] s7 fun x9 s8=>
 ak c x9 false eu [x1] s8 fun aZ s9=>
 ak c x9 false aB [aZ] s9 fun bh bT=>
 ak c x9 false cT [bh,av] bT fun bG bL=>
 af c .pick [x9,aN,bG] bL fun bQ cr=>
 af c .move [bQ] cr fun bR cg=>
 ak c bR false eu [x1] cg fun bH cK=>
 ak c bR false aB [bH] cK fun ct cL=>
 ak c bR false gl [ct,Du] cL fun cw cO=>
 af c .pick [bR,aN,cw] cO fun bn cX=>
 af c .move [bn] cX fun bC cP=>
 ak c bC false pK [x1] cP fun b9 cQ=>
 ak c bC false aB [b9] cQ fun fu eD=>
 ak c bC false cT [fu,av] eD fun dW fH=>
 af c .pick [bC,aN,dW] fH fun eX gh=>
 af c .move [eX] gh fun fL ir=>
 ak c fL false pK [x1] ir fun fy gL=>
 ak c fL false aB [fy] gL fun gW gj=>
 ak c fL false gl [gW,(.int .i64 999999999)] gj fun gY iP=>
 af c .pick [fL,aN,gY] iP fun iQ fM=>
 af c .move [iQ] fM fun gM gu=>
 ak c gM false pK [x1] gu fun gN fV=>
 ak c gM false aB [gN] fV fun jf iu=>
 ak c gM false cG [jf,av] iu fun dX iT=>
 ak c gM false .move [dX] iT fun jE lu=>
 ak c jE true .move [x3] lu fun kI j8=>
 ak c jE true (.callF 45) [kI] j8 fun iw j9=>
 ak c jE true iA [iw] j9 fun mB jD=>
 ak c gM false .pick [jE,mB,aD] jD fun iU jN=>
 af c .pick [gM,aN,iU] jN fun kX kq=>
 aJ kX (
    af c .move [aD] kq fun x2 kW=>
    some (x2,kW)) (
    af c .move [x3] kq fun jg ku=>
 af c xG [jg] ku fun mC om=>
 af c .move [mC] om fun ji oo=>
 ak c ji true eN [x1] oo fun jF oq=>
 ak c ji true aB [jF] oq fun mD pq=>
 ak c ji true (.callF 106) [mD] pq fun pz oK=>
 ak c ji true iA [pz] oK fun jG lz=>
 ak c ji true .move [jG] lz fun lA pE=>
 ak c lA false gQ [x1] pE fun kg pF=>
 ak c lA false aB [kg] pF fun nX p0=>
 ak c lA false (.callF 106) [nX] p0 fun fW ny=>
 ak c lA false iA [fW] ny fun nY og=>
 ak c ji true .pick [lA,aN,nY] og fun nA nU=>
 af c .pick [ji,nA,aD] nU fun pG nV=>
 af c .move [pG] nV fun jH nW=>
 ak c jH false .move [x3] nW fun mL pH=>
 ak c jH false xG [mL] pH fun ot oL=>
 ak c jH false iA [ot] oL fun lU iy=>
 ak c jH false .move [lU] iy fun kK rS=>
 ak c kK true gQ [x1] rS fun lB mM=>
 ak c kK true aB [lB] mM fun iV u7=>
 ak c kK true cG [iV,aC] u7 fun jO qt=>
 ak c jH false .pick [kK,jO,aD] qt fun qu rU=>
 af c .pick [jH,aN,qu] rU fun dx p6=>
 aJ dx (
    af c .move [aD] p6 fun x2 ua=>
    some (x2,ua)) (
    af c .move [x3] p6 fun ou qO=>
 af c bF [ou,(.int .u8 6)] qO fun qv qP=>
 af c .move [qv] qP fun lV u9=>
 ak c lV false .move [x3] u9 fun nZ qQ=>
 ak c lV false bF [nZ,y6] qQ fun ov oM=>
 af c .pick [lV,aN,ov] oM fun mE tS=>
 af c .move [mE] tS fun fX uH=>
 ak c fX false .move [x3] uH fun gO ve=>
 ak c fX false bF [gO,AM] ve fun rX vg=>
 af c .pick [fX,aN,rX] vg fun xq p7=>
 af c .move [xq] p7 fun qw zB=>
 ak c qw true eN [x1] zB fun zC vh=>
 ak c qw true aB [zC] vh fun qx wC=>
 ak c qw true (.callF 106) [qx] wC fun uI xX=>
 ak c qw true iA [uI] xX fun zD xY=>
 af c .pick [qw,zD,aD] xY fun tT zE=>
 af c .move [tT] zE fun qy zF=>
 ak c qy false .move [x3] zF fun BK Dn=>
 ak c qy false bF [BK,(.int .u8 10)] Dn fun xw Ao=>
 ak c qy false .move [xw] Ao fun sU EG=>
 ak c sU true eN [x1] EG fun uJ BL=>
 ak c sU true aB [uJ] BL fun BM Ap=>
 ak c sU true cG [BM,aC] Ap fun qz BN=>
 ak c qy false .pick [sU,qz,aD] BN fun BO zG=>
 ak c qy false .move [BO] zG fun tU BP=>
 ak c tU true eN [x1] BP fun BQ BR=>
 ak c tU true aB [BQ] BR fun BS Aq=>
 ak c tU true (.callF 106) [BS] Aq fun zH II=>
 ak c tU true iA [zH] II fun Dp BT=>
 ak c qy false .pick [tU,Dp,aD] BT fun EH BU=>
 af c .pick [qy,aN,EH] BU fun EI zI=>
 aJ EI (
    af c .move [aD] zI fun x2 EN=>
    some (x2,EN)) (
    af c .move [x3] zI fun BV BW=>
 af c xG [BV] BW fun rY BX=>
 af c iA [rY] BX fun EJ BZ=>
 af c .move [EJ] BZ fun xx B5=>
 ak c xx true .move [x3] B5 fun tV vU=>
 ak c xx true (.callF 42) [tV] vU fun EK sD=>
 ak c xx true iA [EK] sD fun yC vV=>
 af c .pick [xx,yC,aD] vV fun yD tX=>
 af c .move [yD] tX fun qA tY=>
 ak c qA true .move [x3] tY fun yE yF=>
 ak c qA true cG [yE,AM] yF fun zY yG=>
 af c .pick [qA,zY,aD] yG fun pS yH=>
 af c .move [pS] yH fun pR yI=>
 ak c pR true eN [x1] yI fun yJ yK=>
 ak c pR true aB [yJ] yK fun B6 xy=>
 ak c pR true cG [B6,aC] xy fun zZ z8=>
 af c .pick [pR,zZ,aD] z8 fun B7 xz=>
 aJ B7 (
    af c .move [aD] xz fun x2 Ca=>
    some (x2,Ca)) (
    af c .move [x3] xz fun Gd Cb=>
 af c (.callF 44) [Gd] Cb fun Ge vW=>
 af c bF [Ge,av] vW fun rq xB=>
 aJ rq (
    af c l7 [x1] xB fun Gf Aa=>
    af c aB [Gf] Aa fun Gg Cc=>
    af c bF [Gg,aC] Cc fun Gh Ab=>
    af c .move [Gh] Ab fun x2 yM=>
    some (x2,yM)) (
    af c l7 [x1] xB fun DS GQ=>
 af c aB [DS] GQ fun Gi Gk=>
 af c (.callF 106) [Gi] Gk fun Gj Cd=>
 af c .move [Gj] Cd fun xC Ce=>
 ak c xC false .move [x3] Ce fun Gl Ac=>
 ak c xC false (.callF 44) [Gl] Ac fun Gm xo=>
 ak c xC false bF [Gm,l6] xo fun Gp yw=>
 ak c xC false .move [Gp] yw fun ru yx=>
 ak c ru true l7 [x1] yx fun Cf yy=>
 ak c ru true aB [Cf] yy fun Gq Gs=>
 ak c ru true bF [Gq,aC] Gs fun Gr Gt=>
 ak c xC false .pick [ru,Gr,aD] Gt fun yN Gu=>
 af c .pick [xC,aN,yN] Gu fun Ad Gv=>
 af c .move [Ad] Gv fun x2 Gx=>
 some (x2,Gx))))))
theorem EL {c:ai} (hc:Sem c) (F:Nat){x0:AV} {s:St} {r:AV×St} (h:Ar c F x0 s=some r):c 38 [x0] s=some (tidy s r):=hc.lF (A:=g38.getD default) (F:=F) (s:=(.seq none .leaf (.seq none .leaf (.seq none aS (.seq none aS (.seq none aS (.seq none aS (.seq none aS cI)))))))) (by kernel_rfl) (by kernel_rfl) (by kernel_rfl) (by kernel_rfl) h
def uS (c:ai) (F:Nat) (x0:AV) (s:St):Option (AV×St):=
 af c .move [aC] s fun x2 s0=>
 af c .move [x0] s0 fun x3 s1=>
 af c cT [x3,(.int .i64 10)] s1 fun x4 s2=>
 aJ x4 (
    af c .move [x0] s2 fun x5 s3=>
    af c bP [(.int .i64 48),x5] s3 fun x6 s4=>
    af c (.conv (.int .u8)) [x6] s4 fun x7 s5=>
    af c (.buildSlice 1 1 [aW] [0]) [x7] s5 fun x8 s6=>
    af c (.conv .ofBytes) [x8] s6 fun x9 s7=>
    af c .move [x9] s7 fun x2 s8=>
    some (x2,s8)) (
    bg .move [x0] fun aZ=>
 bg (.bin .quo .num) [aZ,(.int .i64 10)] fun bh=>
 af c (.callF 40) [bh] s2 fun bG s9=>
 bg .move [x0] fun bQ=>
 bg GK [bQ,(.int .i64 10)] fun bR=>
 bg bP [(.int .i64 48),bR] fun bH=>
 bg (.conv (.int .u8)) [bH] fun ct=>
 By (.buildSlice 1 1 [aW] [0]) [ct] s9 fun cw b10=>
 fE (.conv .ofBytes) [cw] (T.put (some b10) s9.next s9.heap) (fun v=>dH (.conv .ofBytes) [cw] v (eo [(s9.next,b10)] s2.heap)&&true) fun bn=>
 bg bP [bG,bn] fun bC=>
 bg .move [bC] fun x2=>
 some (x2,(au s9 b10)))
theorem wB {c:ai} (hc:Sem c) (F:Nat){x0:AV} {s:St} {r:AV×St} (h:uS c F x0 s=some r):c 40 [x0] s=some (tidy s r):=hc.lF (A:=g40.getD default) (F:=F) (s:=(.seq none .leaf (.seq none aS cI))) (by kernel_rfl) (by kernel_rfl) (by kernel_rfl) (by kernel_rfl) h
def Dm (c:ai) (F:Nat) (x0:AV) (s:St):Option (AV×St):=
 af c .move [aC] s fun x2 s0=>
 af c .move [x0] s0 fun x3 s1=>
 af c bF [x3,aC] s1 fun x4 s2=>
 aJ x4 (
    af c .move [(.str [45])] s2 fun x2 s3=>
    some (x2,s3)) (
    af c .move [x0] s2 fun x5 s4=>
 af c .move [x5] s4 fun x2 s5=>
 some (x2,s5))
theorem Hv {c:ai} (hc:Sem c) (F:Nat){x0:AV} {s:St} {r:AV×St} (h:Dm c F x0 s=some r):c 43 [x0] s=some (tidy s r):=hc.lF (A:=g43.getD default) (F:=F) (s:=(.seq none .leaf (.seq none aS cI))) (by kernel_rfl) (by kernel_rfl) (by kernel_rfl) (by kernel_rfl) h
def nJ (c:ai) (F:Nat) (x0:AV) (s:St):Option (AV×St):=
 af c .move [x0] s fun x2 s0=>
 af c .nilCheck [x2] s0 fun x3 s1=>
 af c dM [x3] s1 fun x4 s2=>
 af c aB [x4] s2 fun x5 s3=>
 af c (.bin .eql .ptr) [x5,.bq] s3 fun x6 s4=>
 aJ x6 (
    af c .move [x0] s4 fun x7 s5=>
    af c .move [x0] s5 fun x8 s6=>
    af c .toU [x8] s6 fun x9 s7=>
    af c (.callF 175) [x9] s7 fun aZ s8=>
    af c (.fromU 81 2) [aZ] s8 fun bh s9=>
    af c .nilCheck [x7] s9 fun bG bT=>
    af c dM [bG] bT fun bQ bL=>
    af c (.store 1) [bQ,bh] bL fun _ cr=>
    some (.tuple [],cr)) (
    af c .move [x0] s4 fun bR cg=>
    af c .nilCheck [bR] cg fun bH cK=>
    af c dM [bH] cK fun ct cL=>
    af c aB [ct] cL fun cw cO=>
    af c .move [x0] cO fun bn cX=>
    af c (.bin .neq .ptr) [cw,bn] cX fun bC cP=>
    aJ bC (
     af c .bad [] cP fun _ cQ=>
     some (.tuple [],cQ)) (
     some (.tuple [],cP)))
theorem pZ {c:ai} (hc:Sem c) (F:Nat){x0:AV} {s:St} {r:AV×St} (h:nJ c F x0 s=some r):c 105 [x0] s=some (tidy s r):=hc.lF (A:=g105.getD default) (F:=F) (s:=(.seq none .leaf (.cond .leaf cj))) (by kernel_rfl) (by kernel_rfl) (by kernel_rfl) (by kernel_rfl) h
end Go.Proofs.YtehbdakjkjkekaaGreatDoor
end
section
set_option linter.all false
set_option maxRecDepth 100000
noncomputable section
namespace Go.Proofs.YtehbdakjkjkekaaGreatDoor
open Go Go.Ai Go.Proofs
def yQ (c:ai) (F:Nat) (x0 x1:AV) (s:St):Option (AV×St):=
 af c .box [x0] s fun x2 s0=>
 af c .box [x1] s0 fun x3 s1=>
 af c .move [av] s1 fun x4 s2=>
 af c qd [x2] s2 fun x8 s3=>
 af c (.callF 51) [x8] s3 fun x9 s4=>
 af c .move [x9] s4 fun x7 s5=>
 af c sV [x7] s5 fun aZ s6=>
 af c sW [x7] s6 fun bh s7=>
 af c .move [aZ] s7 fun x5 s8=>
 af c .move [bh] s8 fun x6 s9=>
 af c .move [x6] s9 fun bG bT=>
 af c cG [bG,av] bT fun bQ bL=>
 aJ bQ (
    af c .move [l6] bL fun x4 cr=>
    some (x4,cr)) (
    af c (.callF 32) [] bL fun bR cg=>
 bg dM [x3] fun bH=>
 fE aB [bH] cg.heap (fun v=>dH aB [bH] v (eo [] bL.heap)&&true) fun ct=>
 fE (.lookup .i (.agg [aC,aW,aD,aW,aD,av,aD,.ax]) false) [bR,ct] cg.heap (fun _=>true) fun cw=>
 fE qd [x2] cg.heap (fun v=>dH qd [x2] v (eo [] bL.heap)&&true) fun bn=>
 fE jz [x3] cg.heap (fun v=>dH jz [x3] v (eo [] bL.heap)&&true) fun bC=>
 af c (.callF 52) [cw,bn,bC] cg fun b9 cK=>
 bg .move [b9] fun x4=>
 some (x4,cK))
theorem zM {c:ai} (hc:Sem c) (F:Nat){x0 x1:AV} {s:St} {r:AV×St} (h:yQ c F x0 x1 s=some r):c 15 [x0,x1] s=some (tidy s r):=hc.lF (A:=g15.getD default) (F:=F) (s:=(.seq none .leaf (.seq none (.seq none .leaf aS) cI))) (by kernel_rfl) (by kernel_rfl) (by kernel_rfl) (by kernel_rfl) h
def vk (c:ai) (F:Nat) (x0 x1:AV) (s:St):Option (AV×St):=
 af c .box [x0] s fun x2 s0=>
 af c .box [x1] s0 fun x3 s1=>
 af c .move [av] s1 fun x4 s2=>
 af c qd [x2] s2 fun x8 s3=>
 af c (.callF 53) [x8] s3 fun x9 s4=>
 af c .move [x9] s4 fun x7 s5=>
 af c sV [x7] s5 fun aZ s6=>
 af c sW [x7] s6 fun bh s7=>
 af c .move [aZ] s7 fun x5 s8=>
 af c .move [bh] s8 fun x6 s9=>
 af c .move [x6] s9 fun bG bT=>
 af c cG [bG,av] bT fun bQ bL=>
 aJ bQ (
    af c .move [l6] bL fun x4 cr=>
    some (x4,cr)) (
    af c qd [x2] bL fun bR cg=>
 af c jz [x3] cg fun bH cK=>
 af c (.callF 54) [bR,bH] cK fun ct cL=>
 af c .move [ct] cL fun x4 cO=>
 some (x4,cO))
theorem Ae {c:ai} (hc:Sem c) (F:Nat){x0 x1:AV} {s:St} {r:AV×St} (h:vk c F x0 x1 s=some r):c 16 [x0,x1] s=some (tidy s r):=hc.lF (A:=g16.getD default) (F:=F) (s:=(.seq none .leaf (.seq none (.seq none .leaf aS) cI))) (by kernel_rfl) (by kernel_rfl) (by kernel_rfl) (by kernel_rfl) h
def uf:aM:=g17.getD default
def xH:Sh:=(.seq none .leaf (.seq none (.seq none .leaf aS) (.seq none .leaf (.seq none (.seq none .leaf (.block (.loop 0 [(.o .h),(.i (.i .h)),(.o (.i (.i (.o .h)))),(.i (.i (.i (.o .h)))),(.o (.o (.o (.i .h))))] [(1,[(.i .h),(.o (.o .h))]),(2,[])] (.seq none .leaf (.seq none iz (.seq none (.block (.seq none .leaf (.seq none (.seq none .leaf aS) aS))) .leaf)))))) cI))))
def mW (c:ai) (F:Nat) (k1 k2:List AV->St->Option (AV×St)):Nat->List AV->St->Option (AV×St)
 |0,_,_=>none
 |n+1,vs,s=>ay vs fun x1 vs=>ay vs fun x6 vs=>ay vs fun fu vs=>ay vs fun dW vs=>ay vs fun eX vs=>bw vs (
 af c cT [eX,dW] s fun fL gh=>
 aJ fL (
    af c .move [eX] gh fun fy ir=>
 af c Dv [fu,eX] ir fun gW gL=>
 af c jz [gW] gL fun gY gj=>
 af c (.alloc [aW,av,aC,aC,aC,av]) [] gj fun x8 iP=>
 af c .move [fy] iP fun x7 fM=>
 af c vG [x8,gY] fM fun _ gu=>
 af c .move [x6] gu fun iQ fV=>
 af c dM [x8] fV fun gM iu=>
 af c aB [gM] iu fun gN iT=>
 af c (.lookup .i (.agg [aC,aW,aD,aW,aD,av,aD,.ax]) false) [iQ,gN] iT fun jf lu=>
 af c qd [x1] lu fun dX j8=>
 af c jz [x8] j8 fun jE j9=>
 af c (.callF 52) [jf,dX,jE] j9 fun kI jD=>
 af c .move [kI] jD fun x9 jN=>
 af c .move [x9] jN fun iw kq=>
 af c cG [iw,av] kq fun mB kW=>
 aJ mB (
    af c .move [x7] kW fun iU ku=>
    af c .move [x9] ku fun kX om=>
    af c .move [iU] om fun x2 oo=>
    af c .move [kX] oo fun x3 oq=>
    k1 [x2,x3] oq) (
    af c .move [x7] kW fun jg pq=>
 af c bF [jg,Dw] pq fun mC oK=>
 aJ mC (
    af c .move [x7] oK fun ji lz=>
    af c .move [ji] lz fun x2 pE=>
    af c .move [(.int .i64 7)] pE fun x3 pF=>
    k1 [x2,x3] pF) (
    af c bP [eX,bS] oK fun jF p0=>
 af c .move [jF] p0 fun eX ny=>
 mW c F k1 k2 n [x1,x6,fu,dW,eX] ny))) (
    k2 [] gh))
def AI (c:ai) (F:Nat) (x0:AV) (s:St):Option (AV×St):=
 af c .box [x0] s fun x1 s0=>
 af c .move [av] s0 fun x2 s1=>
 af c .move [av] s1 fun x3 s2=>
 af c qd [x1] s2 fun bh s3=>
 af c (.callF 51) [bh] s3 fun bG s4=>
 af c .move [bG] s4 fun aZ s5=>
 af c sV [aZ] s5 fun bQ s6=>
 af c sW [aZ] s6 fun bR s7=>
 af c .move [bQ] s7 fun x4 s8=>
 af c .move [bR] s8 fun x5 s9=>
 af c .move [x5] s9 fun bH bT=>
 af c cG [bH,av] bT fun ct bL=>
 aJ ct (
    af c .move [x4] bL fun cw cr=>
    af c .move [x5] cr fun bn cg=>
    af c .move [cw] cg fun x2 cK=>
    af c .move [bn] cK fun x3 cL=>
    some (.tuple [x2,x3],cL)) (
    af c (.callF 32) [] bL fun bC cO=>
 af c .move [bC] cO fun x6 cX=>
 af c l7 [x1] cX fun b9 cP=>
 af c aB [b9] cP fun fu cQ=>
 af c dF [fu] cQ fun dW eD=>
 af c .move [av] eD fun eX fH=>
 mW c F (fun vs og=>ay vs fun x2 vs=>ay vs fun x3 vs=>bw vs (
    some (.tuple [x2,x3],og))) (fun vs nU=>bw vs (
    af c .move [av] nU fun x2 nV=>
 af c .move [av] nV fun x3 nW=>
 some (.tuple [x2,x3],nW))) F [x1,x6,fu,dW,eX] fH)
def Cn (c:ai) (F:Nat):Env (AV×St):=iF [(0,fun K n=>mW c F (K 1) (K 2) n)]
theorem Pr (c:ai) (F:Nat):bV c F (Cn c F) (cY uf xH 0).1 (cY uf xH 0).2:=dP (j:=0) (ins:=[(.o .h),(.i (.i .h)),(.o (.i (.i (.o .h)))),(.i (.i (.i (.o .h)))),(.o (.o (.o (.i .h))))]) (outs:=[(1,[(.i .h),(.o (.o .h))]),(2,[])]) (s:=(.seq none .leaf (.seq none iz (.seq none (.block (.seq none .leaf (.seq none (.seq none .leaf aS) aS))) .leaf)))) (by kernel_rfl) (fun _ _ _=>by kernel_rfl) (fun _ _ _ _=>by kernel_rfl)
theorem SQ (c:ai) (F:Nat): ∀x∈cu uf.code xH,bV c F (Cn c F) x.1 x.2:=eH 1 (by kernel_rfl) fun i hi=>match i,hi with|0,_=>Pr c F|n+1,h=>absurd h (by omega)
theorem SR (c:ai) (F:Nat) (x0:AV) (s:St):lN c F (Cn c F) uf xH [x0] s=AI c F x0 s:=by kernel_rfl
theorem EE {c:ai} (hc:Sem c) (F:Nat){x0:AV} {s:St} {r:AV×St} (h:AI c F x0 s=some r):c 17 [x0] s=some (tidy s r):=hc.of (A:=uf) (by kernel_rfl) (by kernel_rfl) (SQ _ F) (by rw[SR];exact h)
def MD (c:ai) (F:Nat) (s:St):Option (AV×St):=
 af c .move [.gA] s fun x0 s0=>
 af c .mkMap [] s0 fun x1 s1=>
 af c (.build [aC,aW,aD,aW,aD,av,aD,.ax] [(0,1),(1,1),(2,1),(4,1),(7,1)]) [(.str [97,112,97,114,116]),Dx,aN,aN,(.func 81 [] [])] s1 fun x2 s2=>
 af c oF [x1,(.int .u8 1),x2] s2 fun _ s3=>
 af c (.build [aC,aW,aD,aW,aD,av,aD,.ax] [(0,1),(1,1),(2,1),(7,1)]) [(.str [98,101,115,105,100,101]),Dx,aN,(.func 82 [] [])] s3 fun x3 s4=>
 af c oF [x1,(.int .u8 2),x3] s4 fun _ s5=>
 af c (.build [aC,aW,aD,aW,aD,av,aD,.ax] [(0,1),(1,1),(2,1),(7,1)]) [(.str [97,99,114,111,115,115]),Dx,aN,(.func 83 [] [])] s5 fun x4 s6=>
 af c oF [x1,(.int .u8 3),x4] s6 fun _ s7=>
 af c (.build [aC,aW,aD,aW,aD,av,aD,.ax] [(0,1),(1,1),(2,1),(4,1),(5,1),(7,1)]) [(.str [110,101,97,114]),Dx,aN,aN,bS,(.func 84 [] [])] s7 fun x5 s8=>
 af c oF [x1,(.int .u8 4),x5] s8 fun _ s9=>
 af c (.build [aC,aW,aD,aW,aD,av,aD,.ax] [(0,1),(1,1),(2,1),(7,1)]) [(.str [116,111,103,101,116,104,101,114]),Dx,aN,(.func 85 [] [])] s9 fun x6 bT=>
 af c oF [x1,(.int .u8 5),x6] bT fun _ bL=>
 af c (.build [aC,aW,aD,aW,aD,av,aD,.ax] [(0,1),(1,1),(3,1),(7,1)]) [(.str [97,116]),Dx,(.int .u8 116),(.func 86 [] [])] bL fun x7 cr=>
 af c oF [x1,(.int .u8 6),x7] cr fun _ cg=>
 af c (.build [aC,aW,aD,aW,aD,av,aD,.ax] [(0,1),(1,1),(3,1),(4,1),(6,1),(7,1)]) [(.str [115,101,97,116]),Dx,(.int .u8 116),aN,aN,(.func 87 [] [])] cg fun x8 cK=>
 af c oF [x1,y6,x8] cK fun _ cL=>
 af c (.build [aC,aW,aD,aW,aD,av,aD,.ax] [(0,1),(3,1),(7,1)]) [(.str [97,108,116,101,114,110,97,116,101]),vE,(.func 88 [] [])] cL fun x9 cO=>
 af c oF [x1,(.int .u8 8),x9] cO fun _ cX=>
 af c (.build [aC,aW,aD,aW,aD,av,aD,.ax] [(0,1),(3,1),(7,1)]) [(.str [104,111,115,116]),vE,(.func 89 [] [])] cX fun aZ cP=>
 af c oF [x1,(.int .u8 9),aZ] cP fun _ cQ=>
 af c (.build [aC,aW,aD,aW,aD,av,aD,.ax] [(0,1),(1,1),(7,1)]) [(.str [114,101,97,99,104]),vE,(.func 90 [] [])] cQ fun bh eD=>
 af c oF [x1,(.int .u8 10),bh] eD fun _ fH=>
 af c (.build [aC,aW,aD,aW,aD,av,aD,.ax] [(0,1),(3,1),(7,1)]) [(.str [115,112,101,97,107]),vE,(.func 91 [] [])] fH fun bG gh=>
 af c oF [x1,(.int .u8 11),bG] gh fun _ ir=>
 af c (.build [aC,aW,aD,aW,aD,av,aD,.ax] [(0,1),(3,1),(7,1)]) [(.str [112,101,97,99,101]),vE,(.func 92 [] [])] ir fun bQ gL=>
 af c oF [x1,(.int .u8 12),bQ] gL fun _ gj=>
 af c (.build [aC,aW,aD,aW,aD,av,aD,.ax] [(0,1),(3,1),(7,1)]) [(.str [99,111,109,112,97,110,121]),vE,(.func 93 [] [])] gj fun bR iP=>
 af c oF [x1,(.int .u8 13),bR] iP fun _ fM=>
 af c (.build [aC,aW,aD,aW,aD,av,aD,.ax] [(0,1),(3,1),(7,1)]) [(.str [104,111,110,111,117,114]),vE,(.func 94 [] [])] fM fun bH gu=>
 af c oF [x1,(.int .u8 14),bH] gu fun _ fV=>
 af c (.build [aC,aW,aD,aW,aD,av,aD,.ax] [(0,1),(3,1),(4,1),(7,1)]) [(.str [102,105,108,108]),vE,aN,(.func 95 [] [])] fV fun ct iu=>
 af c oF [x1,(.int .u8 15),ct] iu fun _ iT=>
 af c (.build [aC,aW,aD,aW,aD,av,aD,.ax] [(0,1),(3,1),(4,1),(7,1)]) [(.str [108,105,109,105,116]),vE,aN,(.func 96 [] [])] iT fun cw lu=>
 af c oF [x1,(.int .u8 16),cw] lu fun _ j8=>
 af c (.build [aC,aW,aD,aW,aD,av,aD,.ax] [(0,1),(1,1),(3,1),(7,1)]) [(.str [107,105,116,99,104,101,110]),(.int .u8 100),(.int .u8 116),(.func 97 [] [])] j8 fun bn j9=>
 af c oF [x1,AM,bn] j9 fun _ jD=>
 af c (.build [aC,aW,aD,aW,aD,av,aD,.ax] [(0,1),(3,1),(7,1)]) [(.str [109,105,120]),vE,(.func 98 [] [])] jD fun bC jN=>
 af c oF [x1,(.int .u8 18),bC] jN fun _ kq=>
 af c .move [x1] kq fun b9 kW=>
 af c .move [b9] kW fun x0 ku=>
 some (x0,ku)
theorem NF {c:ai} (hc:Sem c) (F:Nat){x:AV} {s:St} {r:AV×St} (h:MD c F s=some r):c 32 [] s=some (tidy s r):=hc.lF (A:=g32.getD default) (F:=F) (s:=(.seq none .leaf cI)) (by kernel_rfl) (by kernel_rfl) (by kernel_rfl) (by kernel_rfl) h
def An (c:ai) (F:Nat) (x0:AV) (s:St):Option (AV×St):=
 af c .move [aC] s fun x2 s0=>
 af c (.buildSlice 1 19 [aC] [0,1,2,3,4,5,6,7,8,9,10,11,12,13,14,15,16,17,18]) [aC,(.str [97,112,97,114,116]),(.str [98,101,115,105,100,101]),(.str [97,99,114,111,115,115]),(.str [110,101,97,114]),(.str [116,111,103,101,116,104,101,114]),(.str [97,116]),(.str [115,101,97,116]),(.str [97,108,116,101,114,110,97,116,101]),(.str [104,111,115,116]),(.str [114,101,97,99,104]),(.str [115,112,101,97,107]),(.str [112,101,97,99,101]),(.str [99,111,109,112,97,110,121]),(.str [104,111,110,111,117,114]),(.str [102,105,108,108]),(.str [108,105,109,105,116]),(.str [107,105,116,99,104,101,110]),(.str [109,105,120])] s0 fun x4 s1=>
 af c .move [x4] s1 fun x3 s2=>
 af c .move [x0] s2 fun x5 s3=>
 af c (.conv (.int .i64)) [x5] s3 fun x6 s4=>
 af c .move [x3] s4 fun x7 s5=>
 af c dF [x7] s5 fun x8 s6=>
 af c GL [x6,x8] s6 fun x9 s7=>
 aJ x9 (
    af c .move [aC] s7 fun x2 s8=>
    some (x2,s8)) (
    af c .move [x3] s7 fun aZ s9=>
 af c .move [x0] s9 fun bh bT=>
 af c vF [aZ,bh] bT fun bG bL=>
 af c aB [bG] bL fun bQ cr=>
 af c .move [bQ] cr fun x2 cg=>
 some (x2,cg))
theorem EF {c:ai} (hc:Sem c) (F:Nat){x0:AV} {s:St} {r:AV×St} (h:An c F x0 s=some r):c 39 [x0] s=some (tidy s r):=hc.lF (A:=g39.getD default) (F:=F) (s:=(.seq none .leaf (.seq none .leaf (.seq none aS cI)))) (by kernel_rfl) (by kernel_rfl) (by kernel_rfl) (by kernel_rfl) h
def BH (c:ai) (F:Nat) (x0:AV) (s:St):Option (AV×St):=
 af c .move [aD] s fun x2 s0=>
 af c .move [x0] s0 fun x3 s1=>
 af c bF [x3,(.int .u8 1)] s1 fun x4 s2=>
 af c .move [x4] s2 fun x5 s3=>
 ak c x5 false .move [x0] s3 fun x6 s4=>
 ak c x5 false bF [x6,(.int .u8 2)] s4 fun x7 s5=>
 af c .pick [x5,aN,x7] s5 fun x8 s6=>
 af c .move [x8] s6 fun x9 s7=>
 ak c x9 false .move [x0] s7 fun aZ s8=>
 ak c x9 false bF [aZ,(.int .u8 3)] s8 fun bh s9=>
 af c .pick [x9,aN,bh] s9 fun bG bT=>
 af c .move [bG] bT fun bQ bL=>
 ak c bQ false .move [x0] bL fun bR cr=>
 ak c bQ false bF [bR,(.int .u8 4)] cr fun bH cg=>
 af c .pick [bQ,aN,bH] cg fun ct cK=>
 af c .move [ct] cK fun cw cL=>
 ak c cw false .move [x0] cL fun bn cO=>
 ak c cw false bF [bn,(.int .u8 5)] cO fun bC cX=>
 af c .pick [cw,aN,bC] cX fun b9 cP=>
 af c .move [b9] cP fun x2 cQ=>
 some (x2,cQ)
theorem Ga {c:ai} (hc:Sem c) (F:Nat){x0:AV} {s:St} {r:AV×St} (h:BH c F x0 s=some r):c 41 [x0] s=some (tidy s r):=hc.lF (A:=g41.getD default) (F:=F) (s:=(.seq none .leaf cI)) (by kernel_rfl) (by kernel_rfl) (by kernel_rfl) (by kernel_rfl) h
def BI (c:ai) (F:Nat) (x0:AV) (s:St):Option (AV×St):=
 af c .move [aD] s fun x2 s0=>
 af c .move [x0] s0 fun x3 s1=>
 af c bF [x3,(.int .u8 6)] s1 fun x4 s2=>
 af c .move [x4] s2 fun x5 s3=>
 ak c x5 false .move [x0] s3 fun x6 s4=>
 ak c x5 false bF [x6,y6] s4 fun x7 s5=>
 af c .pick [x5,aN,x7] s5 fun x8 s6=>
 af c .move [x8] s6 fun x9 s7=>
 ak c x9 false .move [x0] s7 fun aZ s8=>
 ak c x9 false bF [aZ,(.int .u8 10)] s8 fun bh s9=>
 af c .pick [x9,aN,bh] s9 fun bG bT=>
 af c .move [bG] bT fun x2 bL=>
 some (x2,bL)
theorem Gb {c:ai} (hc:Sem c) (F:Nat){x0:AV} {s:St} {r:AV×St} (h:BI c F x0 s=some r):c 42 [x0] s=some (tidy s r):=hc.lF (A:=g42.getD default) (F:=F) (s:=(.seq none .leaf cI)) (by kernel_rfl) (by kernel_rfl) (by kernel_rfl) (by kernel_rfl) h
def xW (c:ai) (F:Nat) (x0:AV) (s:St):Option (AV×St):=
 af c .move [av] s fun x2 s0=>
 af c .move [x0] s0 fun x3 s1=>
 af c xG [x3] s1 fun x4 s2=>
 af c .move [x4] s2 fun x5 s3=>
 ak c x5 false .move [x0] s3 fun x6 s4=>
 ak c x5 false bF [x6,(.int .u8 10)] s4 fun x7 s5=>
 af c .pick [x5,aN,x7] s5 fun x8 s6=>
 aJ x8 (
    af c .move [av] s6 fun x2 s7=>
    some (x2,s7)) (
    af c .move [x0] s6 fun x9 s8=>
 af c bF [x9,(.int .u8 6)] s8 fun aZ s9=>
 af c .move [aZ] s9 fun bh bT=>
 ak c bh false .move [x0] bT fun bG bL=>
 ak c bh false bF [bG,y6] bL fun bQ cr=>
 af c .pick [bh,aN,bQ] cr fun bR cg=>
 af c .move [bR] cg fun bH cK=>
 ak c bH false .move [x0] cK fun ct cL=>
 ak c bH false bF [ct,AM] cL fun cw cO=>
 af c .pick [bH,aN,cw] cO fun bn cX=>
 aJ bn (
    af c .move [bS] cX fun x2 cP=>
    some (x2,cP)) (
    af c .move [l6] cX fun x2 cQ=>
 some (x2,cQ)))
theorem CC {c:ai} (hc:Sem c) (F:Nat){x0:AV} {s:St} {r:AV×St} (h:xW c F x0 s=some r):c 44 [x0] s=some (tidy s r):=hc.lF (A:=g44.getD default) (F:=F) (s:=(.seq none .leaf (.seq none aS (.seq none aS cI)))) (by kernel_rfl) (by kernel_rfl) (by kernel_rfl) (by kernel_rfl) h
def xV (c:ai) (F:Nat) (x0:AV) (s:St):Option (AV×St):=
 af c .move [aD] s fun x2 s0=>
 af c .move [x0] s0 fun x3 s1=>
 af c bF [x3,(.int .u8 1)] s1 fun x4 s2=>
 af c .move [x4] s2 fun x5 s3=>
 ak c x5 false .move [x0] s3 fun x6 s4=>
 ak c x5 false bF [x6,(.int .u8 4)] s4 fun x7 s5=>
 af c .pick [x5,aN,x7] s5 fun x8 s6=>
 af c .move [x8] s6 fun x9 s7=>
 ak c x9 false .move [x0] s7 fun aZ s8=>
 ak c x9 false bF [aZ,y6] s8 fun bh s9=>
 af c .pick [x9,aN,bh] s9 fun bG bT=>
 af c .move [bG] bT fun bQ bL=>
 ak c bQ false .move [x0] bL fun bR cr=>
 ak c bQ false bF [bR,(.int .u8 15)] cr fun bH cg=>
 af c .pick [bQ,aN,bH] cg fun ct cK=>
 af c .move [ct] cK fun cw cL=>
 ak c cw false .move [x0] cL fun bn cO=>
 ak c cw false bF [bn,(.int .u8 16)] cO fun bC cX=>
 af c .pick [cw,aN,bC] cX fun b9 cP=>
 af c .move [b9] cP fun x2 cQ=>
 some (x2,cQ)
theorem CB {c:ai} (hc:Sem c) (F:Nat){x0:AV} {s:St} {r:AV×St} (h:xV c F x0 s=some r):c 45 [x0] s=some (tidy s r):=hc.lF (A:=g45.getD default) (F:=F) (s:=(.seq none .leaf cI)) (by kernel_rfl) (by kernel_rfl) (by kernel_rfl) (by kernel_rfl) h
def ug:aM:=g51.getD default
def xI:Sh:=(.seq none .leaf (.seq none (.seq none .leaf aS) (.seq none (.seq none .leaf aS) (.seq none aS (.seq none (.seq none .leaf (.block (.loop 0 [(.o .h),(.o (.o (.o (.o (.i .h))))),(.i (.o (.o (.o (.i .h))))),(.o (.i (.o (.o (.i .h)))))] [(1,[(.i .h),(.o (.o .h))]),(2,[(.o .h)])] (.seq none .leaf (.seq none iz (.seq none (.block (.seq none .leaf aS)) .leaf)))))) (.seq none aS cI))))))
def mV (c:ai) (F:Nat) (k1 k2:List AV->St->Option (AV×St)):Nat->List AV->St->Option (AV×St)
 |0,_,_=>none
 |n+1,vs,s=>ay vs fun x1 vs=>ay vs fun kg vs=>ay vs fun nX vs=>ay vs fun fW vs=>bw vs (
 af c cT [fW,nX] s fun nY nW=>
 aJ nY (
    af c vF [kg,fW] nW fun nA pH=>
 af c aB [nA] pH fun pG oL=>
 af c .move [pG] oL fun x9 iy=>
 af c .move [x9] iy fun jH rS=>
 af c cT [jH,av] rS fun mL mM=>
 af c .move [mL] mM fun ot u7=>
 ak c ot false .move [x9] u7 fun lU qt=>
 ak c ot false GL [lU,Dw] qt fun kK rU=>
 af c .pick [ot,aN,kK] rU fun lB p6=>
 aJ lB (
    af c .move [av] p6 fun x2 ua=>
    af c .move [(.int .i64 44)] ua fun x3 qO=>
    k1 [x2,x3] qO) (
    af c bP [fW,bS] p6 fun iV qP=>
 af c .move [iV] qP fun fW u9=>
 mV c F k1 k2 n [x1,kg,nX,fW] u9)) (
    k2 [x1] nW))
def FX (c:ai) (F:Nat) (x0:AV) (s:St):Option (AV×St):=
 af c .box [x0] s fun x1 s0=>
 af c .move [av] s0 fun x2 s1=>
 af c .move [av] s1 fun x3 s2=>
 af c dM [x1] s2 fun bh s3=>
 af c aB [bh] s3 fun bG s4=>
 af c (.callF 112) [bG] s4 fun bQ s5=>
 af c .move [bQ] s5 fun aZ s6=>
 af c sV [aZ] s6 fun bR s7=>
 af c sW [aZ] s7 fun bH s8=>
 af c .move [bR] s8 fun x4 s9=>
 af c .move [bH] s9 fun x5 bT=>
 af c .move [x5] bT fun ct bL=>
 af c cG [ct,av] bL fun cw cr=>
 aJ cw (
    af c .move [x4] cr fun bn cg=>
    af c .move [x5] cg fun bC cK=>
    af c .move [bn] cK fun x2 cL=>
    af c .move [bC] cL fun x3 cO=>
    some (.tuple [x2,x3],cO)) (
    af c eu [x1] cr fun fu cX=>
 af c aB [fu] cX fun dW cP=>
 af c eN [x1] cP fun eX cQ=>
 af c aB [eX] cQ fun fL eD=>
 af c (.build [.aj,.aj] [(0,1),(1,1)]) [dW,fL] eD fun fy fH=>
 af c (.callF 113) [fy] fH fun gW gh=>
 af c .move [gW] gh fun b9 ir=>
 af c sV [b9] ir fun gY gL=>
 af c sW [b9] gL fun iQ gj=>
 af c .move [gY] gj fun x6 iP=>
 af c .move [iQ] iP fun x7 fM=>
 af c .move [x7] fM fun gM gu=>
 af c cG [gM,av] gu fun gN fV=>
 aJ gN (
    af c .move [x6] fV fun jf iu=>
    af c .move [x7] iu fun dX iT=>
    af c .move [jf] iT fun x2 lu=>
    af c .move [dX] lu fun x3 j8=>
    some (.tuple [x2,x3],j8)) (
    af c gQ [x1] fV fun jE j9=>
 af c aB [jE] j9 fun kI jD=>
 af c dF [kI] jD fun iw jN=>
 af c gl [iw,av] jN fun mB kq=>
 af c .move [mB] kq fun iU kW=>
 ak c iU true gQ [x1] kW fun kX ku=>
 ak c iU true aB [kX] ku fun jg om=>
 ak c iU true dF [jg] om fun mC oo=>
 ak c iU true eu [x1] oo fun ji oq=>
 ak c iU true aB [ji] oq fun jF pq=>
 ak c iU true dF [jF] pq fun mD oK=>
 ak c iU true cG [mC,mD] oK fun pz lz=>
 af c .pick [iU,pz,aD] lz fun jG pE=>
 aJ jG (
    af c .move [av] pE fun x2 pF=>
    af c .move [(.int .i64 44)] pF fun x3 p0=>
    some (.tuple [x2,x3],p0)) (
    af c gQ [x1] pE fun lA ny=>
 af c aB [lA] ny fun kg og=>
 af c dF [kg] og fun nX nU=>
 af c .move [av] nU fun fW nV=>
 mV c F (fun vs qQ=>ay vs fun x2 vs=>ay vs fun x3 vs=>bw vs (
    some (.tuple [x2,x3],qQ))) (fun vs oM=>ay vs fun x1 vs=>bw vs (
    bg dM [x1] fun ou=>
 fE aB [ou] oM.heap (fun _=>true) fun qv=>
 af c (.callF 69) [qv] oM fun lV tS=>
 bg eu [x1] fun jO=>
 fE aB [jO] tS.heap (fun v=>dH aB [jO] v (eo [] oM.heap)&&true) fun qu=>
 bg dF [qu] fun dx=>
 bg gl [dx,lV] fun nZ=>
 aJ nZ (
    af c .move [av] tS fun x2 uH=>
    af c .move [(.int .i64 45)] uH fun x3 ve=>
    some (.tuple [x2,x3],ve)) (
    af c .move [av] tS fun x2 vg=>
 af c .move [av] vg fun x3 p7=>
 some (.tuple [x2,x3],p7)))) F [x1,kg,nX,fW] nV)))
def Co (c:ai) (F:Nat):Env (AV×St):=iF [(0,fun K n=>mV c F (K 1) (K 2) n)]
theorem Pt (c:ai) (F:Nat):bV c F (Co c F) (cY ug xI 0).1 (cY ug xI 0).2:=dP (j:=0) (ins:=[(.o .h),(.o (.o (.o (.o (.i .h))))),(.i (.o (.o (.o (.i .h))))),(.o (.i (.o (.o (.i .h)))))]) (outs:=[(1,[(.i .h),(.o (.o .h))]),(2,[(.o .h)])]) (s:=(.seq none .leaf (.seq none iz (.seq none (.block (.seq none .leaf aS)) .leaf)))) (by kernel_rfl) (fun _ _ _=>by kernel_rfl) (fun _ _ _ _=>by kernel_rfl)
theorem SS (c:ai) (F:Nat): ∀x∈cu ug.code xI,bV c F (Co c F) x.1 x.2:=eH 1 (by kernel_rfl) fun i hi=>match i,hi with|0,_=>Pt c F|n+1,h=>absurd h (by omega)
theorem SU (c:ai) (F:Nat) (x0:AV) (s:St):lN c F (Co c F) ug xI [x0] s=FX c F x0 s:=by kernel_rfl
theorem NC {c:ai} (hc:Sem c) (F:Nat){x0:AV} {s:St} {r:AV×St} (h:FX c F x0 s=some r):c 51 [x0] s=some (tidy s r):=hc.of (A:=ug) (by kernel_rfl) (by kernel_rfl) (SS _ F) (by rw[SU];exact h)
def Dh (c :ai ) (F:Nat) (x0 x1 x2:AV) (s:St):Option (AV×St):=
 af c .box [x0] s fun x3 s0=>
 af c .box [x1] s0 fun x4 s1=>
 af c .box [x2] s1 fun x5 s2=>
 af c .move [av] s2 fun x6 s3=>
 lS (fun  j4=>
    af c dM [x3] s3 fun bh s6=>
    af c aB [bh] s6 fun bG s7=>
    af c bF [bG,aC] s7 fun bQ s8=>
    af c .move [bQ] s8 fun aZ s9=>
    aJ aZ (
     af c .move [(.int .i64 40)] s9 fun x6 bT=>
     some (x6,bT)) (
     af c eu [x5] s9 fun bH bL=>
     af c aB [bH] bL fun ct cr=>
     af c cT [ct,av] cr fun cw cg=>
     af c .move [cw] cg fun bn cK=>
     ak c bn false eu [x5] cK fun bC cL=>
     ak c bn false aB [bC] cL fun b9 cO=>
     ak c bn false gl [b9,Du] cO fun fu cX=>
     af c .pick [bn,aN,fu] cX fun dW cP=>
     af c .move [dW] cP fun bR cQ=>
     aJ bR (
        af c .move [(.int .i64 41)] cQ fun x6 eD=>
        some (x6,eD)) (
        af c (.load (some 8)) [x3] cQ fun fL fH=>
        af c jz [x5] fH fun fy gh=>
        af c (.callF 114) [fL,fy] gh fun gW ir=>
        af c iA [gW] ir fun gY gL=>
        af c .move [gY] gL fun eX gj=>
        aJ eX (
          af c .move [(.int .i64 43)] gj fun x6 iP=>
          some (x6,iP)) (
          lS (fun j27=>
           af c eu [x3] gj fun gM fV=>
           af c aB [gM] fV fun gN iu=>
           af c bF [gN,Dx] iu fun jf iT=>
           af c .move [jf] iT fun dX lu=>
           ak c dX true qd [x4] lu fun jE j8=>
           ak c dX true eN [x5] j8 fun kI j9=>
           ak c dX true aB [kI] j9 fun iw jD=>
           ak c dX true (.callF 115) [jE,iw] jD fun mB jN=>
           ak c dX true cT [mB,av] jN fun iU kq=>
           af c .pick [dX,iU,aD] kq fun kX kW=>
           af c .move [kX] kW fun iQ ku=>
           aJ iQ (
              j27 [x3,x4,x5,iQ] ku) (
              af c eu [x3] ku fun jg om=>
              af c aB [jg] om fun mC oo=>
              af c bF [mC,vE] oo fun ji oq=>
              af c .move [ji] oq fun jF pq=>
              ak c jF true eN [x5] pq fun mD oK=>
              ak c jF true aB [mD] oK fun pz lz=>
              ak c jF true cG [pz,aC] lz fun jG pE=>
              af c .pick [jF,jG,aD] pE fun lA pF=>
              af c .move [lA] pF fun kg p0=>
              ak c kg true qd [x4] p0 fun nX ny=>
              ak c kg true eN [x5] ny fun fW og=>
              ak c kg true aB [fW] og fun nY nU=>
              ak c kg true (.callF 115) [nX,nY] nU fun nA nV=>
              ak c kg true cT [nA,av] nV fun pG nW=>
              af c .pick [kg,pG,aD] nW fun jH pH=>
              af c .move [jH] pH fun iQ oL=>
              aJ iQ (
                j27 [x3,x4,x5,iQ] oL) (
                af c eN [x3] oL fun mL iy=>
                af c aB [mL] iy fun ot rS=>
                af c .move [ot] rS fun lU mM=>
                ak c lU true qd [x4] mM fun kK u7=>
                ak c lU true gQ [x5] u7 fun lB qt=>
                ak c lU true aB [lB] qt fun iV rU=>
                ak c lU true (.callF 115) [kK,iV] rU fun jO p6=>
                ak c lU true cT [jO,av] p6 fun qu ua=>
                af c .pick [lU,qu,aD] ua fun dx qO=>
                af c .move [dx] qO fun iQ qP=>
                j27 [x3,x4,x5,iQ] qP)))
          (fun vs gu=>ay vs fun x3 vs=>ay vs fun x4 vs=>ay vs fun x5 vs=>ay vs fun iQ vs=>bw vs (
           aJ iQ  (
              af c .move [AN] gu fun x6 u9=>
              some (x6,u9)) (
              af c eu [x3] gu fun qv qQ=>
              af c aB [qv] qQ fun lV oM=>
              af c bF [lV,(.int .u8 100)] oM fun nZ tS=>
              af c .move [nZ] tS fun ov uH=>
              ak c ov true eN [x5] uH fun mE ve=>
              ak c ov true aB [mE] ve fun fX vg=>
              ak c ov true (.callF 116) [fX] vg fun gO p7=>
              ak c ov true iA [gO] p7 fun rX zB=>
              af c .pick [ov,rX,aD] zB fun xq vh=>
              af c .move [xq] vh fun ou wC=>
              aJ ou (
                af c .move [(.int .i64 4)] wC fun x6 xX=>
                some (x6,xX)) (
                af c eN [x3] wC fun zC xY=>
                af c aB [zC] xY fun qx zE=>
                af c .move [qx] zE fun uI zF=>
                ak c uI true eN [x5] zF fun zD Dn=>
                ak c uI true aB [zD] Dn fun tT Ao=>
                ak c uI true gQ [x5] Ao fun qy EG=>
                ak c uI true aB [qy] EG fun BK BL=>
                ak c uI true bF [tT,BK] BL fun xw Ap=>
                af c .pick [uI,xw,aD] Ap fun sU BN=>
                af c .move [sU] BN fun qw zG=>
                aJ qw (
                  af c .move [(.int .i64 5)] zG fun x6 BP=>
                  some (x6,BP)) (
                  j4 [x3,x4,x5] zG)))))))))
 (fun vs s5=>ay vs fun x3 vs=>ay vs fun x4 vs=>ay vs fun x5 vs=>bw vs (
    af c dM [x4] s5 fun BM BR=>
    af c aB [BM] BR fun qz Aq=>
    af c l7 [x5] Aq fun BO II=>
    af c aB [BO] II fun tU BT=>
    af c (.callF 117) [qz,tU] BT fun BQ BU=>
    af c .move [BQ] BU fun uJ zI=>
    af c sV [uJ] zI fun BS EN=>
    af c sW [uJ] EN fun zH BW=>
    af c .move [BS] BW fun x7 BX=>
    af c .move [zH] BX fun x8 BZ=>
    af c gQ [x3] BZ fun Dp B5=>
    af c aB [Dp] B5 fun EH vU=>
    af c bF [EH,(.int .u8 116)] vU fun EI sD=>
    af c .move [EI] sD fun BV vV=>
    ak c BV true .move [x8] vV fun rY tX=>
    ak c BV true iA [rY] tX fun EJ tY=>
    af c .pick [BV,EJ,aD] tY fun xx yF=>
    af c .move [xx] yF fun tV yG=>
    ak c tV false gQ [x3] yG fun EK yH=>
    ak c tV false aB [EK] yH fun yC yI=>
    ak c tV false bF [yC,vE] yI fun yD yK=>
    ak c tV false .move [yD] yK fun qA xy=>
    ak c qA true l7 [x5] xy fun yE z8=>
    ak c qA true aB [yE] z8 fun zY xz=>
    ak c qA true cG [zY,aC] xz fun pS Ca=>
    ak c tV false .pick [qA,pS,aD] Ca fun pR Cb=>
    ak c tV false .move [pR] Cb fun yJ vW=>
    ak c yJ true .move [x8] vW fun B6 xB=>
    ak c yJ true iA [B6] xB fun zZ Aa=>
    ak c tV false .pick [yJ,zZ,aD] Aa fun B7 Cc=>
    af c .pick [tV,aN,B7] Cc fun Gd Ab=>
    aJ Gd (
     af c .move [AN] Ab fun x6 yM=>
     some (x6,yM)) (
     af c .move [(.int .i64 24)] Ab fun x9 GQ=>
    lS (fun j122=>
     af c (.fieldA 6) [x3] GQ fun Ge Ce=>
     af c aB [Ge] Ce fun rq Ac=>
     aJ rq (
        af c dM [x4] Ac fun Gf xo=>
        af c aB [Gf] xo fun Gg yw=>
        af c .move [x7] yw fun Gh yx=>
        af c .move [x7] yx fun DS yy=>
        af c bP [DS,bS] yy fun Gi Gs=>
        af c (.sliceL 7 true true false) [Gg,Gh,Gi] Gs fun Gj Gt=>
        af c (.callF 69) [Gj] Gt fun xC Gu=>
        af c GM [xC,bS] Gu fun Gl Gv=>
        af c .move [Gl] Gv fun x9 Gx=>
        j122 [x3,x5,x9] Gx) (
        j122 [x3,x5,x9] Ac))
    (fun vs Cd=>ay vs fun x3 vs=>ay vs fun x5 vs=>ay vs fun x9 vs=>bw vs (
     af c l7 [x3] Cd fun Gm KT=>
     af c aB [Gm] KT fun Gp KV=>
     af c .move [Gp] KV fun ru KW=>
     ak c ru true pK [x5] KW fun Cf KY=>
     ak c ru true aB [Cf] KY fun Gq KZ=>
     ak c ru true pK [x3] KZ fun Gr K5=>
     ak c ru true aB [Gr] K5 fun yN K8=>
     ak c ru true cT [Gq,yN] K8 fun Ad K9=>
     ak c ru true .move [Ad] K9 fun Cg La=>
     ak c Cg false pK [x5] La fun KS Lb=>
     ak c Cg false aB [KS] Lb fun pT Lc=>
     ak c Cg false .move [x9] Lc fun KU Ld=>
     ak c Cg false gl [pT,KU] Ld fun Ch Le=>
     ak c ru true .pick [Cg,aN,Ch] Le fun KX IK=>
     af c .pick [ru,KX,aD] IK fun yO NV=>
     aJ yO (
        af c .move [(.int .i64 42)] NV fun x6 Lf=>
        some (x6,Lf)) (
        af c .move [av] NV fun x6 Lg=>
     some (x6,Lg)))))))
theorem Hu {c:ai} (hc:Sem c) (F:Nat){x0 x1 x2:AV} {s:St} {r:AV×St} (h:Dh c F x0 x1 x2 s=some r):c 52 [x0,x1,x2] s=some (tidy s r):=hc.lF (A:=g52.getD default) (F:=F) (s:=(.seq none .leaf (.seq (some [(.o (.o .h)),(.i (.o .h)),(.o (.i .h))]) (.block (.seq none .leaf (.cond cI (.seq none .leaf (.cond cI (.seq none .leaf (.cond cI (.seq (some [(.o (.o .h)),(.i (.o .h)),(.o (.i .h)),(.i (.o (.i (.i .h))))]) (.seq none .leaf (.cond .leaf cj)) (.cond cI (.seq none .leaf (.cond cI aS))))))))))) (.seq none .leaf (.seq none aS (.seq none .leaf (.seq (some [(.o (.o .h)),(.o (.i .h)),(.o (.i (.o .h)))]) cj (.seq none aS cI)))))))) (by kernel_rfl) (by kernel_rfl) (by kernel_rfl) (by kernel_rfl) h
def kN:aM:=g53.getD default
def nN:Sh:=(.seq none .leaf (.seq none .leaf (.seq none aS (.seq none .leaf (.seq none aS (.seq none aS (.seq none (.seq none .leaf (.block (.loop 0 [(.o .h),(.o (.o (.o .h)))] [(1,[(.i .h),(.o (.o .h))]),(2,[(.o .h)])] (.seq none cj (.seq none (.block aS) .leaf))))) (.seq none aS cI))))))))
def fR (c:ai) (F:Nat) (k1 k2:List AV->St->Option (AV×St)):Nat->List AV->St->Option (AV×St)
 |0,_,_=>none
 |n+1,vs,s=>ay vs fun x1 vs=>ay vs fun x7 vs=>bw vs (
 af c .move [x7] s fun pz og=>
 af c gQ [x1] og fun jG nU=>
 af c aB [jG] nU fun lA nV=>
 af c dF [lA] nV fun kg nW=>
 af c cT [pz,kg] nW fun nX pH=>
 aJ nX (
    af c gQ [x1] pH fun nA oL=>
 af c aB [nA] oL fun pG iy=>
 af c .move [x7] iy fun jH rS=>
 af c vF [pG,jH] rS fun mL mM=>
 af c aB [mL] mM fun ot u7=>
 af c cT [ot,av] u7 fun lU qt=>
 af c .move [lU] qt fun kK rU=>
 ak c kK false gQ [x1] rU fun lB p6=>
 ak c kK false aB [lB] p6 fun iV ua=>
 ak c kK false .move [x7] ua fun jO qO=>
 ak c kK false vF [iV,jO] qO fun qu qP=>
 ak c kK false aB [qu] qP fun dx u9=>
 ak c kK false GL [dx,Dw] u9 fun ou qQ=>
 af c .pick [kK,aN,ou] qQ fun qv oM=>
 aJ qv (
    af c .move [av] oM fun x2 tS=>
    af c .move [(.int .i64 44)] tS fun x3 uH=>
    k1 [x2,x3] uH) (
    af c .move [x7] oM fun fW ve=>
 af c bP [fW,bS] ve fun nY vg=>
 af c .move [nY] vg fun x7 p7=>
 fR c F k1 k2 n [x1,x7] p7)) (
    k2 [x1] pH))
def tQ (c:ai) (F:Nat) (x0:AV) (s:St):Option (AV×St):=
 af c .box [x0] s fun x1 s0=>
 af c .move [av] s0 fun x2 s1=>
 af c .move [av] s1 fun x3 s2=>
 af c dM [x1] s2 fun x9 s3=>
 af c aB [x9] s3 fun aZ s4=>
 af c (.callF 118) [aZ] s4 fun bh s5=>
 af c .move [bh] s5 fun x8 s6=>
 af c sV [x8] s6 fun bG s7=>
 af c sW [x8] s7 fun bQ s8=>
 af c .move [bG] s8 fun x4 s9=>
 af c .move [bQ] s9 fun x5 bT=>
 af c .move [x5] bT fun bR bL=>
 af c cG [bR,av] bL fun bH cr=>
 aJ bH (
    af c .move [x4] cr fun ct cg=>
    af c .move [x5] cg fun cw cK=>
    af c .move [ct] cK fun x2 cL=>
    af c .move [cw] cL fun x3 cO=>
    some (.tuple [x2,x3],cO)) (
    af c eu [x1] cr fun bC cX=>
 af c aB [bC] cX fun b9 cP=>
 af c eN [x1] cP fun fu cQ=>
 af c aB [fu] cQ fun dW eD=>
 af c (.build [.aj,.aj] [(0,1),(1,1)]) [b9,dW] eD fun eX fH=>
 af c (.callF 119) [eX] fH fun fL gh=>
 af c .move [fL] gh fun bn ir=>
 af c sV [bn] ir fun fy gL=>
 af c sW [bn] gL fun gW gj=>
 af c .move [fy] gj fun x4 iP=>
 af c .move [gW] iP fun x6 fM=>
 af c .move [x6] fM fun gY gu=>
 af c cG [gY,av] gu fun iQ fV=>
 aJ iQ (
    af c .move [x4] fV fun gM iu=>
    af c .move [x6] iu fun gN iT=>
    af c .move [gM] iT fun x2 lu=>
    af c .move [gN] lu fun x3 j8=>
    some (.tuple [x2,x3],j8)) (
    af c gQ [x1] fV fun jf j9=>
 af c aB [jf] j9 fun dX jD=>
 af c dF [dX] jD fun jE jN=>
 af c cG [jE,av] jN fun kI kq=>
 af c .move [kI] kq fun iw kW=>
 ak c iw true gQ [x1] kW fun mB ku=>
 ak c iw true aB [mB] ku fun iU om=>
 ak c iw true dF [iU] om fun kX oo=>
 ak c iw true eu [x1] oo fun jg oq=>
 ak c iw true aB [jg] oq fun mC pq=>
 ak c iw true dF [mC] pq fun ji oK=>
 ak c iw true cG [kX,ji] oK fun jF lz=>
 af c .pick [iw,jF,aD] lz fun mD pE=>
 aJ mD (
    af c .move [av] pE fun x2 pF=>
    af c .move [(.int .i64 44)] pF fun x3 p0=>
    some (.tuple [x2,x3],p0)) (
    af c .move [av] pE fun x7 ny=>
 fR c F (fun vs zB=>ay vs fun x2 vs=>ay vs fun x3 vs=>bw vs (
    some (.tuple [x2,x3],zB))) (fun vs vh=>ay vs fun x1 vs=>bw vs (
    bg dM [x1] fun mE=>
 fE aB [mE] vh.heap (fun _=>true) fun fX=>
 af c (.callF 120) [fX] vh fun gO wC=>
 bg eu [x1] fun lV=>
 fE aB [lV] wC.heap (fun v=>dH aB [lV] v (eo [] vh.heap)&&true) fun nZ=>
 bg dF [nZ] fun ov=>
 bg gl [ov,gO] fun rX=>
 aJ rX (
    af c .move [av] wC fun x2 xX=>
    af c .move [(.int .i64 45)] xX fun x3 xY=>
    some (.tuple [x2,x3],xY)) (
    af c .move [av] wC fun x2 zE=>
 af c .move [av] zE fun x3 zF=>
 some (.tuple [x2,x3],zF)))) F [x1,x7] ny)))
def rD (c:ai) (F:Nat):Env (AV×St):=iF [(0,fun K n=>fR c F (K 1) (K 2) n)]
theorem EU (c:ai) (F:Nat):bV c F (rD c F) (cY kN nN 0).1 (cY kN nN 0).2:=dP (j:=0) (ins:=[(.o .h),(.o (.o (.o .h)))]) (outs:=[(1,[(.i .h),(.o (.o .h))]),(2,[(.o .h)])]) (s:=(.seq none cj (.seq none (.block aS) .leaf))) (by kernel_rfl) (fun _ _ _=>by kernel_rfl) (fun _ _ _ _=>by kernel_rfl)
theorem GR (c:ai) (F:Nat): ∀x∈cu kN.code nN,bV c F (rD c F) x.1 x.2:=eH 1 (by kernel_rfl) fun i hi=>match i,hi with|0,_=>EU c F|n+1,h=>absurd h (by omega)
theorem GS (c:ai) (F:Nat) (x0:AV) (s:St):lN c F (rD c F) kN nN [x0] s=tQ c F x0 s:=by kernel_rfl
theorem DQ {c:ai} (hc:Sem c) (F:Nat){x0:AV} {s:St} {r:AV×St} (h:tQ c F x0 s=some r):c 53 [x0] s=some (tidy s r):=hc.of (A:=kN) (by kernel_rfl) (by kernel_rfl) (GR _ F) (by rw[GS];exact h)
def zL (c:ai) (F:Nat) (x0 x1:AV) (s:St):Option (AV×St):=
 af c .box [x0] s fun x2 s0=>
 af c .box [x1] s0 fun x3 s1=>
 af c .move [av] s1 fun x4 s2=>
 af c dM [x3] s2 fun x9 s3=>
 af c aB [x9] s3 fun aZ s4=>
 af c .move [aZ] s4 fun x5 s5=>
 af c .move [x5] s5 fun bh s6=>
 af c (.callF 39) [bh] s6 fun bG s7=>
 af c bF [bG,aC] s7 fun bQ s8=>
 aJ bQ (
    af c .move [(.int .i64 40)] s8 fun x4 s9=>
    some (x4,s9)) (
    af c eu [x3] s8 fun bR bT=>
 af c aB [bR] bT fun bH bL=>
 af c cT [bH,av] bL fun ct cr=>
 af c .move [ct] cr fun cw cg=>
 ak c cw false eu [x3] cg fun bn cK=>
 ak c cw false aB [bn] cK fun bC cL=>
 ak c cw false gl [bC,Du] cL fun b9 cO=>
 af c .pick [cw,aN,b9] cO fun fu cX=>
 aJ fu (
    af c .move [(.int .i64 41)] cX fun x4 cP=>
    some (x4,cP)) (
    af c eN [x3] cX fun dW cQ=>
 af c aB [dW] cQ fun eX eD=>
 af c cG [eX,aC] eD fun fL fH=>
 af c .move [fL] fH fun fy gh=>
 ak c fy true .move [x5] gh fun gW ir=>
 ak c fy true xG [gW] ir fun gY gL=>
 ak c fy true iA [gY] gL fun iQ gj=>
 af c .pick [fy,iQ,aD] gj fun gM iP=>
 af c .move [gM] iP fun gN fM=>
 ak c gN true .move [x5] fM fun jf gu=>
 ak c gN true (.callF 42) [jf] gu fun dX fV=>
 ak c gN true iA [dX] fV fun jE iu=>
 af c .pick [gN,jE,aD] iu fun kI iT=>
 af c .move [kI] iT fun iw lu=>
 ak c iw true .move [x5] lu fun mB j8=>
 ak c iw true cG [mB,AM] j8 fun iU j9=>
 af c .pick [iw,iU,aD] j9 fun kX jD=>
 af c .move [kX] jD fun jg jN=>
 ak c jg false gQ [x3] jN fun mC kq=>
 ak c jg false aB [mC] kq fun ji kW=>
 ak c jg false cG [ji,aC] kW fun jF ku=>
 ak c jg false .move [jF] ku fun mD om=>
 ak c mD true .move [x5] om fun pz oo=>
 ak c mD true xG [pz] oo fun jG oq=>
 ak c mD true iA [jG] oq fun lA pq=>
 ak c jg false .pick [mD,lA,aD] pq fun kg oK=>
 af c .pick [jg,aN,kg] oK fun nX lz=>
 af c .move [nX] lz fun fW pE=>
 ak c fW false l7 [x3] pE fun nY pF=>
 ak c fW false aB [nY] pF fun nA p0=>
 ak c fW false cG [nA,aC] p0 fun pG ny=>
 ak c fW false .move [pG] ny fun jH og=>
 ak c jH true .move [x5] og fun mL nU=>
 ak c jH true (.callF 44) [mL] nU fun ot nV=>
 ak c jH true bF [ot,av] nV fun lU nW=>
 ak c fW false .pick [jH,lU,aD] nW fun kK pH=>
 af c .pick [fW,aN,kK] pH fun lB oL=>
 af c .move [lB] oL fun iV iy=>
 ak c iV false pK [x3] iy fun jO rS=>
 ak c iV false aB [jO] rS fun qu mM=>
 ak c iV false cG [qu,av] mM fun dx u7=>
 ak c iV false .move [dx] u7 fun ou qt=>
 ak c ou true .move [x5] qt fun qv rU=>
 ak c ou true (.callF 45) [qv] rU fun lV p6=>
 ak c ou true iA [lV] p6 fun nZ ua=>
 ak c iV false .pick [ou,nZ,aD] ua fun ov qO=>
 af c .pick [iV,aN,ov] qO fun mE qP=>
 aJ mE (
    af c .move [(.int .i64 43)] qP fun x4 u9=>
    some (x4,u9)) (
    af c .move [x5] qP fun fX qQ=>
 af c xG [fX] qQ fun gO oM=>
 af c .move [gO] oM fun rX tS=>
 ak c rX false .move [x5] tS fun xq uH=>
 ak c rX false (.callF 42) [xq] uH fun qw ve=>
 af c .pick [rX,aN,qw] ve fun zC vg=>
 af c .move [zC] vg fun qx p7=>
 ak c qx true .move [x5] p7 fun uI zB=>
 ak c qx true bF [uI,(.int .u8 10)] zB fun zD vh=>
 ak c qx true .move [zD] vh fun tT wC=>
 ak c tT true eN [x3] wC fun qy xX=>
 ak c tT true aB [qy] xX fun BK xY=>
 ak c tT true bF [BK,aC] xY fun xw zE=>
 ak c qx true .pick [tT,xw,aD] zE fun sU zF=>
 ak c qx true iA [sU] zF fun uJ Dn=>
 af c .pick [qx,uJ,aD] Dn fun BM Ao=>
 af c .move [BM] Ao fun qz EG=>
 ak c qz true eu [x2] EG fun BO BL=>
 ak c qz true aB [BO] BL fun tU Ap=>
 ak c qz true eN [x3] Ap fun BQ BN=>
 ak c qz true aB [BQ] BN fun BS zG=>
 ak c qz true (.callF 121) [tU,BS] zG fun zH BP=>
 ak c qz true cT [zH,av] BP fun Dp BR=>
 af c .pick [qz,Dp,aD] BR fun EH Aq=>
 aJ EH (
    af c .move [AN] Aq fun x4 II=>
    some (x4,II)) (
    af c .move [x5] Aq fun EI BT=>
 af c xG [EI] BT fun BV BU=>
 af c .move [BV] BU fun rY zI=>
 ak c rY true eu [x2] zI fun EJ EN=>
 ak c rY true aB [EJ] EN fun xx BW=>
 ak c rY true gQ [x3] BW fun tV BX=>
 ak c rY true aB [tV] BX fun EK BZ=>
 ak c rY true (.callF 121) [xx,EK] BZ fun yC B5=>
 ak c rY true cT [yC,av] B5 fun yD vU=>
 af c .pick [rY,yD,aD] vU fun qA sD=>
 aJ qA (
    af c .move [AN] sD fun x4 vV=>
    some (x4,vV)) (
    af c .move [x5] sD fun yE tX=>
 af c bF [yE,AM] tX fun zY tY=>
 af c .move [zY] tY fun pS yF=>
 ak c pS true eN [x3] yF fun pR yG=>
 ak c pS true aB [pR] yG fun yJ yH=>
 ak c pS true (.callF 106) [yJ] yH fun B6 yI=>
 ak c pS true iA [B6] yI fun zZ yK=>
 af c .pick [pS,zZ,aD] yK fun B7 xy=>
 aJ B7 (
    af c .move [(.int .i64 4)] xy fun x4 z8=>
    some (x4,z8)) (
    af c .move [x5] xy fun Gd xz=>
 af c xG [Gd] xz fun Ge Ca=>
 af c .move [Ge] Ca fun rq Cb=>
 ak c rq true eN [x3] Cb fun Gf vW=>
 ak c rq true aB [Gf] vW fun Gg xB=>
 ak c rq true gQ [x3] xB fun Gh Aa=>
 ak c rq true aB [Gh] Aa fun DS Cc=>
 ak c rq true bF [Gg,DS] Cc fun Gi Ab=>
 af c .pick [rq,Gi,aD] Ab fun Gj yM=>
 aJ Gj (
    af c .move [(.int .i64 5)] yM fun x4 GQ=>
    some (x4,GQ)) (
    af c dM [x2] yM fun xC Gk=>
 af c aB [xC] Gk fun Gl Cd=>
 af c l7 [x3] Cd fun Gm Ce=>
 af c aB [Gm] Ce fun Gp Ac=>
 af c (.callF 122) [Gl,Gp] Ac fun ru xo=>
 af c .move [ru] xo fun x6 yw=>
 af c .move [x5] yw fun Cf yx=>
 af c (.callF 44) [Cf] yx fun Gq yy=>
 af c bF [Gq,bS] yy fun Gr Gs=>
 af c .move [Gr] Gs fun yN Gt=>
 ak c yN true .move [x6] Gt fun Ad Gu=>
 ak c yN true cT [Ad,av] Gu fun Cg Gv=>
 af c .pick [yN,Cg,aD] Gv fun KS Gx=>
 af c .move [KS] Gx fun pT KT=>
 ak c pT false .move [x5] KT fun KU KV=>
 ak c pT false (.callF 44) [KU] KV fun Ch KW=>
 ak c pT false bF [Ch,l6] KW fun KX KY=>
 ak c pT false .move [KX] KY fun yO KZ=>
 ak c yO true l7 [x3] KZ fun Rp K5=>
 ak c yO true aB [Rp] K5 fun Rq K8=>
 ak c yO true cG [Rq,aC] K8 fun Rr K9=>
 ak c pT false .pick [yO,Rr,aD] K9 fun Rs La=>
 ak c pT false .move [Rs] La fun Gy Lb=>
 ak c Gy true .move [x6] Lb fun Gz Lc=>
 ak c Gy true cT [Gz,av] Lc fun IJ Ld=>
 ak c pT false .pick [Gy,IJ,aD] Ld fun Ci Le=>
 af c .pick [pT,aN,Ci] Le fun Rt IK=>
 aJ Rt (
    af c .move [AN] IK fun x4 NV=>
    some (x4,NV)) (
    af c .move [av] IK fun x7 Lf=>
 af c .move [(.int .i64 24)] Lf fun x8 Lg=>
 lS (fun Ru=>
    af c .move [x5] Lg fun Rv Rw=>
    af c bF [Rv,(.int .u8 4)] Rw fun Rx Lh=>
    aJ Rx (
     af c .move [bS] Lh fun x7 Ry=>
     Ru [x2,x3,x5,x6,x7,x8] Ry) (
     Ru [x2,x3,x5,x6,x7,x8] Lh))
 (fun vs Rz=>ay vs fun x2 vs=>ay vs fun x3 vs=>ay vs fun x5 vs=>ay vs fun x6 vs=>ay vs fun x7 vs=>ay vs fun x8 vs=>bw vs (
    lS (fun RA=>
     af c .move [x5] Rz fun NK RB=>
     af c bF [NK,y6] RB fun RD Li=>
     aJ RD (
        af c dM [x2] Li fun RE RF=>
        af c aB [RE] RF fun RG RH=>
        af c .move [x6] RH fun RI RJ=>
        af c y5 [RG,RI] RJ fun RL RM=>
        af c xF [RL] RM fun RN RO=>
        af c (.callF 123) [RN] RO fun Lj RP=>
        af c GM [Lj,bS] RP fun RQ RS=>
        af c .move [RQ] RS fun x8 RT=>
        RA [x3,x5,x7,x8] RT) (
        RA [x3,x5,x7,x8] Li))
    (fun vs RU=>ay vs fun x3 vs=>ay vs fun x5 vs=>ay vs fun x7 vs=>ay vs fun x8 vs=>bw vs (
     af c .move [x5] RU fun RV RW=>
     af c (.callF 45) [RV] RW fun RX RY=>
     af c .move [RX] RY fun sF RZ=>
     ak c sF true pK [x3] RZ fun R4 R5=>
     ak c sF true aB [R4] R5 fun R6 R7=>
     ak c sF true .move [x7] R7 fun jU R8=>
     ak c sF true cT [R6,jU] R8 fun R9 Sa=>
     ak c sF true .move [R9] Sa fun yP Sb=>
     ak c yP false pK [x3] Sb fun Sc Sd=>
     ak c yP false aB [Sc] Sd fun Se NL=>
     ak c yP false .move [x8] NL fun Sf Sg=>
     ak c yP false gl [Se,Sf] Sg fun Si Sj=>
     ak c sF true .pick [yP,aN,Si] Sj fun Sk Sl=>
     af c .pick [sF,Sk,aD] Sl fun Sm Ll=>
     aJ Sm (
        af c .move [(.int .i64 42)] Ll fun x4 Sn=>
        some (x4,Sn)) (
        af c .move [av] Ll fun x4 So=>
     some (x4,So))))))))))))))
theorem DT {c:ai} (hc:Sem c) (F:Nat){x0 x1:AV} {s:St} {r:AV×St} (h:zL c F x0 x1 s=some r):c 54 [x0,x1] s=some (tidy s r):=hc.lF (A:=g54.getD default) (F:=F) (s:=(.seq none .leaf (.seq none .leaf (.seq none aS (.seq none aS (.seq none aS (.seq none aS (.seq none aS (.seq none aS (.seq none aS (.seq none .leaf (.seq none aS (.seq none .leaf (.seq none .leaf (.seq (some [(.i .h),(.o (.o .h)),(.o (.i .h)),(.i (.i .h)),(.o (.o (.o .h))),(.i (.o (.o .h)))]) cj (.seq (some [(.o (.o .h)),(.o (.i .h)),(.o (.o (.o .h))),(.i (.o (.o .h)))]) cj (.seq none aS cI))))))))))))))))) (by kernel_rfl) (by kernel_rfl) (by kernel_rfl) (by kernel_rfl) h
def uh:aM:=g68.getD default
def xJ:Sh:=(.seq none .leaf (.seq none aS (.seq none .leaf (.seq none (.seq none .leaf (.block (.loop 0 [(.o (.i .h)),(.o (.o (.o (.i .h)))),(.i (.o (.o (.i .h)))),(.o (.i (.o (.i .h))))] [(2,[(.o (.i .h))])] (.seq none .leaf (.seq none iz (.seq none (.block cI) .leaf)))))) cI))))
def mU (c:ai) (F:Nat) (k2:List AV->St->Option (AV×St)):Nat->List AV->St->Option (AV×St)
 |0,_,_=>none
 |n+1,vs,s=>ay vs fun x5 vs=>ay vs fun eX vs=>ay vs fun fL vs=>ay vs fun fy vs=>bw vs (
 af c cT [fy,fL] s fun gW fH=>
 aJ gW (
    af c y5 [eX,fy] fH fun gY gh=>
 af c xF [gY] gh fun iQ ir=>
 af c (.alloc [aC,aW,av,av,.aj,av,av]) [] ir fun x7 gL=>
 af c (.store 7) [x7,iQ] gL fun _ gj=>
 af c .move [x5] gj fun gM iP=>
 af c xF [x7] iP fun gN fM=>
 af c (.callF 138) [gN] fM fun jf gu=>
 af c bP [gM,jf] gu fun dX fV=>
 af c .move [dX] fV fun x5 iu=>
 af c bP [fy,bS] iu fun jE iT=>
 af c .move [jE] iT fun fy lu=>
 mU c F k2 n [x5,eX,fL,fy] lu) (
    k2 [x5] fH))
def AH (c:ai) (F:Nat) (x0 x1:AV) (s:St):Option (AV×St):=
 af c .move [av] s fun x4 s0=>
 af c .move [x1] s0 fun x8 s1=>
 af c cT [x8,av] s1 fun x9 s2=>
 af c .move [x9] s2 fun aZ s3=>
 ak c aZ false .move [x1] s3 fun bh s4=>
 ak c aZ false .move [x0] s4 fun bG s5=>
 ak c aZ false dF [bG] s5 fun bQ s6=>
 ak c aZ false GL [bh,bQ] s6 fun bR s7=>
 af c .pick [aZ,aN,bR] s7 fun bH s8=>
 af c .move [bH] s8 fun ct s9=>
 ak c ct false .move [x0] s9 fun cw bT=>
 ak c ct false (.callF 137) [cw] bT fun bn bL=>
 ak c ct false iA [bn] bL fun bC cr=>
 af c .pick [ct,aN,bC] cr fun b9 cg=>
 aJ b9 (
    af c .move [av] cg fun x4 cK=>
    some (x4,cK)) (
    af c .move [av] cg fun x5 cL=>
 af c .move [x0] cL fun fu cO=>
 af c .move [x1] cO fun dW cX=>
 af c (.sliceL 7 false true false) [fu,dW] cX fun eX cP=>
 af c dF [eX] cP fun fL cQ=>
 af c .move [av] cQ fun fy eD=>
 mU c F (fun vs j8=>ay vs fun x5 vs=>bw vs (
    af c .move [x5] j8 fun kI j9=>
 af c .move [kI] j9 fun x4 jD=>
 some (x4,jD))) F [x5,eX,fL,fy] eD)
def Cp (c:ai) (F:Nat):Env (AV×St):=iF [(0,fun K n=>mU c F (K 2) n)]
theorem Pu (c:ai) (F:Nat):bV c F (Cp c F) (cY uh xJ 0).1 (cY uh xJ 0).2:=dP (j:=0) (ins:=[(.o (.i .h)),(.o (.o (.o (.i .h)))),(.i (.o (.o (.i .h)))),(.o (.i (.o (.i .h))))]) (outs:=[(2,[(.o (.i .h))])]) (s:=(.seq none .leaf (.seq none iz (.seq none (.block cI) .leaf)))) (by kernel_rfl) (fun _ _ _=>by kernel_rfl) (fun _ _ _ _=>by kernel_rfl)
theorem SV (c:ai) (F:Nat): ∀x∈cu uh.code xJ,bV c F (Cp c F) x.1 x.2:=eH 1 (by kernel_rfl) fun i hi=>match i,hi with|0,_=>Pu c F|n+1,h=>absurd h (by omega)
theorem SW (c:ai) (F:Nat) (x0 x1:AV) (s:St):lN c F (Cp c F) uh xJ [x0,x1] s=AH c F x0 x1 s:=by kernel_rfl
theorem EC {c:ai} (hc:Sem c) (F:Nat){x0 x1:AV} {s:St} {r:AV×St} (h:AH c F x0 x1 s=some r):c 68 [x0,x1] s=some (tidy s r):=hc.of (A:=uh) (by kernel_rfl) (by kernel_rfl) (SV _ F) (by rw[SW];exact h)
def Mz (c:ai) (F:Nat) (x0:AV) (s:St):Option (AV×St):=
 af c .move [av] s fun x2 s0=>
 af c .move [x0] s0 fun x3 s1=>
 af c (.callF 137) [x3] s1 fun x4 s2=>
 af c iA [x4] s2 fun x5 s3=>
 aJ x5 (
    af c .move [av] s3 fun x2 s4=>
    some (x2,s4)) (
    af c .move [x0] s3 fun x6 s5=>
 af c .move [x0] s5 fun x7 s6=>
 af c dF [x7] s6 fun x8 s7=>
 af c GM [x8,bS] s7 fun x9 s8=>
 af c (.callF 68) [x6,x9] s8 fun aZ s9=>
 af c .move [x0] s9 fun bh bT=>
 af c (.callF 139) [bh] bT fun bG bL=>
 af c bP [aZ,bG] bL fun bQ cr=>
 af c .move [bQ] cr fun x2 cg=>
 some (x2,cg))
theorem NB {c:ai} (hc:Sem c) (F:Nat){x0:AV} {s:St} {r:AV×St} (h:Mz c F x0 s=some r):c 69 [x0] s=some (tidy s r):=hc.lF (A:=g69.getD default) (F:=F) (s:=(.seq none .leaf (.seq none aS cI))) (by kernel_rfl) (by kernel_rfl) (by kernel_rfl) (by kernel_rfl) h
def uj:aM:=g78.getD default
def uk:Sh:=(.seq none .leaf (.seq none .leaf (.seq none (.seq none .leaf (.block (.loop 0 [(.o .h),(.o (.i .h)),(.i (.i (.i .h))),(.o (.o (.o (.o .h)))),(.i (.o (.o (.o .h))))] [(1,[(.i .h),(.o (.o .h)),(.i (.o .h))]),(2,[(.o .h),(.o (.i .h))])] (.seq none .leaf (.seq none iz (.seq none (.block (.seq none .leaf (.seq none .leaf aS))) .leaf)))))) (.seq none (.seq none .leaf (.block (.loop 1 [(.o .h),(.o (.i .h)),(.i (.i (.i (.i .h)))),(.o (.o (.o (.o (.o .h))))),(.i (.o (.o (.o (.o .h)))))] [(1,[(.i .h),(.o (.o .h)),(.i (.o .h))]),(4,[(.o (.i .h))])] (.seq none .leaf (.seq none iz (.seq (some [(.o .h),(.o (.i .h)),(.i (.i (.i (.i .h)))),(.o (.o (.o (.o (.o .h))))),(.i (.o (.o (.o (.o .h)))))]) (.block (.seq none .leaf (.seq none .leaf (.seq (some [(.o .h),(.o (.i .h)),(.o (.i (.o .h))),(.o (.o (.i .h))),(.i (.i (.i (.i .h)))),(.o (.o (.o (.o (.o .h))))),(.i (.o (.o (.o (.o .h)))))]) cj aS)))) .leaf)))))) cI))))
def Hi (c:ai) (F:Nat) (k1 k2:List AV->St->Option (AV×St)):Nat->List AV->St->Option (AV×St)
 |0,_,_=>none
 |n+1,vs,s=>ay vs fun x1 vs=>ay vs fun x5 vs=>ay vs fun bR vs=>ay vs fun bH vs=>ay vs fun ct vs=>bw vs (
 af c cT [ct,bH] s fun cw bT=>
 aJ cw (
    af c .move [ct] bT fun bn bL=>
 af c (.idxA 9 none) [bR,ct] bL fun bC cr=>
 af c (.load (some 9)) [bC] cr fun b9 cg=>
 af c (.alloc [aC,aC,aC,av,av,aC,aD,aD,.aj]) [] cg fun x7 cK=>
 af c .move [bn] cK fun x6 cL=>
 af c (.store 9) [x7,b9] cL fun _ cO=>
 af c .move [x5] cO fun fu cX=>
 af c (.load (some 9)) [x7] cX fun dW cP=>
 af c (.callF 146) [fu,dW] cP fun eX cQ=>
 af c .move [eX] cQ fun x8 eD=>
 af c .move [x8] eD fun fL fH=>
 af c cG [fL,av] fH fun fy gh=>
 aJ fy (
    af c .move [x6] gh fun gW ir=>
    af c .move [x8] ir fun gY gL=>
    af c .move [.bq] gL fun x2 gj=>
    af c .move [gW] gj fun x3 iP=>
    af c .move [gY] iP fun x4 fM=>
    k1 [x2,x3,x4] fM) (
    af c bP [ct,bS] gh fun iQ gu=>
 af c .move [iQ] gu fun ct fV=>
 Hi c F k1 k2 n [x1,x5,bR,bH,ct] fV)) (
    k2 [x1,x5] bT))
def Hj (c:ai) (F:Nat) (k1 k4:List AV->St->Option (AV×St)):Nat->List AV->St->Option (AV×St)
 |0,_,_=>none
 |n+1,vs,s=>ay vs fun x1 vs=>ay vs fun x5 vs=>ay vs fun gN vs=>ay vs fun jf vs=>ay vs fun dX vs=>bw vs (
 af c cT [dX,jf] s fun jE jN=>
 aJ jE  (
    lS (fun j37=>
    af c .move [dX] jN fun kI ku=>
    af c (.idxA 3 none) [gN,dX] ku fun iw om=>
    af c (.load (some 3)) [iw] om fun mB oo=>
    af c (.alloc [aC,aC,aW]) [] oo fun aZ oq=>
    af c .move [kI] oq fun x9 pq=>
    af c (.store 3) [aZ,mB] pq fun _ oK=>
    af c .move [(.int .i64 23)] oK fun bh lz=>
    lS (fun j46=>
     bg dM [aZ] fun iU=>
     fE aB [iU] lz.heap (fun _=>true) fun kX=>
     bg eu [aZ] fun jg=>
     fE aB [jg] lz.heap (fun _=>true) fun mC=>
     bg cT [kX,mC] fun ji=>
     bg .move [ji] fun jF=>
     jd jF true .move [x9] fun mD=>
     jd jF true bF [mD,av] fun pz=>
     jd jF true .move [pz] fun jG=>
     jd jG false eu [x1] fun lA=>
     xS jG false aB [lA] lz.heap (fun _=>true) fun kg=>
     jd jG false .move [x9] fun nX=>
     jd jG false GM [nX,bS] fun fW=>
     jd jG false (.idxA 3 none) [kg,fW] fun nY=>
     xS jG false (.load (some 3)) [nY] lz.heap (fun _=>true) fun nA=>
     xS jG false (.load (some 3)) [aZ] lz.heap (fun _=>true) fun pG=>
     sR jG false (af c (.callF 147) [nA,pG] lz fun jH p0=>
     jd jG false GN [jH,av] fun mL=>
     jd jF true .pick [jG,aN,mL] fun ot=>
     bg .pick [jF,ot,aD] fun lU=>
     aJ lU (
        af c .move [x5] p0 fun kK ny=>
        af c dM [aZ] ny fun lB og=>
        af c aB [lB] og fun iV nU=>
        af c eu [aZ] nU fun jO nV=>
        af c aB [jO] nV fun qu nW=>
        af c eN [aZ] nW fun dx pH=>
        af c aB [dx] pH fun ou oL=>
        af c (.callF 148) [kK,iV,qu,ou] oL fun qv iy=>
        af c .move [qv] iy fun bh rS=>
        j46 [x1,x5,x9,bh,gN,jf,dX] rS) (
        j46 [x1,x5,x9,bh,gN,jf,dX] p0)) (jd jG false GN [.undef,av] fun mL=>
     jd jF true .pick [jG,aN,mL] fun ot=>
     bg .pick [jF,ot,aD] fun lU=>
     aJ lU (
        af c .move [x5] lz fun kK mM=>
        af c dM [aZ] mM fun lB u7=>
        af c aB [lB] u7 fun iV qt=>
        af c eu [aZ] qt fun jO rU=>
        af c aB [jO] rU fun qu p6=>
        af c eN [aZ] p6 fun dx ua=>
        af c aB [dx] ua fun ou qO=>
        af c (.callF 148) [kK,iV,qu,ou] qO fun qv qP=>
        af c .move [qv] qP fun bh u9=>
        j46 [x1,x5,x9,bh,gN,jf,dX] u9) (
        j46 [x1,x5,x9,bh,gN,jf,dX] lz)))
    (fun vs pF=>ay vs fun x1 vs=>ay vs fun x5 vs=>ay vs fun x9 vs=>ay vs fun bh vs=>ay vs fun gN vs=>ay vs fun jf vs=>ay vs fun dX vs=>bw vs (
     af c .move [bh] pF fun lV qQ=>
     af c cG [lV,av] qQ fun nZ oM=>
     aJ nZ (
        bg dM [x1] fun ov=>
        fE aB [ov] oM.heap (fun _=>true) fun mE=>
        bg dF [mE] fun fX=>
        bg .move [x9] fun gO=>
        bg bP [fX,gO] fun rX=>
        bg .move [bh] fun xq=>
        bg .move [.bq] fun x2=>
        bg .move [rX] fun x3=>
        bg .move [xq] fun x4=>
        k1 [x2,x3,x4] oM) (
        j37 [x1,x5,gN,jf,dX] oM))))
 (fun vs kW=>ay vs fun x1 vs=>ay vs fun x5 vs=>ay vs fun gN vs=>ay vs fun jf vs=>ay vs fun dX vs=>bw vs (
    af c bP [dX,bS] kW fun qw tS=>
    af c .move [qw] tS fun dX uH=>
    Hj c F k1 k4 n [x1,x5,gN,jf,dX] uH))) (
    k4 [x5] jN))
def Cq (c:ai) (F:Nat):Env (AV×St):=iF [(0,fun K n=>Hi c F (K 1) (K 2) n),(1,fun K n=>Hj c F (K 1) (K 4) n)]
theorem Pv (c:ai) (F:Nat):bV c F (Cq c F) (cY uj uk 0).1 (cY uj uk 0).2:=dP (j:=0) (ins:=[(.o .h),(.o (.i .h)),(.i (.i (.i .h))),(.o (.o (.o (.o .h)))),(.i (.o (.o (.o .h))))]) (outs:=[(1,[(.i .h),(.o (.o .h)),(.i (.o .h))]),(2,[(.o .h),(.o (.i .h))])]) (s:=(.seq none .leaf (.seq none iz (.seq none (.block (.seq none .leaf (.seq none .leaf aS))) .leaf)))) (by kernel_rfl) (fun _ _ _=>by kernel_rfl) (fun _ _ _ _=>by kernel_rfl)
theorem Px (c:ai) (F:Nat):bV c F (Cq c F) (cY uj uk 1).1 (cY uj uk 1).2:=dP (j:=1) (ins:=[(.o .h),(.o (.i .h)),(.i (.i (.i (.i .h)))),(.o (.o (.o (.o (.o .h))))),(.i (.o (.o (.o (.o .h)))))]) (outs:=[(1,[(.i .h),(.o (.o .h)),(.i (.o .h))]),(4,[(.o (.i .h))])]) (s:=(.seq none .leaf (.seq none iz (.seq (some [(.o .h),(.o (.i .h)),(.i (.i (.i (.i .h)))),(.o (.o (.o (.o (.o .h))))),(.i (.o (.o (.o (.o .h)))))]) (.block (.seq none .leaf (.seq none .leaf (.seq (some [(.o .h),(.o (.i .h)),(.o (.i (.o .h))),(.o (.o (.i .h))),(.i (.i (.i (.i .h)))),(.o (.o (.o (.o (.o .h))))),(.i (.o (.o (.o (.o .h)))))]) cj aS)))) .leaf)))) (by kernel_rfl) (fun _ _ _=>by kernel_rfl) (fun _ _ _ _=>by kernel_rfl)
theorem af7 (c:ai) (F:Nat): ∀x∈cu uj.code uk,bV c F (Cq c F) x.1 x.2:=eH 2 (by kernel_rfl) fun i hi=>match i,hi with|0,_=>Pv c F|1,_=>Px c F|n+2,h=>absurd h (by omega)
def nB:aM:=g106.getD default
def qf:Sh:=(.seq none .leaf (.seq none aS (.seq none (.seq none .leaf (.block (.loop 0 [.h,(.o (.o .h))] [(1,[(.i .h)]),(2,[])] (.seq none cj (.seq none (.block aS) .leaf))))) cI)))
def iL (c:ai) (F:Nat) (k1 k2:List AV->St->Option (AV×St)):Nat->List AV->St->Option (AV×St)
 |0,_,_=>none
 |n+1,vs,s=>ay vs fun x0 vs=>ay vs fun x3 vs=>bw vs (
 af c .move [x3] s fun bG bL=>
 af c .move [x0] bL fun bQ cr=>
 af c sY [bQ] cr fun bR cg=>
 af c cT [bG,bR] cg fun bH cK=>
 aJ bH (
    af c .move [x0] cK fun bn cL=>
 af c .move [x3] cL fun bC cO=>
 af c .idxS [bn,bC] cO fun b9 cX=>
 af c cT [b9,(.int .u8 97)] cX fun fu cP=>
 af c .move [fu] cP fun dW cQ=>
 ak c dW false .move [x0] cQ fun eX eD=>
 ak c dW false .move [x3] eD fun fL fH=>
 ak c dW false .idxS [eX,fL] fH fun fy gh=>
 ak c dW false gl [fy,(.int .u8 122)] gh fun gW ir=>
 af c .pick [dW,aN,gW] ir fun gY gL=>
 aJ gY (
    af c .move [aD] gL fun x2 gj=>
    k1 [x2] gj) (
    af c .move [x3] gL fun ct iP=>
 af c bP [ct,bS] iP fun cw fM=>
 af c .move [cw] fM fun x3 gu=>
 iL c F k1 k2 n [x0,x3] gu)) (
    k2 [] cK))
def w7 (c:ai) (F:Nat) (x0:AV) (s:St):Option (AV×St):=
 af c .move [aD] s fun x2 s0=>
 af c .move [x0] s0 fun x4 s1=>
 af c sY [x4] s1 fun x5 s2=>
 af c cT [x5,bS] s2 fun x6 s3=>
 af c .move [x6] s3 fun x7 s4=>
 ak c x7 false .move [x0] s4 fun x8 s5=>
 ak c x7 false sY [x8] s5 fun x9 s6=>
 ak c x7 false gl [x9,(.int .i64 12)] s6 fun aZ s7=>
 af c .pick [x7,aN,aZ] s7 fun bh s8=>
 aJ bh (
    af c .move [aD] s8 fun x2 s9=>
    some (x2,s9)) (
    af c .move [av] s8 fun x3 bT=>
 iL c F (fun vs fV=>ay vs fun x2 vs=>bw vs (
    some (x2,fV))) (fun vs iu=>bw vs (
    af c .move [aN] iu fun x2 iT=>
 some (x2,iT))) F [x0,x3] bT)
def uU (c:ai) (F:Nat):Env (AV×St):=iF [(0,fun K n=>iL c F (K 1) (K 2) n)]
theorem IQ (c:ai) (F:Nat):bV c F (uU c F) (cY nB qf 0).1 (cY nB qf 0).2:=dP (j:=0) (ins:=[.h,(.o (.o .h))]) (outs:=[(1,[(.i .h)]),(2,[])]) (s:=(.seq none cj (.seq none (.block aS) .leaf))) (by kernel_rfl) (fun _ _ _=>by kernel_rfl) (fun _ _ _ _=>by kernel_rfl)
theorem JE (c:ai) (F:Nat): ∀x∈cu nB.code qf,bV c F (uU c F) x.1 x.2:=eH 1 (by kernel_rfl) fun i hi=>match i,hi with|0,_=>IQ c F|n+1,h=>absurd h (by omega)
theorem JF (c:ai) (F:Nat) (x0:AV) (s:St):lN c F (uU c F) nB qf [x0] s=w7 c F x0 s:=by kernel_rfl
theorem Hp {c:ai} (hc:Sem c) (F:Nat){x0:AV} {s:St} {r:AV×St} (h:w7 c F x0 s=some r):c 106 [x0] s=some (tidy s r):=hc.of (A:=nB) (by kernel_rfl) (by kernel_rfl) (JE _ F) (by rw[JF];exact h)
def pL:aM:=g112.getD default
def sZ:Sh:=(.seq none .leaf (.seq none aS (.seq none (.seq none .leaf (.block (.loop 0 [.h,(.i (.i (.o .h))),(.o (.o (.i .h))),(.i (.o (.i .h)))] [(1,[(.i .h),(.o (.o .h))]),(2,[])] (.seq none .leaf (.seq none iz (.seq none (.block (.seq none .leaf (.seq none (.seq none .leaf aS) aS))) .leaf)))))) cI)))
def jT (c:ai) (F:Nat) (k1 k2:List AV->St->Option (AV×St)):Nat->List AV->St->Option (AV×St)
 |0,_,_=>none
 |n+1,vs,s=>ay vs fun x0 vs=>ay vs fun aZ vs=>ay vs fun bh vs=>ay vs fun bG vs=>bw vs (
 af c cT [bG,bh] s fun bQ bT=>
 aJ bQ (
    af c .move [bG] bT fun bR bL=>
 af c y5 [aZ,bG] bL fun bH cr=>
 af c xF [bH] cr fun ct cg=>
 af c (.alloc [aC,aW,av,av,.aj,av,av]) [] cg fun x5 cK=>
 af c .move [bR] cK fun x4 cL=>
 af c (.store 7) [x5,ct] cL fun _ cO=>
 af c xF [x5] cO fun cw cX=>
 af c (.callF 177) [cw] cX fun bn cP=>
 af c .move [bn] cP fun x6 cQ=>
 af c .move [x6] cQ fun bC eD=>
 af c cG [bC,av] eD fun b9 fH=>
 aJ b9 (
    af c .move [x4] fH fun fu gh=>
    af c .move [x6] gh fun dW ir=>
    af c .move [fu] ir fun x2 gL=>
    af c .move [dW] gL fun x3 gj=>
    k1 [x2,x3] gj) (
    af c .move [x0] fH fun eX iP=>
 af c .move [x4] iP fun fL fM=>
 af c (.sliceL 7 false true false) [eX,fL] fM fun fy gu=>
 af c (.mkFunc 179 0) [x5] gu fun gW fV=>
 af c (.callF 178) [fy,gW] fV fun gY iu=>
 aJ gY (
    af c .move [x4] iu fun iQ iT=>
    af c .move [iQ] iT fun x2 lu=>
    af c .move [(.int .i64 5)] lu fun x3 j8=>
    k1 [x2,x3] j8) (
    af c bP [bG,bS] iu fun gM j9=>
 af c .move [gM] j9 fun bG jD=>
 jT c F k1 k2 n [x0,aZ,bh,bG] jD))) (
    k2 [] bT))
def vz (c:ai) (F:Nat) (x0:AV) (s:St):Option (AV×St):=
 af c .move [av] s fun x2 s0=>
 af c .move [av] s0 fun x3 s1=>
 af c .move [x0] s1 fun x7 s2=>
 af c dF [x7] s2 fun x8 s3=>
 af c gl [x8,(.int .i64 16)] s3 fun x9 s4=>
 aJ x9 (
    af c .move [av] s4 fun x2 s5=>
    af c .move [(.int .i64 7)] s5 fun x3 s6=>
    some (.tuple [x2,x3],s6)) (
    af c .move [x0] s4 fun aZ s7=>
 af c dF [aZ] s7 fun bh s8=>
 af c .move [av] s8 fun bG s9=>
 jT c F (fun vs jN=>ay vs fun x2 vs=>ay vs fun x3 vs=>bw vs (
    some (.tuple [x2,x3],jN))) (fun vs kq=>bw vs (
    af c .move [av] kq fun x2 kW=>
 af c .move [av] kW fun x3 ku=>
 some (.tuple [x2,x3],ku))) F [x0,aZ,bh,bG] s9)
def xK (c:ai) (F:Nat):Env (AV×St):=iF [(0,fun K n=>jT c F (K 1) (K 2) n)]
theorem Lp (c:ai) (F:Nat):bV c F (xK c F) (cY pL sZ 0).1 (cY pL sZ 0).2:=dP (j:=0) (ins:=[.h,(.i (.i (.o .h))),(.o (.o (.i .h))),(.i (.o (.i .h)))]) (outs:=[(1,[(.i .h),(.o (.o .h))]),(2,[])]) (s:=(.seq none .leaf (.seq none iz (.seq none (.block (.seq none .leaf (.seq none (.seq none .leaf aS) aS))) .leaf)))) (by kernel_rfl) (fun _ _ _=>by kernel_rfl) (fun _ _ _ _=>by kernel_rfl)
theorem MX (c:ai) (F:Nat): ∀x∈cu pL.code sZ,bV c F (xK c F) x.1 x.2:=eH 1 (by kernel_rfl) fun i hi=>match i,hi with|0,_=>Lp c F|n+1,h=>absurd h (by omega)
theorem MY (c:ai) (F:Nat) (x0:AV) (s:St):lN c F (xK c F) pL sZ [x0] s=vz c F x0 s:=by kernel_rfl
theorem Ah {c:ai} (hc:Sem c) (F:Nat){x0:AV} {s:St} {r:AV×St} (h:vz c F x0 s=some r):c 112 [x0] s=some (tidy s r):=hc.of (A:=pL) (by kernel_rfl) (by kernel_rfl) (MX _ F) (by rw[MY];exact h)
def De (c:ai) (F:Nat) (x0 x1:AV) (s:St):Option (AV×St):=
 af c .box [x0] s fun x2 s0=>
 af c .box [x1] s0 fun x3 s1=>
 af c .move [aD] s1 fun x4 s2=>
 af c eu [x2] s2 fun x5 s3=>
 af c aB [x5] s3 fun x6 s4=>
 af c cG [x6,aW] s4 fun x7 s5=>
 af c .move [x7] s5 fun x8 s6=>
 ak c x8 false eN [x3] s6 fun x9 s7=>
 ak c x8 false aB [x9] s7 fun aZ s8=>
 ak c x8 false bF [aZ,aC] s8 fun bh s9=>
 af c .pick [x8,aN,bh] s9 fun bG bT=>
 af c .move [bG] bT fun bQ bL=>
 ak c bQ true eN [x2] bL fun bR cr=>
 ak c bQ true aB [bR] cr fun bH cg=>
 ak c bQ true .move [bH] cg fun ct cK=>
 ak c ct false gQ [x3] cK fun cw cL=>
 ak c ct false aB [cw] cL fun bn cO=>
 ak c ct false bF [bn,aC] cO fun bC cX=>
 ak c bQ true .pick [ct,aN,bC] cX fun b9 cP=>
 af c .pick [bQ,b9,aD] cP fun fu cQ=>
 af c .move [fu] cQ fun dW eD=>
 ak c dW true gQ [x2] eD fun eX fH=>
 ak c dW true aB [eX] fH fun fL gh=>
 ak c dW true cG [fL,aW] gh fun fy ir=>
 ak c dW true .move [fy] ir fun gW gL=>
 ak c gW false l7 [x3] gL fun gY gj=>
 ak c gW false aB [gY] gj fun iQ iP=>
 ak c gW false bF [iQ,aC] iP fun gM fM=>
 ak c dW true .pick [gW,aN,gM] fM fun gN gu=>
 af c .pick [dW,gN,aD] gu fun jf fV=>
 af c .move [jf] fV fun dX iu=>
 ak c dX true l7 [x2] iu fun jE iT=>
 ak c dX true aB [jE] iT fun kI lu=>
 ak c dX true .move [kI] lu fun iw j8=>
 ak c iw false pK [x3] j8 fun mB j9=>
 ak c iw false aB [mB] j9 fun iU jD=>
 ak c iw false bF [iU,av] jD fun kX jN=>
 ak c dX true .pick [iw,aN,kX] jN fun jg kq=>
 af c .pick [dX,jg,aD] kq fun mC kW=>
 af c .move [mC] kW fun x4 ku=>
 some (x4,ku)
theorem Ht {c:ai} (hc:Sem c) (F:Nat){x0 x1:AV} {s:St} {r:AV×St} (h:De c F x0 x1 s=some r):c 114 [x0,x1] s=some (tidy s r):=hc.lF (A:=g114.getD default) (F:=F) (s:=(.seq none .leaf cI)) (by kernel_rfl) (by kernel_rfl) (by kernel_rfl) (by kernel_rfl) h
def Rf (c:ai) (F:Nat) (x0 x1:AV) (s:St):Option (AV×St):=
 af c .box [x0] s fun x2 s0=>
 af c .box [x1] s0 fun x3 s1=>
 af c .move [av] s1 fun x4 s2=>
 af c eu [x2] s2 fun x5 s3=>
 af c aB [x5] s3 fun x6 s4=>
 af c (.mkFunc 181 0) [x3] s4 fun x7 s5=>
 af c (.callF 180) [x6,x7] s5 fun x8 s6=>
 af c .move [x8] s6 fun x4 s7=>
 some (x4,s7)
theorem Re {c:ai} (hc:Sem c) (F:Nat){x0 x1:AV} {s:St} {r:AV×St} (h:Rf c F x0 x1 s=some r):c 115 [x0,x1] s=some (tidy s r):=hc.lF (A:=g115.getD default) (F:=F) (s:=(.seq none .leaf cI)) (by kernel_rfl) (by kernel_rfl) (by kernel_rfl) (by kernel_rfl) h
def vn:aM:=g116.getD default
def y8:Sh:=(.seq none .leaf (.seq none aS (.seq none (.seq none .leaf (.block (.loop 0 [.h,(.o (.i (.i .h))),(.i (.i (.i .h)))] [(1,[(.i .h)]),(2,[])] (.seq none .leaf (.seq none iz (.seq none (.block (.seq none .leaf aS)) .leaf)))))) cI)))
def od (c:ai) (F:Nat) (k1 k2:List AV->St->Option (AV×St)):Nat->List AV->St->Option (AV×St)
 |0,_,_=>none
 |n+1,vs,s=>ay vs fun x0 vs=>ay vs fun bQ vs=>ay vs fun bR vs=>bw vs (
 af c cT [bR,bQ] s fun bH cg=>
 aJ bH (
    af c .move [bR] cg fun ct cK=>
 af c .move [ct] cK fun x3 cL=>
 af c .move [x0] cL fun cw cO=>
 af c .move [x3] cO fun bn cX=>
 af c .idxS [cw,bn] cX fun bC cP=>
 af c cT [bC,(.int .u8 97)] cP fun b9 cQ=>
 af c .move [b9] cQ fun fu eD=>
 ak c fu false .move [x0] eD fun dW fH=>
 ak c fu false .move [x3] fH fun eX gh=>
 ak c fu false .idxS [dW,eX] gh fun fL ir=>
 ak c fu false gl [fL,(.int .u8 122)] ir fun fy gL=>
 af c .pick [fu,aN,fy] gL fun gW gj=>
 aJ gW (
    af c .move [aD] gj fun x2 iP=>
    k1 [x2] iP) (
    af c bP [bR,bS] gj fun gY fM=>
 af c .move [gY] fM fun bR gu=>
 od c F k1 k2 n [x0,bQ,bR] gu)) (
    k2 [] cg))
def IC (c:ai) (F:Nat) (x0:AV) (s:St):Option (AV×St):=
 af c .move [aD] s fun x2 s0=>
 af c .move [x0] s0 fun x4 s1=>
 af c sY [x4] s1 fun x5 s2=>
 af c bF [x5,av] s2 fun x6 s3=>
 af c .move [x6] s3 fun x7 s4=>
 ak c x7 false .move [x0] s4 fun x8 s5=>
 ak c x7 false sY [x8] s5 fun x9 s6=>
 ak c x7 false gl [x9,(.int .i64 12)] s6 fun aZ s7=>
 af c .pick [x7,aN,aZ] s7 fun bh s8=>
 aJ bh (
    af c .move [aD] s8 fun x2 s9=>
    some (x2,s9)) (
    af c .move [x0] s8 fun bG bT=>
 af c sY [bG] bT fun bQ bL=>
 af c .move [av] bL fun bR cr=>
 od c F (fun vs fV=>ay vs fun x2 vs=>bw vs (
    some (x2,fV))) (fun vs iu=>bw vs (
    af c .move [aN] iu fun x2 iT=>
 some (x2,iT))) F [x0,bQ,bR] cr)
def D1 (c:ai) (F:Nat):Env (AV×St):=iF [(0,fun K n=>od c F (K 1) (K 2) n)]
theorem SX (c:ai) (F:Nat):bV c F (D1 c F) (cY vn y8 0).1 (cY vn y8 0).2:=dP (j:=0) (ins:=[.h,(.o (.i (.i .h))),(.i (.i (.i .h)))]) (outs:=[(1,[(.i .h)]),(2,[])]) (s:=(.seq none .leaf (.seq none iz (.seq none (.block (.seq none .leaf aS)) .leaf)))) (by kernel_rfl) (fun _ _ _=>by kernel_rfl) (fun _ _ _ _=>by kernel_rfl)
theorem TP (c:ai) (F:Nat): ∀x∈cu vn.code y8,bV c F (D1 c F) x.1 x.2:=eH 1 (by kernel_rfl) fun i hi=>match i,hi with|0,_=>SX c F|n+1,h=>absurd h (by omega)
theorem TQ (c:ai) (F:Nat) (x0:AV) (s:St):lN c F (D1 c F) vn y8 [x0] s=IC c F x0 s:=by kernel_rfl
theorem Pd {c:ai} (hc:Sem c) (F:Nat){x0:AV} {s:St} {r:AV×St} (h:IC c F x0 s=some r):c 116 [x0] s=some (tidy s r):=hc.of (A:=vn) (by kernel_rfl) (by kernel_rfl) (TP _ F) (by rw[TQ];exact h)
def OE (c:ai) (F:Nat) (x0 x1:AV) (s:St):Option (AV×St):=
 af c .box [x1] s fun x3 s0=>
 af c .move [av] s0 fun x4 s1=>
 af c .move [aD] s1 fun x5 s2=>
 af c .move [x0] s2 fun x7 s3=>
 af c (.mkFunc 183 0) [x3] s3 fun x8 s4=>
 af c (.callF 182) [x7,x8] s4 fun x9 s5=>
 af c .move [x9] s5 fun x6 s6=>
 af c .move [x6] s6 fun aZ s7=>
 af c cT [aZ,av] s7 fun bh s8=>
 af c .move [bh] s8 fun bG s9=>
 ak c bG false .move [x0] s9 fun bQ bT=>
 ak c bG false (.callF 137) [bQ] bT fun bR bL=>
 ak c bG false iA [bR] bL fun bH cr=>
 af c .pick [bG,aN,bH] cr fun ct cg=>
 aJ ct (
    af c .move [av] cg fun x4 cK=>
    af c .move [aD] cK fun x5 cL=>
    some (.tuple [x4,x5],cL)) (
    af c .move [x6] cg fun cw cO=>
 af c .move [cw] cO fun x4 cX=>
 af c .move [aN] cX fun x5 cP=>
 some (.tuple [x4,x5],cP))
theorem Pj {c:ai} (hc:Sem c) (F:Nat){x0 x1:AV} {s:St} {r:AV×St} (h:OE c F x0 x1 s=some r):c 117 [x0,x1] s=some (tidy s r):=hc.lF (A:=g117.getD default) (F:=F) (s:=(.seq none .leaf (.seq none .leaf (.seq none aS cI)))) (by kernel_rfl) (by kernel_rfl) (by kernel_rfl) (by kernel_rfl) h
def ff:aM:=g118.getD default
def gx:Sh:=(.seq none .leaf (.seq none aS (.seq none (.seq none .leaf (.block (.loop 0 [.h,(.i (.o .h))] [(1,[(.i .h),(.o (.o .h))]),(2,[])] (.seq none cj (.seq none (.block (.seq none (.seq none .leaf aS) (.seq none .leaf (.block (.loop 1 [.h,(.i (.o .h)),(.i (.i .h))] [(1,[(.i .h),(.o (.o .h))]),(4,[.h,(.i (.o .h))])] (.seq none cj (.seq none (.block aS) .leaf))))))) .leaf))))) cI)))
def eI (c:ai) (F:Nat) (k1 k4:List AV->St->Option (AV×St)):Nat->List AV->St->Option (AV×St)
 |0,_,_=>none
 |n+1,vs,s=>ay vs fun x0 vs=>ay vs fun x4 vs=>ay vs fun x6 vs=>bw vs (
 af c .move [x6] s fun fy gj=>
 af c .move [x4] gj fun gW iP=>
 af c cT [fy,gW] iP fun gY fM=>
 aJ gY (
    bg .move [x0] fun gN=>
 bg .move [x6] fun jf=>
 bg y5 [gN,jf] fun dX=>
 bg dM [dX] fun jE=>
 fE aB [jE] fM.heap (fun _=>true) fun kI=>
 bg .move [x0] fun iw=>
 bg .move [x4] fun mB=>
 bg y5 [iw,mB] fun iU=>
 bg dM [iU] fun kX=>
 fE aB [kX] fM.heap (fun _=>true) fun jg=>
 bg bF [kI,jg] fun mC=>
 aJ mC (
    af c .move [x4] fM fun ji gu=>
    af c .move [ji] gu fun x2 fV=>
    af c .move [(.int .i64 5)] fV fun x3 iu=>
    k1 [x2,x3] iu) (
    af c .move [x6] fM fun iQ iT=>
 af c bP [iQ,bS] iT fun gM lu=>
 af c .move [gM] lu fun x6 j8=>
 eI c F k1 k4 n [x0,x4,x6] j8)) (
    k4 [x0,x4] fM))
def eJ (c:ai) (F:Nat) (k1 k2:List AV->St->Option (AV×St)):Nat->List AV->St->Option (AV×St)
 |0,_,_=>none
 |n+1,vs,s=>ay vs fun x0 vs=>ay vs fun x4 vs=>bw vs (
 af c .move [x4] s fun aZ s8=>
 af c .move [x0] s8 fun bh s9=>
 af c dF [bh] s9 fun bG bT=>
 af c cT [aZ,bG] bT fun bQ bL=>
 aJ bQ (
    af c .move [x0] bL fun ct cr=>
 af c .move [x4] cr fun cw cg=>
 af c y5 [ct,cw] cg fun bn cK=>
 af c xF [bn] cK fun bC cL=>
 af c (.callF 184) [bC] cL fun b9 cO=>
 af c .move [b9] cO fun x5 cX=>
 af c .move [x5] cX fun fu cP=>
 af c cG [fu,av] cP fun dW cQ=>
 aJ dW (
    af c .move [x4] cQ fun eX eD=>
    af c .move [x5] eD fun fL fH=>
    af c .move [eX] fH fun x2 gh=>
    af c .move [fL] gh fun x3 ir=>
    k1 [x2,x3] ir) (
    af c .move [av] cQ fun x6 gL=>
 eI c F (fun vs j9=>ay vs fun x2 vs=>ay vs fun x3 vs=>bw vs (
    k1 [x2,x3] j9)) (fun vs jD=>ay vs fun x0 vs=>ay vs fun x4 vs=>bw vs (
    af c .move [x4] jD fun bR jN=>
 af c bP [bR,bS] jN fun bH kq=>
 af c .move [bH] kq fun x4 kW=>
 eJ c F k1 k2 n [x0,x4] kW)) F [x0,x4,x6] gL)) (
    k2 [] bL))
def qq (c:ai) (F:Nat) (x0:AV) (s:St):Option (AV×St):=
 af c .move [av] s fun x2 s0=>
 af c .move [av] s0 fun x3 s1=>
 af c .move [x0] s1 fun x7 s2=>
 af c dF [x7] s2 fun x8 s3=>
 af c gl [x8,(.int .i64 16)] s3 fun x9 s4=>
 aJ x9 (
    af c .move [av] s4 fun x2 s5=>
    af c .move [(.int .i64 7)] s5 fun x3 s6=>
    some (.tuple [x2,x3],s6)) (
    af c .move [av] s4 fun x4 s7=>
 eJ c F (fun vs ku=>ay vs fun x2 vs=>ay vs fun x3 vs=>bw vs (
    some (.tuple [x2,x3],ku))) (fun vs om=>bw vs (
    af c .move [av] om fun x2 oo=>
 af c .move [av] oo fun x3 oq=>
 some (.tuple [x2,x3],oq))) F [x0,x4] s7)
def k9 (c:ai) (F:Nat):Env (AV×St):=iF [(0,fun K n=>eJ c F (K 1) (K 2) n),(1,fun K n=>eI c F (K 1) (K 4) n)]
theorem Cr (c:ai) (F:Nat):bV c F (k9 c F) (cY ff gx 0).1 (cY ff gx 0).2:=dP (j:=0) (ins:=[.h,(.i (.o .h))]) (outs:=[(1,[(.i .h),(.o (.o .h))]),(2,[])]) (s:=(.seq none cj (.seq none (.block (.seq none (.seq none .leaf aS) (.seq none .leaf (.block (.loop 1 [.h,(.i (.o .h)),(.i (.i .h))] [(1,[(.i .h),(.o (.o .h))]),(4,[.h,(.i (.o .h))])] (.seq none cj (.seq none (.block aS) .leaf))))))) .leaf))) (by kernel_rfl) (fun _ _ _=>by kernel_rfl) (fun _ _ _ _=>by kernel_rfl)
theorem Cs (c:ai) (F:Nat):bV c F (k9 c F) (cY ff gx 1).1 (cY ff gx 1).2:=dP (j:=1) (ins:=[.h,(.i (.o .h)),(.i (.i .h))]) (outs:=[(1,[(.i .h),(.o (.o .h))]),(4,[.h,(.i (.o .h))])]) (s:=(.seq none cj (.seq none (.block aS) .leaf))) (by kernel_rfl) (fun _ _ _=>by kernel_rfl) (fun _ _ _ _=>by kernel_rfl)
theorem CD (c:ai) (F:Nat): ∀x∈cu ff.code gx,bV c F (k9 c F) x.1 x.2:=eH 2 (by kernel_rfl) fun i hi=>match i,hi with|0,_=>Cr c F|1,_=>Cs c F|n+2,h=>absurd h (by omega)
theorem CE (c:ai) (F:Nat) (x0:AV) (s:St):lN c F (k9 c F) ff gx [x0] s=qq c F x0 s:=by kernel_rfl
theorem AG {c:ai} (hc:Sem c) (F:Nat){x0:AV} {s:St} {r:AV×St} (h:qq c F x0 s=some r):c 118 [x0] s=some (tidy s r):=hc.of (A:=ff) (by kernel_rfl) (by kernel_rfl) (CD _ F) (by rw[CE];exact h)
def zz (c:ai) (F:Nat) (x0:AV) (s:St):Option (AV×St):=
 af c .move [av] s fun x2 s0=>
 af c .move [x0] s0 fun x3 s1=>
 af c .move [x0] s1 fun x4 s2=>
 af c dF [x4] s2 fun x5 s3=>
 af c (.callF 187) [x3,x5] s3 fun x6 s4=>
 af c .move [x6] s4 fun x2 s5=>
 some (x2,s5)
theorem DP {c:ai} (hc:Sem c) (F:Nat){x0:AV} {s:St} {r:AV×St} (h:zz c F x0 s=some r):c 120 [x0] s=some (tidy s r):=hc.lF (A:=g120.getD default) (F:=F) (s:=(.seq none .leaf cI)) (by kernel_rfl) (by kernel_rfl) (by kernel_rfl) (by kernel_rfl) h
def nC:aM:=g121.getD default
def qg:Sh:=(.seq none .leaf (.seq none (.seq none .leaf (.block (.loop 0 [.h,(.o .h),(.o (.i .h))] [(1,[(.i (.o .h))]),(2,[])] (.seq none cj (.seq none (.block aS) .leaf))))) cI))
def iN (c:ai) (F:Nat) (k1 k2:List AV->St->Option (AV×St)):Nat->List AV->St->Option (AV×St)
 |0,_,_=>none
 |n+1,vs,s=>ay vs fun x0 vs=>ay vs fun x1 vs=>ay vs fun x5 vs=>bw vs (
 af c .move [x5] s fun x6 s2=>
 af c .move [x0] s2 fun x7 s3=>
 af c dF [x7] s3 fun x8 s4=>
 af c cT [x6,x8] s4 fun x9 s5=>
 aJ x9 (
    af c .move [x0] s5 fun bG s6=>
 af c .move [x5] s6 fun bQ s7=>
 af c (.idxA 9 none) [bG,bQ] s7 fun bR s8=>
 af c dM [bR] s8 fun bH s9=>
 af c aB [bH] s9 fun ct bT=>
 af c .move [x1] bT fun cw bL=>
 af c bF [ct,cw] bL fun bn cr=>
 aJ bn (
    af c .move [x5] cr fun bC cg=>
    af c .move [bC] cg fun x4 cK=>
    k1 [x4] cK) (
    af c .move [x5] cr fun aZ cL=>
 af c bP [aZ,bS] cL fun bh cO=>
 af c .move [bh] cO fun x5 cX=>
 iN c F k1 k2 n [x0,x1,x5] cX)) (
    k2 [] s5))
def xj (c:ai) (F:Nat) (x0 x1:AV) (s:St):Option (AV×St):=
 af c .move [av] s fun x4 s0=>
 af c .move [av] s0 fun x5 s1=>
 iN c F (fun vs cP=>ay vs fun x4 vs=>bw vs (
    some (x4,cP))) (fun vs cQ=>bw vs (
    af c .move [GO] cQ fun x4 eD=>
 some (x4,eD))) F [x0,x1,x5] s1
def uV (c:ai) (F:Nat):Env (AV×St):=iF [(0,fun K n=>iN c F (K 1) (K 2) n)]
theorem IU (c:ai) (F:Nat):bV c F (uV c F) (cY nC qg 0).1 (cY nC qg 0).2:=dP (j:=0) (ins:=[.h,(.o .h),(.o (.i .h))]) (outs:=[(1,[(.i (.o .h))]),(2,[])]) (s:=(.seq none cj (.seq none (.block aS) .leaf))) (by kernel_rfl) (fun _ _ _=>by kernel_rfl) (fun _ _ _ _=>by kernel_rfl)
theorem JG (c:ai) (F:Nat): ∀x∈cu nC.code qg,bV c F (uV c F) x.1 x.2:=eH 1 (by kernel_rfl) fun i hi=>match i,hi with|0,_=>IU c F|n+1,h=>absurd h (by omega)
theorem JH (c:ai) (F:Nat) (x0 x1:AV) (s:St):lN c F (uV c F) nC qg [x0,x1] s=xj c F x0 x1 s:=by kernel_rfl
theorem Hs {c:ai} (hc:Sem c) (F:Nat){x0 x1:AV} {s:St} {r:AV×St} (h:xj c F x0 x1 s=some r):c 121 [x0,x1] s=some (tidy s r):=hc.of (A:=nC) (by kernel_rfl) (by kernel_rfl) (JG _ F) (by rw[JH];exact h)
def jJ:aM:=g122.getD default
def l8:Sh:=(.seq none .leaf (.seq none (.seq none .leaf (.block (.loop 0 [.h,(.o .h),(.o (.i .h))] [(1,[(.i (.o .h))]),(2,[])] (.seq none cj (.seq none (.block aS) .leaf))))) cI))
def fc (c:ai) (F:Nat) (k1 k2:List AV->St->Option (AV×St)):Nat->List AV->St->Option (AV×St)
 |0,_,_=>none
 |n+1,vs,s=>ay vs fun x0 vs=>ay vs fun x1 vs=>ay vs fun x5 vs=>bw vs (
 af c .move [x5] s fun x6 s2=>
 af c .move [x0] s2 fun x7 s3=>
 af c dF [x7] s3 fun x8 s4=>
 af c cT [x6,x8] s4 fun x9 s5=>
 aJ x9 (
    af c .move [x0] s5 fun bG s6=>
 af c .move [x5] s6 fun bQ s7=>
 af c y5 [bG,bQ] s7 fun bR s8=>
 af c dM [bR] s8 fun bH s9=>
 af c aB [bH] s9 fun ct bT=>
 af c .move [x1] bT fun cw bL=>
 af c bF [ct,cw] bL fun bn cr=>
 aJ bn (
    af c .move [x5] cr fun bC cg=>
    af c .move [bC] cg fun x4 cK=>
    k1 [x4] cK) (
    af c .move [x5] cr fun aZ cL=>
 af c bP [aZ,bS] cL fun bh cO=>
 af c .move [bh] cO fun x5 cX=>
 fc c F k1 k2 n [x0,x1,x5] cX)) (
    k2 [] s5))
def rm (c:ai) (F:Nat) (x0 x1:AV) (s:St):Option (AV×St):=
 af c .move [av] s fun x4 s0=>
 af c .move [av] s0 fun x5 s1=>
 fc c F (fun vs cP=>ay vs fun x4 vs=>bw vs (
    some (x4,cP))) (fun vs cQ=>bw vs (
    af c .move [GO] cQ fun x4 eD=>
 some (x4,eD))) F [x0,x1,x5] s1
def pV (c:ai) (F:Nat):Env (AV×St):=iF [(0,fun K n=>fc c F (K 1) (K 2) n)]
theorem CG (c:ai) (F:Nat):bV c F (pV c F) (cY jJ l8 0).1 (cY jJ l8 0).2:=dP (j:=0) (ins:=[.h,(.o .h),(.o (.i .h))]) (outs:=[(1,[(.i (.o .h))]),(2,[])]) (s:=(.seq none cj (.seq none (.block aS) .leaf))) (by kernel_rfl) (fun _ _ _=>by kernel_rfl) (fun _ _ _ _=>by kernel_rfl)
theorem D3 (c:ai) (F:Nat): ∀x∈cu jJ.code l8,bV c F (pV c F) x.1 x.2:=eH 1 (by kernel_rfl) fun i hi=>match i,hi with|0,_=>CG c F|n+1,h=>absurd h (by omega)
theorem D4 (c:ai) (F:Nat) (x0 x1:AV) (s:St):lN c F (pV c F) jJ l8 [x0,x1] s=rm c F x0 x1 s:=by kernel_rfl
theorem BJ {c:ai} (hc:Sem c) (F:Nat){x0 x1:AV} {s:St} {r:AV×St} (h:rm c F x0 x1 s=some r):c 122 [x0,x1] s=some (tidy s r):=hc.of (A:=jJ) (by kernel_rfl) (by kernel_rfl) (D3 _ F) (by rw[D4];exact h)
def Ag (c :ai ) (F:Nat) (x0:AV) (s:St):Option (AV×St):=
 af c .box [x0] s fun x1 s0=>
 af c .move [av] s0 fun x2 s1=>
 lS (fun  j2=>
    af c eu [x1] s1 fun x3 s4=>
    af c aB [x3] s4 fun x4 s5=>
    af c bF [x4,(.int .u8 1)] s5 fun x6 s6=>
    af c .move [x6] s6 fun x5 s7=>
    aJ x5 (
     af c eN [x1] s7 fun x7 s8=>
     af c aB [x7] s8 fun x8 s9=>
     af c y7 [x8,bS,(.int .i64 24)] s9 fun x9 bT=>
     af c .move [x9] bT fun aZ bL=>
     ak c aZ true gQ [x1] bL fun bh cr=>
     ak c aZ true aB [bh] cr fun bG cg=>
     ak c aZ true bF [bG,av] cg fun bQ cK=>
     af c .pick [aZ,bQ,aD] cK fun bR cL=>
     aJ bR (
        af c eN [x1] cL fun bH cO=>
        af c aB [bH] cO fun ct cX=>
        af c .move [ct] cX fun x2 cP=>
        some (x2,cP)) (
        j2 [] cL)) (
     af c bF [x4,(.int .u8 2)] s7 fun bn cQ=>
     af c .move [bn] cQ fun cw eD=>
     aJ cw (
        af c eN [x1] eD fun bC fH=>
        af c aB [bC] fH fun b9 gh=>
        af c y7 [b9,bS,(.int .i64 11)] gh fun fu ir=>
        af c .move [fu] ir fun dW gL=>
        ak c dW true gQ [x1] gL fun eX gj=>
        ak c dW true aB [eX] gj fun fL iP=>
        ak c dW true y7 [fL,av,l6] iP fun fy fM=>
        af c .pick [dW,fy,aD] fM fun gW gu=>
        aJ gW (
          af c eN [x1] gu fun gY fV=>
          af c aB [gY] fV fun iQ iu=>
          af c (.bin .mul .num) [l6,iQ] iu fun gM iT=>
          af c gQ [x1] iT fun gN lu=>
          af c aB [gN] lu fun jf j8=>
          af c bP [gM,jf] j8 fun dX j9=>
          af c .move [dX] j9 fun x2 jD=>
          some (x2,jD)) (
          j2 [] gu)) (
        af c bF [x4,(.int .u8 3)] eD fun kI jN=>
        af c .move [kI] jN fun jE kq=>
        aJ jE (
          af c eN [x1] kq fun iw kW=>
          af c aB [iw] kW fun mB ku=>
          af c y7 [mB,bS,(.int .i64 8)] ku fun iU om=>
          af c .move [iU] om fun kX oo=>
          ak c kX true gQ [x1] oo fun jg oq=>
          ak c kX true aB [jg] oq fun mC pq=>
          ak c kX true y7 [mC,bS,(.int .i64 8)] pq fun ji oK=>
          af c .pick [kX,ji,aD] oK fun jF lz=>
          aJ jF (
           af c eN [x1] lz fun mD pE=>
           af c aB [mD] pE fun pz pF=>
           af c gQ [x1] pF fun jG p0=>
           af c aB [jG] p0 fun lA ny=>
           af c (.bin .mul .num) [l6,lA] ny fun kg og=>
           af c bP [pz,kg] og fun nX nU=>
           af c .move [nX] nU fun x2 nV=>
           some (x2,nV)) (
           j2 [] lz)) (
          af c bF [x4,(.int .u8 4)] kq fun nY nW=>
          af c .move [nY] nW fun fW pH=>
          aJ fW (
           af c eN [x1] pH fun nA oL=>
           af c aB [nA] oL fun pG iy=>
           af c y7 [pG,bS,(.int .i64 24)] iy fun jH rS=>
           af c .move [jH] rS fun mL mM=>
           ak c mL true gQ [x1] mM fun ot u7=>
           ak c mL true aB [ot] u7 fun lU qt=>
           ak c mL true eN [x1] qt fun kK rU=>
           ak c mL true aB [kK] rU fun lB p6=>
           ak c mL true y7 [lU,av,lB] p6 fun iV ua=>
           af c .pick [mL,iV,aD] ua fun jO qO=>
           aJ jO (
              af c eN [x1] qO fun qu qP=>
              af c aB [qu] qP fun dx u9=>
              af c .move [dx] u9 fun x2 qQ=>
              some (x2,qQ)) (
              j2 [] qO)) (
           j2 [] pH)))))
 (fun vs s3=>bw vs (
    af c .move [av] s3 fun x2 oM=>
    some (x2,oM)))
theorem Ew {c:ai} (hc:Sem c) (F:Nat){x0:AV} {s:St} {r:AV×St} (h:Ag c F x0 s=some r):c 123 [x0] s=some (tidy s r):=hc.lF (A:=g123.getD default) (F:=F) (s:=(.seq none .leaf (.seq (some []) (.seq none .leaf (.block (.seq none .leaf (.cond aS (.seq none .leaf (.cond aS (.seq none .leaf (.cond aS (.seq none .leaf (.cond aS .leaf)))))))))) cI))) (by kernel_rfl) (by kernel_rfl) (by kernel_rfl) (by kernel_rfl) h
def My (c:ai) (F:Nat) (x0:AV) (s:St):Option (AV×St):=
 af c .move [aD] s fun x2 s0=>
 af c .move [x0] s0 fun x6 s1=>
 af c (.callF 112) [x6] s1 fun x7 s2=>
 af c .move [x7] s2 fun x5 s3=>
 af c sV [x5] s3 fun x8 s4=>
 af c sW [x5] s4 fun x9 s5=>
 af c .move [x8] s5 fun x3 s6=>
 af c .move [x9] s6 fun x4 s7=>
 af c .move [x4] s7 fun aZ s8=>
 af c bF [aZ,av] s8 fun bh s9=>
 af c .move [bh] s9 fun x2 bT=>
 some (x2,bT)
theorem NA {c:ai} (hc:Sem c) (F:Nat){x0:AV} {s:St} {r:AV×St} (h:My c F x0 s=some r):c 137 [x0] s=some (tidy s r):=hc.lF (A:=g137.getD default) (F:=F) (s:=(.seq none .leaf (.seq none .leaf cI))) (by kernel_rfl) (by kernel_rfl) (by kernel_rfl) (by kernel_rfl) h
def OC (c:ai) (F:Nat) (x0:AV) (s:St):Option (AV×St):=
 af c .box [x0] s fun x1 s0=>
 af c .move [av] s0 fun x2 s1=>
 af c eu [x1] s1 fun x6 s2=>
 af c aB [x6] s2 fun x7 s3=>
 af c (.callF 202) [x7] s3 fun x8 s4=>
 af c .move [x8] s4 fun x5 s5=>
 af c sV [x5] s5 fun x9 s6=>
 af c sW [x5] s6 fun aZ s7=>
 af c (.alloc [aC,.ax,.ax,.ax,.ax,.ax]) [] s7 fun x3 s8=>
 af c vG [x3,x9] s8 fun _ s9=>
 af c .move [aZ] s9 fun x4 bT=>
 af c .move [x4] bT fun bh bL=>
 af c iA [bh] bL fun bG cr=>
 aJ bG (
    af c .move [av] cr fun x2 cg=>
    some (x2,cg)) (
    af c eu [x3] cr fun bQ cK=>
 af c aB [bQ] cK fun bR cL=>
 af c eN [x1] cL fun bH cO=>
 af c aB [bH] cO fun ct cX=>
 af c gQ [x1] cX fun cw cP=>
 af c aB [cw] cP fun bn cQ=>
 af c .callV [bR,ct,bn] cQ fun bC eD=>
 af c .move [bC] eD fun x2 fH=>
 some (x2,fH))
theorem Pc {c:ai} (hc:Sem c) (F:Nat){x0:AV} {s:St} {r:AV×St} (h:OC c F x0 s=some r):c 138 [x0] s=some (tidy s r):=hc.lF (A:=g138.getD default) (F:=F) (s:=(.seq none .leaf (.seq none .leaf (.seq none aS cI)))) (by kernel_rfl) (by kernel_rfl) (by kernel_rfl) (by kernel_rfl) h
def He (c:ai) (F:Nat) (x0:AV) (s:St):Option (AV×St):=
 af c .move [av] s fun x2 s0=>
 af c .move [x0] s0 fun x3 s1=>
 af c dF [x3] s1 fun x4 s2=>
 af c bF [x4,av] s2 fun x5 s3=>
 aJ x5 (
    af c .move [av] s3 fun x2 s4=>
    some (x2,s4)) (
    af c .move [x0] s3 fun x6 s5=>
 af c .move [x0] s5 fun x7 s6=>
 af c dF [x7] s6 fun x8 s7=>
 af c GM [x8,bS] s7 fun x9 s8=>
 af c y5 [x6,x9] s8 fun aZ s9=>
 af c xF [aZ] s9 fun bh bT=>
 af c (.callF 138) [bh] bT fun bG bL=>
 af c .move [bG] bL fun x2 cr=>
 some (x2,cr))
theorem JD {c:ai} (hc:Sem c) (F:Nat){x0:AV} {s:St} {r:AV×St} (h:He c F x0 s=some r):c 139 [x0] s=some (tidy s r):=hc.lF (A:=g139.getD default) (F:=F) (s:=(.seq none .leaf (.seq none aS cI))) (by kernel_rfl) (by kernel_rfl) (by kernel_rfl) (by kernel_rfl) h
def um:aM:=g177.getD default
def xL:Sh:=(.seq none .leaf (.seq none .leaf (.seq none .leaf (.seq none (.block (.seq none .leaf (.cond cI aS))) (.seq none (.seq none .leaf (.block (.loop 0 [(.o .h),(.o (.o .h)),(.i (.o .h)),(.i (.i (.o (.o .h)))),(.o (.o (.i (.o .h)))),(.i (.o (.i (.o .h))))] [(1,[(.i .h)]),(3,[(.o .h)])] (.seq none .leaf (.seq none iz (.seq none (.block (.seq none .leaf (.seq none aS .leaf))) .leaf)))))) (.seq none aS cI))))))
def mT (c:ai) (F:Nat) (k1 k3:List AV->St->Option (AV×St)):Nat->List AV->St->Option (AV×St)
 |0,_,_=>none
 |n+1,vs,s=>ay vs fun x1 vs=>ay vs fun x3 vs=>ay vs fun x4 vs=>ay vs fun bn vs=>ay vs fun bC vs=>ay vs fun b9 vs=>bw vs (
 af c cT [b9,bC] s fun fu eD=>
 aJ fu (
    af c vF [bn,b9] eD fun dW fH=>
 af c aB [dW] fH fun eX gh=>
 af c .move [eX] gh fun x6 ir=>
 af c .move [x6] ir fun fL gL=>
 af c .move [x4] gL fun fy gj=>
 af c GN [fL,fy] gj fun gW iP=>
 af c .move [gW] iP fun gY fM=>
 ak c gY false .move [x6] fM fun iQ gu=>
 ak c gY false .move [x3] gu fun gM fV=>
 ak c gY false GL [iQ,gM] fV fun gN iu=>
 af c .pick [gY,aN,gN] iu fun jf iT=>
 aJ jf (
    af c .move [(.int .i64 11)] iT fun x2 lu=>
    k1 [x2] lu) (
    af c .move [x6] iT fun dX j8=>
 af c .move [dX] j8 fun x4 j9=>
 af c bP [b9,bS] j9 fun jE jD=>
 af c .move [jE] jD fun b9 jN=>
 mT c F k1 k3 n [x1,x3,x4,bn,bC,b9] jN)) (
    k3 [x1] eD))
def FR (c:ai) (F:Nat) (x0:AV) (s:St):Option (AV×St):=
 af c .box [x0] s fun x1 s0=>
 af c .move [av] s0 fun x2 s1=>
 af c xF [x1] s1 fun x7 s2=>
 af c (.callF 138) [x7] s2 fun x8 s3=>
 af c .move [x8] s3 fun x3 s4=>
 af c .move [GO] s4 fun x4 s5=>
 af c dM [x1] s5 fun aZ s6=>
 af c aB [aZ] s6 fun bh s7=>
 af c (.callF 222) [bh] s7 fun bG s8=>
 af c iA [bG] s8 fun bQ s9=>
 af c .move [bQ] s9 fun x9 bT=>
 aJ x9 (
    af c .move [(.int .i64 4)] bT fun x2 bL=>
    some (x2,bL)) (
    af c .move [x3] bT fun bH cr=>
    af c bF [bH,av] cr fun ct cg=>
    af c .move [ct] cg fun bR cK=>
    aJ bR (
     af c .move [(.int .i64 10)] cK fun x2 cL=>
     some (x2,cL)) (
     af c l7 [x1] cK fun cw cO=>
 af c aB [cw] cO fun bn cX=>
 af c dF [bn] cX fun bC cP=>
 af c .move [av] cP fun b9 cQ=>
 mT c F (fun vs kq=>ay vs fun x2 vs=>bw vs (
    some (x2,kq))) (fun vs kW=>ay vs fun x1 vs=>bw vs (
    af c pK [x1] kW fun kI ku=>
 af c aB [kI] ku fun iw om=>
 af c cT [iw,av] om fun mB oo=>
 af c .move [mB] oo fun iU oq=>
 ak c iU false pK [x1] oq fun kX pq=>
 ak c iU false aB [kX] pq fun jg oK=>
 ak c iU false gl [jg,Du] oK fun mC lz=>
 af c .pick [iU,aN,mC] lz fun ji pE=>
 af c .move [ji] pE fun jF pF=>
 ak c jF false (.fieldA 6) [x1] pF fun mD p0=>
 ak c jF false aB [mD] p0 fun pz ny=>
 ak c jF false cT [pz,av] ny fun jG og=>
 af c .pick [jF,aN,jG] og fun lA nU=>
 af c .move [lA] nU fun kg nV=>
 ak c kg false (.fieldA 6) [x1] nV fun nX nW=>
 ak c kg false aB [nX] nW fun fW pH=>
 ak c kg false gl [fW,Du] pH fun nY oL=>
 af c .pick [kg,aN,nY] oL fun nA iy=>
 aJ nA (
    af c .move [l6] iy fun x2 rS=>
    some (x2,rS)) (
    af c .move [av] iy fun x2 mM=>
 some (x2,mM)))) F [x1,x3,x4,bn,bC,b9] cQ))
def Ct (c:ai) (F:Nat):Env (AV×St):=iF [(0,fun K n=>mT c F (K 1) (K 3) n)]
theorem Py (c:ai) (F:Nat):bV c F (Ct c F) (cY um xL 0).1 (cY um xL 0).2:=dP (j:=0) (ins:=[(.o .h),(.o (.o .h)),(.i (.o .h)),(.i (.i (.o (.o .h)))),(.o (.o (.i (.o .h)))),(.i (.o (.i (.o .h))))]) (outs:=[(1,[(.i .h)]),(3,[(.o .h)])]) (s:=(.seq none .leaf (.seq none iz (.seq none (.block (.seq none .leaf (.seq none aS .leaf))) .leaf)))) (by kernel_rfl) (fun _ _ _=>by kernel_rfl) (fun _ _ _ _=>by kernel_rfl)
theorem SY (c:ai) (F:Nat): ∀x∈cu um.code xL,bV c F (Ct c F) x.1 x.2:=eH 1 (by kernel_rfl) fun i hi=>match i,hi with|0,_=>Py c F|n+1,h=>absurd h (by omega)
theorem SZ (c:ai) (F:Nat) (x0:AV) (s:St):lN c F (Ct c F) um xL [x0] s=FR c F x0 s:=by kernel_rfl
theorem Nx {c:ai} (hc:Sem c) (F:Nat){x0:AV} {s:St} {r:AV×St} (h:FR c F x0 s=some r):c 177 [x0] s=some (tidy s r):=hc.of (A:=um) (by kernel_rfl) (by kernel_rfl) (SY _ F) (by rw[SZ];exact h)
def kV (c:ai) (F:Nat) (x0 x1:AV) (s:St):Option (AV×St):=
 af c .move [aD] s fun x4 s0=>
 af c .move [x0] s0 fun x5 s1=>
 af c .move [x1] s1 fun x6 s2=>
 af c (.callF 182) [x5,x6] s2 fun x7 s3=>
 af c GL [x7,av] s3 fun x8 s4=>
 af c .move [x8] s4 fun x4 s5=>
 some (x4,s5)
theorem p8 {c:ai} (hc:Sem c) (F:Nat){x0 x1:AV} {s:St} {r:AV×St} (h:kV c F x0 x1 s=some r):c 178 [x0,x1] s=some (tidy s r):=hc.lF (A:=g178.getD default) (F:=F) (s:=(.seq none .leaf cI)) (by kernel_rfl) (by kernel_rfl) (by kernel_rfl) (by kernel_rfl) h
def Dd (c:ai) (F:Nat) (x0 x1:AV) (s:St):Option (AV×St):=
 af c .box [x0] s fun x2 s0=>
 af c .move [aD] s0 fun x3 s1=>
 af c dM [x2] s1 fun x4 s2=>
 af c aB [x4] s2 fun x5 s3=>
 af c dM [x1] s3 fun x6 s4=>
 af c aB [x6] s4 fun x7 s5=>
 af c bF [x5,x7] s5 fun x8 s6=>
 af c .move [x8] s6 fun x3 s7=>
 some (x3,s7)
theorem Hr {c:ai} (hc:Sem c) (F:Nat){x0 x1:AV} {s:St} {r:AV×St} (h:Dd c F x0 x1 s=some r):c 179 [x0,x1] s=some (tidy s r):=hc.lF (A:=g179.getD default) (F:=F) (s:=(.seq none .leaf cI)) (by kernel_rfl) (by kernel_rfl) (by kernel_rfl) (by kernel_rfl) h
def dA:aM:=g180.getD default
def eO:Sh:=(.seq none .leaf (.seq none (.seq none .leaf (.block (.loop 0 [.h,(.o .h),(.o (.o (.o .h))),(.i (.o (.o .h)))] [(1,[(.i (.o .h))]),(2,[])] (.seq none .leaf (.seq none iz (.seq none (.block (.seq none .leaf aS)) .leaf)))))) cI))
def bZ (c:ai) (F:Nat) (k1 k2:List AV->St->Option (AV×St)):Nat->List AV->St->Option (AV×St)
 |0,_,_=>none
 |n+1,vs,s=>ay vs fun x0 vs=>ay vs fun x1 vs=>ay vs fun x7 vs=>ay vs fun x8 vs=>bw vs (
 af c cT [x8,x7] s fun x9 s4=>
 aJ x9 (
    af c .move [x8] s4 fun aZ s5=>
 af c .move [aZ] s5 fun x5 s6=>
 af c .move [x1] s6 fun bh s7=>
 af c .move [x0] s7 fun bG s8=>
 af c .move [x5] s8 fun bQ s9=>
 af c (.idxA 9 none) [bG,bQ] s9 fun bR bT=>
 af c (.load (some 9)) [bR] bT fun bH bL=>
 af c .callV [bh,bH] bL fun ct cr=>
 aJ ct (
    af c .move [x5] cr fun cw cg=>
    af c .move [cw] cg fun x4 cK=>
    k1 [x4] cK) (
    af c bP [x8,bS] cr fun bn cL=>
 af c .move [bn] cL fun x8 cO=>
 bZ c F k1 k2 n [x0,x1,x7,x8] cO)) (
    k2 [] s4))
def iO (c:ai) (F:Nat) (x0 x1:AV) (s:St):Option (AV×St):=
 af c .move [av] s fun x4 s0=>
 af c .move [x0] s0 fun x6 s1=>
 af c dF [x6] s1 fun x7 s2=>
 af c .move [av] s2 fun x8 s3=>
 bZ c F (fun vs cX=>ay vs fun x4 vs=>bw vs (
    some (x4,cX))) (fun vs cP=>bw vs (
    af c .move [GO] cP fun x4 cQ=>
 some (x4,cQ))) F [x0,x1,x7,x8] s3
def ia (c:ai) (F:Nat):Env (AV×St):=iF [(0,fun K n=>bZ c F (K 1) (K 2) n)]
theorem se (c:ai) (F:Nat):bV c F (ia c F) (cY dA eO 0).1 (cY dA eO 0).2:=dP (j:=0) (ins:=[.h,(.o .h),(.o (.o (.o .h))),(.i (.o (.o .h)))]) (outs:=[(1,[(.i (.o .h))]),(2,[])]) (s:=(.seq none .leaf (.seq none iz (.seq none (.block (.seq none .leaf aS)) .leaf)))) (by kernel_rfl) (fun _ _ _=>by kernel_rfl) (fun _ _ _ _=>by kernel_rfl)
theorem sG (c:ai) (F:Nat): ∀x∈cu dA.code eO,bV c F (ia c F) x.1 x.2:=eH 1 (by kernel_rfl) fun i hi=>match i,hi with|0,_=>se c F|n+1,h=>absurd h (by omega)
theorem sH (c:ai) (F:Nat) (x0 x1:AV) (s:St):lN c F (ia c F) dA eO [x0,x1] s=iO c F x0 x1 s:=by kernel_rfl
theorem rj {c:ai} (hc:Sem c) (F:Nat){x0 x1:AV} {s:St} {r:AV×St} (h:iO c F x0 x1 s=some r):c 180 [x0,x1] s=some (tidy s r):=hc.of (A:=dA) (by kernel_rfl) (by kernel_rfl) (sG _ F) (by rw[sH];exact h)
def MC (c:ai) (F:Nat) (x0 x1:AV) (s:St):Option (AV×St):=
 af c .box [x0] s fun x2 s0=>
 af c .move [aD] s0 fun x3 s1=>
 af c dM [x2] s1 fun x4 s2=>
 af c aB [x4] s2 fun x5 s3=>
 af c aB [x1] s3 fun x6 s4=>
 af c bF [x5,x6] s4 fun x7 s5=>
 af c .move [x7] s5 fun x3 s6=>
 some (x3,s6)
theorem ND {c:ai} (hc:Sem c) (F:Nat){x0 x1:AV} {s:St} {r:AV×St} (h:MC c F x0 x1 s=some r):c 181 [x0,x1] s=some (tidy s r):=hc.lF (A:=g181.getD default) (F:=F) (s:=(.seq none .leaf cI)) (by kernel_rfl) (by kernel_rfl) (by kernel_rfl) (by kernel_rfl) h
def dB:aM:=g182.getD default
def eP:Sh:=(.seq none .leaf (.seq none (.seq none .leaf (.block (.loop 0 [.h,(.o .h),(.o (.o (.o .h))),(.i (.o (.o .h)))] [(1,[(.i (.o .h))]),(2,[])] (.seq none .leaf (.seq none iz (.seq none (.block (.seq none .leaf aS)) .leaf)))))) cI))
def bY (c:ai) (F:Nat) (k1 k2:List AV->St->Option (AV×St)):Nat->List AV->St->Option (AV×St)
 |0,_,_=>none
 |n+1,vs,s=>ay vs fun x0 vs=>ay vs fun x1 vs=>ay vs fun x7 vs=>ay vs fun x8 vs=>bw vs (
 af c cT [x8,x7] s fun x9 s4=>
 aJ x9 (
    af c .move [x8] s4 fun aZ s5=>
 af c .move [aZ] s5 fun x5 s6=>
 af c .move [x1] s6 fun bh s7=>
 af c .move [x0] s7 fun bG s8=>
 af c .move [x5] s8 fun bQ s9=>
 af c y5 [bG,bQ] s9 fun bR bT=>
 af c xF [bR] bT fun bH bL=>
 af c .callV [bh,bH] bL fun ct cr=>
 aJ ct (
    af c .move [x5] cr fun cw cg=>
    af c .move [cw] cg fun x4 cK=>
    k1 [x4] cK) (
    af c bP [x8,bS] cr fun bn cL=>
 af c .move [bn] cL fun x8 cO=>
 bY c F k1 k2 n [x0,x1,x7,x8] cO)) (
    k2 [] s4))
def iM (c:ai) (F:Nat) (x0 x1:AV) (s:St):Option (AV×St):=
 af c .move [av] s fun x4 s0=>
 af c .move [x0] s0 fun x6 s1=>
 af c dF [x6] s1 fun x7 s2=>
 af c .move [av] s2 fun x8 s3=>
 bY c F (fun vs cX=>ay vs fun x4 vs=>bw vs (
    some (x4,cX))) (fun vs cP=>bw vs (
    af c .move [GO] cP fun x4 cQ=>
 some (x4,cQ))) F [x0,x1,x7,x8] s3
def ic (c:ai) (F:Nat):Env (AV×St):=iF [(0,fun K n=>bY c F (K 1) (K 2) n)]
theorem sg (c:ai) (F:Nat):bV c F (ic c F) (cY dB eP 0).1 (cY dB eP 0).2:=dP (j:=0) (ins:=[.h,(.o .h),(.o (.o (.o .h))),(.i (.o (.o .h)))]) (outs:=[(1,[(.i (.o .h))]),(2,[])]) (s:=(.seq none .leaf (.seq none iz (.seq none (.block (.seq none .leaf aS)) .leaf)))) (by kernel_rfl) (fun _ _ _=>by kernel_rfl) (fun _ _ _ _=>by kernel_rfl)
theorem sI (c:ai) (F:Nat): ∀x∈cu dB.code eP,bV c F (ic c F) x.1 x.2:=eH 1 (by kernel_rfl) fun i hi=>match i,hi with|0,_=>sg c F|n+1,h=>absurd h (by omega)
theorem sJ (c:ai) (F:Nat) (x0 x1:AV) (s:St):lN c F (ic c F) dB eP [x0,x1] s=iM c F x0 x1 s:=by kernel_rfl
theorem ri {c:ai} (hc:Sem c) (F:Nat){x0 x1:AV} {s:St} {r:AV×St} (h:iM c F x0 x1 s=some r):c 182 [x0,x1] s=some (tidy s r):=hc.of (A:=dB) (by kernel_rfl) (by kernel_rfl) (sI _ F) (by rw[sJ];exact h)
def Ka (c:ai) (F:Nat) (x0 x1:AV) (s:St):Option (AV×St):=
 af c .box [x0] s fun x2 s0=>
 af c .move [aD] s0 fun x3 s1=>
 af c dM [x2] s1 fun x4 s2=>
 af c aB [x4] s2 fun x5 s3=>
 af c aB [x1] s3 fun x6 s4=>
 af c bF [x5,x6] s4 fun x7 s5=>
 af c .move [x7] s5 fun x3 s6=>
 some (x3,s6)
theorem Mw {c:ai} (hc:Sem c) (F:Nat){x0 x1:AV} {s:St} {r:AV×St} (h:Ka c F x0 x1 s=some r):c 183 [x0,x1] s=some (tidy s r):=hc.lF (A:=g183.getD default) (F:=F) (s:=(.seq none .leaf cI)) (by kernel_rfl) (by kernel_rfl) (by kernel_rfl) (by kernel_rfl) h
def kO:aM:=g184.getD default
def nO:Sh:=(.seq none .leaf (.seq none .leaf (.seq none aS (.seq none aS (.seq none (.seq none .leaf (.block (.loop 0 [(.o .h),(.o (.o .h)),(.i (.o .h))] [(1,[(.i .h)]),(2,[(.o .h)])] (.seq none cj (.seq none (.block aS) .leaf))))) (.seq none aS cI))))))
def fQ (c:ai) (F:Nat) (k1 k2:List AV->St->Option (AV×St)):Nat->List AV->St->Option (AV×St)
 |0,_,_=>none
 |n+1,vs,s=>ay vs fun x1 vs=>ay vs fun x3 vs=>ay vs fun x4 vs=>bw vs (
 af c .move [x4] s fun bQ cK=>
 af c l7 [x1] cK fun bR cL=>
 af c aB [bR] cL fun bH cO=>
 af c dF [bH] cO fun ct cX=>
 af c cT [bQ,ct] cX fun cw cP=>
 aJ cw (
    bg l7 [x1] fun b9=>
 fE aB [b9] cP.heap (fun _=>true) fun fu=>
 bg .move [x4] fun dW=>
 bg vF [fu,dW] fun eX=>
 fE aB [eX] cP.heap (fun _=>true) fun fL=>
 bg .move [x3] fun fy=>
 bg GM [fy,bS] fun gW=>
 af c y7 [fL,av,gW] cP fun gY cQ=>
 bg iA [gY] fun iQ=>
 bg .move [iQ] fun gM=>
 jd gM false .move [x4] fun gN=>
 jd gM false gl [gN,av] fun jf=>
 jd gM false .move [jf] fun dX=>
 jd dX true l7 [x1] fun jE=>
 xS dX true aB [jE] cQ.heap (fun _=>true) fun kI=>
 jd dX true .move [x4] fun iw=>
 jd dX true vF [kI,iw] fun mB=>
 xS dX true aB [mB] cQ.heap (fun _=>true) fun iU=>
 jd dX true l7 [x1] fun kX=>
 xS dX true aB [kX] cQ.heap (fun _=>true) fun jg=>
 jd dX true .move [x4] fun mC=>
 jd dX true GM [mC,bS] fun ji=>
 jd dX true vF [jg,ji] fun jF=>
 xS dX true aB [jF] cQ.heap (fun _=>true) fun mD=>
 jd dX true GN [iU,mD] fun pz=>
 jd gM false .pick [dX,pz,aD] fun jG=>
 bg .pick [gM,aN,jG] fun lA=>
 aJ lA (
    af c .move [(.int .i64 11)] cQ fun x2 eD=>
    k1 [x2] eD) (
    af c .move [x4] cQ fun bn fH=>
 af c bP [bn,bS] fH fun bC gh=>
 af c .move [bC] gh fun x4 ir=>
 fQ c F k1 k2 n [x1,x3,x4] ir)) (
    k2 [x1] cP))
def tO (c:ai) (F:Nat) (x0:AV) (s:St):Option (AV×St):=
 af c .box [x0] s fun x1 s0=>
 af c .move [av] s0 fun x2 s1=>
 af c xF [x1] s1 fun x5 s2=>
 af c (.callF 123) [x5] s2 fun x6 s3=>
 af c .move [x6] s3 fun x3 s4=>
 af c dM [x1] s4 fun x7 s5=>
 af c aB [x7] s5 fun x8 s6=>
 af c (.callF 223) [x8] s6 fun x9 s7=>
 af c iA [x9] s7 fun aZ s8=>
 aJ aZ (
    af c .move [(.int .i64 4)] s8 fun x2 s9=>
    some (x2,s9)) (
    af c .move [x3] s8 fun bh bT=>
 af c bF [bh,av] bT fun bG bL=>
 aJ bG (
    af c .move [(.int .i64 10)] bL fun x2 cr=>
    some (x2,cr)) (
    af c .move [av] bL fun x4 cg=>
 fQ c F (fun vs gL=>ay vs fun x2 vs=>bw vs (
    some (x2,gL))) (fun vs gj=>ay vs fun x1 vs=>bw vs (
    af c pK [x1] gj fun kg iP=>
 af c aB [kg] iP fun nX fM=>
 af c y7 [nX,av,Du] fM fun fW gu=>
 af c iA [fW] gu fun nY fV=>
 af c .move [nY] fV fun nA iu=>
 ak c nA false (.fieldA 6) [x1] iu fun pG iT=>
 ak c nA false aB [pG] iT fun jH lu=>
 ak c nA false y7 [jH,av,Du] lu fun mL j8=>
 ak c nA false iA [mL] j8 fun ot j9=>
 af c .pick [nA,aN,ot] j9 fun lU jD=>
 aJ lU (
    af c .move [l6] jD fun x2 jN=>
    some (x2,jN)) (
    af c .move [av] jD fun x2 kq=>
 some (x2,kq)))) F [x1,x3,x4] cg))
def rE (c:ai) (F:Nat):Env (AV×St):=iF [(0,fun K n=>fQ c F (K 1) (K 2) n)]
theorem EV (c:ai) (F:Nat):bV c F (rE c F) (cY kO nO 0).1 (cY kO nO 0).2:=dP (j:=0) (ins:=[(.o .h),(.o (.o .h)),(.i (.o .h))]) (outs:=[(1,[(.i .h)]),(2,[(.o .h)])]) (s:=(.seq none cj (.seq none (.block aS) .leaf))) (by kernel_rfl) (fun _ _ _=>by kernel_rfl) (fun _ _ _ _=>by kernel_rfl)
theorem GU (c:ai) (F:Nat): ∀x∈cu kO.code nO,bV c F (rE c F) x.1 x.2:=eH 1 (by kernel_rfl) fun i hi=>match i,hi with|0,_=>EV c F|n+1,h=>absurd h (by omega)
theorem GV (c:ai) (F:Nat) (x0:AV) (s:St):lN c F (rE c F) kO nO [x0] s=tO c F x0 s:=by kernel_rfl
theorem DN {c:ai} (hc:Sem c) (F:Nat){x0:AV} {s:St} {r:AV×St} (h:tO c F x0 s=some r):c 184 [x0] s=some (tidy s r):=hc.of (A:=kO) (by kernel_rfl) (by kernel_rfl) (GU _ F) (by rw[GV];exact h)
def kP:aM:=g187.getD default
def nP:Sh:=(.seq none .leaf (.seq none .leaf (.seq none (.seq none .leaf (.block (.loop 0 [.h,(.o .h),(.o (.i .h)),(.i (.i .h))] [(2,[(.o (.i .h))])] (.seq none cj Jw)))) cI)))
def fS (c:ai) (F:Nat) (k2:List AV->St->Option (AV×St)):Nat->List AV->St->Option (AV×St)
 |0,_,_=>none
 |n+1,vs,s=>ay vs fun x0 vs=>ay vs fun x1 vs=>ay vs fun x5 vs=>ay vs fun x6 vs=>bw vs (
 af c .move [x6] s fun x7 s3=>
 af c .move [x1] s3 fun x8 s4=>
 af c cT [x7,x8] s4 fun x9 s5=>
 aJ x9 (
    af c .move [x5] s5 fun bG s6=>
 af c .move [x0] s6 fun bQ s7=>
 af c .move [x6] s7 fun bR s8=>
 af c y5 [bQ,bR] s8 fun bH s9=>
 af c xF [bH] s9 fun ct bT=>
 af c (.callF 123) [ct] bT fun cw bL=>
 af c bP [bG,cw] bL fun bn cr=>
 af c .move [bn] cr fun x5 cg=>
 af c .move [x6] cg fun aZ cK=>
 af c bP [aZ,bS] cK fun bh cL=>
 af c .move [bh] cL fun x6 cO=>
 fS c F k2 n [x0,x1,x5,x6] cO) (
    k2 [x5] s5))
def tP (c:ai) (F:Nat) (x0 x1:AV) (s:St):Option (AV×St):=
 af c .move [av] s fun x4 s0=>
 af c .move [av] s0 fun x5 s1=>
 af c .move [av] s1 fun x6 s2=>
 fS c F (fun vs cX=>ay vs fun x5 vs=>bw vs (
    af c .move [x5] cX fun bC cP=>
 af c .move [bC] cP fun x4 cQ=>
 some (x4,cQ))) F [x0,x1,x5,x6] s2
def rF (c:ai) (F:Nat):Env (AV×St):=iF [(0,fun K n=>fS c F (K 2) n)]
theorem EW (c:ai) (F:Nat):bV c F (rF c F) (cY kP nP 0).1 (cY kP nP 0).2:=dP (j:=0) (ins:=[.h,(.o .h),(.o (.i .h)),(.i (.i .h))]) (outs:=[(2,[(.o (.i .h))])]) (s:=(.seq none cj Jw)) (by kernel_rfl) (fun _ _ _=>by kernel_rfl) (fun _ _ _ _=>by kernel_rfl)
theorem GW (c:ai) (F:Nat): ∀x∈cu kP.code nP,bV c F (rF c F) x.1 x.2:=eH 1 (by kernel_rfl) fun i hi=>match i,hi with|0,_=>EW c F|n+1,h=>absurd h (by omega)
theorem GX (c:ai) (F:Nat) (x0 x1:AV) (s:St):lN c F (rF c F) kP nP [x0,x1] s=tP c F x0 x1 s:=by kernel_rfl
theorem DO {c:ai} (hc:Sem c) (F:Nat){x0 x1:AV} {s:St} {r:AV×St} (h:tP c F x0 x1 s=some r):c 187 [x0,x1] s=some (tidy s r):=hc.of (A:=kP) (by kernel_rfl) (by kernel_rfl) (GW _ F) (by rw[GX];exact h)
def xT (c:ai) (F:Nat) (x0 x1 x2:AV) (s:St):Option (AV×St):=
 af c .move [aD] s fun x6 s0=>
 af c .move [x1] s0 fun x7 s1=>
 af c .move [x0] s1 fun x8 s2=>
 af c GN [x7,x8] s2 fun x9 s3=>
 af c .move [x9] s3 fun aZ s4=>
 ak c aZ true .move [x0] s4 fun bh s5=>
 ak c aZ true .move [x2] s5 fun bG s6=>
 ak c aZ true GN [bh,bG] s6 fun bQ s7=>
 af c .pick [aZ,bQ,aD] s7 fun bR s8=>
 af c .move [bR] s8 fun x6 s9=>
 some (x6,s9)
theorem CA {c:ai} (hc:Sem c) (F:Nat){x0 x1 x2:AV} {s:St} {r:AV×St} (h:xT c F x0 x1 x2 s=some r):c 188 [x0,x1,x2] s=some (tidy s r):=hc.lF (A:=g188.getD default) (F:=F) (s:=(.seq none .leaf cI)) (by kernel_rfl) (by kernel_rfl) (by kernel_rfl) (by kernel_rfl) h
def G9 (c :ai) (F:Nat) (x0:AV) (s:St):Option (AV×St):=
 af c (.alloc [aC,.ax,.ax,.ax,.ax,.ax]) [] s fun x2 s0=>
 af c .move [aD] s0 fun x3 s1=>
 af c .move [x0] s1 fun x4 s2=>
 af c bF [x4,(.int .u8 1)] s2 fun x6 s3=>
 af c .move [x6] s3 fun x5 s4=>
 aJ x5  (
    af c (.build [aC,.ax,.ax,.ax,.ax,.ax] [(0,1),(1,1),(2,1),(3,1),(4,1),(5,1)]) [(.str [114,111,117,110,100]),(.func 232 [] []),(.func 233 [] []),(.func 234 [] []),(.func 235 [] []),(.func 236 [] [])] s4 fun x7 s5=>
    af c vG [x2,x7] s5 fun _ s6=>
    af c .move [aN] s6 fun x3 s7=>
    Mj (some 6) x2 s7 fun v8=>some (.tuple [v8,x3],s7)) (
    af c bF [x4,(.int .u8 2)] s4 fun x9 s9=>
    af c .move [x9] s9 fun x8 bT=>
    aJ x8 (
     af c (.build [aC,.ax,.ax,.ax,.ax,.ax] [(0,1),(1,1),(2,1),(3,1),(4,1),(5,1)]) [(.str [108,111,110,103]),(.func 237 [] []),(.func 238 [] []),(.func 239 [] []),(.func 240 [] []),(.func 241 [] [])] bT fun aZ bL=>
     af c vG [x2,aZ] bL fun _ cr=>
     af c .move [aN] cr fun x3 cg=>
     Mj (some 6) x2 cg fun v14=>some (.tuple [v14,x3],cg)) (
     af c bF [x4,(.int .u8 3)] bT fun bG cL=>
     af c .move [bG] cL fun bh cO=>
     aJ bh (
        af c (.build [aC,.ax,.ax,.ax,.ax,.ax] [(0,1),(1,1),(2,1),(3,1),(4,1),(5,1)]) [(.str [104,111,114,115,101,115,104,111,101]),(.func 242 [] []),(.func 243 [] []),(.func 244 [] []),(.func 245 [] []),(.func 246 [] [])] cO fun bQ cX=>
        af c vG [x2,bQ] cX fun _ cP=>
        af c .move [aN] cP fun x3 cQ=>
        Mj (some 6) x2 cQ fun v20=>some (.tuple [v20,x3],cQ)) (
        af c bF [x4,(.int .u8 4)] cO fun bH fH=>
        af c .move [bH] fH fun bR gh=>
        aJ bR (
          af c (.build [aC,.ax,.ax,.ax,.ax,.ax] [(0,1),(1,1),(2,1),(3,1),(4,1),(5,1)]) [(.str [114,111,119]),(.func 247 [] []),(.func 248 [] []),(.func 249 [] []),(.func 250 [] []),(.func 251 [] [])] gh fun ct ir=>
          af c vG [x2,ct] ir fun _ gL=>
          af c .move [aN] gL fun x3 gj=>
          Mj (some 6) x2 gj fun v26=>some (.tuple [v26,x3],gj)) (
          af c (.build [aC,.ax,.ax,.ax,.ax,.ax] []) [] gh fun cw fM=>
 af c vG [x2,cw] fM fun _ gu=>
 af c .move [aD] gu fun x3 fV=>
 Mj (some 6) x2 fV fun v30=>some (.tuple [v30,x3],fV)))))
theorem JC {c:ai} (hc:Sem c) (F:Nat){x0:AV} {s:St} {r:AV×St} (h:G9 c F x0 s=some r):c 202 [x0] s=some (tidy s r):=hc.lF (A:=g202.getD default) (F:=F) (s:=(.seq none .leaf (.seq none (.seq none .leaf (.block (.seq none .leaf (.cond cI (.seq none .leaf (.cond cI (.seq none .leaf (.cond cI aS)))))))) cI))) (by kernel_rfl) (by kernel_rfl) (by kernel_rfl) (by kernel_rfl) h
def vo:aM:=g222.getD default
def y9:Sh:=(.seq none .leaf (.seq none (.seq none .leaf (.block (.loop 0 [.h,(.o (.o .h))] [(1,[(.i .h)]),(2,[.h])] (.seq none cj (.seq none (.block aS) .leaf))))) cI))
def oe (c:ai) (F:Nat) (k1 k2:List AV->St->Option (AV×St)):Nat->List AV->St->Option (AV×St)
 |0,_,_=>none
 |n+1,vs,s=>ay vs fun x0 vs=>ay vs fun x3 vs=>bw vs (
 af c .move [x3] s fun x4 s2=>
 af c .move [x0] s2 fun x5 s3=>
 af c sY [x5] s3 fun x6 s4=>
 af c cT [x4,x6] s4 fun x7 s5=>
 aJ x7 (
    af c .move [x0] s5 fun aZ s6=>
 af c .move [x3] s6 fun bh s7=>
 af c .idxS [aZ,bh] s7 fun bG s8=>
 af c cT [bG,(.int .u8 97)] s8 fun bQ s9=>
 af c .move [bQ] s9 fun bR bT=>
 ak c bR false .move [x0] bT fun bH bL=>
 ak c bR false .move [x3] bL fun ct cr=>
 ak c bR false .idxS [bH,ct] cr fun cw cg=>
 ak c bR false gl [cw,(.int .u8 122)] cg fun bn cK=>
 af c .pick [bR,aN,bn] cK fun bC cL=>
 aJ bC (
    af c .move [aD] cL fun x2 cO=>
    k1 [x2] cO) (
    af c .move [x3] cL fun x8 cX=>
 af c bP [x8,bS] cX fun x9 cP=>
 af c .move [x9] cP fun x3 cQ=>
 oe c F k1 k2 n [x0,x3] cQ)) (
    k2 [x0] s5))
def ID (c:ai) (F:Nat) (x0:AV) (s:St):Option (AV×St):=
 af c .move [aD] s fun x2 s0=>
 af c .move [av] s0 fun x3 s1=>
 oe c F (fun vs eD=>ay vs fun x2 vs=>bw vs (
    some (x2,eD))) (fun vs fH=>ay vs fun x0 vs=>bw vs (
    af c .move [x0] fH fun b9 gh=>
 af c sY [b9] gh fun fu ir=>
 af c GL [fu,bS] ir fun dW gL=>
 af c .move [dW] gL fun eX gj=>
 ak c eX true .move [x0] gj fun fL iP=>
 ak c eX true sY [fL] iP fun fy fM=>
 ak c eX true GN [fy,(.int .i64 12)] fM fun gW gu=>
 af c .pick [eX,gW,aD] gu fun gY fV=>
 af c .move [gY] fV fun x2 iu=>
 some (x2,iu))) F [x0,x3] s1
def D5 (c:ai) (F:Nat):Env (AV×St):=iF [(0,fun K n=>oe c F (K 1) (K 2) n)]
theorem S0 (c:ai) (F:Nat):bV c F (D5 c F) (cY vo y9 0).1 (cY vo y9 0).2:=dP (j:=0) (ins:=[.h,(.o (.o .h))]) (outs:=[(1,[(.i .h)]),(2,[.h])]) (s:=(.seq none cj (.seq none (.block aS) .leaf))) (by kernel_rfl) (fun _ _ _=>by kernel_rfl) (fun _ _ _ _=>by kernel_rfl)
theorem TR (c:ai) (F:Nat): ∀x∈cu vo.code y9,bV c F (D5 c F) x.1 x.2:=eH 1 (by kernel_rfl) fun i hi=>match i,hi with|0,_=>S0 c F|n+1,h=>absurd h (by omega)
theorem TS (c:ai) (F:Nat) (x0:AV) (s:St):lN c F (D5 c F) vo y9 [x0] s=ID c F x0 s:=by kernel_rfl
theorem Pe {c:ai} (hc:Sem c) (F:Nat){x0:AV} {s:St} {r:AV×St} (h:ID c F x0 s=some r):c 222 [x0] s=some (tidy s r):=hc.of (A:=vo) (by kernel_rfl) (by kernel_rfl) (TR _ F) (by rw[TS];exact h)
def lG:aM:=g223.getD default
def oG:Sh:=(.seq none .leaf (.seq none aS (.seq none (.seq none .leaf (.block (.loop 0 [.h,(.o (.o .h))] [(1,[(.i .h)]),(2,[])] (.seq none cj (.seq none (.block aS) .leaf))))) cI)))
def gF (c:ai) (F:Nat) (k1 k2:List AV->St->Option (AV×St)):Nat->List AV->St->Option (AV×St)
 |0,_,_=>none
 |n+1,vs,s=>ay vs fun x0 vs=>ay vs fun x3 vs=>bw vs (
 af c .move [x3] s fun bG bL=>
 af c .move [x0] bL fun bQ cr=>
 af c sY [bQ] cr fun bR cg=>
 af c cT [bG,bR] cg fun bH cK=>
 aJ bH (
    af c .move [x0] cK fun bn cL=>
 af c .move [x3] cL fun bC cO=>
 af c .idxS [bn,bC] cO fun b9 cX=>
 af c cT [b9,(.int .u8 97)] cX fun fu cP=>
 af c .move [fu] cP fun dW cQ=>
 ak c dW false .move [x0] cQ fun eX eD=>
 ak c dW false .move [x3] eD fun fL fH=>
 ak c dW false .idxS [eX,fL] fH fun fy gh=>
 ak c dW false gl [fy,(.int .u8 122)] gh fun gW ir=>
 af c .pick [dW,aN,gW] ir fun gY gL=>
 aJ gY (
    af c .move [aD] gL fun x2 gj=>
    k1 [x2] gj) (
    af c .move [x3] gL fun ct iP=>
 af c bP [ct,bS] iP fun cw fM=>
 af c .move [cw] fM fun x3 gu=>
 gF c F k1 k2 n [x0,x3] gu)) (
    k2 [] cK))
def uQ (c:ai) (F:Nat) (x0:AV) (s:St):Option (AV×St):=
 af c .move [aD] s fun x2 s0=>
 af c .move [x0] s0 fun x4 s1=>
 af c sY [x4] s1 fun x5 s2=>
 af c bF [x5,av] s2 fun x6 s3=>
 af c .move [x6] s3 fun x7 s4=>
 ak c x7 false .move [x0] s4 fun x8 s5=>
 ak c x7 false sY [x8] s5 fun x9 s6=>
 ak c x7 false gl [x9,(.int .i64 12)] s6 fun aZ s7=>
 af c .pick [x7,aN,aZ] s7 fun bh s8=>
 aJ bh (
    af c .move [aD] s8 fun x2 s9=>
    some (x2,s9)) (
    af c .move [av] s8 fun x3 bT=>
 gF c F (fun vs fV=>ay vs fun x2 vs=>bw vs (
    some (x2,fV))) (fun vs iu=>bw vs (
    af c .move [aN] iu fun x2 iT=>
 some (x2,iT))) F [x0,x3] bT)
def sK (c:ai) (F:Nat):Env (AV×St):=iF [(0,fun K n=>gF c F (K 1) (K 2) n)]
theorem GY (c:ai) (F:Nat):bV c F (sK c F) (cY lG oG 0).1 (cY lG oG 0).2:=dP (j:=0) (ins:=[.h,(.o (.o .h))]) (outs:=[(1,[(.i .h)]),(2,[])]) (s:=(.seq none cj (.seq none (.block aS) .leaf))) (by kernel_rfl) (fun _ _ _=>by kernel_rfl) (fun _ _ _ _=>by kernel_rfl)
theorem Hx (c:ai) (F:Nat): ∀x∈cu lG.code oG,bV c F (sK c F) x.1 x.2:=eH 1 (by kernel_rfl) fun i hi=>match i,hi with|0,_=>GY c F|n+1,h=>absurd h (by omega)
theorem Hy (c:ai) (F:Nat) (x0:AV) (s:St):lN c F (sK c F) lG oG [x0] s=uQ c F x0 s:=by kernel_rfl
theorem EA {c:ai} (hc:Sem c) (F:Nat){x0:AV} {s:St} {r:AV×St} (h:uQ c F x0 s=some r):c 223 [x0] s=some (tidy s r):=hc.of (A:=lG) (by kernel_rfl) (by kernel_rfl) (Hx _ F) (by rw[Hy];exact h)
def Dc (c:ai) (F:Nat) (x0 x1:AV) (s:St):Option (AV×St):=
 af c .move [av] s fun x4 s0=>
 af c .move [x0] s0 fun x5 s1=>
 af c cT [x5,bS] s1 fun x6 s2=>
 af c .move [x6] s2 fun x7 s3=>
 ak c x7 false .move [x0] s3 fun x8 s4=>
 ak c x7 false gl [x8,(.int .i64 24)] s4 fun x9 s5=>
 af c .pick [x7,aN,x9] s5 fun aZ s6=>
 af c .move [aZ] s6 fun bh s7=>
 ak c bh false .move [x1] s7 fun bG s8=>
 ak c bh false cG [bG,av] s8 fun bQ s9=>
 af c .pick [bh,aN,bQ] s9 fun bR bT=>
 aJ bR (
    af c .move [av] bT fun x4 bL=>
    some (x4,bL)) (
    af c .move [x0] bT fun bH cr=>
 af c .move [bH] cr fun x4 cg=>
 some (x4,cg))
theorem Hq {c:ai} (hc:Sem c) (F:Nat){x0 x1:AV} {s:St} {r:AV×St} (h:Dc c F x0 x1 s=some r):c 232 [x0,x1] s=some (tidy s r):=hc.lF (A:=g232.getD default) (F:=F) (s:=(.seq none .leaf (.seq none aS cI))) (by kernel_rfl) (by kernel_rfl) (by kernel_rfl) (by kernel_rfl) h
def Ey (c:ai) (F:Nat) (x0 x1:AV) (s:St):Option (AV×St):=
 af c .move [av] s fun x4 s0=>
 af c .move [x0] s0 fun x5 s1=>
 af c cT [x5,bS] s1 fun x6 s2=>
 af c .move [x6] s2 fun x7 s3=>
 ak c x7 false .move [x0] s3 fun x8 s4=>
 ak c x7 false gl [x8,(.int .i64 11)] s4 fun x9 s5=>
 af c .pick [x7,aN,x9] s5 fun aZ s6=>
 af c .move [aZ] s6 fun bh s7=>
 ak c bh false .move [x1] s7 fun bG s8=>
 ak c bh false cT [bG,av] s8 fun bQ s9=>
 af c .pick [bh,aN,bQ] s9 fun bR bT=>
 af c .move [bR] bT fun bH bL=>
 ak c bH false .move [x1] bL fun ct cr=>
 ak c bH false gl [ct,l6] cr fun cw cg=>
 af c .pick [bH,aN,cw] cg fun bn cK=>
 aJ bn (
    af c .move [av] cK fun x4 cL=>
    some (x4,cL)) (
    af c .move [x0] cK fun bC cO=>
 af c (.bin .mul .num) [l6,bC] cO fun b9 cX=>
 af c .move [x1] cX fun fu cP=>
 af c bP [b9,fu] cP fun dW cQ=>
 af c .move [dW] cQ fun x4 eD=>
 some (x4,eD))
theorem IA {c:ai} (hc:Sem c) (F:Nat){x0 x1:AV} {s:St} {r:AV×St} (h:Ey c F x0 x1 s=some r):c 237 [x0,x1] s=some (tidy s r):=hc.lF (A:=g237.getD default) (F:=F) (s:=(.seq none .leaf (.seq none aS cI))) (by kernel_rfl) (by kernel_rfl) (by kernel_rfl) (by kernel_rfl) h
def Ez (c:ai) (F:Nat) (x0 x1:AV) (s:St):Option (AV×St):=
 af c .move [av] s fun x4 s0=>
 af c .move [x0] s0 fun x5 s1=>
 af c cT [x5,bS] s1 fun x6 s2=>
 af c .move [x6] s2 fun x7 s3=>
 ak c x7 false .move [x0] s3 fun x8 s4=>
 ak c x7 false gl [x8,(.int .i64 8)] s4 fun x9 s5=>
 af c .pick [x7,aN,x9] s5 fun aZ s6=>
 af c .move [aZ] s6 fun bh s7=>
 ak c bh false .move [x1] s7 fun bG s8=>
 ak c bh false cT [bG,bS] s8 fun bQ s9=>
 af c .pick [bh,aN,bQ] s9 fun bR bT=>
 af c .move [bR] bT fun bH bL=>
 ak c bH false .move [x1] bL fun ct cr=>
 ak c bH false gl [ct,(.int .i64 8)] cr fun cw cg=>
 af c .pick [bH,aN,cw] cg fun bn cK=>
 aJ bn (
    af c .move [av] cK fun x4 cL=>
    some (x4,cL)) (
    af c .move [x0] cK fun bC cO=>
 af c .move [x1] cO fun b9 cX=>
 af c (.bin .mul .num) [l6,b9] cX fun fu cP=>
 af c bP [bC,fu] cP fun dW cQ=>
 af c .move [dW] cQ fun x4 eD=>
 some (x4,eD))
theorem IB {c:ai} (hc:Sem c) (F:Nat){x0 x1:AV} {s:St} {r:AV×St} (h:Ez c F x0 x1 s=some r):c 242 [x0,x1] s=some (tidy s r):=hc.lF (A:=g242.getD default) (F:=F) (s:=(.seq none .leaf (.seq none aS cI))) (by kernel_rfl) (by kernel_rfl) (by kernel_rfl) (by kernel_rfl) h
def G8 (c:ai) (F:Nat) (x0 x1:AV) (s:St):Option (AV×St):=
 af c .move [av] s fun x4 s0=>
 af c .move [x0] s0 fun x5 s1=>
 af c cT [x5,bS] s1 fun x6 s2=>
 af c .move [x6] s2 fun x7 s3=>
 ak c x7 false .move [x0] s3 fun x8 s4=>
 ak c x7 false gl [x8,(.int .i64 24)] s4 fun x9 s5=>
 af c .pick [x7,aN,x9] s5 fun aZ s6=>
 af c .move [aZ] s6 fun bh s7=>
 ak c bh false .move [x1] s7 fun bG s8=>
 ak c bh false cT [bG,av] s8 fun bQ s9=>
 af c .pick [bh,aN,bQ] s9 fun bR bT=>
 af c .move [bR] bT fun bH bL=>
 ak c bH false .move [x1] bL fun ct cr=>
 ak c bH false .move [x0] cr fun cw cg=>
 ak c bH false gl [ct,cw] cg fun bn cK=>
 af c .pick [bH,aN,bn] cK fun bC cL=>
 aJ bC (
    af c .move [av] cL fun x4 cO=>
    some (x4,cO)) (
    af c .move [x0] cL fun b9 cX=>
 af c .move [b9] cX fun x4 cP=>
 some (x4,cP))
theorem JB {c:ai} (hc:Sem c) (F:Nat){x0 x1:AV} {s:St} {r:AV×St} (h:G8 c F x0 x1 s=some r):c 247 [x0,x1] s=some (tidy s r):=hc.lF (A:=g247.getD default) (F:=F) (s:=(.seq none .leaf (.seq none aS cI))) (by kernel_rfl) (by kernel_rfl) (by kernel_rfl) (by kernel_rfl) h
end Go.Proofs.YtehbdakjkjkekaaGreatDoor
end
section
set_option linter.all false
set_option maxRecDepth 100000
noncomputable section
namespace Go.Proofs.YtehbdakjkjkekaaGreatDoor
open Go Go.Ai Go.Proofs
def oR:aM:=g4.getD default
def oT:Sh:=(.seq none .leaf (.seq none .leaf (.seq none (.seq none .leaf (.block (.loop 0 [(.o .h),(.i .h),(.o (.o (.o .h))),(.i (.o (.o .h)))] [(2,[(.o (.o (.o .h)))])] (.seq none cj (.seq (some [(.o .h),(.i .h),(.o (.o (.o .h))),(.i (.o (.o .h)))]) (.block (.seq (some [(.o .h),(.i .h),(.o (.o (.o .h))),(.i (.o (.o .h)))]) cj (.seq none .leaf cj))) .leaf))))) (.seq none .leaf (.seq none .leaf (.seq none .leaf cI))))))
def uo (c:ai) (F:Nat) (k2:List AV->St->Option (AV×St)):Nat->List AV->St->Option (AV×St)
 |0,_,_=>none
 |n+1,vs,s=>ay vs fun x1 vs=>ay vs fun x2 vs=>ay vs fun x7 vs=>ay vs fun x8 vs=>bw vs (
 af c .move [x8] s fun b9 s8=>
 af c .move [x7] s8 fun fu s9=>
 af c dF [fu] s9 fun dW bT=>
 af c cT [b9,dW] bT fun eX bL=>
 aJ eX  (
    lS (fun j12=>
    lS (fun j14=>
     af c .move [x8] bL fun gW cO=>
     af c .move [x1] cO fun gY cX=>
     af c dF [gY] cX fun iQ cP=>
     af c cT [gW,iQ] cP fun gM cQ=>
     aJ gM (
        af c .move [x7] cQ fun gN eD=>
        af c .move [x8] eD fun jf fH=>
        af c .move [x1] fH fun dX gh=>
        af c .move [x8] gh fun jE ir=>
        af c vF [dX,jE] ir fun kI gL=>
        af c aB [kI] gL fun iw gj=>
        af c (.conv (.int .i64)) [iw] gj fun mB iP=>
        af c GK [mB,(.int .i64 1001)] iP fun iU fM=>
        af c Dv [gN,jf] fM fun kX gu=>
        af c eu [kX] gu fun jg fV=>
        af c (.store 1) [jg,iU] fV fun _ iu=>
        j14 [x1,x2,x7,x8] iu) (
        j14 [x1,x2,x7,x8] cQ))
    (fun vs cL=>ay vs fun x1 vs=>ay vs fun x2 vs=>ay vs fun x7 vs=>ay vs fun x8 vs=>bw vs (
     af c .move [x7] cL fun mC iT=>
     af c .move [x8] iT fun ji lu=>
     af c Dv [mC,ji] lu fun jF j8=>
     af c dM [jF] j8 fun mD j9=>
     af c aB [mD] j9 fun pz jD=>
     af c .move [pz] jD fun x9 jN=>
     af c .move [x8] jN fun jG kq=>
     af c .move [x2] kq fun lA kW=>
     af c dF [lA] kW fun kg ku=>
     af c cT [jG,kg] ku fun nX om=>
     af c .move [nX] om fun fW oo=>
     ak c fW true .move [x9] oo fun nY oq=>
     ak c fW true bF [nY,(.int .u8 1)] oq fun nA pq=>
     ak c fW true .move [nA] pq fun pG oK=>
     ak c pG false .move [x9] oK fun jH lz=>
     ak c pG false bF [jH,(.int .u8 4)] lz fun mL pE=>
     ak c fW true .pick [pG,aN,mL] pE fun ot pF=>
     ak c fW true .move [ot] pF fun lU p0=>
     ak c lU false .move [x9] p0 fun kK ny=>
     ak c lU false bF [kK,y6] ny fun lB og=>
     ak c fW true .pick [lU,aN,lB] og fun iV nU=>
     ak c fW true .move [iV] nU fun jO nV=>
     ak c jO false .move [x9] nV fun qu nW=>
     ak c jO false bF [qu,(.int .u8 15)] nW fun dx pH=>
     ak c fW true .pick [jO,aN,dx] pH fun ou oL=>
     ak c fW true .move [ou] oL fun qv iy=>
     ak c qv false .move [x9] iy fun lV rS=>
     ak c qv false bF [lV,(.int .u8 16)] rS fun nZ mM=>
     ak c fW true .pick [qv,aN,nZ] mM fun ov u7=>
     af c .pick [fW,ov,aD] u7 fun mE qt=>
     aJ mE (
        af c .move [x7] qt fun fX rU=>
        af c .move [x8] rU fun gO p6=>
        af c .move [x2] p6 fun rX ua=>
        af c .move [x8] ua fun xq qO=>
        af c vF [rX,xq] qO fun qw qP=>
        af c aB [qw] qP fun zC u9=>
        af c (.conv (.int .i64)) [zC] u9 fun qx qQ=>
        af c GK [qx,(.int .i64 1000000000)] qQ fun uI oM=>
        af c Dv [fX,gO] oM fun zD tS=>
        af c pK [zD] tS fun tT uH=>
        af c (.store 1) [tT,uI] uH fun _ ve=>
        j12 [x1,x2,x7,x8] ve) (
        j12 [x1,x2,x7,x8] qt))))
 (fun vs cg=>ay vs fun x1 vs=>ay vs fun x2 vs=>ay vs fun x7 vs=>ay vs fun x8 vs=>bw vs (
    af c .move [x8] cg fun fL vg=>
    af c bP [fL,bS] vg fun fy p7=>
    af c .move [fy] p7 fun x8 zB=>
    uo c F k2 n [x1,x2,x7,x8] zB))) (
    k2 [x7] bL))
def uM (c:ai) (F:Nat):Env (AV×St):=iF [(0,fun K n=>uo c F (K 2) n)]
theorem Cu (c:ai) (F:Nat):bV c F (uM c F) (cY oR oT 0).1 (cY oR oT 0).2:=dP (j:=0) (ins:=[(.o .h),(.i .h),(.o (.o (.o .h))),(.i (.o (.o .h)))]) (outs:=[(2,[(.o (.o (.o .h)))])]) (s:=(.seq none cj (.seq (some [(.o .h),(.i .h),(.o (.o (.o .h))),(.i (.o (.o .h)))]) (.block (.seq (some [(.o .h),(.i .h),(.o (.o (.o .h))),(.i (.o (.o .h)))]) cj (.seq none .leaf cj))) .leaf))) (by kernel_rfl) (fun _ _ _=>by kernel_rfl) (fun _ _ _ _=>by kernel_rfl)
theorem Tm (c:ai) (F:Nat): ∀x∈cu oR.code oT,bV c F (uM c F) x.1 x.2:=eH 1 (by kernel_rfl) fun i hi=>match i,hi with|0,_=>Cu c F|n+1,h=>absurd h (by omega)
def jI:aM:=g11.getD default
def l9:Sh:=(.seq none .leaf (.seq none .leaf (.seq none (.seq none .leaf (.block (.loop 0 [.h,(.o (.o .h)),(.i (.o .h))] [(2,[(.o (.o .h))])] (.seq none cj Jw)))) cI)))
def fe (c:ai) (F:Nat) (k2:List AV->St->Option (AV×St)):Nat->List AV->St->Option (AV×St)
 |0,_,_=>none
 |n+1,vs,s=>ay vs fun x0 vs=>ay vs fun x3 vs=>ay vs fun x4 vs=>bw vs (
 af c .move [x4] s fun x5 s3=>
 af c .move [x0] s3 fun x6 s4=>
 af c dF [x6] s4 fun x7 s5=>
 af c cT [x5,x7] s5 fun x8 s6=>
 aJ x8 (
    af c .move [x3] s6 fun bh s7=>
 af c .move [x0] s7 fun bG s8=>
 af c .move [x4] s8 fun bQ s9=>
 af c Dv [bG,bQ] s9 fun bR bT=>
 af c jz [bR] bT fun bH bL=>
 af c (.buildSlice 6 1 [aW,av,aC,aC,aC,av] [0]) [bH] bL fun ct cr=>
 af c (.append 6 72) [bh,ct] cr fun cw cg=>
 af c .move [cw] cg fun x3 cK=>
 af c .move [x4] cK fun x9 cL=>
 af c bP [x9,bS] cL fun aZ cO=>
 af c .move [aZ] cO fun x4 cX=>
 fe c F k2 n [x0,x3,x4] cX) (
    k2 [x3] s6))
def rB (c:ai) (F:Nat) (x0:AV) (s:St):Option (AV×St):=
 af c .move [.aj] s fun x2 s0=>
 af c .move [.aj] s0 fun x3 s1=>
 af c .move [av] s1 fun x4 s2=>
 fe c F (fun vs cP=>ay vs fun x3 vs=>bw vs (
    af c .move [x3] cP fun bn cQ=>
 af c .move [bn] cQ fun x2 eD=>
 some (x2,eD))) F [x0,x3,x4] s2
def pW (c:ai) (F:Nat):Env (AV×St):=iF [(0,fun K n=>fe c F (K 2) n)]
theorem CH (c:ai) (F:Nat):bV c F (pW c F) (cY jI l9 0).1 (cY jI l9 0).2:=dP (j:=0) (ins:=[.h,(.o (.o .h)),(.i (.o .h))]) (outs:=[(2,[(.o (.o .h))])]) (s:=(.seq none cj Jw)) (by kernel_rfl) (fun _ _ _=>by kernel_rfl) (fun _ _ _ _=>by kernel_rfl)
theorem DY (c:ai) (F:Nat): ∀x∈cu jI.code l9,bV c F (pW c F) x.1 x.2:=eH 1 (by kernel_rfl) fun i hi=>match i,hi with|0,_=>CH c F|n+1,h=>absurd h (by omega)
theorem DZ (c:ai) (F:Nat) (x0:AV) (s:St):lN c F (pW c F) jI l9 [x0] s=rB c F x0 s:=by kernel_rfl
end Go.Proofs.YtehbdakjkjkekaaGreatDoor
end
section
set_option linter.all false
set_option maxRecDepth 100000
noncomputable section
namespace Go.Proofs.YtehbdakjkjkekaaGreatDoor
open Go Go.Ai Go.Proofs
def bK:aM:=g5.getD default
def ck:Sh:=(.seq none .leaf (.seq none .leaf (.seq none (.seq none .leaf (.block (.loop 0 [(.o .h),(.i .h)] [(1,[.h]),(2,[(.o .h)])] (.seq none cj (.seq none (.block (.seq none .leaf (.block (.loop 1 [(.o .h),(.i .h),(.o (.o .h))] [(1,[.h]),(4,[(.o .h),(.i .h)])] (.seq none cj (.seq (some [(.o .h),(.i .h),(.o (.o .h))]) (.block (.seq none .leaf (.seq (some [(.o .h),(.i .h),(.o (.o .h)),(.i (.o .h))]) cj (.seq (some [(.o .h),(.i .h),(.o (.o .h)),(.i (.o .h))]) cj (.seq (some [(.o .h),(.i .h),(.o (.o .h)),(.i (.o .h))]) cj (.seq none .leaf (.seq (some [(.o .h),(.i .h),(.o (.o .h)),(.i (.o .h))]) cj aS))))))) .leaf)))))) .leaf))))) (.seq none (.seq none .leaf (.block (.loop 2 [(.o .h),(.o (.i (.o (.o (.i (.o .h)))))),(.i (.i (.o (.o (.i (.o .h)))))),(.o (.o (.i (.o (.i (.o .h))))))] [(1,[.h]),(6,[])] (.seq none .leaf (.seq none iz (.seq none (.block (.seq none .leaf aS)) .leaf)))))) (.seq none .leaf (.seq none (.seq none .leaf (.block (.loop 3 [(.o (.o (.o .h))),(.i (.o (.o .h)))] [(8,[(.o (.o (.o .h)))])] (.seq none cj Jw)))) (.seq none .leaf (.seq none (.seq none .leaf aS) (.seq none (.seq none .leaf aS) (.seq none (.seq none .leaf (.block (.loop 4 [(.i (.i (.i (.i (.o (.o (.o .h))))))),(.o (.o (.o (.o (.i (.o (.o .h))))))),(.i (.o (.o (.o (.i (.o (.o .h)))))))] [(1,[.h]),(10,[])] (.seq none .leaf (.seq none iz (.seq none (.block (.seq none .leaf (.seq none .leaf aS))) .leaf)))))) cI))))))))))
def dD (c:  ai) (F:Nat) (k1 k4:List AV->St->Option (AV×St)):Nat->List AV->St->Option (AV×St)
 |0,_,_=>none
 |n+1,vs,s=>ay vs fun x1 vs=>ay vs fun x2 vs=>ay vs fun x3 vs=>bw vs (
 af c .move [x3] s fun eX s8=>
 af c cT [eX,(.int .i64 128)] s8 fun fL s9=>
 aJ fL  (
    lS (fun zQ=>
    af c .move [x2] s9 fun gY cr=>
    af c (.conv (.int .u8)) [gY] cr fun iQ cg=>
    af c (.build [aW,av,aC,aC,aC,av] [(0,1)]) [iQ] cg fun gM cK=>
    af c (.alloc [aW,av,aC,aC,aC,av]) [] cK fun x4 cL=>
    af c vG [x4,gM] cL fun _ cO=>
    lS (fun j17=>
     af c .move [x3] cO fun gN cQ=>
     af c GK [gN,l6] cQ fun jf eD=>
     af c bF [jf,bS] eD fun dX fH=>
     aJ dX (
        af c eN [x4] fH fun jE gh=>
        af c (.store 1) [jE,(.str [97,110,110,97])] gh fun _ ir=>
        j17 [x1,x2,x3,x4] ir) (
        j17 [x1,x2,x3,x4] fH))
    (fun vs cP=>ay vs fun x1 vs=>ay vs fun x2 vs=>ay vs fun x3 vs=>ay vs fun x4 vs=>bw vs (
     lS (fun j24=>
        af c .move [x3] cP fun kI iP=>
        af c (.bin .quo .num) [kI,l6] iP fun iw fM=>
        af c GK [iw,l6] fM fun mB gu=>
        af c bF [mB,bS] gu fun iU fV=>
        aJ iU (
         af c gQ [x4] fV fun kX iu=>
         af c (.store 1) [kX,(.str [98,111,114,105,115])] iu fun _ iT=>
         j24 [x1,x2,x3,x4] iT) (
         j24 [x1,x2,x3,x4] fV))
     (fun vs  gj=>ay vs fun x1 vs=>ay vs fun x2 vs=>ay vs fun x3 vs=>ay vs fun x4 vs=>bw vs (
        lS (fun j32=>
         af c .move [x3] gj fun jg j9=>
         af c (.bin .quo .num) [jg,(.int .i64 4)] j9 fun mC jD=>
         af c GK [mC,l6] jD fun ji jN=>
         af c bF [ji,bS] jN fun jF kq=>
         aJ jF (
            af c l7 [x4] kq fun mD kW=>
            af c (.store 1) [mD,(.str [119])] kW fun _ ku=>
            j32 [x1,x2,x3,x4] ku) (
            j32 [x1,x2,x3,x4] kq))
        (fun vs j8=>ay vs fun x1 vs=>ay vs fun x2 vs=>ay vs fun x3 vs=>ay vs fun x4 vs=>bw vs (
         af c (.buildSlice 1 8 [av] [0,1,2,3,4,5,6,7]) [av,bS,l6,(.int .i64 24),(.int .i64 25),GO,(.int .i64 5),AN] j8 fun pz om=>
         af c .move [x3] om fun jG oo=>
         af c (.bin .quo .num) [jG,(.int .i64 8)] oo fun lA oq=>
         af c GK [lA,(.int .i64 8)] oq fun kg pq=>
         af c vF [pz,kg] pq fun nX oK=>
         af c aB [nX] oK fun fW lz=>
         af c pK [x4] lz fun nY pE=>
         af c (.store 1) [nY,fW] pE fun _ pF=>
         lS ( fun j48=>
            af c .move [x3] pF fun nA og=>
            af c (.bin .quo .num) [nA,Dw] og fun pG nU=>
            af c bF [pG,bS] nU fun jH nV=>
            aJ jH (
              af c eu [x4] nV fun mL nW=>
              af c (.store 1) [mL,(.int .i64 7)] nW fun _ pH=>
              j48 [x1,x2,x3,x4] pH) (
              j48 [x1,x2,x3,x4] nV))
         (fun vs ny=>ay vs fun x1 vs=>ay vs fun x2 vs=>ay vs fun x3 vs=>ay vs fun x4 vs=>bw vs (
            fE qd [x1] ny.heap (fun _=>true) fun ot=>
            fE jz [x4] ny.heap (fun _=>true) fun lU=>
            af c (.callF 15) [ot,lU] ny fun kK oL=>
            fE qd [x1] oL.heap (fun v=>dH qd [x1] v (eo [] ny.heap)&&true) fun lB=>
            fE jz [x4] oL.heap (fun v=>dH jz [x4] v (eo [] ny.heap)&&true) fun iV=>
            af c (.callF 16) [lB,iV] oL fun jO iy=>
            bg cG [kK,jO] fun qu=>
            bg .move [qu] fun dx=>
            xS dx false jz [x4] iy.heap (fun _=>true) fun ou=>
            sR dx false (By (.buildSlice 6 1 [aW,av,aC,aC,aC,av] [0]) [ou] iy fun qv OT=>
            sR dx false (af c (.callF 7) [qv] (au iy OT) fun lV mM=>
            xS dx false jz [x4] mM.heap (fun v=>dH jz [x4] v (eo [] iy.heap)&&true) fun nZ=>
            sR dx false (By (.buildSlice 6 1 [aW,av,aC,aC,aC,av] [0]) [nZ] mM fun ov b59=>
            sR dx false (af c (.callF 8) [ov] (au mM b59) fun mE qt=>
            jd dx false cG [lV,mE] fun fX=>
            bg .pick [dx,aN,fX] fun gO=>
            aJ gO (
              af c .move [aD] qt fun x0 rU=>
              k1 [x0] rU) (
              zQ [x1,x2,x3] qt)) (jd dx false cG [lV,.undef] fun fX=>
            bg .pick [dx,aN,fX] fun gO=>
            aJ gO (
              af c .move [aD] (au mM b59) fun x0 p6=>
              k1 [x0] p6) (
              zQ [x1,x2,x3] (au mM b59)))) (sR dx false (af c (.callF 8) [.undef] mM fun mE ua=>
            jd dx false cG [lV,mE] fun fX=>
            bg .pick [dx,aN,fX] fun gO=>
            aJ gO (
              af c .move [aD] ua fun x0 qO=>
              k1 [x0] qO) (
              zQ [x1,x2,x3] ua)) (jd dx false cG [lV,.undef] fun fX=>
            bg .pick [dx,aN,fX] fun gO=>
            aJ gO (
              af c .move [aD] mM fun x0 qP=>
              k1 [x0] qP) (
              zQ [x1,x2,x3] mM)))) (xS dx false jz [x4] iy.heap (fun _=>true) fun nZ=>
            sR dx false (By (.buildSlice 6 1 [aW,av,aC,aC,aC,av] [0]) [nZ] (au iy OT) fun ov b66=>
            sR dx false (af c (.callF 8) [ov] (au (au iy OT) b66) fun mE qQ=>
            jd dx false cG [.undef,mE] fun fX=>
            bg .pick [dx,aN,fX] fun gO=>
            aJ gO (
              af c .move [aD] qQ fun x0 oM=>
              k1 [x0] oM) (
              zQ [x1,x2,x3] qQ)) (jd dx false cG [.undef,.undef] fun fX=>
            bg .pick [dx,aN,fX] fun gO=>
            aJ gO (
              af c .move [aD] (au (au iy OT) b66) fun x0 tS=>
              k1 [x0] tS) (
              zQ [x1,x2,x3] (au (au iy OT) b66)))) (sR dx false (af c (.callF 8) [.undef] (au iy OT) fun mE uH=>
            jd dx false cG [.undef,mE] fun fX=>
            bg .pick [dx,aN,fX] fun gO=>
            aJ gO (
              af c .move [aD] uH fun x0 ve=>
              k1 [x0] ve) (
              zQ [x1,x2,x3] uH)) (jd dx false cG [.undef,.undef] fun fX=>
            bg .pick [dx,aN,fX] fun gO=>
            aJ gO (
              af c .move [aD] (au iy OT) fun x0 vg=>
              k1 [x0] vg) (
              zQ [x1,x2,x3] (au iy OT)))))) (sR dx false (af c (.callF 7) [.undef] iy fun lV p7=>
            xS dx false jz [x4] p7.heap (fun v=>dH jz [x4] v (eo [] iy.heap)&&true) fun nZ=>
            sR dx false (By (.buildSlice 6 1 [aW,av,aC,aC,aC,av] [0]) [nZ] p7 fun ov b74=>
            sR dx false (af c (.callF 8) [ov] (au p7 b74) fun mE vh=>
            jd dx false cG [lV,mE] fun fX=>
            bg .pick [dx,aN,fX] fun gO=>
            aJ gO (
              af c .move [aD] vh fun x0 wC=>
              k1 [x0] wC) (
              zQ [x1,x2,x3] vh)) (jd dx false cG [lV,.undef] fun fX=>
            bg .pick [dx,aN,fX] fun gO=>
            aJ gO (
              af c .move [aD] (au p7 b74) fun x0 xX=>
              k1 [x0] xX) (
              zQ [x1,x2,x3] (au p7 b74)))) (sR dx false (af c (.callF 8) [.undef] p7 fun mE xY=>
            jd dx false cG [lV,mE] fun fX=>
            bg .pick [dx,aN,fX] fun gO=>
            aJ gO (
              af c .move [aD] xY fun x0 zE=>
              k1 [x0] zE) (
              zQ [x1,x2,x3] xY)) (jd dx false cG [lV,.undef] fun fX=>
            bg .pick [dx,aN,fX] fun gO=>
            aJ gO (
              af c .move [aD] p7 fun x0 zF=>
              k1 [x0] zF) (
              zQ [x1,x2,x3] p7)))) (xS dx false jz [x4] iy.heap (fun _=>true) fun nZ=>
            sR dx false (By (.buildSlice 6 1 [aW,av,aC,aC,aC,av] [0]) [nZ] iy fun ov b81=>
            sR dx false (af c (.callF 8) [ov] (au iy b81) fun mE Ao=>
            jd dx false cG [.undef,mE] fun fX=>
            bg .pick [dx,aN,fX] fun gO=>
            aJ gO (
              af c .move [aD] Ao fun x0 EG=>
              k1 [x0] EG) (
              zQ [x1,x2,x3] Ao)) (jd dx false cG [.undef,.undef] fun fX=>
            bg .pick [dx,aN,fX] fun gO=>
            aJ gO (
              af c .move [aD] (au iy b81) fun x0 BL=>
              k1 [x0] BL) (
              zQ [x1,x2,x3] (au iy b81)))) (sR dx false (af c (.callF 8) [.undef] iy fun mE Ap=>
            jd dx false cG [.undef,mE] fun fX=>
            bg .pick [dx,aN,fX] fun gO=>
            aJ gO (
              af c .move [aD] Ap fun x0 BN=>
              k1 [x0] BN) (
              zQ [x1,x2,x3] Ap)) (jd dx false cG [.undef,.undef] fun fX=>
            bg .pick [dx,aN,fX] fun gO=>
            aJ gO (
              af c .move [aD] iy fun x0 zG=>
              k1 [x0] zG) (
              zQ [x1,x2,x3] iy))))))))))))))
 (fun vs bL=>ay vs fun x1 vs=>ay vs fun x2 vs=>ay vs fun x3 vs=>bw vs (
    af c .move [x3] bL fun fy BP=>
    af c bP [fy,bS] BP fun gW BR=>
    af c .move [gW] BR fun x3 Aq=>
    dD c F k1 k4 n [x1,x2,x3] Aq))) (
    k4 [x1,x2] s9))
def fC (c:ai) (F:Nat) (k1 k2:List AV->St->Option (AV×St)):Nat->List AV->St->Option (AV×St)
 |0,_,_=>none
 |n+1,vs,s=>ay vs fun x1 vs=>ay vs fun x2 vs=>bw vs (
 af c .move [x2] s fun bC s5=>
 af c cT [bC,(.int .i64 21)] s5 fun b9 s6=>
 aJ b9 (
    af c .move [av] s6 fun x3 s7=>
 dD c F (fun vs II=>ay vs fun x0 vs=>bw vs (
    k1 [x0] II)) (fun vs BT=>ay vs fun x1 vs=>ay vs fun x2 vs=>bw vs (
    af c .move [x2] BT fun fu BU=>
 af c bP [fu,bS] BU fun dW zI=>
 af c .move [dW] zI fun x2 EN=>
 fC c F k1 k2 n [x1,x2] EN)) F [x1,x2,x3] s7) (
    k2 [x1] s6))
def fD (c:ai) (F:Nat) (k1 k6:List AV->St->Option (AV×St)):Nat->List AV->St->Option (AV×St)
 |0,_,_=>none
 |n+1,vs,s=>ay vs fun x1 vs=>ay vs fun xw vs=>ay vs fun sU vs=>ay vs fun uJ vs=>bw vs (
 af c cT [uJ,sU] s fun BM z8=>
 aJ BM (
    af c Dv [xw,uJ] z8 fun qz xz=>
 af c jz [qz] xz fun BO Ca=>
 af c (.alloc [aW,av,aC,aC,aC,av]) [] Ca fun x6 Cb=>
 af c vG [x6,BO] Cb fun _ vW=>
 fE qd [x1] vW.heap (fun _=>true) fun tU=>
 fE jz [x6] vW.heap (fun _=>true) fun BQ=>
 af c (.callF 15) [tU,BQ] vW fun BS xB=>
 fE qd [x1] xB.heap (fun v=>dH qd [x1] v (eo [] vW.heap)&&true) fun zH=>
 fE jz [x6] xB.heap (fun v=>dH jz [x6] v (eo [] vW.heap)&&true) fun Dp=>
 af c (.callF 16) [zH,Dp] xB fun EH Aa=>
 bg cG [BS,EH] fun EI=>
 aJ EI (
    af c .move [aD] Aa fun x0 Cc=>
    k1 [x0] Cc) (
    af c bP [uJ,bS] Aa fun BV Ab=>
 af c .move [BV] Ab fun uJ yM=>
 fD c F k1 k6 n [x1,xw,sU,uJ] yM)) (
    k6 [] z8))
def ez (c:ai) (F:Nat) (k8:List AV->St->Option (AV×St)):Nat->List AV->St->Option (AV×St)
 |0,_,_=>none
 |n+1,vs,s=>ay vs fun x7 vs=>ay vs fun x8 vs=>bw vs (
 af c .move [x8] s fun rY Ac=>
 af c cT [rY,Dw] Ac fun EJ xo=>
 aJ EJ (
    af c .move [x7] xo fun EK yw=>
 af c .move [x8] yw fun yC yx=>
 af c (.build [aW,av,aC,aC,aC,av] [(0,1),(1,1)]) [(.int .u8 18),yC] yx fun yD yy=>
 af c (.buildSlice 6 1 [aW,av,aC,aC,aC,av] [0]) [yD] yy fun qA Gs=>
 af c (.append 6 72) [EK,qA] Gs fun yE Gt=>
 af c .move [yE] Gt fun x7 Gu=>
 af c .move [x8] Gu fun xx Gv=>
 af c bP [xx,bS] Gv fun tV Gx=>
 af c .move [tV] Gx fun x8 KT=>
 ez c F k8 n [x7,x8] KT) (
    k8 [x7] xo))
def c9 (c:ai) (F:Nat) (k1 wD:List AV->St->Option (AV×St)):Nat->List AV->St->Option (AV×St)
 |0,_,_=>none
 |n+1,vs,s=>ay vs fun Gz vs=>ay vs fun IJ vs=>ay vs fun Ci vs=>bw vs (
 af c cT [Ci,IJ] s fun Rt s185=>
 aJ Rt (
    af c vF [Gz,Ci] s185 fun Rv s186=>
 af c aB [Rv] s186 fun Rx s187=>
 af c .move [Rx] s187 fun bH s188=>
 af c .move [bH] s188 fun RD s189=>
 af c (.callF 18) [RD,.aj] s189 fun RE s190=>
 af c .move [RE] s190 fun NK s191=>
 af c sV [NK] s191 fun RG s192=>
 af c sW [NK] s192 fun RI s193=>
 af c .move [RG] s193 fun ct s194=>
 af c .move [RI] s194 fun cw s195=>
 af c .move [bH] s195 fun RL s196=>
 af c (.callF 19) [RL,.aj] s196 fun RN s197=>
 af c .move [RN] s197 fun Lj s198=>
 ak c Lj false .move [bH] s198 fun RQ s199=>
 ak c Lj false (.callF 20) [RQ,.aj] s199 fun RV s200=>
 af c .pick [Lj,aN,RV] s200 fun RX s201=>
 af c .move [RX] s201 fun sF s202=>
 ak c sF false .move [cw] s202 fun R4 s203=>
 af c .pick [sF,aN,R4] s203 fun R6 s204=>
 af c .move [R6] s204 fun jU s205=>
 ak c jU false .move [ct] s205 fun R9 s206=>
 ak c jU false .move [bH] s206 fun yP s207=>
 ak c jU false (.callF 21) [yP,.aj,av] s207 fun Sc s208=>
 ak c jU false bP [R9,Sc] s208 fun Se s209=>
 ak c jU false .move [bH] s209 fun Sf s210=>
 ak c jU false (.callF 22) [Sf,.aj,av] s210 fun Si s211=>
 ak c jU false bP [Se,Si] s211 fun Sk s212=>
 ak c jU false .move [bH] s212 fun Sm s213=>
 ak c jU false (.callF 23) [Sm,.aj] s213 fun x171 s214=>
 ak c jU false bP [Sk,x171] s214 fun x172 s215=>
 ak c jU false .move [bH] s215 fun x173 s216=>
 ak c jU false (.callF 24) [x173,.aj] s216 fun x174 s217=>
 ak c jU false bP [x172,x174] s217 fun x175 s218=>
 ak c jU false .move [bH] s218 fun x176 s219=>
 ak c jU false (.callF 25) [x176,.aj] s219 fun x177 s220=>
 ak c jU false dF [x177] s220 fun x178 s221=>
 ak c jU false bP [x175,x178] s221 fun x179 s222=>
 ak c jU false .move [bH] s222 fun x180 s223=>
 ak c jU false (.callF 26) [x180,.aj] s223 fun x181 s224=>
 ak c jU false dF [x181] s224 fun x182 s225=>
 ak c jU false bP [x179,x182] s225 fun x183 s226=>
 ak c jU false .move [bH] s226 fun x184 s227=>
 ak c jU false (.callF 27) [x184,.aj,av] s227 fun x185 s228=>
 ak c jU false dF [x185] s228 fun x186 s229=>
 ak c jU false bP [x183,x186] s229 fun x187 s230=>
 ak c jU false cG [x187,av] s230 fun x188 s231=>
 af c .pick [jU,aN,x188] s231 fun x189 s232=>
 af c .move [x189] s232 fun NW s233=>
 ak c NW false .move [bH] s233 fun x191 s234=>
 ak c NW false (.callF 29) [x191] s234 fun x192 s235=>
 ak c NW false (.build [.aj,.aj,.aj,.aj,.aj] []) [] s235 fun x193 s236=>
 ak c NW false (.callF 28) [x192,x193] s236 fun x194 s237=>
 ak c NW false iA [x194] s237 fun x195 s238=>
 af c .pick [NW,aN,x195] s238 fun x196 s239=>
 aJ x196 (
    af c .move [aD] s239 fun x0 s240=>
    k1 [x0] s240) (
    af c bP [Ci,bS] s239 fun x197 s241=>
 af c .move [x197] s241 fun Ci s242=>
 c9 c F k1 wD n [Gz,IJ,Ci] s242)) (
    wD [] s185))
def gT (c:ai) (F:Nat) (s:St):Option (AV×St):=
 af c .move [aD] s fun x0 s0=>
 af c (.callF 14) [.aj] s0 fun bn s1=>
 af c (.alloc [.aj,.aj,.aj,.aj,.aj]) [] s1 fun x1 s2=>
 af c (.store 5) [x1,bn] s2 fun _ s3=>
 af c .move [av] s3 fun x2 s4=>
 fC c F (fun vs BW=>ay vs fun x0 vs=>bw vs (
    some (x0,BW))) (fun vs BX=>ay vs fun x1 vs=>bw vs (
    af c (.build [aW,av,aC,aC,aC,av] [(0,1),(1,1)]) [(.int .u8 18),GO] BX fun rX BZ=>
 af c (.build [aW,av,aC,aC,aC,av] [(0,1),(1,1)]) [(.int .u8 18),Du] BZ fun xq B5=>
 af c (.build [aW,av,aC,aC,aC,av] [(0,1),(1,1)]) [(.int .u8 18),(.int .i64 1001)] B5 fun qw vU=>
 af c (.build [aW,av,aC,aC,aC,av] [(0,1),(2,1),(3,1)]) [(.int .u8 1),(.str [97,110,110,97]),(.str [97,110,110,97])] vU fun zC sD=>
 af c (.build [aW,av,aC,aC,aC,av] [(0,1),(2,1),(4,1),(5,1)]) [y6,(.str [97,110,110,97]),(.str [114]),(.int .i64 5)] sD fun qx vV=>
 af c (.build [aW,av,aC,aC,aC,av] [(0,1),(2,1),(4,1),(5,1)]) [y6,(.str [97,110,110,97]),(.str [114]),AN] vV fun uI tX=>
 af c (.build [aW,av,aC,aC,aC,av] [(0,1),(2,1),(4,1),(5,1)]) [y6,(.str [101,118,101]),(.str [120]),AN] tX fun zD tY=>
 af c (.build [aW,av,aC,aC,aC,av] [(0,1),(2,1),(4,1)]) [AM,(.str [86,101,103,97,110]),(.str [120])] tY fun tT yF=>
 af c (.build [aW,av,aC,aC,aC,av] [(0,1),(4,1)]) [AM,(.str [114])] yF fun qy yG=>
 af c (.build [aW,av,aC,aC,aC,av] [(0,1),(2,1)]) [(.int .u8 6),(.str [97,110,110,97])] yG fun BK yH=>
 af c (.buildSlice 6 10 [aW,av,aC,aC,aC,av] [0,1,2,3,4,5,6,7,8,9]) [rX,xq,qw,zC,qx,uI,zD,tT,qy,BK] yH fun xw yI=>
 af c dF [xw] yI fun sU yK=>
 af c .move [av] yK fun uJ xy=>
 fD c F (fun vs GQ=>ay vs fun x0 vs=>bw vs (
    some (x0,GQ))) (fun vs Gk=>bw vs (
    af c .move [.aj] Gk fun x7 Cd=>
 af c .move [av] Cd fun x8 Ce=>
 ez c F (fun vs KV=>ay vs fun x7 vs=>bw vs (
    af c .move [x7] KV fun zY KW=>
 af c (.callF 11) [zY] KW fun pS KY=>
 af c (.build [aW,av,aC,aC,aC,av] [(0,1)]) [(.int .u8 18)] KY fun pR KZ=>
 af c (.buildSlice 6 1 [aW,av,aC,aC,aC,av] [0]) [pR] KZ fun yJ K5=>
 af c (.append 6 72) [pS,yJ] K5 fun B6 K8=>
 af c .move [B6] K8 fun x9 K9=>
 af c .move [x7] K9 fun B7 La=>
 af c (.callF 14) [B7] La fun Gd Lb=>
 af c (.callF 17) [Gd] Lb fun Ge Lc=>
 af c .move [Ge] Lc fun zZ Ld=>
 af c sV [zZ] Ld fun rq Le=>
 af c sW [zZ] Le fun Gf IK=>
 af c .move [rq] IK fun aZ NV=>
 af c .move [Gf] NV fun bh Lf=>
 af c .move [bh] Lf fun Gg Lg=>
 af c cG [Gg,av] Lg fun Gh s152=>
 aJ Gh (
    af c .move [aD] s152 fun x0 Rz=>
    some (x0,Rz)) (
    af c .move [x9] s152 fun Gi Rw=>
 af c (.callF 14) [Gi] Rw fun Gj Lh=>
 af c (.callF 17) [Gj] Lh fun xC Ry=>
 af c .move [xC] Ry fun DS s157=>
 af c sV [DS] s157 fun Gl RU=>
 af c sW [DS] RU fun Gm RB=>
 af c .move [Gl] RB fun bG Li=>
 af c .move [Gm] Li fun bQ RF=>
 af c .move [bG] RF fun Gp RH=>
 af c cG [Gp,Dw] RH fun ru RJ=>
 af c .move [ru] RJ fun Cf RM=>
 ak c Cf false .move [bQ] RM fun Gq RO=>
 ak c Cf false cG [Gq,(.int .i64 7)] RO fun Gr RP=>
 af c .pick [Cf,aN,Gr] RP fun yN RS=>
 af c .move [yN] RS fun Ad RT=>
 ak c Ad false .move [x9] RT fun Cg RW=>
 ak c Ad false (.callF 7) [Cg] RW fun KS RY=>
 ak c Ad false cG [KS,aC] RY fun pT RZ=>
 af c .pick [Ad,aN,pT] RZ fun KU R5=>
 af c .move [KU] R5 fun Ch R7=>
 ak c Ch false .move [x7] R7 fun KX R8=>
 ak c Ch false (.callF 7) [KX] R8 fun yO Sa=>
 ak c Ch false sY [yO] Sa fun Rp Sb=>
 ak c Ch false bF [Rp,av] Sb fun Rq Sd=>
 af c .pick [Ch,aN,Rq] Sd fun Rr NL=>
 aJ Rr (
    af c .move [aD] NL fun x0 Sg=>
    some (x0,Sg)) (
    af c (.build [.aj,.aj,.aj,.aj,.aj,.gA,.aj,.aj,.aj,.aj,.aj,.aj,.aj,.aj] []) [] NL fun Rs Sj=>
 af c .box [Rs] Sj fun Gy Sl=>
 af c (.buildSlice 1 2 [.bq] [0,1]) [.bq,Gy] Sl fun Gz Ll=>
 af c dF [Gz] Ll fun IJ Sn=>
 af c .move [av] Sn fun Ci So=>
 c9 c F (fun vs s243=>ay vs fun x0 vs=>bw vs (
    some (x0,s243))) (fun vs s244=>bw vs (
    af c (.callF 6) [] s244 fun x198 s245=>
 af c .move [x198] s245 fun x0 s246=>
 some (x0,s246))) F [Gz,IJ,Ci] So)))) F [x7,x8] Ce)) F [x1,xw,sU,uJ] xy)) F [x1,x2] s4
def eK (c:ai) (F:Nat):Env (AV×St):=iF [(0,fun K n=>fC c F (K 1) (K 2) n),(1,fun K n=>dD c F (K 1) (K 4) n),(2,fun K n=>fD c F (K 1) (K 6) n),(3,fun K n=>ez c F (K 8) n),(4,fun K n=>c9 c F (K 1) (K 10) n)]
theorem AO (c:ai) (F:Nat):bV c F (eK c F) (cY bK ck 0).1 (cY bK ck 0).2:=dP (j:=0) (ins:=[(.o .h),(.i .h)]) (outs:=[(1,[.h]),(2,[(.o .h)])]) (s:=(.seq none cj (.seq none (.block (.seq none .leaf (.block (.loop 1 [(.o .h),(.i .h),(.o (.o .h))] [(1,[.h]),(4,[(.o .h),(.i .h)])] (.seq none cj (.seq (some [(.o .h),(.i .h),(.o (.o .h))]) (.block (.seq none .leaf (.seq (some [(.o .h),(.i .h),(.o (.o .h)),(.i (.o .h))]) cj (.seq (some [(.o .h),(.i .h),(.o (.o .h)),(.i (.o .h))]) cj (.seq (some [(.o .h),(.i .h),(.o (.o .h)),(.i (.o .h))]) cj (.seq none .leaf (.seq (some [(.o .h),(.i .h),(.o (.o .h)),(.i (.o .h))]) cj aS))))))) .leaf)))))) .leaf))) (by kernel_rfl) (fun _ _ _=>by kernel_rfl) (fun _ _ _ _=>by kernel_rfl)
theorem AP (c:ai) (F:Nat):bV c F (eK c F) (cY bK ck 1).1 (cY bK ck 1).2:=dP (j:=1) (ins:=[(.o .h),(.i .h),(.o (.o .h))]) (outs:=[(1,[.h]),(4,[(.o .h),(.i .h)])]) (s:=(.seq none cj (.seq (some [(.o .h),(.i .h),(.o (.o .h))]) (.block (.seq none .leaf (.seq (some [(.o .h),(.i .h),(.o (.o .h)),(.i (.o .h))]) cj (.seq (some [(.o .h),(.i .h),(.o (.o .h)),(.i (.o .h))]) cj (.seq (some [(.o .h),(.i .h),(.o (.o .h)),(.i (.o .h))]) cj (.seq none .leaf (.seq (some [(.o .h),(.i .h),(.o (.o .h)),(.i (.o .h))]) cj aS))))))) .leaf))) (by kernel_rfl) (fun _ _ _=>by kernel_rfl) (fun _ _ _ _=>by kernel_rfl)
theorem AQ (c:ai) (F:Nat):bV c F (eK c F) (cY bK ck 2).1 (cY bK ck 2).2:=dP (j:=2) (ins:=[(.o .h),(.o (.i (.o (.o (.i (.o .h)))))),(.i (.i (.o (.o (.i (.o .h)))))),(.o (.o (.i (.o (.i (.o .h))))))]) (outs:=[(1,[.h]),(6,[])]) (s:=(.seq none .leaf (.seq none iz (.seq none (.block (.seq none .leaf aS)) .leaf)))) (by kernel_rfl) (fun _ _ _=>by kernel_rfl) (fun _ _ _ _=>by kernel_rfl)
theorem AR (c:ai) (F:Nat):bV c F (eK c F) (cY bK ck 3).1 (cY bK ck 3).2:=dP (j:=3) (ins:=[(.o (.o (.o .h))),(.i (.o (.o .h)))]) (outs:=[(8,[(.o (.o (.o .h)))])]) (s:=(.seq none cj Jw)) (by kernel_rfl) (fun _ _ _=>by kernel_rfl) (fun _ _ _ _=>by kernel_rfl)
theorem AS (c:ai) (F:Nat):bV c F (eK c F) (cY bK ck 4).1 (cY bK ck 4).2:=dP (j:=4) (ins:=[(.i (.i (.i (.i (.o (.o (.o .h))))))),(.o (.o (.o (.o (.i (.o (.o .h))))))),(.i (.o (.o (.o (.i (.o (.o .h)))))))]) (outs:=[(1,[.h]),(10,[])]) (s:=(.seq none .leaf (.seq none iz (.seq none (.block (.seq none .leaf (.seq none .leaf aS))) .leaf)))) (by kernel_rfl) (fun _ _ _=>by kernel_rfl) (fun _ _ _ _=>by kernel_rfl)
theorem Cv (c:ai) (F:Nat): ∀x∈cu bK.code ck,bV c F (eK c F) x.1 x.2:=eH 5 (by kernel_rfl) fun i hi=>match i,hi with|0,_=>AO c F|1,_=>AP c F|2,_=>AQ c F|3,_=>AR c F|4,_=>AS c F|n+5,h=>absurd h (by omega)
theorem Cw (c:ai) (F:Nat) (s:St):lN c F (eK c F) bK ck [] s=gT c F s:=by kernel_rfl
theorem Af {c:ai} (hc:iR c) (F:Nat){x:AV} {s:St} {r:AV×St} (h:gT c F s=some r):c 5 [] s=some (tidy s r):=hc.of (A:=bK) (by kernel_rfl) (by kernel_rfl) (Cv _ F) (by rw[Cw];exact h)
def ry (c:ai) (F:Nat) (x0:AV) (s:St):Option (AV×St):=
 af c (.alloc [.aj,.aj,.aj,.aj,.aj]) [] s fun x2 s0=>
 af c (.buildSlice 1 1 [av] [0]) [bS] s0 fun x3 s1=>
 af c (.build [aC,aW,av,av,.aj,av,av] [(0,1),(1,1),(2,1),(4,1)]) [(.str [114]),(.int .u8 1),AN,x3] s1 fun x4 s2=>
 af c (.build [aC,aW,av,av,.aj,av,av] [(0,1),(1,1),(2,1)]) [(.str [119]),(.int .u8 4),l6] s2 fun x5 s3=>
 af c (.buildSlice 7 2 [aC,aW,av,av,.aj,av,av] [0,1]) [x4,x5] s3 fun x6 s4=>
 af c (.buildSlice 1 1 [aC] [0]) [(.str [108,97,116,105,110])] s4 fun x7 s5=>
 af c (.build [aC,aC,aC,av,av,aC,aD,aD,.aj] [(0,1),(4,1),(6,1),(8,1)]) [(.str [97,110,110,97]),bS,aN,x7] s5 fun x8 s6=>
 af c (.buildSlice 1 1 [aC] [0]) [(.str [108,97,116,105,110])] s6 fun x9 s7=>
 af c (.build [aC,aC,aC,av,av,aC,aD,aD,.aj] [(0,1),(4,1),(8,1)]) [(.str [98,111,114,105,115]),bS,x9] s7 fun aZ s8=>
 af c (.buildSlice 1 1 [aC] [0]) [(.str [108,97,116,105,110])] s8 fun bh s9=>
 af c (.build [aC,aC,aC,av,av,aC,aD,aD,.aj] [(0,1),(4,1),(7,1),(8,1)]) [(.str [99,97,114,108]),l6,aN,bh] s9 fun bG bT=>
 af c (.build [aC,aC,aC,av,av,aC,aD,aD,.aj] [(0,1)]) [(.str [100,111,114,97])] bT fun bQ bL=>
 af c (.buildSlice 9 4 [aC,aC,aC,av,av,aC,aD,aD,.aj] [0,1,2,3]) [x8,aZ,bG,bQ] bL fun bR cr=>
 af c (.build [aC,aC,aW] [(0,1),(1,1),(2,1)]) [(.str [97,110,110,97]),(.str [98,111,114,105,115]),(.int .u8 2)] cr fun bH cg=>
 af c (.buildSlice 3 1 [aC,aC,aW] [0]) [bH] cg fun ct cK=>
 af c (.buildSlice 1 4 [av] [0,1,2,3]) [av,bS,bS,l6] cK fun cw cL=>
 af c .move [x0] cL fun bn cO=>
 af c (.build [.aj,.aj,.aj,.aj,.aj] [(0,1),(1,1),(2,1),(3,1),(4,1)]) [x6,bR,ct,cw,bn] cO fun bC cX=>
 af c (.store 5) [x2,bC] cX fun _ cP=>
 Mj (some 5) x2 cP fun v19=>some (v19,cP)
theorem Ck {c:ai} (hc:iR c) (F:Nat){x0:AV} {s:St} {r:AV×St} (h:ry c F x0 s=some r):c 14 [x0] s=some (tidy s r):=hc.lF (A:=g14.getD default) (F:=F) (s:=(.seq none .leaf cI)) (by kernel_rfl) (by kernel_rfl) (by kernel_rfl) (by kernel_rfl) h
end Go.Proofs.YtehbdakjkjkekaaGreatDoor
end
