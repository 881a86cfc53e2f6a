/- What is proved: RuleSmall's tied card: the law's function returns true. Condition: the row's listed variables hold what the card ties to the text. -/
import Derived.Test.YtehbdakjkjkekaaGreatDoorCards
import Derived.Test.YtehbdakjkjkekaaGreatDoorTie
import Derived.WalkKit
import Derived.ProofKit
import Derived.OpenShut
import Derived.Deep.DeepHandedRow
import Derived.Lib.LaidTab
import Derived.Below
import Derived.ShutString
import Derived.Carry
import Derived.ChangeMaps5
import Derived.Test.YtehbdakjkjkekaaGreatDoorSWalkA
import Derived.Test.YtehbdakjkjkekaaGreatDoorSWalkC
import Derived.Test.YtehbdakjkjkekaaGreatDoorSEvalE
import Derived.Test.YtehbdakjkjkekaaGreatDoorSLawsE
import Derived.Test.YtehbdakjkjkekaaGreatDoorSLawsC
import Derived.Test.YtehbdakjkjkekaaGreatDoorSClosed
set_option linter.all false
set_option linter.unusedSectionVars false
set_option linter.deprecated false
section
namespace Go.Proofs.YtehbdakjkjkekaaGreatDoor.zh
open Go Go.Ai Go.Proofs Go.ChangeShapes Go.WideShapes Go.ChangeAt Go.RowKit
theorem own:ownKnob Tryz.prog.godebug=none:=by kernel_rfl
def NX:eW:=uB [(277,vP)]
theorem ai8:vt (R:=Bool) false NX gg 100000 60 113 vD { heap:= .e,next:= .h } (fun v _=>fN v DW)=true:=by kernel_rfl
theorem aaV:vt (R:=Bool) false NX gg 100000 60 119 vD { heap:= .e,next:= .h } (fun v _=>fN v DW)=true:=by kernel_rfl
theorem T7: ∀a∈vD,Plain a:=fun a ha=>by
 have e:vD=[.agg [ko false yR,Aj false yS]]:=by kernel_rfl
 rw[e] at ha
 simp only[List.mem_cons,List.not_mem_nil,or_false] at ha
 subst ha
 exact  Plain.agg fun v hv=>by
  simp only[List.mem_cons,List.not_mem_nil,or_false] at hv
  rcases hv with rfl|rfl
  . exact Plain.ro fun cs h v hv=>by
        simp only[List.mem_map] at h
        obtain ⟨g,_,rfl⟩:=h
        simp only[ke.cells,List.mem_cons,List.not_mem_nil,or_false] at hv
        rcases hv with rfl|rfl|rfl|rfl|rfl|rfl|rfl|rfl|rfl<;>first|exact Plain.str _|exact Plain.int _ _|exact Plain.bool _|exact VU _ _
  . exact Plain.ro fun cs h v hv=>by
        simp only[List.mem_map] at h
        obtain ⟨g,_,rfl⟩:=h
        simp only[Ty.cells,List.mem_cons,List.not_mem_nil,or_false] at hv
        rcases hv with rfl|rfl|rfl<;>first|exact Plain.str _|exact Plain.int _ _
set_option maxRecDepth 100000 in
theorem O2 {C:Cells} {f:FuncId} (h:vt (R:=Bool) false NX gg 100000 60 f vD { heap:= .e,next:= .h } (fun v _=>fN v DW)=true):mS Tryz.prog C f (DK vD DW):=by
 have ho:=tK (P:=Tryz.prog) (C:=C) (l:=[(277,vP)]) (fun x hx=>by simp at hx;subst hx;exact ag.Cz)
 exact XI (O:=NX) (G:=gg) (m:=100000) (d:=60) (uA (by kernel_rfl) Dy ho.1 ho.2 Dz _ _) T7 (Plain.tuple (by simp[DW,Plain.int])) h
theorem afz {m:Int} {C:Cells} (hC:C ⟨1,0,none⟩=some (.int .i64 m)) (hP:AK C):qZ Tryz.prog C uT/\lY uT:=tK (fun x hx=>by
 simp only[List.mem_cons,List.not_mem_nil,or_false] at hx
 rcases hx with rfl|rfl|rfl|rfl|rfl|rfl|rfl|rfl|rfl
 . exact ag.Cz
 . exact Oz Tryz.func6 (by decide) rfl fun w hw=>(ag.Zj m w (hw _ _ hC)).mono fun e w' h=>⟨h.1,h.2.os,h.2.tape,h.2.output,h.2.size,h.2.block⟩
 . exact ace Tryz.func175 (by kernel_rfl) (by kernel_rfl) (by kernel_rfl) (by kernel_rfl)
 . exact Ym
 . exact Yn hP
 . exact Yq hC
 . exact Wm hC
 . exact O2 ai8
 . exact O2 aaV)
set_option maxRecDepth 100000 in
theorem EX {m:Int} {C:Cells} (hC:C ⟨1,0,none⟩=some (.int .i64 m)) (hP:AK C) (C':Cells) (h1: ∀ad u,C ad=some u->C' ad=some u) (h2: ∀a v,C a=some v-> ∀o,C ⟨a.block,o,none⟩=none->C' ⟨a.block,o,none⟩=none):j0 Tryz.prog C' (run uT gg):=by
 have dr:=afz (C:=C') (h1 _ _ hC) (AK.up hP h1 h2)
 exact Oy (by kernel_rfl) Dy dr.1 dr.2 Dz
theorem Kq:Plain GH:=Plain.agg fun v hv=>by
 simp only[List.mem_cons,List.not_mem_nil,or_false,or_self] at hv
 subst hv;exact Plain.aj
theorem WB:eZ GH:=eZ.agg fun v hv=>by
 simp only[List.mem_cons,List.not_mem_nil,or_false,or_self] at hv
 subst hv;exact eZ.aj
theorem Lv:Plain (.fp [AL] 0 0):=Plain.fp fun cs h v hv=>by
 simp only[List.mem_cons,List.not_mem_nil,or_false] at h
 subst h
 simp only[AL,List.mem_cons,List.not_mem_nil,or_false] at hv
 rcases hv with rfl|rfl|rfl|rfl|rfl|rfl|rfl|rfl|rfl|rfl|rfl|rfl|rfl|rfl<;>first|exact Plain.aj|exact Plain.gA
theorem Zk: ∀A∈U3,∀a∈A,Plain a:=fun A hA a ha=>by
 simp only[U3,List.mem_cons,List.not_mem_nil,or_false] at hA
 rcases hA with rfl|rfl<;>simp only[List.mem_cons,List.not_mem_nil,or_false] at ha<;>subst ha
 . exact Plain.bq
 . exact Lv
theorem uq: ∀A∈Hf,∀a∈A,Plain a:=fun A hA a ha=>by
 simp only[Hf,List.mem_cons,List.not_mem_nil,or_false] at hA
 rcases hA with rfl|rfl<;>simp only[List.mem_cons,List.not_mem_nil,or_false] at ha<;>rcases ha with rfl|rfl<;>first|exact Plain.bq|exact Lv|exact Plain.aj
theorem I6: ∀A∈OS,∀a∈A,Plain a:=fun A hA a ha=>by
 simp only[OS,List.mem_cons,List.not_mem_nil,or_false] at hA
 rcases hA with rfl|rfl<;>simp only[List.mem_cons,List.not_mem_nil,or_false] at ha<;>rcases ha with rfl|rfl|rfl<;>first|exact Plain.bq|exact Lv|exact Plain.aj|exact Plain.int _ _
theorem aaW: ∀A∈jS,∀a∈A,Plain a:=fun A hA a ha=>by
 simp only[jS,List.mem_cons,List.not_mem_nil,or_false] at hA
 subst hA
 simp only[List.mem_cons,List.not_mem_nil,or_false,or_self] at ha
 subst ha;exact Kq
set_option maxRecDepth 100000 in
theorem oX {C:Cells} {f d:Nat} {As:List (List AV)} {r:AV} (ha: ∀A∈As,∀a∈A,Plain a) (hr:Plain r) (hb:eZ r)
  (h:(As.all fun A=>vt (R:=Bool) false NX gg 100000 60 f A { heap:= .e,next:= .h } (fun v _=>fN v r))=true):mS Tryz.prog C f (pP d As r):=
 XJ (O:=NX) (G:=gg) (m:=100000) (n:=60) (fun C=>by
  have ho:=tK (P:=Tryz.prog) (C:=C) (l:=[(277,vP)]) (fun x hx=>by simp at hx;subst hx;exact ag.Cz)
  exact uA (by kernel_rfl) Dy ho.1 ho.2 Dz _ _) ha hr hb h
set_option maxRecDepth 100000 in
theorem aaX {m:Int} {C:Cells} (hC:C ⟨1,0,none⟩=some (.int .i64 m)) (hP:AK C):qZ Tryz.prog C GP/\lY GP:=tK (fun x hx=>by
 simp only[List.mem_cons,List.not_mem_nil,or_false] at hx
 rcases hx with rfl|rfl|rfl|rfl|rfl|rfl|rfl|rfl|rfl|rfl|rfl|rfl|rfl|rfl|rfl|rfl|rfl|rfl|rfl
 . exact ag.Cz
 . exact Oz Tryz.func6 (by decide) rfl fun w hw=>(ag.Zj m w (hw _ _ hC)).mono fun e w' h=>⟨h.1,h.2.os,h.2.tape,h.2.output,h.2.size,h.2.block⟩
 . exact zy (EX hC hP)
 . exact zy (EX hC hP)
 . exact zy (EX hC hP)
 . exact zy (EX hC hP)
 . exact zy (EX hC hP)
 . exact oX uq (Plain.tuple (by simp[Plain.int,Plain.bool])) (eZ.tuple (by simp[eZ.int,eZ.bool])) (by kernel_rfl)
 . exact oX uq (Plain.bool _) (eZ.bool _) (by kernel_rfl)
 . exact oX uq (Plain.bool _) (eZ.bool _) (by kernel_rfl)
 . exact oX I6 (Plain.int _ _) (eZ.int _ _) (by kernel_rfl)
 . exact oX I6 (Plain.int _ _) (eZ.int _ _) (by kernel_rfl)
 . exact oX uq (Plain.int _ _) (eZ.int _ _) (by kernel_rfl)
 . exact oX uq (Plain.int _ _) (eZ.int _ _) (by kernel_rfl)
 . exact oX uq Plain.aj eZ.aj (by kernel_rfl)
 . exact oX uq Plain.aj eZ.aj (by kernel_rfl)
 . exact oX I6 Plain.aj eZ.aj (by kernel_rfl)
 . exact oX Zk Kq WB (by kernel_rfl)
 . exact oX aaW (Plain.bool _) (eZ.bool _) (by kernel_rfl))
set_option maxRecDepth 100000 in
theorem contract (H:Type) (enc:TypeId×Value->H) (W:World) (base:Nat) (args:Array Value) (ds gs:List (DataW H)) (before:List MemPlace)
  (hval: ∀(j:Nat) t v,Tryz.f5.params[j]? =some t->args[j]? =some v->Value.okWide Tryz.prog W .any base t v)
  (hW:DataW.Whole enc Tryz.prog Tryz.f5.params.toList Rows.ruleSmallSpec.vars false W args.toList ds gs before) (JN:W.ShapedOpen Tryz.prog) (hL:laidMetH Tryz.prog Rows.ruleSmallRow.laid W):
  Calls Tryz.prog 5 args W fun e W'=> ∃v,e= .returned v/\Rows.ruleSmallSpec.post enc Tryz.prog Tryz.f5 false true false false W args v W':=by
 have eF:=hW
 obtain ⟨p,q,hA0,hV,rfl,WJ,hnd⟩:=hW
 have hA:DataW.TrodAll enc Tryz.prog W 0 (fun _=>true) true Tryz.f5.params.toList args.toList ds p:=hA0
 rw[Tryz.params5] at hA hval
 obtain ⟨vw,rfl,rfl⟩:=trodAll_nil hA
 obtain rfl:args= #[]:=by
  clear eF hV WJ hnd JN hval hL
  cases args;simp_all
 obtain ⟨rfl,rfl⟩:=trodVars_none hV
 clear hA0
 obtain ⟨m,hm⟩:=Tryz.aaL.s1_3 W JN
 have dr:=aaX (C:=fun ad=>W.cell? ad) hm (af2 hL (by rfl))
 have law:=SM (c:=run GP gg) rfl { heap:= .e,next:= .h } (fun p x hp=>by rw[T.eE] at hp;cases hp)
 have walk:=Z5 (C:=fun ad=>W.cell? ad) (w:=W) (Oy (by kernel_rfl) Dy dr.1 dr.2 Dz) (fun ad v h=>h) (fun a v _ o h=>h) Tryz.func5 (by decide) rfl az.nil law
 refine walk.mono fun e W' ⟨he,hg⟩=> ?_
 subst he
 exact ⟨_,rfl,XB (tb:=4) (by kernel_rfl) eF rfl rfl (by rw[Tryz.params5];intro t ht;simp at ht) hg.below (by kernel_rfl) (by kernel_rfl)⟩
noncomputable def T8:Array Value:= #[.int .u8 128,.int .u8 191,.int .u8 160,.int .u8 191,.int .u8 128,.int .u8 159,.int .u8 144,.int .u8 191,.int .u8 128,.int .u8 143,.int .u8 0,.int .u8 0,.int .u8 0,.int .u8 0,.int .u8 0,.int .u8 0,.int .u8 0,.int .u8 0,.int .u8 0,.int .u8 0,.int .u8 0,.int .u8 0,.int .u8 0,.int .u8 0,.int .u8 0,.int .u8 0,.int .u8 0,.int .u8 0,.int .u8 0,.int .u8 0,.int .u8 0,.int .u8 0]
noncomputable def firstCells:Array Value:=(Go.Pinned.utf8FirstZ.map fun (n:Nat)=>Value.int .u8 (n:Int)).toArray
noncomputable def zS (x:Array Value):Obj->Obj
 | .cells _ t frozen=> .cells x t frozen
 |o=>o
def Tl:DataW Unit->Array Value
 | .agg l=>(l.map fun| .lit (.int k z)=>Value.int k z|_=>Value.bool false).toArray
 |_=> #[]
noncomputable def I7 (os:Os):World:=
 { World.holding Tryz.prog os ⟨#[], #[],[]⟩ with heap:=(((((World.holding Tryz.prog os ⟨#[], #[],[]⟩).heap.modify 4 (zS firstCells)).modify 5 (zS T8)).modify 0 (zS (Tl Rows.laid_internal_strconv_uint64pow10))).modify 2 (zS (Tl Rows.laid_math_bits_deBruijn32tab))).modify 3 (zS (Tl Rows.laid_math_bits_deBruijn64tab)) }
noncomputable def PT:Array Value:= #[]
theorem aaY (os:Os):laidMet Tryz.prog Rows.ruleSmallRow.laid ((I7 os).forCall (fun _ _=>0) ⟨#[],PT,[]⟩).memory:=
 laidMet_of_run' 8 (by kernel_rfl) (by kernel_rfl)
theorem reads (os:Os) {H:Type} (enc:TypeId×Value->H): ∃places,DataW.whole enc Tryz.prog ((I7 os).forCall (fun _ _=>0) ⟨#[],PT,[]⟩).memory Tryz.f5.params.toList Rows.ruleSmallSpec.vars false PT.toList 8=some ([],[],places):=
 ⟨[],by kernel_rfl⟩
set_option maxRecDepth 100000 in
theorem lifted (os:Os) (started:os.Started) (H:Type) (enc:TypeId×Value->H) (F:Stop.Interp):
  ReturnsInHanded {} Tryz.checked os 5 .any ((OpenSpec.ofChange Rows.ruleSmallSpec).preRow enc Tryz.prog Tryz.f5 Rows.ruleSmallRow.domain false Rows.ruleSmallRow.laid) (((OpenSpec.ofChange Rows.ruleSmallSpec).at F).post enc Tryz.prog Tryz.f5 false true false false):=by
 obtain ⟨places,hx⟩:=reads os enc
 refine returnsInHanded_of_row (C:=Tryz.checked) (s:=OpenSpec.ofChange Rows.ruleSmallSpec) own started (by kernel_rfl) Tryz.func5
  (witness_row_at (enc:=enc) (C:=Tryz.checked) false (I7 os) PT rfl (by kernel_rfl) (by kernel_rfl) (by kernel_rfl)
   (OpenSpec.preRow_of_cond 8 hx (by kernel_rfl) (fun k hk=>by cases hk) (by kernel_rfl) (aaY os))) ?_
 intro W base args ds gs before hval hW _ _ _ hL JN _
 exact contract H enc W base args ds gs before hval hW JN hL
theorem said:Rows.RuleSmallSaid:=
 OpenClaim.holds_of_cond 5 Tryz.f5 rfl rfl rfl rfl rfl rfl rfl ⟨rfl,rfl,rfl,rfl,rfl⟩ rfl rfl rfl rfl rfl (by kernel_rfl) Tryz.func5 closed
  (of_decide_eq_true (by kernel_rfl)) (by unfold Func.isWrapper;first|(rw[if_pos (by decide+kernel)];kernel_rfl)|(rw[if_neg (by decide+kernel)];exact ⟨rfl,rfl⟩))
  (fun os started H enc _ F=>by rw[OpenClaim.pre_eq_preRow];exact lifted os started H enc F)
theorem plain (f:FuncId) (fn:Func) (hf:Tryz.pinned.checked.prog.funcNamed Rows.ruleSmallRow.func=some f) (jM:Tryz.pinned.checked.prog.funcs[f]? =some fn):
  false=Tryz.pinned.checked.prog.looks []/\ ∀(j:Nat) t,fn.params[j]? =some t->Tryz.pinned.checked.prog.wantsStandIn t=false:=by
 obtain rfl:f=5:=Option.some.inj ((show Tryz.prog.funcNamed Rows.ruleSmallRow.func=some 5 by kernel_rfl).symm.trans hf) |>.symm
 obtain rfl:fn=Tryz.f5:=(Option.some.inj (Tryz.func5.symm.trans jM)).symm
 refine ⟨by kernel_rfl,fun j t ht=> ?_⟩
 rw[Tryz.params5] at ht
 simp at ht
end Go.Proofs.YtehbdakjkjkekaaGreatDoor.zh
namespace Go.Proofs.YtehbdakjkjkekaaGreatDoor
theorem ruleSmall_card:Rows.RuleSmallCardSaid:=
 Claim7.holds_tied_plain_at .later [] _ _ _ _ zh.said (fun _ h=>by cases h) (by kernel_rfl) (fun _ h=>by cases h) ruleSmall_row_tie rfl ⟨rfl,rfl⟩ (by kernel_rfl) rfl zh.plain (by kernel_rfl)
#print axioms ruleSmall_card
end Go.Proofs.YtehbdakjkjkekaaGreatDoor
end
