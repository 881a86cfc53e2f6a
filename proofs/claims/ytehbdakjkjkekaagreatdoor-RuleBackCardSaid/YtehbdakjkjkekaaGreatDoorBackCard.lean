/- What is proved: RuleBack's tied card: at all numbers of a problem, all weights and all numbers of rules the law's function returns true and they read as before. Condition: the row's listed variables hold what the card ties to the text. -/
import Derived.Test.YtehbdakjkjkekaaGreatDoorCards
import Derived.Test.YtehbdakjkjkekaaGreatDoorTie
import Derived.WalkKit
import Derived.ProofKit
import Derived.OpenShut
import Derived.Deep.DeepHandedRow
import Derived.Lib.LaidTab
import Derived.Below
import Derived.ShutString
import Derived.Carry
import Derived.ChangeMaps5
import Derived.Test.YtehbdakjkjkekaaGreatDoorWalkA
import Derived.Test.YtehbdakjkjkekaaGreatDoorWalkC
import Derived.Test.YtehbdakjkjkekaaGreatDoorEvalE
import Derived.Test.YtehbdakjkjkekaaGreatDoorLawsE
import Derived.Test.YtehbdakjkjkekaaGreatDoorClosed
set_option linter.all false
set_option linter.unusedSectionVars false
set_option linter.deprecated false
section
namespace Go.Proofs.YtehbdakjkjkekaaGreatDoor.vZ
open Go Go.Ai Go.Proofs Go.ChangeShapes Go.WideShapes Go.ChangeAt Go.RowKit
theorem own:ownKnob Tryz.prog.godebug=none:=by kernel_rfl
theorem YO {m:Int} {C:Cells} (hC:C ⟨1,0,none⟩=some (.int .i64 m)) (hP:xR C):nS Tryz.prog C yP/\ji yP:=th (fun x hx=>by
 simp only[List.mem_cons,List.not_mem_nil,or_false] at hx
 rcases hx with rfl|rfl|rfl|rfl|rfl|rfl|rfl
 . exact af.Dg
 . exact JH Tryz.func6 (by decide) rfl fun w hw=>(af.Rz m w (hw _ _ hC)).mono fun e w' h=>⟨h.1,h.2.os,h.2.tape,h.2.output,h.2.size,h.2.block⟩
 . exact YP Tryz.func175 (by kernel_rfl) (by kernel_rfl) (by kernel_rfl) (by kernel_rfl)
 . exact RA
 . exact RB hP
 . exact RD hC
 . exact G2 hC)
set_option maxRecDepth 100000 in
theorem UK {m:Int} {C:Cells} (hC:C ⟨1,0,none⟩=some (.int .i64 m)) (hP:xR C):nS Tryz.prog C Bf/\ji Bf:=th (fun x hx=>by
 simp only[List.mem_cons,List.not_mem_nil,or_false] at hx
 rcases hx with rfl|rfl|rfl|rfl
 . exact af.Dg
 . exact JH Tryz.func6 (by decide) rfl fun w hw=>(af.Rz m w (hw _ _ hC)).mono fun e w' h=>⟨h.1,h.2.os,h.2.tape,h.2.output,h.2.size,h.2.block⟩
 . exact RE fun C' h1 h2=>by
    have eD:=YO (C:=C') (h1 _ _ hC) (xR.up hP h1 h2)
    exact JI (by kernel_rfl) ED eD.1 eD.2 EE
 . exact G2 hC)
set_option maxRecDepth 100000 in
theorem contract (H:Type) (enc:TypeId×Value->H) (W:World) (base:Nat) (args:Array Value) (ds gs:List (DataW H)) (before:List MemPlace)
  (hval: ∀(j:Nat) t v,Tryz.f4.params[j]? =some t->args[j]? =some v->Value.okWide Tryz.prog W .any base t v)
  (hW:DataW.Whole enc Tryz.prog Tryz.f4.params.toList Rows.ruleBackSpec.vars false W args.toList ds gs before) (Fi:W.ShapedOpen Tryz.prog) (hL:laidMetH Tryz.prog Rows.ruleBackRow.laid W):
  Calls Tryz.prog 4 args W fun e W'=> ∃v,e= .returned v/\Rows.ruleBackSpec.post enc Tryz.prog Tryz.f4 false true false false W args v W':=by
 have di:=hW
 obtain ⟨p,q,hA0,hV,rfl,RF,Xv⟩:=hW
 have hA:DataW.TrodAll enc Tryz.prog W 0 (fun _=>true) true Tryz.f4.params.toList args.toList ds p:=hA0
 rw[Tryz.params4] at hA hval
 obtain ⟨v0,vs0,d0,ds0,p0,q0,qi,rfl,rfl,h0,r0⟩:=trodAll_cons hA
 obtain ⟨v1,Xw,d1,ds1,p1,q1,rfl,rfl,rfl,h1,r1⟩:=trodAll_cons r0
 obtain ⟨v2,vs2,d2,ds2,p2,q2,rfl,rfl,rfl,h2,r2⟩:=trodAll_cons r1
 obtain ⟨rfl,rfl,rfl⟩:=trodAll_nil r2
 obtain rfl:args= #[v0,v1,v2]:=by
  clear di hV RF Xv Fi hval hL
  cases args;simp_all
 obtain ⟨as0,⟨zt,zg,zy,zr,xt,xg,xy,xr,rfl,ok⟩,k0⟩:=G4 KP Tryz.underlying34 (hval 0 _ v0 rfl rfl) h0
 obtain ⟨as1,⟨zw,ws,rfl,G5,_⟩,k1⟩:=zx G6 Tryz.underlying31 (hval 1 _ v1 rfl rfl) h1
 obtain ⟨as2,⟨zn,ns,rfl,Fj,_⟩,k2⟩:=zx G7 Tryz.underlying32 (hval 2 _ v2 rfl rfl) h2
 obtain ⟨rfl,rfl⟩:=trodVars_none hV
 clear hA0
 obtain ⟨m,hm⟩:=Tryz.UL.s1_3 W Fi
 have eD:=UK (C:=fun ad=>W.cell? ad) hm (ac7 hL (by rfl))
 have law:=N6 (c:=run Bf gg) rfl ok.t ok.g ok.y ok.r G5 Fj ok.lt ok.lg ok.lr ok.ly zt zg zy zr zw zn { heap:= .e,next:= .h } (fun p x hp=>by rw[T.cG] at hp;cases hp)
 have walk:=UM (C:=fun ad=>W.cell? ad) (w:=W) (JI (by kernel_rfl) ED eD.1 eD.2 EE) (fun ad v h=>h) (fun a v _ o h=>h) Tryz.func4 (by decide) rfl (aq.cons (k0 _ _) (aq.cons ((k1 _ _).2 0 _ _ rfl rfl) (k2 _ _))) law
 refine walk.mono fun e W' ⟨he,hg⟩=> ?_
 subst he
 exact ⟨_,rfl,RG (tb:=4) (by kernel_rfl) di rfl rfl (by rw[Tryz.params4];intro t ht;simp at ht;rcases ht with rfl|rfl|rfl<;>exact ⟨by kernel_rfl,of_decide_eq_true (by kernel_rfl)⟩) hg.below (by kernel_rfl) (by kernel_rfl)⟩
noncomputable def N7:Array Value:= #[.int .u8 128,.int .u8 191,.int .u8 160,.int .u8 191,.int .u8 128,.int .u8 159,.int .u8 144,.int .u8 191,.int .u8 128,.int .u8 143,.int .u8 0,.int .u8 0,.int .u8 0,.int .u8 0,.int .u8 0,.int .u8 0,.int .u8 0,.int .u8 0,.int .u8 0,.int .u8 0,.int .u8 0,.int .u8 0,.int .u8 0,.int .u8 0,.int .u8 0,.int .u8 0,.int .u8 0,.int .u8 0,.int .u8 0,.int .u8 0,.int .u8 0,.int .u8 0]
noncomputable def firstCells:Array Value:=(Go.Pinned.utf8FirstZ.map fun (n:Nat)=>Value.int .u8 (n:Int)).toArray
noncomputable def ue (x:Array Value):Obj->Obj
 | .cells _ t frozen=> .cells x t frozen
 |o=>o
def Lp:DataW Unit->Array Value
 | .agg l=>(l.map fun| .lit (.int k z)=>Value.int k z|_=>Value.bool false).toArray
 |_=> #[]
noncomputable def Dh (os:Os):World:=
 { World.holding Tryz.prog os ⟨#[], #[],[]⟩ with heap:=(((((World.holding Tryz.prog os ⟨#[], #[],[]⟩).heap.modify 4 (ue firstCells)).modify 5 (ue N7)).modify 0 (ue (Lp Rows.laid_internal_strconv_uint64pow10))).modify 2 (ue (Lp Rows.laid_math_bits_deBruijn32tab))).modify 3 (ue (Lp Rows.laid_math_bits_deBruijn64tab)) }
noncomputable def K8:Array Value:= #[.agg #[.slice none 0 0,.slice none 0 0,.slice none 0 0,.slice none 0 0],.slice none 0 0,.slice none 0 0]
theorem UN (os:Os):laidMet Tryz.prog Rows.ruleBackRow.laid ((Dh os).forCall (fun _ _=>0) ⟨#[],K8,[]⟩).memory:=
 laidMet_of_run' 8 (by kernel_rfl) (by kernel_rfl)
theorem reads (os:Os) {H:Type} (enc:TypeId×Value->H): ∃places,DataW.whole enc Tryz.prog ((Dh os).forCall (fun _ _=>0) ⟨#[],K8,[]⟩).memory Tryz.f4.params.toList Rows.ruleBackSpec.vars false K8.toList 8=some ([.agg [.nil,.nil,.nil,.nil],.nil,.nil],[],places):=
 ⟨[],by kernel_rfl⟩
set_option maxRecDepth 100000 in
theorem lifted (os:Os) (started:os.Started) (H:Type) (enc:TypeId×Value->H) (F:Stop.Interp):
  ReturnsInHanded {} Tryz.checked os 4 .any ((OpenSpec.ofChange Rows.ruleBackSpec).preRow enc Tryz.prog Tryz.f4 Rows.ruleBackRow.domain false Rows.ruleBackRow.laid) (((OpenSpec.ofChange Rows.ruleBackSpec).at F).post enc Tryz.prog Tryz.f4 false true false false):=by
 obtain ⟨places,hx⟩:=reads os enc
 refine returnsInHanded_of_row (C:=Tryz.checked) (s:=OpenSpec.ofChange Rows.ruleBackSpec) own started (by kernel_rfl) Tryz.func4
  (witness_row_at (enc:=enc) (C:=Tryz.checked) false (Dh os) K8 rfl (by kernel_rfl) (by kernel_rfl) (by kernel_rfl)
   (OpenSpec.preRow_of_cond 8 hx (by kernel_rfl) (fun k hk=>by cases hk) (by kernel_rfl) (UN os))) ?_
 intro W base args ds gs before hval hW _ _ _ hL Fi _
 exact contract H enc W base args ds gs before hval hW Fi hL
theorem said:Rows.RuleBackSaid:=
 OpenClaim.holds_of_cond 4 Tryz.f4 rfl rfl rfl rfl rfl rfl rfl ⟨rfl,rfl,rfl,rfl,rfl⟩ rfl rfl rfl rfl rfl (by kernel_rfl) Tryz.func4 closed
  (of_decide_eq_true (by kernel_rfl)) (by unfold Func.isWrapper;first|(rw[if_pos (by decide+kernel)];kernel_rfl)|(rw[if_neg (by decide+kernel)];exact ⟨rfl,rfl⟩))
  (fun os started H enc _ F=>by rw[OpenClaim.pre_eq_preRow];exact lifted os started H enc F)
theorem plain (f:FuncId) (fn:Func) (hf:Tryz.pinned.checked.prog.funcNamed Rows.ruleBackRow.func=some f) (gM:Tryz.pinned.checked.prog.funcs[f]? =some fn):
   false=Tryz.pinned.checked.prog.looks []/\ ∀(j:Nat) t,fn.params[j]? =some t->Tryz.pinned.checked.prog.wantsStandIn t=false:=by
 obtain rfl:f=4:=Option.some.inj ((show Tryz.prog.funcNamed Rows.ruleBackRow.func=some 4 by kernel_rfl).symm.trans hf) |>.symm
 obtain rfl:fn=Tryz.f4:=(Option.some.inj (Tryz.func4.symm.trans gM)).symm
 refine ⟨by kernel_rfl,fun j t ht=> ?_⟩
 rw[Tryz.params4] at ht
 have:t=34\/t=31\/t=32:=by simpa using Array.mem_of_getElem? ht
 rcases this with rfl|rfl|rfl
 . exact (show Tryz.prog.wantsStandIn 34=false by kernel_rfl)
 . exact (show Tryz.prog.wantsStandIn 31=false by kernel_rfl)
 . exact (show Tryz.prog.wantsStandIn 32=false by kernel_rfl)
end Go.Proofs.YtehbdakjkjkekaaGreatDoor.vZ
namespace Go.Proofs.YtehbdakjkjkekaaGreatDoor
theorem ruleBack_card:Rows.RuleBackCardSaid:=
 Claim7.holds_tied_plain_at .later [] _ _ _ _ vZ.said (fun _ h=>by cases h) (by kernel_rfl) (fun _ h=>by cases h) ruleBack_row_tie rfl ⟨rfl,rfl⟩ (by kernel_rfl) rfl vZ.plain (by kernel_rfl)
#print axioms ruleBack_card
end Go.Proofs.YtehbdakjkjkekaaGreatDoor
end
