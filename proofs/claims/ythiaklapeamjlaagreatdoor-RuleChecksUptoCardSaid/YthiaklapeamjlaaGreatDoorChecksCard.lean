/- What is proved: RuleChecks' tied card, its second form: at every problem of bounded bulk the law's function returns true. Condition: the bulk of the data is at most 1048576 (as the second form says), and the row's listed variables hold what the card ties to the text. -/
import Derived.Test.YthiaklapeamjlaaGreatDoorCards
import Derived.Test.YthiaklapeamjlaaGreatDoorTie
import Derived.WalkKit
import Derived.ProofKit
import Derived.OpenShut
import Derived.Deep.DeepHandedRow
import Derived.Lib.LaidTab
import Derived.Below
import Derived.ShutString
import Derived.Carry
import Derived.ChangeMaps5
import Derived.Test.YthiaklapeamjlaaGreatDoorCWalkA
import Derived.Test.YthiaklapeamjlaaGreatDoorCWalkC
import Derived.Test.YthiaklapeamjlaaGreatDoorCEvalE
import Derived.Test.YthiaklapeamjlaaGreatDoorCLawsE
import Derived.Test.YthiaklapeamjlaaGreatDoorCClosed
set_option linter.all false
set_option linter.unusedSectionVars false
set_option linter.deprecated false
section
namespace Go.Proofs.YthiaklapeamjlaaGreatDoor.y6
open Go Go.Ai Go.Proofs Go.ChangeShapes Go.WideShapes Go.ChangeAt Go.RowKit
theorem own:ownKnob Tryz.prog.godebug=none:=by kernel_rfl
theorem ajK {m:Int} {C:Cells} (hC:C ⟨0,0,none⟩=some (.int .i64 m)):qI Tryz.prog C Fx/\kg Fx:=Bg (fun x hx=>by
 simp only[List.mem_cons,List.not_mem_nil,or_false] at hx
 rcases hx with rfl|rfl
 . exact af.Qj
 . exact Xq Tryz.func18 (by decide) rfl fun w hw=>(af.agm m w (hw _ _ hC)).mono fun e w' h=>⟨h.1,h.2.os,h.2.tape,h.2.output,h.2.size,h.2.block⟩)
set_option maxRecDepth 100000 in
theorem BA {m:Int} {C:Cells} (hC:C ⟨0,0,none⟩=some (.int .i64 m)) (C':Cells) (h1: ∀ad u,C ad=some u->C' ad=some u):jS Tryz.prog C' (run Fx gg):=by
 have bu:=ajK (C:=C') (h1 _ _ hC)
 exact Xl (by kernel_rfl) QX bu.1 bu.2 QY
set_option maxRecDepth 100000 in
theorem ah4 {m:Int} {C:Cells} (hC:C ⟨0,0,none⟩=some (.int .i64 m)):qI Tryz.prog C QT/\kg QT:=Bg (fun x hx=>by
 simp only[List.mem_cons,List.not_mem_nil,or_false] at hx
 rcases hx with rfl|rfl|rfl|rfl|rfl|rfl|rfl|rfl|rfl
 . exact af.Qj
 . exact Xq Tryz.func18 (by decide) rfl fun w hw=>(af.agm m w (hw _ _ hC)).mono fun e w' h=>⟨h.1,h.2.os,h.2.tape,h.2.output,h.2.size,h.2.block⟩
 . exact xO (BA hC)
 . exact xO (BA hC)
 . exact xO (BA hC)
 . exact xO (BA hC)
 . exact xO (BA hC)
 . exact xO (BA hC)
 . exact xO (BA hC))
set_option maxRecDepth 100000 in
theorem contract (H:Type) (enc:TypeId×Value->H) (W:World) (base:Nat) (args:Array Value) (ds gs:List (DataW H)) (before:List MemPlace)
  (hval: ∀(j:Nat) t v,Tryz.f4.params[j]? =some t->args[j]? =some v->Value.okWide Tryz.prog W .any base t v)
  (hW:DataW.Whole enc Tryz.prog Tryz.f4.params.toList Rows.ruleChecksSpec.vars false W args.toList ds gs before) (Rz:W.ShapedOpen Tryz.prog)
  (ait:Rows.uptoSmall H (ds++gs)=true):
  Calls Tryz.prog 4 args W fun e W'=> ∃v,e= .returned v/\Rows.ruleChecksSpec.post enc Tryz.prog Tryz.f4 false true false false W args v W':=by
 have dX:=hW
 obtain ⟨p,q,hA0,hV,rfl,hfz,hnd⟩:=hW
 have hA:DataW.TrodAll enc Tryz.prog W 0 (fun _=>true) true Tryz.f4.params.toList args.toList ds p:=hA0
 rw[Tryz.params4] at hA hval
 obtain ⟨v0,vs0,d0,ds0,p0,q0,xq,rfl,rfl,h0,r0⟩:=trodAll_cons hA
 obtain ⟨rfl,rfl,rfl⟩:=trodAll_nil r0
 obtain rfl:args= #[v0]:=by
  clear dX hV hfz hnd Rz hval ait
  cases args;simp_all
 have rR:Blk d0:=by
  have h:=of_decide_eq_true ait
  have:=(Ej ([d0]++gs)).2 d0 (by simp)
  show Rows.uptoBulk d0<=1048576
  exact Nat.le_trans this h
 obtain ⟨as0,⟨pr,rfl,XA⟩,k0⟩:=Tj akf Tryz.underlying34 (hval 0 _ v0 rfl rfl) h0 rR
 obtain ⟨rfl,rfl⟩:=trodVars_none hV
 clear hA0
 obtain ⟨m,hm⟩:=Tryz.ahU.s1_3 W Rz
 have bu:=ah4 (C:=fun ad=>W.cell? ad) hm
 have law:=YM (c:=run QT gg) rfl pr XA { heap:= .e,next:= .h } (fun p x hp=>by rw[T.cX] at hp;cases hp)
 have walk:=ag3 (C:=fun ad=>W.cell? ad) (w:=W) (Xl (by kernel_rfl) QX bu.1 bu.2 QY) (fun ad v h=>h) (fun a v _ o h=>h) Tryz.func4 (by decide) rfl (aA.one (k0 _ _)) law
 refine walk.mono fun e W' ⟨he,hg⟩=> ?_
 subst he
 exact ⟨_,rfl,afb (tb:=4) (by kernel_rfl) dX rfl rfl (by rw[Tryz.params4];intro t ht;simp at ht;subst ht;exact ⟨by kernel_rfl,of_decide_eq_true (by kernel_rfl)⟩) hg.below (by kernel_rfl) (by kernel_rfl)⟩
noncomputable def acs:Array Value:= #[.int .u8 128,.int .u8 191,.int .u8 160,.int .u8 191,.int .u8 128,.int .u8 159,.int .u8 144,.int .u8 191,.int .u8 128,.int .u8 143,.int .u8 0,.int .u8 0,.int .u8 0,.int .u8 0,.int .u8 0,.int .u8 0,.int .u8 0,.int .u8 0,.int .u8 0,.int .u8 0,.int .u8 0,.int .u8 0,.int .u8 0,.int .u8 0,.int .u8 0,.int .u8 0,.int .u8 0,.int .u8 0,.int .u8 0,.int .u8 0,.int .u8 0,.int .u8 0]
noncomputable def firstCells:Array Value:=(Go.Pinned.utf8FirstZ.map fun (n:Nat)=>Value.int .u8 (n:Int)).toArray
noncomputable def X5 (x:Array Value):Obj->Obj
 | .cells _ t frozen=> .cells x t frozen
 |o=>o
noncomputable def Qk (os:Os):World:=
 { World.holding Tryz.prog os ⟨#[], #[],[]⟩ with heap:=((World.holding Tryz.prog os ⟨#[], #[],[]⟩).heap.modify 1 (X5 firstCells)).modify 2 (X5 acs) }
noncomputable def Y6:Array Value:= #[.agg #[.slice none 0 0,.slice none 0 0,.slice none 0 0,.slice none 0 0,.slice none 0 0]]
theorem ah5 (os:Os):laidMet Tryz.prog Rows.ruleChecksUptoRow.laid ((Qk os).forCall (fun _ _=>0) ⟨#[],Y6,[]⟩).memory:=
 laidMet_of_run' 8 (by kernel_rfl) (by kernel_rfl)
theorem reads (os:Os) {H:Type} (enc:TypeId×Value->H): ∃places,DataW.whole enc Tryz.prog ((Qk os).forCall (fun _ _=>0) ⟨#[],Y6,[]⟩).memory Tryz.f4.params.toList Rows.ruleChecksSpec.vars false Y6.toList 8=some ([.agg [.nil,.nil,.nil,.nil,.nil]],[],places):=
 ⟨[],by kernel_rfl⟩
set_option maxRecDepth 100000 in
theorem lifted (os:Os) (started:os.Started) (H:Type) (enc:TypeId×Value->H) (F:Stop.Interp):
  ReturnsInHanded {} Tryz.checked os 4 .any ((Rows.OpenSpec.upto Rows.ruleChecksSpec).preRow enc Tryz.prog Tryz.f4 Rows.ruleChecksUptoRow.domain false Rows.ruleChecksUptoRow.laid) (((Rows.OpenSpec.upto Rows.ruleChecksSpec).at F).post enc Tryz.prog Tryz.f4 false true false false):=by
 obtain ⟨places,hx⟩:=reads os enc
 refine returnsInHanded_of_row (C:=Tryz.checked) (s:=Rows.OpenSpec.upto Rows.ruleChecksSpec) own started (by kernel_rfl) Tryz.func4
  (witness_row_at (enc:=enc) (C:=Tryz.checked) false (Qk os) Y6 rfl (by kernel_rfl) (by kernel_rfl) (by kernel_rfl)
   (OpenSpec.preRow_of_cond 8 hx (by kernel_rfl) (fun k hk=>by cases hk;kernel_rfl) (by kernel_rfl) (ah5 os))) ?_
 intro W base args ds gs before hval hW _ adq _ _ Rz _
 exact contract H enc W base args ds gs before hval hW Rz (adq _ rfl)
theorem said:Rows.RuleChecksUptoSaid:=
 OpenClaim.holds_of_cond 4 Tryz.f4 rfl rfl rfl rfl rfl rfl rfl ⟨rfl,rfl,rfl,rfl,rfl⟩ rfl rfl rfl rfl rfl (by kernel_rfl) Tryz.func4 closed
  (of_decide_eq_true (by kernel_rfl)) (by unfold Func.isWrapper;first|(rw[if_pos (by decide+kernel)];kernel_rfl)|(rw[if_neg (by decide+kernel)];exact ⟨rfl,rfl⟩))
  (fun os started H enc _ F=>by rw[OpenClaim.pre_eq_preRow];exact lifted os started H enc F)
theorem plain (f:FuncId) (fn:Func) (hf:Tryz.pinned.checked.prog.funcNamed Rows.ruleChecksUptoRow.func=some f) (kY:Tryz.pinned.checked.prog.funcs[f]? =some fn):
  false=Tryz.pinned.checked.prog.looks []/\ ∀(j:Nat) t,fn.params[j]? =some t->Tryz.pinned.checked.prog.wantsStandIn t=false:=by
 obtain rfl:f=4:=Option.some.inj ((show Tryz.prog.funcNamed Rows.ruleChecksUptoRow.func=some 4 by kernel_rfl).symm.trans hf) |>.symm
 obtain rfl:fn=Tryz.f4:=(Option.some.inj (Tryz.func4.symm.trans kY)).symm
 refine ⟨by kernel_rfl,fun j t ht=> ?_⟩
 rw[Tryz.params4] at ht
 obtain rfl:t=34:=by simpa using Array.mem_of_getElem? ht
 exact (show Tryz.prog.wantsStandIn 34=false by kernel_rfl)
end Go.Proofs.YthiaklapeamjlaaGreatDoor.y6
namespace Go.Proofs.YthiaklapeamjlaaGreatDoor
theorem ruleChecksUpto_card:Rows.RuleChecksUptoCardSaid:=
 Claim7.holds_tied_plain_at .later [] _ _ _ _ y6.said (fun _ h=>by cases h) (by kernel_rfl) (fun _ h=>by cases h) ruleChecksUpto_row_tie rfl ⟨rfl,rfl⟩ (by kernel_rfl) rfl y6.plain (by kernel_rfl)
#print axioms ruleChecksUpto_card
end Go.Proofs.YthiaklapeamjlaaGreatDoor
end
