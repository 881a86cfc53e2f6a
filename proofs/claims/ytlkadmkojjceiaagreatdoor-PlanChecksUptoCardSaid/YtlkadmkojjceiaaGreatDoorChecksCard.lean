/- What is proved: PlanChecks' tied card, its second form: at every problem and all arguments of bounded bulk the law's function returns true and they read as before. Condition: the bulk of the data is at most 1048576 (as the second form says), and the row's listed variables hold what the card ties to the text. -/
import Derived.Test.YtlkadmkojjceiaaGreatDoorCards
import Derived.Test.YtlkadmkojjceiaaGreatDoorTie
import Derived.Lib.LaidTab
import Derived.Test.YtlkadmkojjceiaaGreatDoorKLawC
set_option linter.all false
set_option maxRecDepth 100000
section
namespace Go.Proofs.YtlkadmkojjceiaaGreatDoor.uX
open Go Go.Ai Go.Proofs Go.ChangeShapes Go.WideShapes Go.ChangeAt Go.RowKit
theorem own:ownKnob Tryz.prog.godebug=none:=by kernel_rfl
theorem Ts{C:Cells}:nA Tryz.prog C Co/\iX Co:=tD (λx hx=>by
 simp only[Za0,Zc7,Zg6]at hx;rcases hx with rfl|rfl
 .exact Qf
 .exact N6 Tryz.func12 (by decide) rfl λw hw=>(VP w).mono λe w' h=>⟨h.1,h.2.os,h.2.tape,h.2.output,h.2.size,h.2.block⟩)
theorem aal(C:Cells):dS Tryz.prog C (run Co gg):=N7 mix Lb (Ts (C:=C)).1 (Ts (C:=C)).2 Lc
theorem XZ{C:Cells}:nA Tryz.prog C By/\iX By:=tD (λx hx=>by
 simp only[Za0,Zc7,Zg6]at hx;rcases hx with rfl|rfl|rfl|rfl|rfl|rfl|rfl|rfl|rfl|rfl|rfl|rfl|rfl|rfl|rfl
 .exact Qf
 .exact N6 Tryz.func12 (by decide) rfl λw hw=>(VP w).mono λe w' h=>⟨h.1,h.2.os,h.2.tape,h.2.output,h.2.size,h.2.block⟩
 all_goals exact X0 λC' _=>aal C')
theorem contract(H:Type)(enc:TypeId×Value->H)(W:World)(base:Nat)(args:Array Value)(ds gs:List (DataW H))(before:List MemPlace)
  (hval:∀(j:Nat) t v,Tryz.f3.params[j]? =some t->args[j]? =some v->Value.okWide Tryz.prog W .any base t v)
  (hW:DataW.Whole enc Tryz.prog Tryz.f3.params.toList Rows.planChecksSpec.vars false W args.toList ds gs before) (Ld:W.ShapedOpen Tryz.prog)
  (UI:Rows.uptoSmall H (ds++gs)=true):
  Calls Tryz.prog 3 args W λe W'=>∃v,e= .returned v/\Rows.planChecksSpec.post enc Tryz.prog Tryz.f3 false true false false W args v W':=by
 have dG:=hW;obtain⟨p,q,hA0,hV,rfl,VQ,Gj⟩:=hW;have hA:DataW.TrodAll enc Tryz.prog W 0 (λ_=>true) true Tryz.f3.params.toList args.toList ds p:=hA0;rw[Tryz.params3]at hA hval;obtain⟨v0,vs0,d0,ds0,p0,q0,nB,rfl,rfl,h0,r0⟩:=trodAll_cons hA;obtain⟨v1,ZK,d1,ds1,p1,q1,rfl,rfl,rfl,h1,r1⟩:=trodAll_cons r0;obtain⟨rfl,rfl,rfl⟩:=trodAll_nil r1;obtain rfl:args= #[v0,v1]:=by clear dG hV VQ Gj Ld hval UI;cases args;simp_all
 have Tt:Qg d0:=by have h:=Zg2 UI;have:=(uY ([d0,d1]++gs)).2 d0 (by simp);show Rows.uptoBulk d0<=1048576;exact Zc1 this h
 have tX:Qg d1:=by have h:=Zg2 UI;have:=(uY ([d0,d1]++gs)).2 d1 (by simp);show Rows.uptoBulk d1<=1048576;exact Zc1 this h
 obtain⟨as0,⟨pr,rfl,Tu⟩,k0⟩:=Kl abe Tryz.underlying28 (hval 0 _ v0 rfl rfl) h0 Tt;obtain⟨as1,⟨z1,l1,rfl,_⟩,k1⟩:=Le MT Tryz.underlying25 (hval 1 _ v1 rfl rfl) h1 tX;obtain⟨rfl,rfl⟩:=trodVars_none hV;clear hA0;have cJ:=XZ (C:=λad=>W.cell? ad);have law:=Pd (c:=run By gg) (s:={ heap:= .e,next:= .h }) rfl pr Tu z1 l1 (λp x hp=>by rw[T.cR]at hp;cases hp);have walk:=X1 (C:=λad=>W.cell? ad) (w:=W) (N7 mix Lb cJ.1 cJ.2 Lc) (λad v h=>h) (λa v _ o h=>h) Tryz.func3 (by decide) rfl (ak.cons (k0 _ _) (k1 _ _)) law;refine walk.mono λe W' ⟨he,hg⟩=> ?_
 subst he;exact⟨_,rfl,VR (tb:=4) (by kernel_rfl) dG rfl rfl (by rw[Tryz.params3];intro t ht;simp at ht;rcases ht with rfl|rfl<;>exact⟨by kernel_rfl,Zg2 (by kernel_rfl)⟩) hg.below (by kernel_rfl) (by kernel_rfl)⟩
def Qh:DataW Unit->Array Value
 |.agg l=>(l.map λ|.lit (.int k z)=>Value.int k z|_=>Value.bool false).toArray
 |_=> #[]
noncomputable def G4(x:Array Value):Obj->Obj
 |.cells _ t frozen=>.cells x t frozen
 |o=>o
noncomputable def G5(os:Os):World:=
 { World.holding Tryz.prog os ⟨#[], #[],[]⟩with heap:=(((World.holding Tryz.prog os ⟨#[], #[],[]⟩).heap.modify 0 (G4 (Qh Rows.laid_internal_strconv_uint64pow10))).modify 1 (G4 (Qh Rows.laid_math_bits_deBruijn32tab))).modify 2 (G4 (Qh Rows.laid_math_bits_deBruijn64tab)) }
noncomputable def PY:Array Value:= #[.agg #[.slice none 0 0,.slice none 0 0,.slice none 0 0,.slice none 0 0,.slice none 0 0],.slice none 0 0]
theorem X2(os:Os):laidMet Tryz.prog Rows.planChecksUptoRow.laid ((G5 os).forCall (λ_ _=>0) ⟨#[],PY,[]⟩).memory:=
 laidMet_of_run' 8 (by kernel_rfl) (by kernel_rfl)
theorem reads(os:Os){H:Type}(enc:TypeId×Value->H):∃places,DataW.whole enc Tryz.prog ((G5 os).forCall (λ_ _=>0) ⟨#[],PY,[]⟩).memory Tryz.f3.params.toList Rows.planChecksSpec.vars false PY.toList 8=some ([.agg [.nil,.nil,.nil,.nil,.nil],.nil],[],places):=
 ⟨[],by kernel_rfl⟩
theorem lifted(os:Os)(started:os.Started)(H:Type)(enc:TypeId×Value->H)(F:Stop.Interp):
  ReturnsInHanded {} Tryz.checked os 3 .any ((Rows.OpenSpec.upto Rows.planChecksSpec).preRow enc Tryz.prog Tryz.f3 Rows.planChecksUptoRow.domain false Rows.planChecksUptoRow.laid) (((Rows.OpenSpec.upto Rows.planChecksSpec).at F).post enc Tryz.prog Tryz.f3 false true false false):=by
 obtain⟨places,hx⟩:=reads os enc
 refine returnsInHanded_of_row (C:=Tryz.checked) (s:=Rows.OpenSpec.upto Rows.planChecksSpec) own started (by kernel_rfl) Tryz.func3
  (witness_row_at (enc:=enc) (C:=Tryz.checked) false (G5 os) PY rfl (by kernel_rfl) (by kernel_rfl) (by kernel_rfl)
   (OpenSpec.preRow_of_cond 8 hx (by kernel_rfl) (λk hk=>by cases hk;kernel_rfl) (by kernel_rfl) (X2 os))) ?_
 intro W base args ds gs before hval hW _ UJ _ _ Ld _;exact contract H enc W base args ds gs before hval hW Ld (UJ _ rfl)
theorem said:Rows.PlanChecksUptoSaid:=
 OpenClaim.holds_of_cond 3 Tryz.f3 rfl rfl rfl rfl rfl rfl rfl ⟨rfl,rfl,rfl,rfl,rfl⟩ rfl rfl rfl rfl rfl (by kernel_rfl) Tryz.func3 closed
  (Zg2 (by kernel_rfl)) (by unfold Func.isWrapper;first|(rw[Za7 (by decide+kernel)];kernel_rfl)|(rw[Za4 (by decide+kernel)];exact⟨rfl,rfl⟩))
  (λos started H enc _ F=>by rw[OpenClaim.pre_eq_preRow];exact lifted os started H enc F)
theorem plain(f:FuncId)(fn:Func)(hf:Tryz.pinned.checked.prog.funcNamed Rows.planChecksUptoRow.func=some f)(yR:Tryz.pinned.checked.prog.funcs[f]? =some fn):
   false=Tryz.pinned.checked.prog.looks []/\∀(j:Nat) t,fn.params[j]? =some t->Tryz.pinned.checked.prog.wantsStandIn t=false:=by
 obtain rfl:f=3:=Zg4 ((show Tryz.prog.funcNamed Rows.planChecksUptoRow.func=some 3 by kernel_rfl).symm.trans hf) |>.symm;obtain rfl:fn=Tryz.f3:=(Zg4 (Tryz.func3.symm.trans yR)).symm;refine⟨by kernel_rfl,λj t ht=> ?_⟩;rw[Tryz.params3]at ht;have:t=28\/t=25:=by simpa using Zj6 ht
 rcases this with rfl|rfl
 .exact(show Tryz.prog.wantsStandIn 28=false by kernel_rfl)
 .exact(show Tryz.prog.wantsStandIn 25=false by kernel_rfl)
end Go.Proofs.YtlkadmkojjceiaaGreatDoor.uX
namespace Go.Proofs.YtlkadmkojjceiaaGreatDoor
theorem planChecksUpto_card:Rows.PlanChecksUptoCardSaid:=
 Claim7.holds_tied_plain_at .later [] _ _ _ _ uX.said (λ_ h=>by cases h) (by kernel_rfl) (λ_ h=>by cases h) planChecksUpto_row_tie rfl ⟨rfl,rfl⟩ (by kernel_rfl) rfl uX.plain (by kernel_rfl)
#print axioms planChecksUpto_card
end Go.Proofs.YtlkadmkojjceiaaGreatDoor
end
