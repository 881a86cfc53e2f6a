/- What is proved: JudgeDead's tied card: at all numbers of a problem and all lists of numbers the law's function returns true and they read as before. Condition: the row's listed variables hold what the card ties to the text. -/
import Derived.Test.YtgihekklfnjkiaaGreatDoorCards
import Derived.Test.YtgihekklfnjkiaaGreatDoorTie
import Derived.Lib.LaidTab
import Derived.Test.YtgihekklfnjkiaaGreatDoorDLaw
set_option linter.all false
set_option linter.unusedSectionVars false
set_option linter.deprecated false
section
namespace Go.Proofs.YtgihekklfnjkiaaGreatDoor.Hq
open Go Go.Ai Go.Proofs Go.ChangeShapes Go.WideShapes Go.ChangeAt Go.RowKit
theorem own:ownKnob Tryz.prog.godebug=none:=by kernel_rfl
theorem att{m:Int}{C:Cells}(hC:C ⟨0,0,none⟩=some (.int .i64 m)):vK Tryz.prog C Tb/\oK Tb:=yB (λx hx=>by
 simp only[Zb0,Zc5,Zf3]at hx;rcases hx with rfl|rfl
 . exact az.Ym
 . exact aeM Tryz.func14 (by decide) rfl λw hw=>(az.aoM m w (hw _ _ hC)).mono λe w' h=>⟨h.1,h.2.os,h.2.tape,h.2.output,h.2.size,h.2.block⟩)
set_option maxRecDepth 100000 in
theorem atu{m:Int}{C:Cells}(hC:C ⟨0,0,none⟩=some (.int .i64 m))(C':Cells)(h1:∀ad u,C ad=some u->C' ad=some u):iX Tryz.prog C' (run Tb gg):=by have cJ:=att (C:=C') (h1 _ _ hC);exact aeG (by kernel_rfl) TH cJ.1 cJ.2 TJ
set_option maxRecDepth 100000 in
theorem aq6{m:Int}{C:Cells}(hC:C ⟨0,0,none⟩=some (.int .i64 m)):vK Tryz.prog C NO/\oK NO:=yB (λx hx=>by
 simp only[Zb0,Zc5,Zf3]at hx;rcases hx with rfl|rfl|rfl|rfl|rfl|rfl|rfl|rfl|rfl|rfl
 . exact az.Ym
 . exact aeM Tryz.func14 (by decide) rfl λw hw=>(az.aoM m w (hw _ _ hC)).mono λe w' h=>⟨h.1,h.2.os,h.2.tape,h.2.output,h.2.size,h.2.block⟩
 all_goals exact apA (atu hC))
set_option maxRecDepth 100000 in
theorem contract(H:Type)(enc:TypeId×Value->H)(W:World)(base:Nat)(args:Array Value)(ds gs:List (DataW H))(before:List MemPlace)
  (hval:∀(j:Nat) t v,Tryz.f6.params[j]? =some t->args[j]? =some v->Value.okWide Tryz.prog W .any base t v)
  (hW:DataW.Whole enc Tryz.prog Tryz.f6.params.toList Rows.judgeDeadSpec.vars false W args.toList ds gs before) (hsh:W.ShapedOpen Tryz.prog):
  Calls Tryz.prog 6 args W λe W'=>∃v,e= .returned v/\Rows.judgeDeadSpec.post enc Tryz.prog Tryz.f6 false true false false W args v W':=by
 have ji:=hW;obtain⟨p,q,hA0,hV,rfl,hfz,hnd⟩:=hW;have hA:DataW.TrodAll enc Tryz.prog W 0 (λ_=>true) true Tryz.f6.params.toList args.toList ds p:=hA0;rw[Tryz.params6]at hA hval;obtain⟨v0,vs0,d0,ds0,p0,q0,xR,rfl,rfl,h0,r0⟩:=trodAll_cons hA;obtain⟨v1,vs1,d1,ds1,p1,q1,rfl,rfl,rfl,h1,r1⟩:=trodAll_cons r0;obtain⟨v2,vs2,d2,ds2,p2,q2,rfl,rfl,rfl,h2,r2⟩:=trodAll_cons r1;obtain⟨rfl,rfl,rfl⟩:=trodAll_nil r2;obtain rfl:args= #[v0,v1,v2]:=by clear ji hV hfz hnd hsh hval;cases args;simp_all
 obtain⟨as0,⟨zt,zg,zy,zr,xt,xg,xy,xr,rfl,ok⟩,k0⟩:=ach afF Tryz.underlying26 (hval 0 _ v0 rfl rfl) h0;obtain⟨as1,⟨z1,xs,rfl,lx⟩,k1⟩:=PD ahW Tryz.underlying27 (hval 1 _ v1 rfl rfl) h1;obtain⟨as2,⟨z2,ys,rfl,ly⟩,k2⟩:=PD ahW Tryz.underlying27 (hval 2 _ v2 rfl rfl) h2;obtain⟨rfl,rfl⟩:=trodVars_none hV;clear hA0;obtain⟨m,hm⟩:=Tryz.aq1.s1_3 W hsh;have cJ:=aq6 (C:=λad=>W.cell? ad) hm;have law:=ahV (c:=run NO gg) rfl ok.t ok.g ok.y ok.r ok.lt ok.lg ok.lr ok.ly zt zg zy zr z1 z2 xs ys lx ly { heap:= .e,next:= .h } (λp x hp=>by rw[T.dW]at hp;cases hp);have walk:=apx (C:=λad=>W.cell? ad) (w:=W) (aeG (by kernel_rfl) TH cJ.1 cJ.2 TJ) (λad v h=>h) (λa v _ o h=>h) Tryz.func6 (by decide) rfl (aL.cons (k0 _ _) (aL.cons ((k1 _ _).2 0 _ _ rfl rfl) (k2 _ _))) law;refine walk.mono λe W' ⟨he,hg⟩=> ?_
 subst he;exact⟨_,rfl,am4 (tb:=4) (by kernel_rfl) ji rfl rfl (by rw[Tryz.params6];intro t ht;simp at ht;rcases ht with rfl|rfl<;>exact⟨by kernel_rfl,Zf7 (by kernel_rfl)⟩) hg.below (by kernel_rfl) (by kernel_rfl)⟩
noncomputable def ajI:Array Value:= #[.int .u8 128,.int .u8 191,.int .u8 160,.int .u8 191,.int .u8 128,.int .u8 159,.int .u8 144,.int .u8 191,.int .u8 128,.int .u8 143,.int .u8 0,.int .u8 0,.int .u8 0,.int .u8 0,.int .u8 0,.int .u8 0,.int .u8 0,.int .u8 0,.int .u8 0,.int .u8 0,.int .u8 0,.int .u8 0,.int .u8 0,.int .u8 0,.int .u8 0,.int .u8 0,.int .u8 0,.int .u8 0,.int .u8 0,.int .u8 0,.int .u8 0,.int .u8 0]
noncomputable def firstCells:Array Value:=(Go.Pinned.utf8FirstZ.map λ(n:Nat)=>Value.int .u8 (n:Int)).toArray
noncomputable def afs(x:Array Value):Obj->Obj
 | .cells _ t frozen=> .cells x t frozen
 |o=>o
noncomputable def Yn(os:Os):World:=
 { World.holding Tryz.prog os ⟨#[], #[],[]⟩with heap:=((World.holding Tryz.prog os ⟨#[], #[],[]⟩).heap.modify 1 (afs firstCells)).modify 2 (afs ajI) }
noncomputable def agr:Array Value:= #[.agg #[.slice none 0 0,.slice none 0 0,.slice none 0 0,.slice none 0 0],.slice none 0 0,.slice none 0 0]
theorem aq7(os:Os):laidMet Tryz.prog Rows.judgeDeadRow.laid ((Yn os).forCall (λ_ _=>0) ⟨#[],agr,[]⟩).memory:=
 laidMet_of_run' 8 (by kernel_rfl) (by kernel_rfl)
theorem reads(os:Os){H:Type}(enc:TypeId×Value->H):∃places,DataW.whole enc Tryz.prog ((Yn os).forCall (λ_ _=>0) ⟨#[],agr,[]⟩).memory Tryz.f6.params.toList Rows.judgeDeadSpec.vars false agr.toList 8=some ([.agg [.nil,.nil,.nil,.nil],.nil,.nil],[],places):=
 ⟨[],by kernel_rfl⟩
set_option maxRecDepth 100000 in
theorem lifted(os:Os)(started:os.Started)(H:Type)(enc:TypeId×Value->H)(F:Stop.Interp):
  ReturnsInHanded {} Tryz.checked os 6 .any ((OpenSpec.ofChange Rows.judgeDeadSpec).preRow enc Tryz.prog Tryz.f6 Rows.judgeDeadRow.domain false Rows.judgeDeadRow.laid) (((OpenSpec.ofChange Rows.judgeDeadSpec).at F).post enc Tryz.prog Tryz.f6 false true false false):=by
 obtain⟨places,hx⟩:=reads os enc
 refine returnsInHanded_of_row (C:=Tryz.checked) (s:=OpenSpec.ofChange Rows.judgeDeadSpec) own started (by kernel_rfl) Tryz.func6
  (witness_row_at (enc:=enc) (C:=Tryz.checked) false (Yn os) agr rfl (by kernel_rfl) (by kernel_rfl) (by kernel_rfl)
   (OpenSpec.preRow_of_cond 8 hx (by kernel_rfl) (λk hk=>by cases hk) (by kernel_rfl) (aq7 os))) ?_
 intro W base args ds gs before hval hW _ _ _ hL hsh _;exact contract H enc W base args ds gs before hval hW hsh
theorem said:Rows.JudgeDeadSaid:=
 OpenClaim.holds_of_cond 6 Tryz.f6 rfl rfl rfl rfl rfl rfl rfl ⟨rfl,rfl,rfl,rfl,rfl⟩ rfl rfl rfl rfl rfl (by kernel_rfl) Tryz.func6 closed
  (Zf7 (by kernel_rfl)) (by unfold Func.isWrapper;first|(rw[Zb2 (by decide+kernel)];kernel_rfl)|(rw[Za7 (by decide+kernel)];exact⟨rfl,rfl⟩))
  (λos started H enc _ F=>by rw[OpenClaim.pre_eq_preRow];exact lifted os started H enc F)
theorem plain(f:FuncId)(fn:Func)(hf:Tryz.pinned.checked.prog.funcNamed Rows.judgeDeadRow.func=some f)(GK:Tryz.pinned.checked.prog.funcs[f]? =some fn):
   false=Tryz.pinned.checked.prog.looks []/\∀(j:Nat) t,fn.params[j]? =some t->Tryz.pinned.checked.prog.wantsStandIn t=false:=by
 obtain rfl:f=6:=Zi7 ((show Tryz.prog.funcNamed Rows.judgeDeadRow.func=some 6 by kernel_rfl).symm.trans hf) |>.symm;obtain rfl:fn=Tryz.f6:=(Zi7 (Tryz.func6.symm.trans GK)).symm;refine⟨by kernel_rfl,λj t ht=> ?_⟩;rw[Tryz.params6]at ht;have:t=26\/t=27:=by simpa using Array.mem_of_getElem? ht
 rcases this with rfl|rfl
 . exact(show Tryz.prog.wantsStandIn 26=false by kernel_rfl)
 . exact(show Tryz.prog.wantsStandIn 27=false by kernel_rfl)
end Go.Proofs.YtgihekklfnjkiaaGreatDoor.Hq
namespace Go.Proofs.YtgihekklfnjkiaaGreatDoor
theorem judgeDead_card:Rows.JudgeDeadCardSaid:=
 Claim7.holds_tied_plain_at .later [] _ _ _ _ Hq.said (λ_ h=>by cases h) (by kernel_rfl) (λ_ h=>by cases h) judgeDead_row_tie rfl ⟨rfl,rfl⟩ (by kernel_rfl) rfl Hq.plain (by kernel_rfl)
#print axioms judgeDead_card
end Go.Proofs.YtgihekklfnjkiaaGreatDoor
end
