/- What is proved: JudgeAdds' tied card: at all numbers of a problem and all lists of numbers the law's function returns true and they read as before. Condition: the row's listed variables hold what the card ties to the text. -/
import Derived.Test.YtgihekklfnjkiaaGreatDoorCards
import Derived.Test.YtgihekklfnjkiaaGreatDoorTie
import Derived.Lib.LaidTab
import Derived.Test.YtgihekklfnjkiaaGreatDoorALaw
set_option linter.all false
set_option maxRecDepth 100000
section
namespace Go.Proofs.YtgihekklfnjkiaaGreatDoor.Ik
open Go Go.Ai Go.Proofs Go.ChangeShapes Go.WideShapes Go.ChangeAt Go.RowKit
theorem own:ownKnob Tryz.prog.godebug=none:=by kernel_rfl
theorem avh{m:Int}{C:Cells}(hC:C ⟨0,0,none⟩=some (.int .i64 m)):vY Tryz.prog C GK/\oP GK:=yR (λx hx=>by
 simp only[Za9,Zc6,Zf3]at hx;rcases hx with rfl|rfl
 .exact aA.ZM
 .exact af4 Tryz.func14 (by decide) rfl λw hw=>(aA.aqo m w (hw _ _ hC)).mono λe w' h=>⟨h.1,h.2.os,h.2.tape,h.2.output,h.2.size,h.2.block⟩)
theorem avi{m:Int}{C:Cells}(hC:C ⟨0,0,none⟩=some (.int .i64 m))(C':Cells)(h1:∀ad u,C ad=some u->C' ad=some u):jq Tryz.prog C' (run GK gg):=by have cF:=avh (C:=C') (h1 _ _ hC);exact afY (by kernel_rfl) Vb cF.1 cF.2 Vc
theorem asU{m:Int}{C:Cells}(hC:C ⟨0,0,none⟩=some (.int .i64 m)):vY Tryz.prog C O9/\oP O9:=yR (λx hx=>by
 simp only[Za9,Zc6,Zf3]at hx;rcases hx with rfl|rfl|rfl|rfl|rfl|rfl|rfl|rfl|rfl|rfl
 .exact aA.ZM
 .exact af4 Tryz.func14 (by decide) rfl λw hw=>(aA.aqo m w (hw _ _ hC)).mono λe w' h=>⟨h.1,h.2.os,h.2.tape,h.2.output,h.2.size,h.2.block⟩
 all_goals exact arb (avi hC))
theorem contract(H:Type)(enc:TypeId×Value->H)(W:World)(base:Nat)(args:Array Value)(ds gs:List (DataW H))(before:List MemPlace)
  (hval:∀(j:Nat) t v,Tryz.f7.params[j]? =some t->args[j]? =some v->Value.okWide Tryz.prog W .any base t v)
  (hW:DataW.Whole enc Tryz.prog Tryz.f7.params.toList Rows.judgeAddsSpec.vars false W args.toList ds gs before) (hsh:W.ShapedOpen Tryz.prog):
  Calls Tryz.prog 7 args W λe W'=>∃v,e= .returned v/\Rows.judgeAddsSpec.post enc Tryz.prog Tryz.f7 false true false false W args v W':=by
 have jD:=hW;obtain⟨p,q,hA0,hV,rfl,hfz,hnd⟩:=hW;have hA:DataW.TrodAll enc Tryz.prog W 0 (λ_=>true) true Tryz.f7.params.toList args.toList ds p:=hA0;rw[Tryz.params7]at hA hval;obtain⟨v0,vs0,d0,ds0,p0,q0,yh,rfl,rfl,h0,r0⟩:=trodAll_cons hA;obtain⟨v1,vs1,d1,ds1,p1,q1,rfl,rfl,rfl,h1,r1⟩:=trodAll_cons r0;obtain⟨rfl,rfl,rfl⟩:=trodAll_nil r1;obtain rfl:args= #[v0,v1]:=by clear jD hV hfz hnd hsh hval;cases args;simp_all
 obtain⟨as0,⟨zt,zg,zy,zr,xt,xg,xy,xr,rfl,ok⟩,k0⟩:=adI agW Tryz.underlying26 (hval 0 _ v0 rfl rfl) h0;obtain⟨as1,⟨z1,l1,rfl,m1⟩,k1⟩:=ae3 arU Tryz.underlying27 (hval 1 _ v1 rfl rfl) h1;obtain⟨rfl,rfl⟩:=trodVars_none hV;clear hA0;obtain⟨m,hm⟩:=Tryz.asP.s1_3 W hsh;have cF:=asU (C:=λad=>W.cell? ad) hm;have law:=ajd (c:=run O9 gg) rfl ok.t ok.g ok.y ok.r ok.lt ok.lg ok.lr ok.ly zt zg zy zr z1 l1 m1 { heap:= .e,next:= .h } (λp x hp=>by rw[T.dZ]at hp;cases hp);have walk:=aq8 (C:=λad=>W.cell? ad) (w:=W) (afY (by kernel_rfl) Vb cF.1 cF.2 Vc) (λad v h=>h) (λa v _ o h=>h) Tryz.func7 (by decide) rfl (aN.cons (k0 _ _) (k1 _ _)) law;refine walk.mono λe W' ⟨he,hg⟩=> ?_
 subst he;exact⟨_,rfl,aox (tb:=4) (by kernel_rfl) jD rfl rfl (by rw[Tryz.params7];intro t ht;simp at ht;rcases ht with rfl|rfl<;>exact⟨by kernel_rfl,Zh7 (by kernel_rfl)⟩) hg.below (by kernel_rfl) (by kernel_rfl)⟩
noncomputable def ak1:Array Value:= #[.int .u8 128,.int .u8 191,.int .u8 160,.int .u8 191,.int .u8 128,.int .u8 159,.int .u8 144,.int .u8 191,.int .u8 128,.int .u8 143,.int .u8 0,.int .u8 0,.int .u8 0,.int .u8 0,.int .u8 0,.int .u8 0,.int .u8 0,.int .u8 0,.int .u8 0,.int .u8 0,.int .u8 0,.int .u8 0,.int .u8 0,.int .u8 0,.int .u8 0,.int .u8 0,.int .u8 0,.int .u8 0,.int .u8 0,.int .u8 0,.int .u8 0,.int .u8 0]
noncomputable def firstCells:Array Value:=(Go.Pinned.utf8FirstZ.map λ(n:Nat)=>Value.int .u8 (n:Int)).toArray
noncomputable def agG(x:Array Value):Obj->Obj
 |.cells _ t frozen=>.cells x t frozen
 |o=>o
noncomputable def ZN(os:Os):World:=
 { World.holding Tryz.prog os ⟨#[], #[],[]⟩with heap:=((World.holding Tryz.prog os ⟨#[], #[],[]⟩).heap.modify 1 (agG firstCells)).modify 2 (agG ak1) }
noncomputable def ahE:Array Value:= #[.agg #[.slice none 0 0,.slice none 0 0,.slice none 0 0,.slice none 0 0],.slice none 0 0]
theorem asV(os:Os):laidMet Tryz.prog Rows.judgeAddsRow.laid ((ZN os).forCall (λ_ _=>0) ⟨#[],ahE,[]⟩).memory:=
 laidMet_of_run' 8 (by kernel_rfl) (by kernel_rfl)
theorem reads(os:Os){H:Type}(enc:TypeId×Value->H):∃places,DataW.whole enc Tryz.prog ((ZN os).forCall (λ_ _=>0) ⟨#[],ahE,[]⟩).memory Tryz.f7.params.toList Rows.judgeAddsSpec.vars false ahE.toList 8=some ([.agg [.nil,.nil,.nil,.nil],.nil],[],places):=
 ⟨[],by kernel_rfl⟩
theorem lifted(os:Os)(started:os.Started)(H:Type)(enc:TypeId×Value->H)(F:Stop.Interp):
  ReturnsInHanded {} Tryz.checked os 7 .any ((OpenSpec.ofChange Rows.judgeAddsSpec).preRow enc Tryz.prog Tryz.f7 Rows.judgeAddsRow.domain false Rows.judgeAddsRow.laid) (((OpenSpec.ofChange Rows.judgeAddsSpec).at F).post enc Tryz.prog Tryz.f7 false true false false):=by
 obtain⟨places,hx⟩:=reads os enc
 refine returnsInHanded_of_row (C:=Tryz.checked) (s:=OpenSpec.ofChange Rows.judgeAddsSpec) own started (by kernel_rfl) Tryz.func7
  (witness_row_at (enc:=enc) (C:=Tryz.checked) false (ZN os) ahE rfl (by kernel_rfl) (by kernel_rfl) (by kernel_rfl)
   (OpenSpec.preRow_of_cond 8 hx (by kernel_rfl) (λk hk=>by cases hk) (by kernel_rfl) (asV os))) ?_
 intro W base args ds gs before hval hW _ _ _ hL hsh _;exact contract H enc W base args ds gs before hval hW hsh
theorem said:Rows.JudgeAddsSaid:=
 OpenClaim.holds_of_cond 7 Tryz.f7 rfl rfl rfl rfl rfl rfl rfl ⟨rfl,rfl,rfl,rfl,rfl⟩ rfl rfl rfl rfl rfl (by kernel_rfl) Tryz.func7 closed
  (Zh7 (by kernel_rfl)) (by unfold Func.isWrapper;first|(rw[Zb4 (by decide+kernel)];kernel_rfl)|(rw[Za7 (by decide+kernel)];exact⟨rfl,rfl⟩))
  (λos started H enc _ F=>by rw[OpenClaim.pre_eq_preRow];exact lifted os started H enc F)
theorem plain(f:FuncId)(fn:Func)(hf:Tryz.pinned.checked.prog.funcNamed Rows.judgeAddsRow.func=some f)(HO:Tryz.pinned.checked.prog.funcs[f]? =some fn):
   false=Tryz.pinned.checked.prog.looks []/\∀(j:Nat) t,fn.params[j]? =some t->Tryz.pinned.checked.prog.wantsStandIn t=false:=by
 obtain rfl:f=7:=Zi1 ((show Tryz.prog.funcNamed Rows.judgeAddsRow.func=some 7 by kernel_rfl).symm.trans hf) |>.symm;obtain rfl:fn=Tryz.f7:=(Zi1 (Tryz.func7.symm.trans HO)).symm;refine⟨by kernel_rfl,λj t ht=> ?_⟩;rw[Tryz.params7]at ht;have:t=26\/t=27:=by simpa using Array.mem_of_getElem? ht
 rcases this with rfl|rfl
 .exact(show Tryz.prog.wantsStandIn 26=false by kernel_rfl)
 .exact(show Tryz.prog.wantsStandIn 27=false by kernel_rfl)
end Go.Proofs.YtgihekklfnjkiaaGreatDoor.Ik
namespace Go.Proofs.YtgihekklfnjkiaaGreatDoor
theorem judgeAdds_card:Rows.JudgeAddsCardSaid:=
 Claim7.holds_tied_plain_at .later [] _ _ _ _ Ik.said (λ_ h=>by cases h) (by kernel_rfl) (λ_ h=>by cases h) judgeAdds_row_tie rfl ⟨rfl,rfl⟩ (by kernel_rfl) rfl Ik.plain (by kernel_rfl)
#print axioms judgeAdds_card
end Go.Proofs.YtgihekklfnjkiaaGreatDoor
end
