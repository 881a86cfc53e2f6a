/- What is proved: JudgeGrows' tied card: at all numbers of a problem and all lists of numbers the law's function returns true and they read as before. Condition: the row's listed variables hold what the card ties to the text. -/
import Derived.Test.YtgihekklfnjkiaaGreatDoorCards
import Derived.Test.YtgihekklfnjkiaaGreatDoorTie
import Derived.Lib.LaidTab
import Derived.Test.YtgihekklfnjkiaaGreatDoorGLaw
set_option linter.all false
set_option linter.unusedSectionVars false
set_option linter.deprecated false
section
namespace Go.Proofs.YtgihekklfnjkiaaGreatDoor.Dh
open Go Go.Ai Go.Proofs Go.ChangeShapes Go.WideShapes Go.ChangeAt Go.RowKit
theorem own:ownKnob Tryz.prog.godebug=none:=by kernel_rfl
theorem atl{m:Int}{C:Cells}(hC:C ⟨0,0,none⟩=some (.int .i64 m)):vz Tryz.prog C SN/\oI SN:=yy (λx hx=>by
 simp only[Zb0,Zc5,Zf2]at hx;rcases hx with rfl|rfl
 . exact ay.Yb
 . exact aeD Tryz.func14 (by decide) rfl λw hw=>(ay.aoE m w (hw _ _ hC)).mono λe w' h=>⟨h.1,h.2.os,h.2.tape,h.2.output,h.2.size,h.2.block⟩)
set_option maxRecDepth 100000 in
theorem atm{m:Int}{C:Cells}(hC:C ⟨0,0,none⟩=some (.int .i64 m))(C':Cells)(h1:∀ad u,C ad=some u->C' ad=some u):iZ Tryz.prog C' (run SN gg):=by have cG:=atl (C:=C') (h1 _ _ hC);exact aex (by kernel_rfl) To cG.1 cG.2 Tq
set_option maxRecDepth 100000 in
theorem aqZ{m:Int}{C:Cells}(hC:C ⟨0,0,none⟩=some (.int .i64 m)):vz Tryz.prog C NA/\oI NA:=yy (λx hx=>by
 simp only[Zb0,Zc5,Zf2]at hx;rcases hx with rfl|rfl|rfl|rfl|rfl|rfl|rfl|rfl|rfl|rfl
 . exact ay.Yb
 . exact aeD Tryz.func14 (by decide) rfl λw hw=>(ay.aoE m w (hw _ _ hC)).mono λe w' h=>⟨h.1,h.2.os,h.2.tape,h.2.output,h.2.size,h.2.block⟩
 all_goals exact apt (atm hC))
set_option maxRecDepth 100000 in
theorem contract(H:Type)(enc:TypeId×Value->H)(W:World)(base:Nat)(args:Array Value)(ds gs:List (DataW H))(before:List MemPlace)
  (hval:∀(j:Nat) t v,Tryz.f5.params[j]? =some t->args[j]? =some v->Value.okWide Tryz.prog W .any base t v)
  (hW:DataW.Whole enc Tryz.prog Tryz.f5.params.toList Rows.judgeGrowsSpec.vars false W args.toList ds gs before) (hsh:W.ShapedOpen Tryz.prog):
  Calls Tryz.prog 5 args W λe W'=>∃v,e= .returned v/\Rows.judgeGrowsSpec.post enc Tryz.prog Tryz.f5 false true false false W args v W':=by
 have jk:=hW;obtain⟨p,q,hA0,hV,rfl,hfz,hnd⟩:=hW;have hA:DataW.TrodAll enc Tryz.prog W 0 (λ_=>true) true Tryz.f5.params.toList args.toList ds p:=hA0;rw[Tryz.params5]at hA hval;obtain⟨v0,vs0,d0,ds0,p0,q0,xK,rfl,rfl,h0,r0⟩:=trodAll_cons hA;obtain⟨v1,vs1,d1,ds1,p1,q1,rfl,rfl,rfl,h1,r1⟩:=trodAll_cons r0;obtain⟨v2,vs2,d2,ds2,p2,q2,rfl,rfl,rfl,h2,r2⟩:=trodAll_cons r1;obtain⟨rfl,rfl,rfl⟩:=trodAll_nil r2;obtain rfl:args= #[v0,v1,v2]:=by clear jk hV hfz hnd hsh hval;cases args;simp_all
 obtain⟨as0,⟨zt,zg,zy,zr,xt,xg,xy,xr,rfl,ok⟩,k0⟩:=ab3 afw Tryz.underlying26 (hval 0 _ v0 rfl rfl) h0;obtain⟨as1,⟨z1,xs,rfl,lx⟩,k1⟩:=Pm ahL Tryz.underlying27 (hval 1 _ v1 rfl rfl) h1;obtain⟨as2,⟨z2,ys,rfl,ly⟩,k2⟩:=Pm ahL Tryz.underlying27 (hval 2 _ v2 rfl rfl) h2;obtain⟨rfl,rfl⟩:=trodVars_none hV;clear hA0;obtain⟨m,hm⟩:=Tryz.aqU.s1_3 W hsh;have cG:=aqZ (C:=λad=>W.cell? ad) hm;have law:=afv (c:=run NA gg) rfl ok.t ok.g ok.y ok.r ok.lt ok.lg ok.lr ok.ly zt zg zy zr z1 z2 xs ys lx ly { heap:= .e,next:= .h } (λp x hp=>by rw[T.dO]at hp;cases hp);have walk:=apq (C:=λad=>W.cell? ad) (w:=W) (aex (by kernel_rfl) To cG.1 cG.2 Tq) (λad v h=>h) (λa v _ o h=>h) Tryz.func5 (by decide) rfl (aK.cons (k0 _ _) (aK.cons ((k1 _ _).2 0 _ _ rfl rfl) (k2 _ _))) law;refine walk.mono λe W' ⟨he,hg⟩=> ?_
 subst he;exact⟨_,rfl,amY (tb:=4) (by kernel_rfl) jk rfl rfl (by rw[Tryz.params5];intro t ht;simp at ht;rcases ht with rfl|rfl<;>exact⟨by kernel_rfl,Zh1 (by kernel_rfl)⟩) hg.below (by kernel_rfl) (by kernel_rfl)⟩
noncomputable def ajx:Array Value:= #[.int .u8 128,.int .u8 191,.int .u8 160,.int .u8 191,.int .u8 128,.int .u8 159,.int .u8 144,.int .u8 191,.int .u8 128,.int .u8 143,.int .u8 0,.int .u8 0,.int .u8 0,.int .u8 0,.int .u8 0,.int .u8 0,.int .u8 0,.int .u8 0,.int .u8 0,.int .u8 0,.int .u8 0,.int .u8 0,.int .u8 0,.int .u8 0,.int .u8 0,.int .u8 0,.int .u8 0,.int .u8 0,.int .u8 0,.int .u8 0,.int .u8 0,.int .u8 0]
noncomputable def firstCells:Array Value:=(Go.Pinned.utf8FirstZ.map λ(n:Nat)=>Value.int .u8 (n:Int)).toArray
noncomputable def afj(x:Array Value):Obj->Obj
 | .cells _ t frozen=> .cells x t frozen
 |o=>o
noncomputable def Yc(os:Os):World:=
 { World.holding Tryz.prog os ⟨#[], #[],[]⟩with heap:=((World.holding Tryz.prog os ⟨#[], #[],[]⟩).heap.modify 1 (afj firstCells)).modify 2 (afj ajx) }
noncomputable def agh:Array Value:= #[.agg #[.slice none 0 0,.slice none 0 0,.slice none 0 0,.slice none 0 0],.slice none 0 0,.slice none 0 0]
theorem aq0(os:Os):laidMet Tryz.prog Rows.judgeGrowsRow.laid ((Yc os).forCall (λ_ _=>0) ⟨#[],agh,[]⟩).memory:=
 laidMet_of_run' 8 (by kernel_rfl) (by kernel_rfl)
theorem reads(os:Os){H:Type}(enc:TypeId×Value->H):∃places,DataW.whole enc Tryz.prog ((Yc os).forCall (λ_ _=>0) ⟨#[],agh,[]⟩).memory Tryz.f5.params.toList Rows.judgeGrowsSpec.vars false agh.toList 8=some ([.agg [.nil,.nil,.nil,.nil],.nil,.nil],[],places):=
 ⟨[],by kernel_rfl⟩
set_option maxRecDepth 100000 in
theorem lifted(os:Os)(started:os.Started)(H:Type)(enc:TypeId×Value->H)(F:Stop.Interp):
  ReturnsInHanded {} Tryz.checked os 5 .any ((OpenSpec.ofChange Rows.judgeGrowsSpec).preRow enc Tryz.prog Tryz.f5 Rows.judgeGrowsRow.domain false Rows.judgeGrowsRow.laid) (((OpenSpec.ofChange Rows.judgeGrowsSpec).at F).post enc Tryz.prog Tryz.f5 false true false false):=by
 obtain⟨places,hx⟩:=reads os enc
 refine returnsInHanded_of_row (C:=Tryz.checked) (s:=OpenSpec.ofChange Rows.judgeGrowsSpec) own started (by kernel_rfl) Tryz.func5
  (witness_row_at (enc:=enc) (C:=Tryz.checked) false (Yc os) agh rfl (by kernel_rfl) (by kernel_rfl) (by kernel_rfl)
   (OpenSpec.preRow_of_cond 8 hx (by kernel_rfl) (λk hk=>by cases hk) (by kernel_rfl) (aq0 os))) ?_
 intro W base args ds gs before hval hW _ _ _ hL hsh _;exact contract H enc W base args ds gs before hval hW hsh
theorem said:Rows.JudgeGrowsSaid:=
 OpenClaim.holds_of_cond 5 Tryz.f5 rfl rfl rfl rfl rfl rfl rfl ⟨rfl,rfl,rfl,rfl,rfl⟩ rfl rfl rfl rfl rfl (by kernel_rfl) Tryz.func5 closed
  (Zh1 (by kernel_rfl)) (by unfold Func.isWrapper;first|(rw[Zb3 (by decide+kernel)];kernel_rfl)|(rw[Za7 (by decide+kernel)];exact⟨rfl,rfl⟩))
  (λos started H enc _ F=>by rw[OpenClaim.pre_eq_preRow];exact lifted os started H enc F)
theorem plain(f:FuncId)(fn:Func)(hf:Tryz.pinned.checked.prog.funcNamed Rows.judgeGrowsRow.func=some f)(Gu:Tryz.pinned.checked.prog.funcs[f]? =some fn):
   false=Tryz.pinned.checked.prog.looks []/\∀(j:Nat) t,fn.params[j]? =some t->Tryz.pinned.checked.prog.wantsStandIn t=false:=by
 obtain rfl:f=5:=Zg3 ((show Tryz.prog.funcNamed Rows.judgeGrowsRow.func=some 5 by kernel_rfl).symm.trans hf) |>.symm;obtain rfl:fn=Tryz.f5:=(Zg3 (Tryz.func5.symm.trans Gu)).symm;refine⟨by kernel_rfl,λj t ht=> ?_⟩;rw[Tryz.params5]at ht;have:t=26\/t=27:=by simpa using Array.mem_of_getElem? ht
 rcases this with rfl|rfl
 . exact(show Tryz.prog.wantsStandIn 26=false by kernel_rfl)
 . exact(show Tryz.prog.wantsStandIn 27=false by kernel_rfl)
end Go.Proofs.YtgihekklfnjkiaaGreatDoor.Dh
namespace Go.Proofs.YtgihekklfnjkiaaGreatDoor
theorem judgeGrows_card:Rows.JudgeGrowsCardSaid:=
 Claim7.holds_tied_plain_at .later [] _ _ _ _ Dh.said (λ_ h=>by cases h) (by kernel_rfl) (λ_ h=>by cases h) judgeGrows_row_tie rfl ⟨rfl,rfl⟩ (by kernel_rfl) rfl Dh.plain (by kernel_rfl)
#print axioms judgeGrows_card
end Go.Proofs.YtgihekklfnjkiaaGreatDoor
end
