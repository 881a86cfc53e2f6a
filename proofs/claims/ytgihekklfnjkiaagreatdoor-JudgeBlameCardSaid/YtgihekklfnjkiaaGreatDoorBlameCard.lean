/- What is proved: JudgeBlame's tied card: at all numbers of a problem and all lists of numbers the law's function returns true and they read as before. Condition: the row's listed variables hold what the card ties to the text. -/
import Derived.Test.YtgihekklfnjkiaaGreatDoorCards
import Derived.Test.YtgihekklfnjkiaaGreatDoorBLaw
import Derived.Test.YtgihekklfnjkiaaGreatDoorTie
import Derived.Lib.LaidTab
set_option linter.all false
set_option maxRecDepth 100000
section
namespace Go.Proofs.YtgihekklfnjkiaaGreatDoor.Dd
open Go Go.Ai Go.Proofs Go.ChangeShapes Go.WideShapes Go.ChangeAt Go.RowKit
theorem own:ownKnob Tryz.prog.godebug=none:=by kernel_rfl
theorem atN{m:Int}{C:Cells}(hC:C ⟨0,0,none⟩=some (.int .i64 m)):vu Tryz.prog C SK/\oG SK:=yq (λx hx=>by
 simp only[Za9,Zc3,Zf0]at hx;rcases hx with rfl|rfl
 .exact ay.X4
 .exact aey Tryz.func14 (by decide) rfl λw hw=>(ay.ao2 m w (hw _ _ hC)).mono λe w' h=>⟨h.1,h.2.os,h.2.tape,h.2.output,h.2.size,h.2.block⟩)
theorem Co{m:Int}{C:Cells}(hC:C ⟨0,0,none⟩=some (.int .i64 m))(C':Cells)(h1:∀ad u,C ad=some u->C' ad=some u):iX Tryz.prog C' (run SK gg):=by have cw:=atN (C:=C') (h1 _ _ hC);exact aer (by kernel_rfl) Tn cw.1 cw.2 To
theorem arv{m:Int}{C:Cells}(hC:C ⟨0,0,none⟩=some (.int .i64 m)):vu Tryz.prog C Nq/\oG Nq:=yq (λx hx=>by
 simp only[Za9,Zc3,Zf0]at hx;rcases hx with rfl|rfl|rfl|rfl|rfl|rfl|rfl|rfl|rfl|rfl|rfl|rfl
 .exact ay.X4
 .exact aey Tryz.func14 (by decide) rfl λw hw=>(ay.ao2 m w (hw _ _ hC)).mono λe w' h=>⟨h.1,h.2.os,h.2.tape,h.2.output,h.2.size,h.2.block⟩
 .exact yx (Co hC)
 .exact yx (Co hC)
 .exact yx (Co hC)
 .exact yx (Co hC)
 .exact yx (Co hC)
 .exact yx (Co hC)
 .exact yx (Co hC)
 .exact yx (Co hC)
 .exact anX
 .exact ahE)
theorem contract(H:Type)(enc:TypeId×Value->H)(W:World)(base:Nat)(args:Array Value)(ds gs:List (DataW H))(before:List MemPlace)
  (hval:∀(j:Nat) t v,Tryz.f3.params[j]? =some t->args[j]? =some v->Value.okWide Tryz.prog W .any base t v)
  (hW:DataW.Whole enc Tryz.prog Tryz.f3.params.toList Rows.judgeBlameSpec.vars false W args.toList ds gs before) (hsh:W.ShapedOpen Tryz.prog):
  Calls Tryz.prog 3 args W λe W'=>∃v,e= .returned v/\Rows.judgeBlameSpec.post enc Tryz.prog Tryz.f3 false true false false W args v W':=by
 have ji:=hW;obtain⟨p,q,hA0,hV,rfl,hfz,hnd⟩:=hW;have hA:DataW.TrodAll enc Tryz.prog W 0 (λ_=>true) true Tryz.f3.params.toList args.toList ds p:=hA0;rw[Tryz.params3]at hA hval;obtain⟨v0,vs0,d0,ds0,p0,q0,xJ,rfl,rfl,h0,r0⟩:=trodAll_cons hA;obtain⟨v1,vs1,d1,ds1,p1,q1,rfl,rfl,rfl,h1,r1⟩:=trodAll_cons r0;obtain⟨rfl,rfl,rfl⟩:=trodAll_nil r1;obtain rfl:args= #[v0,v1]:=by clear ji hV hfz hnd hsh hval;cases args;simp_all
 obtain⟨as0,⟨zt,zg,zy,zr,xt,xg,xy,xr,rfl,ok⟩,k0⟩:=abX afk Tryz.underlying26 (hval 0 _ v0 rfl rfl) h0;obtain⟨as1,⟨z1,l1,rfl,m1⟩,k1⟩:=adr aqu Tryz.underlying27 (hval 1 _ v1 rfl rfl) h1;obtain⟨rfl,rfl⟩:=trodVars_none hV;clear hA0;obtain⟨m,hm⟩:=Tryz.aro.s1_3 W hsh;have cw:=arv (C:=λad=>W.cell? ad) hm;have law:=afi (c:=run Nq gg) rfl ok.t ok.g ok.y ok.r ok.lt ok.lg ok.lr ok.ly zt zg zy zr z1 l1 m1 { heap:= .e,next:= .h } (λp x hp=>by rw[T.dN]at hp;cases hp);have walk:=apR (C:=λad=>W.cell? ad) (w:=W) (aer (by kernel_rfl) Tn cw.1 cw.2 To) (λad v h=>h) (λa v _ o h=>h) Tryz.func3 (by decide) rfl (aJ.cons (k0 _ _) (k1 _ _)) law;refine walk.mono λe W' ⟨he,hg⟩=> ?_
 subst he;exact⟨_,rfl,am1 (tb:=4) (by kernel_rfl) ji rfl rfl (by rw[Tryz.params3];intro t ht;simp at ht;rcases ht with rfl|rfl<;>exact⟨by kernel_rfl,Zg1 (by kernel_rfl)⟩) hg.below (by kernel_rfl) (by kernel_rfl)⟩
noncomputable def aju:Array Value:= #[.int .u8 128,.int .u8 191,.int .u8 160,.int .u8 191,.int .u8 128,.int .u8 159,.int .u8 144,.int .u8 191,.int .u8 128,.int .u8 143,.int .u8 0,.int .u8 0,.int .u8 0,.int .u8 0,.int .u8 0,.int .u8 0,.int .u8 0,.int .u8 0,.int .u8 0,.int .u8 0,.int .u8 0,.int .u8 0,.int .u8 0,.int .u8 0,.int .u8 0,.int .u8 0,.int .u8 0,.int .u8 0,.int .u8 0,.int .u8 0,.int .u8 0,.int .u8 0]
noncomputable def firstCells:Array Value:=(Go.Pinned.utf8FirstZ.map λ(n:Nat)=>Value.int .u8 (n:Int)).toArray
noncomputable def ae7(x:Array Value):Obj->Obj
 |.cells _ t frozen=>.cells x t frozen
 |o=>o
noncomputable def X5(os:Os):World:=
 { World.holding Tryz.prog os ⟨#[], #[],[]⟩with heap:=((World.holding Tryz.prog os ⟨#[], #[],[]⟩).heap.modify 1 (ae7 firstCells)).modify 2 (ae7 aju) }
noncomputable def af5:Array Value:= #[.agg #[.slice none 0 0,.slice none 0 0,.slice none 0 0,.slice none 0 0],.slice none 0 0]
theorem arw(os:Os):laidMet Tryz.prog Rows.judgeBlameRow.laid ((X5 os).forCall (λ_ _=>0) ⟨#[],af5,[]⟩).memory:=
 laidMet_of_run' 8 (by kernel_rfl) (by kernel_rfl)
theorem reads(os:Os){H:Type}(enc:TypeId×Value->H):∃places,DataW.whole enc Tryz.prog ((X5 os).forCall (λ_ _=>0) ⟨#[],af5,[]⟩).memory Tryz.f3.params.toList Rows.judgeBlameSpec.vars false af5.toList 8=some ([.agg [.nil,.nil,.nil,.nil],.nil],[],places):=
 ⟨[],by kernel_rfl⟩
theorem lifted(os:Os)(started:os.Started)(H:Type)(enc:TypeId×Value->H)(F:Stop.Interp):
  ReturnsInHanded {} Tryz.checked os 3 .any ((OpenSpec.ofChange Rows.judgeBlameSpec).preRow enc Tryz.prog Tryz.f3 Rows.judgeBlameRow.domain false Rows.judgeBlameRow.laid) (((OpenSpec.ofChange Rows.judgeBlameSpec).at F).post enc Tryz.prog Tryz.f3 false true false false):=by
 obtain⟨places,hx⟩:=reads os enc
 refine returnsInHanded_of_row (C:=Tryz.checked) (s:=OpenSpec.ofChange Rows.judgeBlameSpec) own started (by kernel_rfl) Tryz.func3
  (witness_row_at (enc:=enc) (C:=Tryz.checked) false (X5 os) af5 rfl (by kernel_rfl) (by kernel_rfl) (by kernel_rfl)
   (OpenSpec.preRow_of_cond 8 hx (by kernel_rfl) (λk hk=>by cases hk) (by kernel_rfl) (arw os))) ?_
 intro W base args ds gs before hval hW _ _ _ hL hsh _;exact contract H enc W base args ds gs before hval hW hsh
theorem said:Rows.JudgeBlameSaid:=
 OpenClaim.holds_of_cond 3 Tryz.f3 rfl rfl rfl rfl rfl rfl rfl ⟨rfl,rfl,rfl,rfl,rfl⟩ rfl rfl rfl rfl rfl (by kernel_rfl) Tryz.func3 closed
  (Zg1 (by kernel_rfl)) (by unfold Func.isWrapper;first|(rw[Zb4 (by decide+kernel)];kernel_rfl)|(rw[Za6 (by decide+kernel)];exact⟨rfl,rfl⟩))
  (λos started H enc _ F=>by rw[OpenClaim.pre_eq_preRow];exact lifted os started H enc F)
theorem plain(f:FuncId)(fn:Func)(hf:Tryz.pinned.checked.prog.funcNamed Rows.judgeBlameRow.func=some f)(Gm:Tryz.pinned.checked.prog.funcs[f]? =some fn):
   false=Tryz.pinned.checked.prog.looks []/\∀(j:Nat) t,fn.params[j]? =some t->Tryz.pinned.checked.prog.wantsStandIn t=false:=by
 obtain rfl:f=3:=Zi5 ((show Tryz.prog.funcNamed Rows.judgeBlameRow.func=some 3 by kernel_rfl).symm.trans hf) |>.symm;obtain rfl:fn=Tryz.f3:=(Zi5 (Tryz.func3.symm.trans Gm)).symm;refine⟨by kernel_rfl,λj t ht=> ?_⟩;rw[Tryz.params3]at ht;have:t=26\/t=27:=by simpa using Array.mem_of_getElem? ht
 rcases this with rfl|rfl
 .exact(show Tryz.prog.wantsStandIn 26=false by kernel_rfl)
 .exact(show Tryz.prog.wantsStandIn 27=false by kernel_rfl)
end Go.Proofs.YtgihekklfnjkiaaGreatDoor.Dd
namespace Go.Proofs.YtgihekklfnjkiaaGreatDoor
theorem judgeBlame_card:Rows.JudgeBlameCardSaid:=
 Claim7.holds_tied_plain_at .later [] _ _ _ _ Dd.said (λ_ h=>by cases h) (by kernel_rfl) (λ_ h=>by cases h) judgeBlame_row_tie rfl ⟨rfl,rfl⟩ (by kernel_rfl) rfl Dd.plain (by kernel_rfl)
#print axioms judgeBlame_card
end Go.Proofs.YtgihekklfnjkiaaGreatDoor
end
