/- What is proved: RuleNames' tied card: at every problem and all lists of numbers the law's function returns true and they read as before. Condition: the row's listed variables hold what the card ties to the text. -/
import Derived.Test.YtngcejgciomphaaGreatDoorCards
import Derived.Test.YtngcejgciomphaaGreatDoorNLaw
import Derived.Test.YtngcejgciomphaaGreatDoorTie
import Derived.Lib.LaidTab
set_option linter.all false
set_option maxRecDepth 100000
section
namespace Go.Proofs.YtngcejgciomphaaGreatDoor.Ff
open Go Go.Ai Go.Proofs Go.ChangeShapes Go.WideShapes Go.ChangeAt Go.RowKit
theorem own:ownKnob Tryz.prog.godebug=none:=by kernel_rfl
theorem ami{m:Int}{C:Cells}(hC:C ⟨0,0,none⟩=some (.int .i64 m)):uA Tryz.prog C sY/\mZ sY:=xU (λx hx=>by
 simp only[Zb4,Zc8,Zg9]at hx;rcases hx with rfl|rfl|rfl|rfl
 .exact ax.TB
 .exact ZZ Tryz.func5 (by decide) rfl λw hw=>(ax.aie m w (hw _ _ hC)).mono λe w' h=>⟨h.1,h.2.os,h.2.tape,h.2.output,h.2.size,h.2.block⟩
 .exact ahh
 .exact acu)
theorem nS{m:Int}{C:Cells}(hC:C ⟨0,0,none⟩=some (.int .i64 m))(C':Cells)(h1:∀ad u,C ad=some u->C' ad=some u):iK Tryz.prog C' (run sY gg):=by have cR:=ami (C:=C') (h1 _ _ hC);exact ZU (by kernel_rfl) PE cR.1 cR.2 PG
theorem akk{m:Int}{C:Cells}(hC:C ⟨0,0,none⟩=some (.int .i64 m)):uA Tryz.prog C Ud/\mZ Ud:=xU (λx hx=>by
 simp only[Zb4,Zc8,Zg9]at hx;rcases hx with rfl|rfl|rfl|rfl|rfl|rfl|rfl|rfl|rfl|rfl|rfl|rfl|rfl|rfl|rfl|rfl
 .exact ax.TB
 .exact ZZ Tryz.func5 (by decide) rfl λw hw=>(ax.aie m w (hw _ _ hC)).mono λe w' h=>⟨h.1,h.2.os,h.2.tape,h.2.output,h.2.size,h.2.block⟩
 .exact lS (nS hC)
 .exact lS (nS hC)
 .exact lS (nS hC)
 .exact lS (nS hC)
 .exact lS (nS hC)
 .exact lS (nS hC)
 .exact lS (nS hC)
 .exact lS (nS hC)
 .exact lS (nS hC)
 .exact lS (nS hC)
 .exact lS (nS hC)
 .exact lS (nS hC)
 .exact lS (nS hC)
 .exact lS (nS hC))
theorem contract(H:Type)(enc:TypeId×Value->H)(W:World)(base:Nat)(args:Array Value)(ds gs:List (DataW H))(before:List MemPlace)
  (hval:∀(j:Nat) t v,Tryz.f3.params[j]? =some t->args[j]? =some v->Value.okWide Tryz.prog W .any base t v)
  (hW:DataW.Whole enc Tryz.prog Tryz.f3.params.toList Rows.ruleNamesSpec.vars false W args.toList ds gs before) (hsh:W.ShapedOpen Tryz.prog):
  Calls Tryz.prog 3 args W λe W'=>∃v,e= .returned v/\Rows.ruleNamesSpec.post enc Tryz.prog Tryz.f3 false true false false W args v W':=by
 have iW:=hW;obtain⟨p,q,hA0,hV,rfl,hfz,hnd⟩:=hW;have hA:DataW.TrodAll enc Tryz.prog W 0 (λ_=>true) true Tryz.f3.params.toList args.toList ds p:=hA0;rw[Tryz.params3]at hA hval;obtain⟨v0,vs0,d0,ds0,p0,q0,wP,rfl,rfl,h0,r0⟩:=trodAll_cons hA;obtain⟨v1,vs1,d1,ds1,p1,q1,rfl,rfl,rfl,h1,r1⟩:=trodAll_cons r0;obtain⟨rfl,rfl,rfl⟩:=trodAll_nil r1;obtain rfl:args= #[v0,v1]:=by clear iW hV hfz hnd hsh hval;cases args;simp_all
 obtain⟨as0,⟨pr,rfl,hpt,hpr⟩,k0⟩:=Xw anE Tryz.underlying28 (hval 0 _ v0 rfl rfl) h0;obtain⟨as1,⟨z1,l1,rfl,m1⟩,k1⟩:=YP ac5 Tryz.underlying25 (hval 1 _ v1 rfl rfl) h1;obtain⟨rfl,rfl⟩:=trodVars_none hV;clear hA0;obtain⟨m,hm⟩:=Tryz.ake.s1_3 W hsh;have cR:=akk (C:=λad=>W.cell? ad) hm;have law:=acr (c:=run Ud gg) rfl pr hpt hpr z1 l1 { heap:= .e,next:= .h } (λp x hp=>by rw[T.eV]at hp;cases hp);have walk:=ai1 (C:=λad=>W.cell? ad) (w:=W) (ZU (by kernel_rfl) PE cR.1 cR.2 PG) (λad v h=>h) (λa v _ o h=>h) Tryz.func3 (by decide) rfl (aI.cons (k0 _ _) (k1 _ _)) law;refine walk.mono λe W' ⟨he,hg⟩=> ?_
 subst he;exact⟨_,rfl,ag2 (tb:=4) (by kernel_rfl) iW rfl rfl (by rw[Tryz.params3];intro t ht;simp at ht;rcases ht with rfl|rfl<;>exact⟨by kernel_rfl,Zi1 (by kernel_rfl)⟩) hg.below (by kernel_rfl) (by kernel_rfl)⟩
noncomputable def aeh:Array Value:= #[.int .u8 128,.int .u8 191,.int .u8 160,.int .u8 191,.int .u8 128,.int .u8 159,.int .u8 144,.int .u8 191,.int .u8 128,.int .u8 143,.int .u8 0,.int .u8 0,.int .u8 0,.int .u8 0,.int .u8 0,.int .u8 0,.int .u8 0,.int .u8 0,.int .u8 0,.int .u8 0,.int .u8 0,.int .u8 0,.int .u8 0,.int .u8 0,.int .u8 0,.int .u8 0,.int .u8 0,.int .u8 0,.int .u8 0,.int .u8 0,.int .u8 0,.int .u8 0]
noncomputable def firstCells:Array Value:=(Go.Pinned.utf8FirstZ.map λ(n:Nat)=>Value.int .u8 (n:Int)).toArray
noncomputable def aav(x:Array Value):Obj->Obj
 |.cells _ t frozen=>.cells x t frozen
 |o=>o
noncomputable def TC(os:Os):World:=
 { World.holding Tryz.prog os ⟨#[], #[],[]⟩with heap:=((World.holding Tryz.prog os ⟨#[], #[],[]⟩).heap.modify 1 (aav firstCells)).modify 2 (aav aeh) }
noncomputable def abo:Array Value:= #[.agg #[.slice none 0 0,.slice none 0 0,.slice none 0 0,.slice none 0 0,.slice none 0 0],.slice none 0 0]
theorem akl(os:Os):laidMet Tryz.prog Rows.ruleNamesRow.laid ((TC os).forCall (λ_ _=>0) ⟨#[],abo,[]⟩).memory:=
 laidMet_of_run' 8 (by kernel_rfl) (by kernel_rfl)
theorem reads(os:Os){H:Type}(enc:TypeId×Value->H):∃places,DataW.whole enc Tryz.prog ((TC os).forCall (λ_ _=>0) ⟨#[],abo,[]⟩).memory Tryz.f3.params.toList Rows.ruleNamesSpec.vars false abo.toList 8=some ([.agg [.nil,.nil,.nil,.nil,.nil],.nil],[],places):=
 ⟨[],by kernel_rfl⟩
theorem lifted(os:Os)(started:os.Started)(H:Type)(enc:TypeId×Value->H)(F:Stop.Interp):
  ReturnsInHanded {} Tryz.checked os 3 .any ((OpenSpec.ofChange Rows.ruleNamesSpec).preRow enc Tryz.prog Tryz.f3 Rows.ruleNamesRow.domain false Rows.ruleNamesRow.laid) (((OpenSpec.ofChange Rows.ruleNamesSpec).at F).post enc Tryz.prog Tryz.f3 false true false false):=by
 obtain⟨places,hx⟩:=reads os enc
 refine returnsInHanded_of_row (C:=Tryz.checked) (s:=OpenSpec.ofChange Rows.ruleNamesSpec) own started (by kernel_rfl) Tryz.func3
  (witness_row_at (enc:=enc) (C:=Tryz.checked) false (TC os) abo rfl (by kernel_rfl) (by kernel_rfl) (by kernel_rfl)
   (OpenSpec.preRow_of_cond 8 hx (by kernel_rfl) (λk hk=>by cases hk) (by kernel_rfl) (akl os))) ?_
 intro W base args ds gs before hval hW _ _ _ hL hsh _;exact contract H enc W base args ds gs before hval hW hsh
theorem said:Rows.RuleNamesSaid:=
 OpenClaim.holds_of_cond 3 Tryz.f3 rfl rfl rfl rfl rfl rfl rfl ⟨rfl,rfl,rfl,rfl,rfl⟩ rfl rfl rfl rfl rfl (by kernel_rfl) Tryz.func3 closed
  (Zi1 (by kernel_rfl)) (by unfold Func.isWrapper;first|(rw[Zb5 (by decide+kernel)];kernel_rfl)|(rw[Zb2 (by decide+kernel)];exact⟨rfl,rfl⟩))
  (λos started H enc _ F=>by rw[OpenClaim.pre_eq_preRow];exact lifted os started H enc F)
theorem plain(f:FuncId)(fn:Func)(hf:Tryz.pinned.checked.prog.funcNamed Rows.ruleNamesRow.func=some f)(EY:Tryz.pinned.checked.prog.funcs[f]? =some fn):
   false=Tryz.pinned.checked.prog.looks []/\∀(j:Nat) t,fn.params[j]? =some t->Tryz.pinned.checked.prog.wantsStandIn t=false:=by
 obtain rfl:f=3:=Zh2 ((show Tryz.prog.funcNamed Rows.ruleNamesRow.func=some 3 by kernel_rfl).symm.trans hf) |>.symm;obtain rfl:fn=Tryz.f3:=(Zh2 (Tryz.func3.symm.trans EY)).symm;refine⟨by kernel_rfl,λj t ht=> ?_⟩;rw[Tryz.params3]at ht;have:t=28\/t=25:=by simpa using Array.mem_of_getElem? ht
 rcases this with rfl|rfl
 .exact(show Tryz.prog.wantsStandIn 28=false by kernel_rfl)
 .exact(show Tryz.prog.wantsStandIn 25=false by kernel_rfl)
end Go.Proofs.YtngcejgciomphaaGreatDoor.Ff
namespace Go.Proofs.YtngcejgciomphaaGreatDoor
theorem ruleNames_card:Rows.RuleNamesCardSaid:=
 Claim7.holds_tied_plain_at .later [] _ _ _ _ Ff.said (λ_ h=>by cases h) (by kernel_rfl) (λ_ h=>by cases h) ruleNames_row_tie rfl ⟨rfl,rfl⟩ (by kernel_rfl) rfl Ff.plain (by kernel_rfl)
#print axioms ruleNames_card
end Go.Proofs.YtngcejgciomphaaGreatDoor
end
