/- What is proved: PlanShows' tied card: at all numbers of a problem and all lists of numbers the law's function returns true and they read as before. Condition: the row's listed variables hold what the card ties to the text. -/
import Derived.Test.YtoeleelojgimfaaGreatDoorCards
import Derived.Test.YtoeleelojgimfaaGreatDoorTie
import Derived.Lib.LaidTab
import Derived.Test.YtoeleelojgimfaaGreatDoorWLaw
set_option linter.all false
set_option maxRecDepth 100000
section
namespace Go.Proofs.YtoeleelojgimfaaGreatDoor.xA
open Go Go.Ai Go.Proofs Go.ChangeShapes Go.WideShapes Go.ChangeAt Go.RowKit
theorem own:ownKnob Tryz.prog.godebug=none:=by kernel_rfl
theorem TF{C:Cells}:oc Tryz.prog C yc/\jU yc:=td (λx hx=>by
 simp only[Za9,Ze4,Zj0]at hx;rcases hx with rfl|rfl
 .exact Ql
 .exact NQ Tryz.func15 (by decide) rfl λw hw=>(Wl w).mono λe w' h=>⟨h.1,h.2.os,h.2.tape,h.2.output,h.2.size,h.2.block⟩)
theorem CJ(C:Cells):ey Tryz.prog C (run yc gg):=NR mix KR (TF (C:=C)).1 (TF (C:=C)).2 KS
theorem Zl{C:Cells}:oc Tryz.prog C Bi/\jU Bi:=td (λx hx=>by
 simp only[Za9,Ze4,Zj0]at hx;rcases hx with rfl|rfl|rfl|rfl|rfl|rfl|rfl
 .exact Ql
 .exact NQ Tryz.func15 (by decide) rfl λw hw=>(Wl w).mono λe w' h=>⟨h.1,h.2.os,h.2.tape,h.2.output,h.2.size,h.2.block⟩
 .exact zM λC' _=>CJ C'
 .exact zM λC' _=>CJ C'
 .exact zM λC' _=>CJ C'
 .exact zM λC' _=>CJ C'
 .exact zM λC' _=>CJ C')
theorem contract(H:Type)(enc:TypeId×Value->H)(W:World)(base:Nat)(args:Array Value)(ds gs:List (DataW H))(before:List MemPlace)
  (hval:∀(j:Nat) t v,Tryz.f5.params[j]? =some t->args[j]? =some v->Value.okWide Tryz.prog W .any base t v)
  (hW:DataW.Whole enc Tryz.prog Tryz.f5.params.toList Rows.planShowsSpec.vars false W args.toList ds gs before) (KT:W.ShapedOpen Tryz.prog):
  Calls Tryz.prog 5 args W λe W'=>∃v,e= .returned v/\Rows.planShowsSpec.post enc Tryz.prog Tryz.f5 false true false false W args v W':=by
 have dY:=hW;obtain⟨p,q,hA0,hV,rfl,Wm,Fl⟩:=hW;have hA:DataW.TrodAll enc Tryz.prog W 0 (λ_=>true) true Tryz.f5.params.toList args.toList ds p:=hA0;rw[Tryz.params5]at hA hval;obtain⟨v0,vs0,d0,ds0,p0,q0,od,rfl,rfl,h0,r0⟩:=trodAll_cons hA;obtain⟨v1,vs1,d1,ds1,p1,q1,rfl,rfl,rfl,h1,r1⟩:=trodAll_cons r0;obtain⟨rfl,rfl,rfl⟩:=trodAll_nil r1;obtain rfl:args= #[v0,v1]:=by clear dY hV Wm Fl KT hval;cases args;simp_all
 obtain⟨as0,⟨zt,zg,zy,zr,xt,xg,xy,xr,rfl,ok⟩,k0⟩:=KU Pn Tryz.underlying26 (hval 0 _ v0 rfl rfl) h0;obtain⟨as1,⟨z1,l1,rfl,m1⟩,k1⟩:=MK Zm Tryz.underlying27 (hval 1 _ v1 rfl rfl) h1;obtain⟨rfl,rfl⟩:=trodVars_none hV;clear hA0;have dH:=Zl (C:=λad=>W.cell? ad);have law:=Qm (c:=run Bi gg) rfl ok.t ok.g ok.y ok.r ok.lt ok.lg ok.lr ok.ly zt zg zy zr z1 l1 m1 { heap:= .e,next:= .h } (λp x hp=>by rw[T.cY]at hp;cases hp);have walk:=Zn (C:=λad=>W.cell? ad) (w:=W) (NR mix KR dH.1 dH.2 KS) (λad v h=>h) (λa v _ o h=>h) Tryz.func5 (by decide) rfl (av.cons (k0 _ _) (k1 _ _)) law;refine walk.mono λe W' ⟨he,hg⟩=> ?_
 subst he;exact⟨_,rfl,Wn (tb:=4) (by kernel_rfl) dY rfl rfl (by rw[Tryz.params5];intro t ht;simp at ht;rcases ht with rfl|rfl<;>exact⟨by kernel_rfl,Zg2 (by kernel_rfl)⟩) hg.below (by kernel_rfl) (by kernel_rfl)⟩
def Qn:DataW Unit->Array Value
 |.agg l=>(l.map λ|.lit (.int k z)=>Value.int k z|_=>Value.bool false).toArray
 |_=> #[]
noncomputable def Gd(x:Array Value):Obj->Obj
 |.cells _ t frozen=>.cells x t frozen
 |o=>o
noncomputable def Ge(os:Os):World:=
 { World.holding Tryz.prog os ⟨#[], #[],[]⟩with heap:=(((World.holding Tryz.prog os ⟨#[], #[],[]⟩).heap.modify 0 (Gd (Qn Rows.laid_internal_strconv_uint64pow10))).modify 1 (Gd (Qn Rows.laid_math_bits_deBruijn32tab))).modify 2 (Gd (Qn Rows.laid_math_bits_deBruijn64tab)) }
noncomputable def PU:Array Value:= #[.agg #[.slice none 0 0,.slice none 0 0,.slice none 0 0,.slice none 0 0],.slice none 0 0]
theorem Zo(os:Os):laidMet Tryz.prog Rows.planShowsRow.laid ((Ge os).forCall (λ_ _=>0) ⟨#[],PU,[]⟩).memory:=
 laidMet_of_run' 8 (by kernel_rfl) (by kernel_rfl)
theorem reads(os:Os){H:Type}(enc:TypeId×Value->H):∃places,DataW.whole enc Tryz.prog ((Ge os).forCall (λ_ _=>0) ⟨#[],PU,[]⟩).memory Tryz.f5.params.toList Rows.planShowsSpec.vars false PU.toList 8=some ([.agg [.nil,.nil,.nil,.nil],.nil],[],places):=
 ⟨[],by kernel_rfl⟩
theorem lifted(os:Os)(started:os.Started)(H:Type)(enc:TypeId×Value->H)(F:Stop.Interp):
  ReturnsInHanded {} Tryz.checked os 5 .any ((OpenSpec.ofChange Rows.planShowsSpec).preRow enc Tryz.prog Tryz.f5 Rows.planShowsRow.domain false Rows.planShowsRow.laid) (((OpenSpec.ofChange Rows.planShowsSpec).at F).post enc Tryz.prog Tryz.f5 false true false false):=by
 obtain⟨places,hx⟩:=reads os enc
 refine returnsInHanded_of_row (C:=Tryz.checked) (s:=OpenSpec.ofChange Rows.planShowsSpec) own started (by kernel_rfl) Tryz.func5
  (witness_row_at (enc:=enc) (C:=Tryz.checked) false (Ge os) PU rfl (by kernel_rfl) (by kernel_rfl) (by kernel_rfl)
   (OpenSpec.preRow_of_cond 8 hx (by kernel_rfl) (λk hk=>by cases hk) (by kernel_rfl) (Zo os))) ?_
 intro W base args ds gs before hval hW _ _ _ hL KT _;exact contract H enc W base args ds gs before hval hW KT
theorem said:Rows.PlanShowsSaid:=
 OpenClaim.holds_of_cond 5 Tryz.f5 rfl rfl rfl rfl rfl rfl rfl ⟨rfl,rfl,rfl,rfl,rfl⟩ rfl rfl rfl rfl rfl (by kernel_rfl) Tryz.func5 closed
  (Zg2 (by kernel_rfl)) (by unfold Func.isWrapper;first|(rw[Za8 (by decide+kernel)];kernel_rfl)|(rw[Za5 (by decide+kernel)];exact⟨rfl,rfl⟩))
  (λos started H enc _ F=>by rw[OpenClaim.pre_eq_preRow];exact lifted os started H enc F)
theorem plain(f:FuncId)(fn:Func)(hf:Tryz.pinned.checked.prog.funcNamed Rows.planShowsRow.func=some f)(yE:Tryz.pinned.checked.prog.funcs[f]? =some fn):
   false=Tryz.pinned.checked.prog.looks []/\∀(j:Nat) t,fn.params[j]? =some t->Tryz.pinned.checked.prog.wantsStandIn t=false:=by
 obtain rfl:f=5:=Zg7 ((show Tryz.prog.funcNamed Rows.planShowsRow.func=some 5 by kernel_rfl).symm.trans hf) |>.symm;obtain rfl:fn=Tryz.f5:=(Zg7 (Tryz.func5.symm.trans yE)).symm;refine⟨by kernel_rfl,λj t ht=> ?_⟩;rw[Tryz.params5]at ht;have:t=26\/t=27:=by simpa using Zk0 ht
 rcases this with rfl|rfl
 .exact(show Tryz.prog.wantsStandIn 26=false by kernel_rfl)
 .exact(show Tryz.prog.wantsStandIn 27=false by kernel_rfl)
end Go.Proofs.YtoeleelojgimfaaGreatDoor.xA
namespace Go.Proofs.YtoeleelojgimfaaGreatDoor
theorem planShows_card:Rows.PlanShowsCardSaid:=
 Claim7.holds_tied_plain_at .later [] _ _ _ _ xA.said (λ_ h=>by cases h) (by kernel_rfl) (λ_ h=>by cases h) planShows_row_tie rfl ⟨rfl,rfl⟩ (by kernel_rfl) rfl xA.plain (by kernel_rfl)
#print axioms planShows_card
end Go.Proofs.YtoeleelojgimfaaGreatDoor
end
