/- What is proved: PlanArrives' tied card: at all numbers of a problem, all lists of numbers and of pairs of numbers the law's function returns true and they read as before. Condition: the row's listed variables hold what the card ties to the text. -/
import Derived.Test.YtlkadmkojjceiaaGreatDoorCards
import Derived.Test.YtlkadmkojjceiaaGreatDoorTie
import Derived.Lib.LaidTab
import Derived.Test.YtlkadmkojjceiaaGreatDoorWLawC
set_option linter.all false
set_option maxRecDepth 100000
section
namespace Go.Proofs.YtlkadmkojjceiaaGreatDoor.tS
open Go Go.Ai Go.Proofs Go.ChangeShapes Go.WideShapes Go.ChangeAt Go.RowKit
theorem own:ownKnob Tryz.prog.godebug=none:=by kernel_rfl
theorem VO{C:Cells}:oV Tryz.prog C Fo/\kC Fo:=uF (λx hx=>by
 simp only[Zb0,Ze6,Zi9]at hx;rcases hx with rfl|rfl
 .exact Sq
 .exact Qi Tryz.func12 (by decide) rfl λw hw=>(YV w).mono λe w' h=>⟨h.1,h.2.os,h.2.tape,h.2.output,h.2.size,h.2.block⟩)
theorem adj(C:Cells):eV Tryz.prog C (run Fo gg):=Qj mix MQ (VO (C:=C)).1 (VO (C:=C)).2 MR
theorem aaX{C:Cells}:oV Tryz.prog C CI/\kC CI:=uF (λx hx=>by
 simp only[Zb0,Ze6,Zi9]at hx;rcases hx with rfl|rfl|rfl|rfl|rfl|rfl|rfl|rfl|rfl|rfl|rfl|rfl|rfl|rfl|rfl
 .exact Sq
 .exact Qi Tryz.func12 (by decide) rfl λw hw=>(YV w).mono λe w' h=>⟨h.1,h.2.os,h.2.tape,h.2.output,h.2.size,h.2.block⟩
 all_goals exact aaY λC' _=>adj C')
theorem contract(H:Type)(enc:TypeId×Value->H)(W:World)(base:Nat)(args:Array Value)(ds gs:List (DataW H))(before:List MemPlace)
  (hval:∀(j:Nat) t v,Tryz.f6.params[j]? =some t->args[j]? =some v->Value.okWide Tryz.prog W .any base t v)
  (hW:DataW.Whole enc Tryz.prog Tryz.f6.params.toList Rows.planArrivesSpec.vars false W args.toList ds gs before) (MS:W.ShapedOpen Tryz.prog):
  Calls Tryz.prog 6 args W λe W'=>∃v,e= .returned v/\Rows.planArrivesSpec.post enc Tryz.prog Tryz.f6 false true false false W args v W':=by
 have ew:=hW;obtain⟨p,q,hA0,hV,rfl,YW,CJ⟩:=hW;have hA:DataW.TrodAll enc Tryz.prog W 0 (λ_=>true) true Tryz.f6.params.toList args.toList ds p:=hA0;rw[Tryz.params6]at hA hval;obtain⟨v0,vs0,d0,ds0,p0,q0,oW,rfl,rfl,h0,r0⟩:=trodAll_cons hA;obtain⟨v1,vs1,d1,ds1,p1,q1,rfl,rfl,rfl,h1,r1⟩:=trodAll_cons r0;obtain⟨v2,vs2,d2,ds2,p2,q2,rfl,rfl,rfl,h2,r2⟩:=trodAll_cons r1;obtain⟨rfl,rfl,rfl⟩:=trodAll_nil r2;obtain rfl:args= #[v0,v1,v2]:=by clear ew hV YW CJ MS hval;cases args;simp_all
 obtain⟨as0,⟨zt,zg,zy,zr,xt,xg,xy,xr,rfl,ok⟩,k0⟩:=MT RD Tryz.underlying39 (hval 0 _ v0 rfl rfl) h0;obtain⟨as1,⟨z1,l1,rfl,m1⟩,k1⟩:=Ec aaZ Tryz.underlying25 (hval 1 _ v1 rfl rfl) h1;obtain⟨as2,⟨z2,l2,rfl,m2⟩,k2⟩:=Ec Vl Tryz.underlying40 (hval 2 _ v2 rfl rfl) h2;obtain⟨rfl,rfl⟩:=trodVars_none hV;clear hA0;have e8:=aaX (C:=λad=>W.cell? ad);have law:=OT (c:=run CI gg) rfl ok.t ok.g ok.y ok.r ok.lt ok.lg ok.lr ok.ly zt zg zy zr z1 z2 l1 l2 m1 m2 { heap:= .e,next:= .h } (λp x hp=>by rw[T.dm]at hp;cases hp);have walk:=aa0 (C:=λad=>W.cell? ad) (w:=W) (Qj mix MQ e8.1 e8.2 MR) (λad v h=>h) (λa v _ o h=>h) Tryz.func6 (by decide) rfl (au.cons (k0 _ _) (au.cons ((k1 _ _).2 0 _ _ rfl rfl) (k2 _ _))) law;refine walk.mono λe W' ⟨he,hg⟩=> ?_
 subst he;exact⟨_,rfl,YX (tb:=4) (by kernel_rfl) ew rfl rfl (by rw[Tryz.params6];intro t ht;simp at ht;rcases ht with rfl|rfl|rfl<;>exact⟨by kernel_rfl,Zg5 (by kernel_rfl)⟩) hg.below (by kernel_rfl) (by kernel_rfl)⟩
def Sr:DataW Unit->Array Value
 |.agg l=>(l.map λ|.lit (.int k z)=>Value.int k z|_=>Value.bool false).toArray
 |_=> #[]
noncomputable def Ie(x:Array Value):Obj->Obj
 |.cells _ t frozen=>.cells x t frozen
 |o=>o
noncomputable def Ig(os:Os):World:=
 { World.holding Tryz.prog os ⟨#[], #[],[]⟩with heap:=(((World.holding Tryz.prog os ⟨#[], #[],[]⟩).heap.modify 0 (Ie (Sr Rows.laid_internal_strconv_uint64pow10))).modify 1 (Ie (Sr Rows.laid_math_bits_deBruijn32tab))).modify 2 (Ie (Sr Rows.laid_math_bits_deBruijn64tab)) }
noncomputable def R2:Array Value:= #[.agg #[.slice none 0 0,.slice none 0 0,.slice none 0 0,.slice none 0 0],.slice none 0 0,.slice none 0 0]
theorem aa1(os:Os):laidMet Tryz.prog Rows.planArrivesRow.laid ((Ig os).forCall (λ_ _=>0) ⟨#[],R2,[]⟩).memory:=
 laidMet_of_run' 8 (by kernel_rfl) (by kernel_rfl)
theorem reads(os:Os){H:Type}(enc:TypeId×Value->H):∃places,DataW.whole enc Tryz.prog ((Ig os).forCall (λ_ _=>0) ⟨#[],R2,[]⟩).memory Tryz.f6.params.toList Rows.planArrivesSpec.vars false R2.toList 8=some ([.agg [.nil,.nil,.nil,.nil],.nil,.nil],[],places):=
 ⟨[],by kernel_rfl⟩
theorem lifted(os:Os)(started:os.Started)(H:Type)(enc:TypeId×Value->H)(F:Stop.Interp):
  ReturnsInHanded {} Tryz.checked os 6 .any ((OpenSpec.ofChange Rows.planArrivesSpec).preRow enc Tryz.prog Tryz.f6 Rows.planArrivesRow.domain false Rows.planArrivesRow.laid) (((OpenSpec.ofChange Rows.planArrivesSpec).at F).post enc Tryz.prog Tryz.f6 false true false false):=by
 obtain⟨places,hx⟩:=reads os enc
 refine returnsInHanded_of_row (C:=Tryz.checked) (s:=OpenSpec.ofChange Rows.planArrivesSpec) own started (by kernel_rfl) Tryz.func6
  (witness_row_at (enc:=enc) (C:=Tryz.checked) false (Ig os) R2 rfl (by kernel_rfl) (by kernel_rfl) (by kernel_rfl)
   (OpenSpec.preRow_of_cond 8 hx (by kernel_rfl) (λk hk=>by cases hk) (by kernel_rfl) (aa1 os))) ?_
 intro W base args ds gs before hval hW _ _ _ hL MS _;exact contract H enc W base args ds gs before hval hW MS
theorem said:Rows.PlanArrivesSaid:=
 OpenClaim.holds_of_cond 6 Tryz.f6 rfl rfl rfl rfl rfl rfl rfl ⟨rfl,rfl,rfl,rfl,rfl⟩ rfl rfl rfl rfl rfl (by kernel_rfl) Tryz.func6 closed
  (Zg5 (by kernel_rfl)) (by unfold Func.isWrapper;first|(rw[Za6 (by decide+kernel)];kernel_rfl)|(rw[Za3 (by decide+kernel)];exact⟨rfl,rfl⟩))
  (λos started H enc _ F=>by rw[OpenClaim.pre_eq_preRow];exact lifted os started H enc F)
theorem plain(f:FuncId)(fn:Func)(hf:Tryz.pinned.checked.prog.funcNamed Rows.planArrivesRow.func=some f)(Ah:Tryz.pinned.checked.prog.funcs[f]? =some fn):
   false=Tryz.pinned.checked.prog.looks []/\∀(j:Nat) t,fn.params[j]? =some t->Tryz.pinned.checked.prog.wantsStandIn t=false:=by
 obtain rfl:f=6:=Zf5 ((show Tryz.prog.funcNamed Rows.planArrivesRow.func=some 6 by kernel_rfl).symm.trans hf) |>.symm;obtain rfl:fn=Tryz.f6:=(Zf5 (Tryz.func6.symm.trans Ah)).symm;refine⟨by kernel_rfl,λj t ht=> ?_⟩;rw[Tryz.params6]at ht;have:t=39\/t=25\/t=40:=by simpa using Zk5 ht
 rcases this with rfl|rfl|rfl
 .exact(show Tryz.prog.wantsStandIn 39=false by kernel_rfl)
 .exact(show Tryz.prog.wantsStandIn 25=false by kernel_rfl)
 .exact(show Tryz.prog.wantsStandIn 40=false by kernel_rfl)
end Go.Proofs.YtlkadmkojjceiaaGreatDoor.tS
namespace Go.Proofs.YtlkadmkojjceiaaGreatDoor
theorem planArrives_card:Rows.PlanArrivesCardSaid:=
 Claim7.holds_tied_plain_at .later [] _ _ _ _ tS.said (λ_ h=>by cases h) (by kernel_rfl) (λ_ h=>by cases h) planArrives_row_tie rfl ⟨rfl,rfl⟩ (by kernel_rfl) rfl tS.plain (by kernel_rfl)
#print axioms planArrives_card
end Go.Proofs.YtlkadmkojjceiaaGreatDoor
end
