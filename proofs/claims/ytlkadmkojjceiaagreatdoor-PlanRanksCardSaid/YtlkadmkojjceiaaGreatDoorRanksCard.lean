/- What is proved: PlanRanks' tied card: at all numbers of a problem and each number the law's function returns true and they read as before. Conditions: none. -/
import Derived.Test.YtlkadmkojjceiaaGreatDoorCards
import Derived.Test.YtlkadmkojjceiaaGreatDoorTie
import Derived.Lib.LaidTab
import Derived.Test.YtlkadmkojjceiaaGreatDoorQLawC
set_option linter.all false
set_option maxRecDepth 100000
section
namespace Go.Proofs.YtlkadmkojjceiaaGreatDoor.zi
open Go Go.Ai Go.Proofs Go.ChangeShapes Go.WideShapes Go.ChangeAt Go.RowKit
theorem own:ownKnob Tryz.prog.godebug=none:=by kernel_rfl
theorem Xj{C:Cells}:oG Tryz.prog C Bu/\ku Bu:=uj (λx hx=>by
 simp only[Zb1,Ze6,Zj6]at hx;rcases hx with rfl|rfl
 .exact Sf
 .exact QV Tryz.func12 (by decide) rfl λw hw=>(Y6 w).mono λe w' h=>⟨h.1,h.2.os,h.2.tape,h.2.output,h.2.size,h.2.block⟩)
theorem Xk(C:Cells):eO Tryz.prog C (run Bu gg):=QK mix MT (Xj (C:=C)).1 (Xj (C:=C)).2 MU
theorem acJ{C:Cells}:oG Tryz.prog C C9/\ku C9:=uj (λx hx=>by
 simp only[Zb1,Ze6,Zj6]at hx;rcases hx with rfl|rfl|rfl|rfl|rfl|rfl|rfl|rfl|rfl|rfl|rfl|rfl|rfl|rfl|rfl|rfl
 .exact Sf
 .exact QV Tryz.func12 (by decide) rfl λw hw=>(Y6 w).mono λe w' h=>⟨h.1,h.2.os,h.2.tape,h.2.output,h.2.size,h.2.block⟩
 all_goals first|exact abG λC' _=>Xk C'|exact Vv λC'=>Xk C')
theorem contract(H:Type)(enc:TypeId×Value->H)(W:World)(base:Nat)(args:Array Value)(ds gs:List (DataW H))(before:List MemPlace)
  (hval:∀(j:Nat) t v,Tryz.f8.params[j]? =some t->args[j]? =some v->Value.okWide Tryz.prog W .any base t v)
  (hW:DataW.Whole enc Tryz.prog Tryz.f8.params.toList Rows.planRanksSpec.vars false W args.toList ds gs before) (Ng:W.ShapedOpen Tryz.prog):
  Calls Tryz.prog 8 args W λe W'=>∃v,e= .returned v/\Rows.planRanksSpec.post enc Tryz.prog Tryz.f8 false true false false W args v W':=by
 have ey:=hW;obtain⟨p,q,hA0,hV,rfl,Zb,Hs⟩:=hW;have hA:DataW.TrodAll enc Tryz.prog W 0 (λ_=>true) true Tryz.f8.params.toList args.toList ds p:=hA0;rw[Tryz.params8]at hA hval;obtain⟨v0,vs0,d0,ds0,p0,q0,oH,rfl,rfl,h0,r0⟩:=trodAll_cons hA;obtain⟨v1,vs1,d1,ds1,p1,q1,rfl,rfl,rfl,h1,r1⟩:=trodAll_cons r0;obtain⟨rfl,rfl,rfl⟩:=trodAll_nil r1;obtain rfl:args= #[v0,v1]:=by clear ey hV Zb Hs Ng hval;cases args;simp_all
 obtain⟨as0,⟨zt,zg,zy,zr,xt,xg,xy,xr,rfl,ok⟩,k0⟩:=NV RQ Tryz.underlying39 (hval 0 _ v0 rfl rfl) h0;obtain⟨as1,⟨i1,rfl,wi1⟩,k1⟩:=U1 Tryz.underlying57 (hval 1 _ v1 rfl rfl) h1;have OP:=wf_u16 wi1;obtain⟨n1,rfl⟩:∃n:Nat,i1=(n:Int):=⟨i1.toNat,by omega⟩
 obtain⟨rfl,rfl⟩:=trodVars_none hV;clear hA0;have dw:=acJ (C:=λad=>W.cell? ad);have law:=U6 (c:=run C9 gg) rfl ok.t ok.g ok.y ok.r ok.lt ok.lg ok.lr ok.ly zt zg zy zr (show n1<65536 by omega) { heap:= .e,next:= .h } (λp x hp=>by rw[T.dD]at hp;cases hp);have walk:=abC (C:=λad=>W.cell? ad) (w:=W) (QK mix MT dw.1 dw.2 MU) (λad v h=>h) (λa v _ o h=>h) Tryz.func8 (by decide) rfl (au.cons (k0 _ _) (k1 _ _)) law;refine walk.mono λe W' ⟨he,hg⟩=> ?_
 subst he;exact⟨_,rfl,Z7 (tb:=4) (by kernel_rfl) ey rfl rfl (by rw[Tryz.params8];intro t ht;simp at ht;rcases ht with rfl|rfl<;>exact⟨by kernel_rfl,Zg8 (by kernel_rfl)⟩) hg.below (by kernel_rfl) (by kernel_rfl)⟩
def U7:DataW Unit->Array Value
 |.agg l=>(l.map λ|.lit (.int k z)=>Value.int k z|_=>Value.bool false).toArray
 |_=> #[]
noncomputable def J0(x:Array Value):Obj->Obj
 |.cells _ t frozen=>.cells x t frozen
 |o=>o
noncomputable def J1(os:Os):World:=
 { World.holding Tryz.prog os ⟨#[], #[],[]⟩with heap:=(((World.holding Tryz.prog os ⟨#[], #[],[]⟩).heap.modify 0 (J0 (U7 Rows.laid_internal_strconv_uint64pow10))).modify 1 (J0 (U7 Rows.laid_math_bits_deBruijn32tab))).modify 2 (J0 (U7 Rows.laid_math_bits_deBruijn64tab)) }
noncomputable def Se:Array Value:= #[.agg #[.slice none 0 0,.slice none 0 0,.slice none 0 0,.slice none 0 0],.int .u16 0]
theorem acK(os:Os):laidMet Tryz.prog Rows.planRanksRow.laid ((J1 os).forCall (λ_ _=>0) ⟨#[],Se,[]⟩).memory:=
 laidMet_of_run' 8 (by kernel_rfl) (by kernel_rfl)
theorem reads(os:Os){H:Type}(enc:TypeId×Value->H):∃places,DataW.whole enc Tryz.prog ((J1 os).forCall (λ_ _=>0) ⟨#[],Se,[]⟩).memory Tryz.f8.params.toList Rows.planRanksSpec.vars false Se.toList 8=some ([.agg [.nil,.nil,.nil,.nil],.lit (.int .u16 0)],[],places):=
 ⟨[],by kernel_rfl⟩
theorem lifted(os:Os)(started:os.Started)(H:Type)(enc:TypeId×Value->H)(F:Stop.Interp):
  ReturnsInHanded {} Tryz.checked os 8 .any ((OpenSpec.ofChange Rows.planRanksSpec).preRow enc Tryz.prog Tryz.f8 Rows.planRanksRow.domain false Rows.planRanksRow.laid) (((OpenSpec.ofChange Rows.planRanksSpec).at F).post enc Tryz.prog Tryz.f8 false true false false):=by
 obtain⟨places,hx⟩:=reads os enc
 refine returnsInHanded_of_row (C:=Tryz.checked) (s:=OpenSpec.ofChange Rows.planRanksSpec) own started (by kernel_rfl) Tryz.func8
  (witness_row_at (enc:=enc) (C:=Tryz.checked) false (J1 os) Se rfl (by kernel_rfl) (by kernel_rfl) (by kernel_rfl)
   (OpenSpec.preRow_of_cond 8 hx (by kernel_rfl) (λk hk=>by cases hk) (by kernel_rfl) (acK os))) ?_
 intro W base args ds gs before hval hW _ _ _ hL Ng _;exact contract H enc W base args ds gs before hval hW Ng
theorem said:Rows.PlanRanksSaid:=
 OpenClaim.holds_of_cond 8 Tryz.f8 rfl rfl rfl rfl rfl rfl rfl ⟨rfl,rfl,rfl,rfl,rfl⟩ rfl rfl rfl rfl rfl (by kernel_rfl) Tryz.func8 closed
  (Zg8 (by kernel_rfl)) (by unfold Func.isWrapper;first|(rw[Za7 (by decide+kernel)];kernel_rfl)|(rw[Za5 (by decide+kernel)];exact⟨rfl,rfl⟩))
  (λos started H enc _ F=>by rw[OpenClaim.pre_eq_preRow];exact lifted os started H enc F)
theorem plain(f:FuncId)(fn:Func)(hf:Tryz.pinned.checked.prog.funcNamed Rows.planRanksRow.func=some f)(zJ:Tryz.pinned.checked.prog.funcs[f]? =some fn):
   false=Tryz.pinned.checked.prog.looks []/\∀(j:Nat) t,fn.params[j]? =some t->Tryz.pinned.checked.prog.wantsStandIn t=false:=by
 obtain rfl:f=8:=Zh4 ((show Tryz.prog.funcNamed Rows.planRanksRow.func=some 8 by kernel_rfl).symm.trans hf) |>.symm;obtain rfl:fn=Tryz.f8:=(Zh4 (Tryz.func8.symm.trans zJ)).symm;refine⟨by kernel_rfl,λj t ht=> ?_⟩;rw[Tryz.params8]at ht;have:t=39\/t=57:=by simpa using Zk9 ht
 rcases this with rfl|rfl
 .exact(show Tryz.prog.wantsStandIn 39=false by kernel_rfl)
 .exact(show Tryz.prog.wantsStandIn 57=false by kernel_rfl)
end Go.Proofs.YtlkadmkojjceiaaGreatDoor.zi
namespace Go.Proofs.YtlkadmkojjceiaaGreatDoor
theorem planRanks_card:Rows.PlanRanksCardSaid:=
 Claim7.holds_tied_plain_at .later [] _ _ _ _ zi.said (λ_ h=>by cases h) (by kernel_rfl) (λ_ h=>by cases h) planRanks_row_tie rfl ⟨rfl,rfl⟩ (by kernel_rfl) rfl zi.plain (by kernel_rfl)
#print axioms planRanks_card
end Go.Proofs.YtlkadmkojjceiaaGreatDoor
end
