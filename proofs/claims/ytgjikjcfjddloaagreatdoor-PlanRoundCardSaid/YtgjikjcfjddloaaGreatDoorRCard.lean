/- The statement of PlanRound. -/
import Derived.Test.YtgjikjcfjddloaaGreatDoorCards
import Derived.Test.YtgjikjcfjddloaaGreatDoorTie
import Derived.Lib.LaidTab
import Derived.Test.YtgjikjcfjddloaaGreatDoorRLawD
set_option linter.all false
set_option maxRecDepth 100000
section
namespace Go.Proofs.YtgjikjcfjddloaaGreatDoor.Bj
open Go Go.Ai Go.Proofs Go.ChangeShapes Go.WideShapes Go.ChangeAt Go.RowKit
theorem own:ownKnob Tryz.prog.godebug=none:=by kernel_rfl
theorem ZL{C:Cells}:qE Tryz.prog C ym/\lQ ym:=wT (λx hx=>by
 simp only[Zb2,Ze9,Zj8]at hx;rcases hx with rfl|rfl
 .exact VZ
 .exact TJ Tryz.func18 (by decide) rfl λw hw=>(acD w).mono λe w' h=>⟨h.1,h.2.os,h.2.tape,h.2.output,h.2.size,h.2.block⟩)
theorem ZM(C:Cells):fO Tryz.prog C (run ym gg):=TM mix Qi (ZL (C:=C)).1 (ZL (C:=C)).2 Qj
theorem agZ{C:Cells}:lq Tryz.prog C 292 idxS:=aev (fn:=Tryz.f292) Tryz.func292 (by kernel_rfl) (by kernel_rfl) (by kernel_rfl) (by kernel_rfl)
theorem ag0{C:Cells}:lq Tryz.prog C 296 Wb:=aew (fn:=Tryz.f296) Tryz.func296 (by kernel_rfl) (by kernel_rfl) (by kernel_rfl) (by kernel_rfl)
theorem aex{C:Cells}:qE Tryz.prog C E8/\lQ E8:=wT (λx hx=>by
 simp only[Zb2,Ze9,Zj8]at hx;rcases hx with rfl|rfl|rfl|rfl|rfl|rfl|rfl|rfl|rfl|rfl|rfl|rfl|rfl|rfl|rfl|rfl|rfl|rfl|rfl|rfl
 .exact VZ
 .exact TJ Tryz.func18 (by decide) rfl λw hw=>(acD w).mono λe w' h=>⟨h.1,h.2.os,h.2.tape,h.2.output,h.2.size,h.2.block⟩
 all_goals first|exact ZI|exact agZ|exact ag0|exact aey λC' _=>ZM C'|exact aiG λC'=>ZM C')
theorem contract(H:Type)(enc:TypeId×Value->H)(W:World)(base:Nat)(args:Array Value)(ds gs:List (DataW H))(before:List MemPlace)
  (hval:∀(j:Nat) t v,Tryz.f6.params[j]? =some t->args[j]? =some v->Value.okWide Tryz.prog W .any base t v)
  (hW:DataW.Whole enc Tryz.prog Tryz.f6.params.toList Rows.planRoundSpec.vars false W args.toList ds gs before) (Qn:W.ShapedOpen Tryz.prog):
  Calls Tryz.prog 6 args W λe W'=>∃v,e= .returned v/\Rows.planRoundSpec.post enc Tryz.prog Tryz.f6 false true false false W args v W':=by
 have fB:=hW;obtain⟨p,q,hA0,hV,rfl,hfz,E9⟩:=hW;have hA:DataW.TrodAll enc Tryz.prog W 0 (λ_=>true) true Tryz.f6.params.toList args.toList ds p:=hA0;rw[Tryz.params6]at hA hval;obtain⟨v0,vs0,d0,ds0,p0,q0,qF,rfl,rfl,h0,r0⟩:=trodAll_cons hA;obtain⟨v1,vs1,d1,ds1,p1,q1,rfl,rfl,rfl,h1,r1⟩:=trodAll_cons r0;obtain⟨v2,vs2,d2,ds2,p2,q2,rfl,rfl,rfl,h2,r2⟩:=trodAll_cons r1;obtain⟨rfl,rfl,rfl⟩:=trodAll_nil r2;obtain rfl:args= #[v0,v1,v2]:=by clear fB hV hfz E9 Qn hval;cases args;simp_all
 obtain⟨as0,⟨zt,zg,zy,zr,xt,xg,xy,xr,rfl,ok⟩,k0⟩:=Qo Vf Tryz.underlying26 (hval 0 _ v0 rfl rfl) h0;obtain⟨as1,⟨z1,l1,rfl,m1⟩,k1⟩:=Sk aez Tryz.underlying27 (hval 1 _ v1 rfl rfl) h1;obtain⟨as2,⟨i2,rfl,wi2⟩,k2⟩:=Wc Tryz.underlying5 (hval 2 _ v2 rfl rfl) h2;have Qp:=wf_u8 wi2;obtain⟨n2,rfl⟩:∃n:Nat,i2=(n:Int):=⟨i2.toNat,by omega⟩
 obtain⟨rfl,rfl⟩:=trodVars_none hV;clear hA0;have dP:=aex (C:=λad=>W.cell? ad);have law:=Wd (c:=run E8 gg) rfl ok.t ok.g ok.y ok.r ok.lt ok.lg ok.lr ok.ly zt zg zy zr z1 l1 m1 (show n2<256 by omega) { heap:= .e,next:= .h } (λp x hp=>by rw[T.ei]at hp;cases hp);have walk:=aeA (C:=λad=>W.cell? ad) (w:=W) (TM mix Qi dP.1 dP.2 Qj) (λad v h=>h) (λa v _ o h=>h) Tryz.func6 (by decide) rfl (ay.cons (k0 _ _) (ay.cons ((k1 _ _).2 0 _ _ rfl rfl) (k2 _ _))) law;refine walk.mono λe W' ⟨he,hg⟩=> ?_
 subst he;exact⟨_,rfl,acE (tb:=4) (by kernel_rfl) fB rfl rfl (by rw[Tryz.params6];intro t ht;simp at ht;rcases ht with rfl|rfl|rfl<;>exact⟨by kernel_rfl,Zh9 (by kernel_rfl)⟩) hg.below (by kernel_rfl) (by kernel_rfl)⟩
def Qq:DataW Unit->Array Value
 |.agg l=>(l.map λ|.lit (.int k z)=>Value.int k z|_=>Value.bool false).toArray
 |_=> #[]
noncomputable def Bk(x:Array Value):Obj->Obj
 |.cells _ t frozen=>.cells x t frozen
 |o=>o
noncomputable def firstCells:Array Value:=(Go.Pinned.utf8FirstZ.map λ(n:Nat)=>Value.int .u8 (n:Int)).toArray
noncomputable def Zh:Array Value:=match (Rows.laid_unicode_utf8_acceptRanges:DataW Unit)with
 |.agg l=>((l.map λd=>(Qq d).toList).flatten).toArray
 |_=> #[]
noncomputable def K4(os:Os):World:=
 { World.holding Tryz.prog os ⟨#[], #[],[]⟩with heap:=(((((World.holding Tryz.prog os ⟨#[], #[],[]⟩).heap.modify 1 (Bk (Qq Rows.laid_internal_strconv_uint64pow10))).modify 2 (Bk (Qq Rows.laid_math_bits_deBruijn32tab))).modify 3 (Bk (Qq Rows.laid_math_bits_deBruijn64tab))).modify 4 (Bk firstCells)).modify 5 (Bk Zh) }
noncomputable def VH:Array Value:= #[.agg #[.slice none 0 0,.slice none 0 0,.slice none 0 0,.slice none 0 0],.slice none 0 0,.int .u8 0]
theorem aeB(os:Os):laidMet Tryz.prog Rows.planRoundRow.laid ((K4 os).forCall (λ_ _=>0) ⟨#[],VH,[]⟩).memory:=
 laidMet_of_run' 8 (by kernel_rfl) (by kernel_rfl)
theorem reads(os:Os){H:Type}(enc:TypeId×Value->H):∃places,DataW.whole enc Tryz.prog ((K4 os).forCall (λ_ _=>0) ⟨#[],VH,[]⟩).memory Tryz.f6.params.toList Rows.planRoundSpec.vars false VH.toList 8=some ([.agg [.nil,.nil,.nil,.nil],.nil,.lit (.int .u8 0)],[],places):=
 ⟨[],by kernel_rfl⟩
theorem lifted(os:Os)(started:os.Started)(H:Type)(enc:TypeId×Value->H)(F:Stop.Interp):
  ReturnsInHanded {} Tryz.checked os 6 .any ((OpenSpec.ofChange Rows.planRoundSpec).preRow enc Tryz.prog Tryz.f6 Rows.planRoundRow.domain false Rows.planRoundRow.laid) (((OpenSpec.ofChange Rows.planRoundSpec).at F).post enc Tryz.prog Tryz.f6 false true false false):=by
 obtain⟨places,hx⟩:=reads os enc
 refine returnsInHanded_of_row (C:=Tryz.checked) (s:=OpenSpec.ofChange Rows.planRoundSpec) own started (by kernel_rfl) Tryz.func6
  (witness_row_at (enc:=enc) (C:=Tryz.checked) false (K4 os) VH rfl (by kernel_rfl) (by kernel_rfl) (by kernel_rfl)
   (OpenSpec.preRow_of_cond 8 hx (by kernel_rfl) (λk hk=>by cases hk) (by kernel_rfl) (aeB os))) ?_
 intro W base args ds gs before hval hW _ _ _ hL Qn _;exact contract H enc W base args ds gs before hval hW Qn
theorem said:Rows.PlanRoundSaid:=
 OpenClaim.holds_of_cond 6 Tryz.f6 rfl rfl rfl rfl rfl rfl rfl ⟨rfl,rfl,rfl,rfl,rfl⟩ rfl rfl rfl rfl rfl (by kernel_rfl) Tryz.func6 closed
  (Zh9 (by kernel_rfl)) (by unfold Func.isWrapper;first|(rw[Za9 (by decide+kernel)];kernel_rfl)|(rw[Za3 (by decide+kernel)];exact⟨rfl,rfl⟩))
  (λos started H enc _ F=>by rw[OpenClaim.pre_eq_preRow];exact lifted os started H enc F)
theorem plain(f:FuncId)(fn:Func)(hf:Tryz.pinned.checked.prog.funcNamed Rows.planRoundRow.func=some f)(Cw:Tryz.pinned.checked.prog.funcs[f]? =some fn):
   false=Tryz.pinned.checked.prog.looks []/\∀(j:Nat) t,fn.params[j]? =some t->Tryz.pinned.checked.prog.wantsStandIn t=false:=by
 obtain rfl:f=6:=Zg4 ((show Tryz.prog.funcNamed Rows.planRoundRow.func=some 6 by kernel_rfl).symm.trans hf) |>.symm;obtain rfl:fn=Tryz.f6:=(Zg4 (Tryz.func6.symm.trans Cw)).symm;refine⟨by kernel_rfl,λj t ht=> ?_⟩;rw[Tryz.params6]at ht;have:t=26\/t=27\/t=5:=by simpa using Zm2 ht
 rcases this with rfl|rfl|rfl
 .exact(show Tryz.prog.wantsStandIn 26=false by kernel_rfl)
 .exact(show Tryz.prog.wantsStandIn 27=false by kernel_rfl)
 .exact(show Tryz.prog.wantsStandIn 5=false by kernel_rfl)
end Go.Proofs.YtgjikjcfjddloaaGreatDoor.Bj
namespace Go.Proofs.YtgjikjcfjddloaaGreatDoor
theorem planRound_card:Rows.PlanRoundCardSaid:=
 Claim7.holds_tied_plain_at .later [] _ _ _ _ Bj.said (λ_ h=>by cases h) (by kernel_rfl) (λ_ h=>by cases h) planRound_row_tie rfl ⟨rfl,rfl⟩ (by kernel_rfl) rfl Bj.plain (by kernel_rfl)
#print axioms planRound_card
end Go.Proofs.YtgjikjcfjddloaaGreatDoor
end
