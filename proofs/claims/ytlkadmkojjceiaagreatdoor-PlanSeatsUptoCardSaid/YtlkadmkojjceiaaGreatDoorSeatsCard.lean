/- What is proved: PlanSeats' tied card, its second form: at every problem and all arguments of bounded bulk the law's function returns true and they read as before. Condition: the bulk of the data is at most 1048576 (as the second form says), and the row's listed variables hold what the card ties to the text. -/
import Derived.Test.YtlkadmkojjceiaaGreatDoorCards
import Derived.Test.YtlkadmkojjceiaaGreatDoorTie
import Derived.Lib.LaidTab
import Derived.Test.YtlkadmkojjceiaaGreatDoorTLawC
set_option linter.all false
set_option maxRecDepth 100000
section
namespace Go.Proofs.YtlkadmkojjceiaaGreatDoor.y9
open Go Go.Ai Go.Proofs Go.ChangeShapes Go.WideShapes Go.ChangeAt Go.RowKit
theorem own:ownKnob Tryz.prog.godebug=none:=by kernel_rfl
theorem VP{C:Cells}:nY Tryz.prog C yu/\jr yu:=uH (λx hx=>by
 simp only[Za2,Zd0,Zh2]at hx;rcases hx with rfl|rfl
 .exact Sq
 .exact Qj Tryz.func12 (by decide) rfl λw hw=>(Yh w).mono λe w' h=>⟨h.1,h.2.os,h.2.tape,h.2.output,h.2.size,h.2.block⟩)
theorem acv(C:Cells):eg Tryz.prog C (run yu gg):=Qk mix Ng (VP (C:=C)).1 (VP (C:=C)).2 Nh
theorem aal{C:Cells}:nY Tryz.prog C C8/\jr C8:=uH (λx hx=>by
 simp only[Za2,Zd0,Zh2]at hx;rcases hx with rfl|rfl|rfl|rfl|rfl|rfl|rfl|rfl|rfl|rfl|rfl|rfl|rfl|rfl|rfl
 .exact Sq
 .exact Qj Tryz.func12 (by decide) rfl λw hw=>(Yh w).mono λe w' h=>⟨h.1,h.2.os,h.2.tape,h.2.output,h.2.size,h.2.block⟩
 all_goals exact aam λC' _=>acv C')
theorem contract(H:Type)(enc:TypeId×Value->H)(W:World)(base:Nat)(args:Array Value)(ds gs:List (DataW H))(before:List MemPlace)
  (hval:∀(j:Nat) t v,Tryz.f7.params[j]? =some t->args[j]? =some v->Value.okWide Tryz.prog W .any base t v)
  (hW:DataW.Whole enc Tryz.prog Tryz.f7.params.toList Rows.planSeatsSpec.vars false W args.toList ds gs before) (Ni:W.ShapedOpen Tryz.prog)
  (W6:Rows.uptoSmall H (ds++gs)=true):
  Calls Tryz.prog 7 args W λe W'=>∃v,e= .returned v/\Rows.planSeatsSpec.post enc Tryz.prog Tryz.f7 false true false false W args v W':=by
 have dN:=hW;obtain⟨p,q,hA0,hV,rfl,Yi,HV⟩:=hW;have hA:DataW.TrodAll enc Tryz.prog W 0 (λ_=>true) true Tryz.f7.params.toList args.toList ds p:=hA0;rw[Tryz.params7]at hA hval;obtain⟨v0,vs0,d0,ds0,p0,q0,nZ,rfl,rfl,h0,r0⟩:=trodAll_cons hA;obtain⟨v1,vs1,d1,ds1,p1,q1,rfl,rfl,rfl,h1,r1⟩:=trodAll_cons r0;obtain⟨v2,vs2,d2,ds2,p2,q2,rfl,rfl,rfl,h2,r2⟩:=trodAll_cons r1;obtain⟨v3,vs3,d3,ds3,p3,q3,rfl,rfl,rfl,h3,r3⟩:=trodAll_cons r2;obtain⟨rfl,rfl,rfl⟩:=trodAll_nil r3;obtain rfl:args= #[v0,v1,v2,v3]:=by clear dN hV Yi HV Ni hval W6;cases args;simp_all
 have VQ:Sr d0:=by have h:=Zg8 W6;have:=(wm ([d0,d1,d2,d3]++gs)).2 d0 (by simp);show Rows.uptoBulk d0<=1048576;exact Zc4 this h
 have u7:Sr d1:=by have h:=Zg8 W6;have:=(wm ([d0,d1,d2,d3]++gs)).2 d1 (by simp);show Rows.uptoBulk d1<=1048576;exact Zc4 this h
 obtain⟨as0,⟨pr,rfl,VR⟩,k0⟩:=Mm adv Tryz.underlying28 (hval 0 _ v0 rfl rfl) h0 VQ;obtain⟨as1,⟨z1,l1,rfl,_⟩,k1⟩:=Nj OX Tryz.underlying25 (hval 1 _ v1 rfl rfl) h1 u7;obtain⟨as2,⟨i2,rfl,_⟩,k2⟩:=IU Tryz.underlying3 (hval 2 _ v2 rfl rfl) h2;obtain⟨as3,⟨i3,rfl,_⟩,k3⟩:=IU Tryz.underlying3 (hval 3 _ v3 rfl rfl) h3;obtain⟨rfl,rfl⟩:=trodVars_none hV;clear hA0;have ct:=aal (C:=λad=>W.cell? ad);have law:=Ss (c:=run C8 gg) (s:={ heap:= .e,next:= .h }) rfl pr VR z1 l1 i2 i3 (λp x hp=>by rw[T.cT]at hp;cases hp);have walk:=aan (C:=λad=>W.cell? ad) (w:=W) (Qk mix Ng ct.1 ct.2 Nh) (λad v h=>h) (λa v _ o h=>h) Tryz.func7 (by decide) rfl (ak.cons (k0 _ _) (ak.cons ((k1 _ _).2 0 _ _ rfl rfl) (ak.cons ((k2 _ _).2 0 _ _ rfl rfl) (k3 _ _)))) law;refine walk.mono λe W' ⟨he,hg⟩=> ?_
 subst he;exact⟨_,rfl,Yj (tb:=4) (by kernel_rfl) dN rfl rfl (by rw[Tryz.params7];intro t ht;simp at ht;rcases ht with rfl|rfl|rfl<;>exact⟨by kernel_rfl,Zg8 (by kernel_rfl)⟩) hg.below (by kernel_rfl) (by kernel_rfl)⟩
def Su:DataW Unit->Array Value
 |.agg l=>(l.map λ|.lit (.int k z)=>Value.int k z|_=>Value.bool false).toArray
 |_=> #[]
noncomputable def IV(x:Array Value):Obj->Obj
 |.cells _ t frozen=>.cells x t frozen
 |o=>o
noncomputable def IW(os:Os):World:=
 { World.holding Tryz.prog os ⟨#[], #[],[]⟩with heap:=(((World.holding Tryz.prog os ⟨#[], #[],[]⟩).heap.modify 0 (IV (Su Rows.laid_internal_strconv_uint64pow10))).modify 1 (IV (Su Rows.laid_math_bits_deBruijn32tab))).modify 2 (IV (Su Rows.laid_math_bits_deBruijn64tab)) }
noncomputable def R7:Array Value:= #[.agg #[.slice none 0 0,.slice none 0 0,.slice none 0 0,.slice none 0 0,.slice none 0 0],.slice none 0 0,.int .i64 0,.int .i64 0]
theorem aao(os:Os):laidMet Tryz.prog Rows.planSeatsUptoRow.laid ((IW os).forCall (λ_ _=>0) ⟨#[],R7,[]⟩).memory:=
 laidMet_of_run' 8 (by kernel_rfl) (by kernel_rfl)
theorem reads(os:Os){H:Type}(enc:TypeId×Value->H):∃places,DataW.whole enc Tryz.prog ((IW os).forCall (λ_ _=>0) ⟨#[],R7,[]⟩).memory Tryz.f7.params.toList Rows.planSeatsSpec.vars false R7.toList 8=some ([.agg [.nil,.nil,.nil,.nil,.nil],.nil,.lit (.int .i64 0),.lit (.int .i64 0)],[],places):=
 ⟨[],by kernel_rfl⟩
theorem lifted(os:Os)(started:os.Started)(H:Type)(enc:TypeId×Value->H)(F:Stop.Interp):
  ReturnsInHanded {} Tryz.checked os 7 .any ((Rows.OpenSpec.upto Rows.planSeatsSpec).preRow enc Tryz.prog Tryz.f7 Rows.planSeatsUptoRow.domain false Rows.planSeatsUptoRow.laid) (((Rows.OpenSpec.upto Rows.planSeatsSpec).at F).post enc Tryz.prog Tryz.f7 false true false false):=by
 obtain⟨places,hx⟩:=reads os enc
 refine returnsInHanded_of_row (C:=Tryz.checked) (s:=Rows.OpenSpec.upto Rows.planSeatsSpec) own started (by kernel_rfl) Tryz.func7
  (witness_row_at (enc:=enc) (C:=Tryz.checked) false (IW os) R7 rfl (by kernel_rfl) (by kernel_rfl) (by kernel_rfl)
   (OpenSpec.preRow_of_cond 8 hx (by kernel_rfl) (λk hk=>by cases hk;kernel_rfl) (by kernel_rfl) (aao os))) ?_
 intro W base args ds gs before hval hW _ W7 _ _ Ni _;exact contract H enc W base args ds gs before hval hW Ni (W7 _ rfl)
theorem said:Rows.PlanSeatsUptoSaid:=
 OpenClaim.holds_of_cond 7 Tryz.f7 rfl rfl rfl rfl rfl rfl rfl ⟨rfl,rfl,rfl,rfl,rfl⟩ rfl rfl rfl rfl rfl (by kernel_rfl) Tryz.func7 closed
  (Zg8 (by kernel_rfl)) (by unfold Func.isWrapper;first|(rw[Za6 (by decide+kernel)];kernel_rfl)|(rw[Za5 (by decide+kernel)];exact⟨rfl,rfl⟩))
  (λos started H enc _ F=>by rw[OpenClaim.pre_eq_preRow];exact lifted os started H enc F)
theorem plain(f:FuncId)(fn:Func)(hf:Tryz.pinned.checked.prog.funcNamed Rows.planSeatsUptoRow.func=some f)(Ac:Tryz.pinned.checked.prog.funcs[f]? =some fn):
   false=Tryz.pinned.checked.prog.looks []/\∀(j:Nat) t,fn.params[j]? =some t->Tryz.pinned.checked.prog.wantsStandIn t=false:=by
 obtain rfl:f=7:=Zh0 ((show Tryz.prog.funcNamed Rows.planSeatsUptoRow.func=some 7 by kernel_rfl).symm.trans hf) |>.symm;obtain rfl:fn=Tryz.f7:=(Zh0 (Tryz.func7.symm.trans Ac)).symm;refine⟨by kernel_rfl,λj t ht=> ?_⟩;rw[Tryz.params7]at ht;have:t=28\/t=25\/t=3:=by simpa using Zj8 ht
 rcases this with rfl|rfl|rfl
 .exact(show Tryz.prog.wantsStandIn 28=false by kernel_rfl)
 .exact(show Tryz.prog.wantsStandIn 25=false by kernel_rfl)
 .exact(show Tryz.prog.wantsStandIn 3=false by kernel_rfl)
end Go.Proofs.YtlkadmkojjceiaaGreatDoor.y9
namespace Go.Proofs.YtlkadmkojjceiaaGreatDoor
theorem planSeatsUpto_card:Rows.PlanSeatsUptoCardSaid:=
 Claim7.holds_tied_plain_at .later [] _ _ _ _ y9.said (λ_ h=>by cases h) (by kernel_rfl) (λ_ h=>by cases h) planSeatsUpto_row_tie rfl ⟨rfl,rfl⟩ (by kernel_rfl) rfl y9.plain (by kernel_rfl)
#print axioms planSeatsUpto_card
end Go.Proofs.YtlkadmkojjceiaaGreatDoor
end
