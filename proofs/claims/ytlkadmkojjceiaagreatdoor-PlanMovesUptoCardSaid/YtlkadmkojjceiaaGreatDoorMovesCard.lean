/- What is proved: PlanMoves' tied card, its second form: at every problem and all arguments of bounded bulk the law's function returns true and they read as before. Condition: the bulk of the data is at most 1048576 (as the second form says), and the row's listed variables hold what the card ties to the text. -/
import Derived.Test.YtlkadmkojjceiaaGreatDoorCards
import Derived.Test.YtlkadmkojjceiaaGreatDoorTie
import Derived.Lib.LaidTab
import Derived.Test.YtlkadmkojjceiaaGreatDoorVLawD
set_option linter.all false
set_option maxRecDepth 100000
section
namespace Go.Proofs.YtlkadmkojjceiaaGreatDoor.AO
open Go Go.Ai Go.Proofs Go.ChangeShapes Go.WideShapes Go.ChangeAt Go.RowKit
theorem own:ownKnob Tryz.prog.godebug=none:=by kernel_rfl
theorem XV{C:Cells}:pg Tryz.prog C CR/\jQ CR:=v7 (λx hx=>by
 simp only[Za5,Zd2,Zh6]at hx;rcases hx with rfl|rfl
 .exact UM
 .exact SA Tryz.func12 (by decide) rfl λw hw=>(aah w).mono λe w' h=>⟨h.1,h.2.os,h.2.tape,h.2.output,h.2.size,h.2.block⟩)
theorem adV(C:Cells):eE Tryz.prog C (run CR gg):=SB mix Po (XV (C:=C)).1 (XV (C:=C)).2 Pp
theorem abE{C:Cells}:pg Tryz.prog C EK/\jQ EK:=v7 (λx hx=>by
 simp only[Za5,Zd2,Zh6]at hx;rcases hx with rfl|rfl|rfl|rfl|rfl|rfl|rfl|rfl|rfl|rfl|rfl|rfl|rfl|rfl|rfl
 .exact UM
 .exact SA Tryz.func12 (by decide) rfl λw hw=>(aah w).mono λe w' h=>⟨h.1,h.2.os,h.2.tape,h.2.output,h.2.size,h.2.block⟩
 all_goals exact abF λC' _=>adV C')
theorem contract(H:Type)(enc:TypeId×Value->H)(W:World)(base:Nat)(args:Array Value)(ds gs:List (DataW H))(before:List MemPlace)
  (hval:∀(j:Nat) t v,Tryz.f5.params[j]? =some t->args[j]? =some v->Value.okWide Tryz.prog W .any base t v)
  (hW:DataW.Whole enc Tryz.prog Tryz.f5.params.toList Rows.planMovesSpec.vars false W args.toList ds gs before) (Pq:W.ShapedOpen Tryz.prog)
  (Pr:Rows.uptoSmall H (ds++gs)=true):
  Calls Tryz.prog 5 args W λe W'=>∃v,e= .returned v/\Rows.planMovesSpec.post enc Tryz.prog Tryz.f5 false true false false W args v W':=by
 have ei:=hW;obtain⟨p,q,hA0,hV,rfl,hfz,EL⟩:=hW;have hA:DataW.TrodAll enc Tryz.prog W 0 (λ_=>true) true Tryz.f5.params.toList args.toList ds p:=hA0;rw[Tryz.params5]at hA hval;obtain⟨v0,vs0,d0,ds0,p0,q0,pn,rfl,rfl,h0,r0⟩:=trodAll_cons hA;obtain⟨v1,vs1,d1,ds1,p1,q1,rfl,rfl,rfl,h1,r1⟩:=trodAll_cons r0;obtain⟨v2,vs2,d2,ds2,p2,q2,rfl,rfl,rfl,h2,r2⟩:=trodAll_cons r1;obtain⟨v3,vs3,d3,ds3,p3,q3,rfl,rfl,rfl,h3,r3⟩:=trodAll_cons r2;obtain⟨rfl,rfl,rfl⟩:=trodAll_nil r3;obtain rfl:args= #[v0,v1,v2,v3]:=by clear ei hV hfz EL Pq hval Pr;cases args;simp_all
 have XW:Pt d0:=by have h:=Zf5 Pr;have:=(pz ([d0,d1,d2,d3]++gs)).2 d0 (by simp);show Rows.uptoBulk d0<=1048576;exact Zc3 this h
 have tY:Pt d1:=by have h:=Zf5 Pr;have:=(pz ([d0,d1,d2,d3]++gs)).2 d1 (by simp);show Rows.uptoBulk d1<=1048576;exact Zc3 this h
 have zP:Pt d2:=by have h:=Zf5 Pr;have:=(pz ([d0,d1,d2,d3]++gs)).2 d2 (by simp);show Rows.uptoBulk d2<=1048576;exact Zc3 this h
 have hb3:Pt d3:=by have h:=Zf5 Pr;have:=(pz ([d0,d1,d2,d3]++gs)).2 d3 (by simp);show Rows.uptoBulk d3<=1048576;exact Zc3 this h
 obtain⟨as0,⟨pr,rfl,XX⟩,k0⟩:=Ot aeW Tryz.underlying28 (hval 0 _ v0 rfl rfl) h0 XW;obtain⟨as1,⟨z1,l1,rfl,_⟩,k1⟩:=ye MT Tryz.underlying25 (hval 1 _ v1 rfl rfl) h1 tY;obtain⟨as2,⟨z2,l2,rfl,_⟩,k2⟩:=ye MT Tryz.underlying25 (hval 2 _ v2 rfl rfl) h2 zP;obtain⟨as3,⟨z3,l3,rfl,_⟩,k3⟩:=ye abG Tryz.underlying33 (hval 3 _ v3 rfl rfl) h3 hb3;obtain⟨rfl,rfl⟩:=trodVars_none hV;clear hA0;have cT:=abE (C:=λad=>W.cell? ad);have law:=UN (c:=run EK gg) (s:={ heap:= .e,next:= .h }) rfl pr XX z1 l1 z2 l2 z3 l3 (λp x hp=>by rw[T.dh]at hp;cases hp);have walk:=abH (C:=λad=>W.cell? ad) (w:=W) (SB mix Po cT.1 cT.2 Pp) (λad v h=>h) (λa v _ o h=>h) Tryz.func5 (by decide) rfl (av.cons (k0 _ _) (av.cons ((k1 _ _).2 0 _ _ rfl rfl) (av.cons ((k2 _ _).2 0 _ _ rfl rfl) (k3 _ _)))) law;refine walk.mono λe W' ⟨he,hg⟩=> ?_
 subst he;exact⟨_,rfl,aai (tb:=4) (by kernel_rfl) ei rfl rfl (by rw[Tryz.params5];intro t ht;simp at ht;rcases ht with rfl|rfl|rfl<;>exact⟨by kernel_rfl,Zf5 (by kernel_rfl)⟩) hg.below (by kernel_rfl) (by kernel_rfl)⟩
def UO:DataW Unit->Array Value
 |.agg l=>(l.map λ|.lit (.int k z)=>Value.int k z|_=>Value.bool false).toArray
 |_=> #[]
noncomputable def KC(x:Array Value):Obj->Obj
 |.cells _ t frozen=>.cells x t frozen
 |o=>o
noncomputable def KD(os:Os):World:=
 { World.holding Tryz.prog os ⟨#[], #[],[]⟩with heap:=(((World.holding Tryz.prog os ⟨#[], #[],[]⟩).heap.modify 0 (KC (UO Rows.laid_internal_strconv_uint64pow10))).modify 1 (KC (UO Rows.laid_math_bits_deBruijn32tab))).modify 2 (KC (UO Rows.laid_math_bits_deBruijn64tab)) }
noncomputable def Uv:Array Value:= #[.agg #[.slice none 0 0,.slice none 0 0,.slice none 0 0,.slice none 0 0,.slice none 0 0],.slice none 0 0,.slice none 0 0,.slice none 0 0]
theorem abI(os:Os):laidMet Tryz.prog Rows.planMovesUptoRow.laid ((KD os).forCall (λ_ _=>0) ⟨#[],Uv,[]⟩).memory:=
 laidMet_of_run' 8 (by kernel_rfl) (by kernel_rfl)
theorem reads(os:Os){H:Type}(enc:TypeId×Value->H):∃places,DataW.whole enc Tryz.prog ((KD os).forCall (λ_ _=>0) ⟨#[],Uv,[]⟩).memory Tryz.f5.params.toList Rows.planMovesSpec.vars false Uv.toList 8=some ([.agg [.nil,.nil,.nil,.nil,.nil],.nil,.nil,.nil],[],places):=
 ⟨[],by kernel_rfl⟩
theorem lifted(os:Os)(started:os.Started)(H:Type)(enc:TypeId×Value->H)(F:Stop.Interp):
  ReturnsInHanded {} Tryz.checked os 5 .any ((Rows.OpenSpec.upto Rows.planMovesSpec).preRow enc Tryz.prog Tryz.f5 Rows.planMovesUptoRow.domain false Rows.planMovesUptoRow.laid) (((Rows.OpenSpec.upto Rows.planMovesSpec).at F).post enc Tryz.prog Tryz.f5 false true false false):=by
 obtain⟨places,hx⟩:=reads os enc
 refine returnsInHanded_of_row (C:=Tryz.checked) (s:=Rows.OpenSpec.upto Rows.planMovesSpec) own started (by kernel_rfl) Tryz.func5
  (witness_row_at (enc:=enc) (C:=Tryz.checked) false (KD os) Uv rfl (by kernel_rfl) (by kernel_rfl) (by kernel_rfl)
   (OpenSpec.preRow_of_cond 8 hx (by kernel_rfl) (λk hk=>by cases hk;kernel_rfl) (by kernel_rfl) (abI os))) ?_
 intro W base args ds gs before hval hW _ Y7 _ _ Pq _;exact contract H enc W base args ds gs before hval hW Pq (Y7 _ rfl)
theorem said:Rows.PlanMovesUptoSaid:=
 OpenClaim.holds_of_cond 5 Tryz.f5 rfl rfl rfl rfl rfl rfl rfl ⟨rfl,rfl,rfl,rfl,rfl⟩ rfl rfl rfl rfl rfl (by kernel_rfl) Tryz.func5 closed
  (Zf5 (by kernel_rfl)) (by unfold Func.isWrapper;first|(rw[Za2 (by decide+kernel)];kernel_rfl)|(rw[Za1 (by decide+kernel)];exact⟨rfl,rfl⟩))
  (λos started H enc _ F=>by rw[OpenClaim.pre_eq_preRow];exact lifted os started H enc F)
theorem plain(f:FuncId)(fn:Func)(hf:Tryz.pinned.checked.prog.funcNamed Rows.planMovesUptoRow.func=some f)(BS:Tryz.pinned.checked.prog.funcs[f]? =some fn):
   false=Tryz.pinned.checked.prog.looks []/\∀(j:Nat) t,fn.params[j]? =some t->Tryz.pinned.checked.prog.wantsStandIn t=false:=by
 obtain rfl:f=5:=Zf9 ((show Tryz.prog.funcNamed Rows.planMovesUptoRow.func=some 5 by kernel_rfl).symm.trans hf) |>.symm;obtain rfl:fn=Tryz.f5:=(Zf9 (Tryz.func5.symm.trans BS)).symm;refine⟨by kernel_rfl,λj t ht=> ?_⟩;rw[Tryz.params5]at ht;have:t=28\/t=25\/t=33:=by simpa using Zk1 ht
 rcases this with rfl|rfl|rfl
 .exact(show Tryz.prog.wantsStandIn 28=false by kernel_rfl)
 .exact(show Tryz.prog.wantsStandIn 25=false by kernel_rfl)
 .exact(show Tryz.prog.wantsStandIn 33=false by kernel_rfl)
end Go.Proofs.YtlkadmkojjceiaaGreatDoor.AO
namespace Go.Proofs.YtlkadmkojjceiaaGreatDoor
theorem planMovesUpto_card:Rows.PlanMovesUptoCardSaid:=
 Claim7.holds_tied_plain_at .later [] _ _ _ _ AO.said (λ_ h=>by cases h) (by kernel_rfl) (λ_ h=>by cases h) planMovesUpto_row_tie rfl ⟨rfl,rfl⟩ (by kernel_rfl) rfl AO.plain (by kernel_rfl)
#print axioms planMovesUpto_card
end Go.Proofs.YtlkadmkojjceiaaGreatDoor
end
