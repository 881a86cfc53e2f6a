/- What is proved: PlanSwaps' tied card: at all numbers of a problem, lists of numbers, any two uint8 the law's function returns true and they read as before. Condition: the row's listed variables hold what the card ties to the text. -/
import Derived.Test.YtoeleelojgimfaaGreatDoorCards
import Derived.Test.YtoeleelojgimfaaGreatDoorTie
import Derived.Lib.LaidTab
import Derived.Test.YtoeleelojgimfaaGreatDoorPLaw
set_option linter.all false
set_option maxRecDepth 100000
section
namespace Go.Proofs.YtoeleelojgimfaaGreatDoor.xE
open Go Go.Ai Go.Proofs Go.ChangeShapes Go.WideShapes Go.ChangeAt Go.RowKit
theorem own:ownKnob Tryz.prog.godebug=none:=by kernel_rfl
theorem Ue{C:Cells}:nU Tryz.prog C Eg/\jK Eg:=sM (λx hx=>by
 simp only[Za9,Ze5,Zi9]at hx;rcases hx with rfl|rfl
 .exact Pv
 .exact NY Tryz.func15 (by decide) rfl λw hw=>(VO w).mono λe w' h=>⟨h.1,h.2.os,h.2.tape,h.2.output,h.2.size,h.2.block⟩)
theorem C9(C:Cells):ew Tryz.prog C (run Eg gg):=NT mix J8 (Ue (C:=C)).1 (Ue (C:=C)).2 J9
theorem aaD{C:Cells}:nU Tryz.prog C Bn/\jK Bn:=sM (λx hx=>by
 simp only[Za9,Ze5,Zi9]at hx;rcases hx with rfl|rfl|rfl|rfl|rfl|rfl|rfl
 .exact Pv
 .exact NY Tryz.func15 (by decide) rfl λw hw=>(VO w).mono λe w' h=>⟨h.1,h.2.os,h.2.tape,h.2.output,h.2.size,h.2.block⟩
 .exact zL λC' _=>C9 C'
 .exact zL λC' _=>C9 C'
 .exact zL λC' _=>C9 C'
 .exact zL λC' _=>C9 C'
 .exact zL λC' _=>C9 C')
theorem contract(H:Type)(enc:TypeId×Value->H)(W:World)(base:Nat)(args:Array Value)(ds gs:List (DataW H))(before:List MemPlace)
  (hval:∀(j:Nat) t v,Tryz.f4.params[j]? =some t->args[j]? =some v->Value.okWide Tryz.prog W .any base t v)
  (hW:DataW.Whole enc Tryz.prog Tryz.f4.params.toList Rows.planSwapsSpec.vars false W args.toList ds gs before) (Ko:W.ShapedOpen Tryz.prog):
  Calls Tryz.prog 4 args W λe W'=>∃v,e= .returned v/\Rows.planSwapsSpec.post enc Tryz.prog Tryz.f4 false true false false W args v W':=by
 have dY:=hW;obtain⟨p,q,hA0,hV,rfl,VT,ER⟩:=hW;have hA:DataW.TrodAll enc Tryz.prog W 0 (λ_=>true) true Tryz.f4.params.toList args.toList ds p:=hA0;rw[Tryz.params4]at hA hval;obtain⟨v0,vs0,d0,ds0,p0,q0,nW,rfl,rfl,h0,r0⟩:=trodAll_cons hA;obtain⟨v1,vs1,d1,ds1,p1,q1,rfl,rfl,rfl,h1,r1⟩:=trodAll_cons r0;obtain⟨v2,vs2,d2,ds2,p2,q2,rfl,rfl,rfl,h2,r2⟩:=trodAll_cons r1;obtain⟨v3,vs3,d3,ds3,p3,q3,rfl,rfl,rfl,h3,r3⟩:=trodAll_cons r2;obtain⟨rfl,rfl,rfl⟩:=trodAll_nil r3;obtain rfl:args= #[v0,v1,v2,v3]:=by clear dY hV VT ER Ko hval;cases args;simp_all
 obtain⟨as0,⟨zt,zg,zy,zr,xt,xg,xy,xr,rfl,ok⟩,k0⟩:=K8 OS Tryz.underlying26 (hval 0 _ v0 rfl rfl) h0;obtain⟨as1,⟨z1,l1,rfl,m1⟩,k1⟩:=Mm ZW Tryz.underlying27 (hval 1 _ v1 rfl rfl) h1;obtain⟨as2,⟨i2,rfl,wi2⟩,k2⟩:=Gy Tryz.underlying5 (hval 2 _ v2 rfl rfl) h2;have K7:=wf_u8 wi2;obtain⟨n2,rfl⟩:∃n:Nat,i2=(n:Int):=⟨i2.toNat,by omega⟩
 obtain⟨as3,⟨i3,rfl,wi3⟩,k3⟩:=Gy Tryz.underlying5 (hval 3 _ v3 rfl rfl) h3;have TP:=wf_u8 wi3;obtain⟨n3,rfl⟩:∃n:Nat,i3=(n:Int):=⟨i3.toNat,by omega⟩
 obtain⟨rfl,rfl⟩:=trodVars_none hV;clear hA0;have eI:=aaD (C:=λad=>W.cell? ad);have law:=Rq (c:=run Bn gg) rfl ok.t ok.g ok.y ok.r ok.lt ok.lg ok.lr ok.ly zt zg zy zr z1 l1 m1 (show n2<256 by omega) (show n3<256 by omega) { heap:= .e,next:= .h } (λp x hp=>by rw[T.cZ]at hp;cases hp);have walk:=Zq (C:=λad=>W.cell? ad) (w:=W) (NT mix J8 eI.1 eI.2 J9) (λad v h=>h) (λa v _ o h=>h) Tryz.func4 (by decide) rfl (aq.cons (k0 _ _) (aq.cons ((k1 _ _).2 0 _ _ rfl rfl) (aq.cons ((k2 _ _).2 0 _ _ rfl rfl) (k3 _ _)))) law;refine walk.mono λe W' ⟨he,hg⟩=> ?_
 subst he;exact⟨_,rfl,W7 (tb:=4) (by kernel_rfl) dY rfl rfl (by rw[Tryz.params4];intro t ht;simp at ht;rcases ht with rfl|rfl|rfl<;>exact⟨by kernel_rfl,Zg2 (by kernel_rfl)⟩) hg.below (by kernel_rfl) (by kernel_rfl)⟩
def Sd:DataW Unit->Array Value
 |.agg l=>(l.map λ|.lit (.int k z)=>Value.int k z|_=>Value.bool false).toArray
 |_=> #[]
noncomputable def HG(x:Array Value):Obj->Obj
 |.cells _ t frozen=>.cells x t frozen
 |o=>o
noncomputable def HH(os:Os):World:=
 { World.holding Tryz.prog os ⟨#[], #[],[]⟩with heap:=(((World.holding Tryz.prog os ⟨#[], #[],[]⟩).heap.modify 0 (HG (Sd Rows.laid_internal_strconv_uint64pow10))).modify 1 (HG (Sd Rows.laid_math_bits_deBruijn32tab))).modify 2 (HG (Sd Rows.laid_math_bits_deBruijn64tab)) }
noncomputable def Pu:Array Value:= #[.agg #[.slice none 0 0,.slice none 0 0,.slice none 0 0,.slice none 0 0],.slice none 0 0,.int .u8 0,.int .u8 0]
theorem aaE(os:Os):laidMet Tryz.prog Rows.planSwapsRow.laid ((HH os).forCall (λ_ _=>0) ⟨#[],Pu,[]⟩).memory:=
 laidMet_of_run' 8 (by kernel_rfl) (by kernel_rfl)
theorem reads(os:Os){H:Type}(enc:TypeId×Value->H):∃places,DataW.whole enc Tryz.prog ((HH os).forCall (λ_ _=>0) ⟨#[],Pu,[]⟩).memory Tryz.f4.params.toList Rows.planSwapsSpec.vars false Pu.toList 8=some ([.agg [.nil,.nil,.nil,.nil],.nil,.lit (.int .u8 0),.lit (.int .u8 0)],[],places):=
 ⟨[],by kernel_rfl⟩
theorem lifted(os:Os)(started:os.Started)(H:Type)(enc:TypeId×Value->H)(F:Stop.Interp):
  ReturnsInHanded {} Tryz.checked os 4 .any ((OpenSpec.ofChange Rows.planSwapsSpec).preRow enc Tryz.prog Tryz.f4 Rows.planSwapsRow.domain false Rows.planSwapsRow.laid) (((OpenSpec.ofChange Rows.planSwapsSpec).at F).post enc Tryz.prog Tryz.f4 false true false false):=by
 obtain⟨places,hx⟩:=reads os enc
 refine returnsInHanded_of_row (C:=Tryz.checked) (s:=OpenSpec.ofChange Rows.planSwapsSpec) own started (by kernel_rfl) Tryz.func4
  (witness_row_at (enc:=enc) (C:=Tryz.checked) false (HH os) Pu rfl (by kernel_rfl) (by kernel_rfl) (by kernel_rfl)
   (OpenSpec.preRow_of_cond 8 hx (by kernel_rfl) (λk hk=>by cases hk) (by kernel_rfl) (aaE os))) ?_
 intro W base args ds gs before hval hW _ _ _ hL Ko _;exact contract H enc W base args ds gs before hval hW Ko
theorem said:Rows.PlanSwapsSaid:=
 OpenClaim.holds_of_cond 4 Tryz.f4 rfl rfl rfl rfl rfl rfl rfl ⟨rfl,rfl,rfl,rfl,rfl⟩ rfl rfl rfl rfl rfl (by kernel_rfl) Tryz.func4 closed
  (Zg2 (by kernel_rfl)) (by unfold Func.isWrapper;first|(rw[Za7 (by decide+kernel)];kernel_rfl)|(rw[Za5 (by decide+kernel)];exact⟨rfl,rfl⟩))
  (λos started H enc _ F=>by rw[OpenClaim.pre_eq_preRow];exact lifted os started H enc F)
theorem plain(f:FuncId)(fn:Func)(hf:Tryz.pinned.checked.prog.funcNamed Rows.planSwapsRow.func=some f)(yh:Tryz.pinned.checked.prog.funcs[f]? =some fn):
   false=Tryz.pinned.checked.prog.looks []/\∀(j:Nat) t,fn.params[j]? =some t->Tryz.pinned.checked.prog.wantsStandIn t=false:=by
 obtain rfl:f=4:=Zg0 ((show Tryz.prog.funcNamed Rows.planSwapsRow.func=some 4 by kernel_rfl).symm.trans hf) |>.symm;obtain rfl:fn=Tryz.f4:=(Zg0 (Tryz.func4.symm.trans yh)).symm;refine⟨by kernel_rfl,λj t ht=> ?_⟩;rw[Tryz.params4]at ht;have:t=26\/t=27\/t=5:=by simpa using Zk1 ht
 rcases this with rfl|rfl|rfl
 .exact(show Tryz.prog.wantsStandIn 26=false by kernel_rfl)
 .exact(show Tryz.prog.wantsStandIn 27=false by kernel_rfl)
 .exact(show Tryz.prog.wantsStandIn 5=false by kernel_rfl)
end Go.Proofs.YtoeleelojgimfaaGreatDoor.xE
namespace Go.Proofs.YtoeleelojgimfaaGreatDoor
theorem planSwaps_card:Rows.PlanSwapsCardSaid:=
 Claim7.holds_tied_plain_at .later [] _ _ _ _ xE.said (λ_ h=>by cases h) (by kernel_rfl) (λ_ h=>by cases h) planSwaps_row_tie rfl ⟨rfl,rfl⟩ (by kernel_rfl) rfl xE.plain (by kernel_rfl)
#print axioms planSwaps_card
end Go.Proofs.YtoeleelojgimfaaGreatDoor
end
