/- What is proved: JudgeScope's tied card: at all numbers of a problem, lists of numbers, uint8 the law's function returns true and they read as before. Condition: the row's listed variables hold what the card ties to the text. -/
import Derived.Test.YtmldijpopgaaeaaGreatDoorCards
import Derived.Test.YtmldijpopgaaeaaGreatDoorSLaw
import Derived.Test.YtmldijpopgaaeaaGreatDoorTie
import Derived.Lib.LaidTab
set_option linter.all false
set_option maxRecDepth 100000
section
namespace Go.Proofs.YtmldijpopgaaeaaGreatDoor.Ep
open Go Go.Ai Go.Proofs Go.ChangeShapes Go.WideShapes Go.ChangeAt Go.RowKit
theorem own:ownKnob Tryz.prog.godebug=none:=by kernel_rfl
theorem avg{m:Int}{C:Cells}(hC:C ⟨0,0,none⟩=some (.int .i64 m)):wm Tryz.prog C Qc/\o8 Qc:=zk (λx hx=>by
 simp only[Za8,Zc0,Ze9]at hx;rcases hx with rfl|rfl
 .exact az.Zz
 .exact afO Tryz.func7 (by decide) rfl λw hw=>(az.aqh m w (hw _ _ hC)).mono λe w' h=>⟨h.1,h.2.os,h.2.tape,h.2.output,h.2.size,h.2.block⟩)
theorem afq{m:Int}{C:Cells}(hC:C ⟨0,0,none⟩=some (.int .i64 m))(C':Cells)(h1:∀ad u,C ad=some u->C' ad=some u):jt Tryz.prog C' (run Qc gg):=by have cH:=avg (C:=C') (h1 _ _ hC);exact afI (by kernel_rfl) UZ cH.1 cH.2 U0
theorem asQ{m:Int}{C:Cells}(hC:C ⟨0,0,none⟩=some (.int .i64 m)):wm Tryz.prog C OZ/\o8 OZ:=zk (λx hx=>by
 simp only[Za8,Zc0,Ze9]at hx;rcases hx with rfl|rfl|rfl|rfl|rfl|rfl|rfl
 .exact az.Zz
 .exact afO Tryz.func7 (by decide) rfl λw hw=>(az.aqh m w (hw _ _ hC)).mono λe w' h=>⟨h.1,h.2.os,h.2.tape,h.2.output,h.2.size,h.2.block⟩
 .exact abV (afq hC)
 .exact abV (afq hC)
 .exact abV (afq hC)
 .exact apc
 .exact aiW)
theorem contract(H:Type)(enc:TypeId×Value->H)(W:World)(base:Nat)(args:Array Value)(ds gs:List (DataW H))(before:List MemPlace)
  (hval:∀(j:Nat) t v,Tryz.f3.params[j]? =some t->args[j]? =some v->Value.okWide Tryz.prog W .any base t v)
  (hW:DataW.Whole enc Tryz.prog Tryz.f3.params.toList Rows.judgeScopeSpec.vars false W args.toList ds gs before) (hsh:W.ShapedOpen Tryz.prog):
  Calls Tryz.prog 3 args W λe W'=>∃v,e= .returned v/\Rows.judgeScopeSpec.post enc Tryz.prog Tryz.f3 false true false false W args v W':=by
 have jD:=hW;obtain⟨p,q,hA0,hV,rfl,hfz,hnd⟩:=hW;have hA:DataW.TrodAll enc Tryz.prog W 0 (λ_=>true) true Tryz.f3.params.toList args.toList ds p:=hA0;rw[Tryz.params3]at hA hval;obtain⟨v0,vs0,d0,ds0,p0,q0,yB,rfl,rfl,h0,r0⟩:=trodAll_cons hA;obtain⟨v1,vs1,d1,ds1,p1,q1,rfl,rfl,rfl,h1,r1⟩:=trodAll_cons r0;obtain⟨v2,vs2,d2,ds2,p2,q2,rfl,rfl,rfl,h2,r2⟩:=trodAll_cons r1;obtain⟨v3,vs3,d3,ds3,p3,q3,rfl,rfl,rfl,h3,r3⟩:=trodAll_cons r2;obtain⟨rfl,rfl,rfl⟩:=trodAll_nil r3;obtain rfl:args= #[v0,v1,v2,v3]:=by clear jD hV hfz hnd hsh hval;cases args;simp_all
 obtain⟨as0,⟨zt,zg,zy,zr,xt,xg,xy,xr,rfl,ok⟩,k0⟩:=adj agE Tryz.underlying26 (hval 0 _ v0 rfl rfl) h0;obtain⟨as1,⟨z1,l1,rfl,m1⟩,k1⟩:=aeC arR Tryz.underlying27 (hval 1 _ v1 rfl rfl) h1;obtain⟨as2,⟨i2,rfl,wi2⟩,k2⟩:=Yo Tryz.underlying5 (hval 2 _ v2 rfl rfl) h2;have sy:=wf_u8 wi2;obtain⟨n2,rfl⟩:∃n:Nat,i2=(n:Int):=⟨i2.toNat,by omega⟩
 obtain⟨as3,⟨i3,rfl,wi3⟩,k3⟩:=Yo Tryz.underlying5 (hval 3 _ v3 rfl rfl) h3;have hi3:=wf_u8 wi3;obtain⟨n3,rfl⟩:∃n:Nat,i3=(n:Int):=⟨i3.toNat,by omega⟩
 obtain⟨rfl,rfl⟩:=trodVars_none hV;clear hA0;obtain⟨m,hm⟩:=Tryz.asL.s1_3 W hsh;have cH:=asQ (C:=λad=>W.cell? ad) hm;have law:=agC (c:=run OZ gg) rfl ok.t ok.g ok.y ok.r ok.lt ok.lg ok.lr ok.ly zt zg zy zr z1 l1 m1 (show n2<256 by omega) (show n3<256 by omega) { heap:= .e,next:= .h } (λp x hp=>by rw[T.dS]at hp;cases hp);have walk:=aq2 (C:=λad=>W.cell? ad) (w:=W) (afI (by kernel_rfl) UZ cH.1 cH.2 U0) (λad v h=>h) (λa v _ o h=>h) Tryz.func3 (by decide) rfl (aK.cons (k0 _ _) (aK.cons ((k1 _ _).2 0 _ _ rfl rfl) (aK.cons ((k2 _ _).2 0 _ _ rfl rfl) (k3 _ _)))) law;refine walk.mono λe W' ⟨he,hg⟩=> ?_
 subst he;exact⟨_,rfl,aok (tb:=4) (by kernel_rfl) jD rfl rfl (by rw[Tryz.params3];intro t ht;simp at ht;rcases ht with rfl|rfl|rfl<;>exact⟨by kernel_rfl,Zg2 (by kernel_rfl)⟩) hg.below (by kernel_rfl) (by kernel_rfl)⟩
noncomputable def akL:Array Value:= #[.int .u8 128,.int .u8 191,.int .u8 160,.int .u8 191,.int .u8 128,.int .u8 159,.int .u8 144,.int .u8 191,.int .u8 128,.int .u8 143,.int .u8 0,.int .u8 0,.int .u8 0,.int .u8 0,.int .u8 0,.int .u8 0,.int .u8 0,.int .u8 0,.int .u8 0,.int .u8 0,.int .u8 0,.int .u8 0,.int .u8 0,.int .u8 0,.int .u8 0,.int .u8 0,.int .u8 0,.int .u8 0,.int .u8 0,.int .u8 0,.int .u8 0,.int .u8 0]
noncomputable def firstCells:Array Value:=(Go.Pinned.utf8FirstZ.map λ(n:Nat)=>Value.int .u8 (n:Int)).toArray
noncomputable def agr(x:Array Value):Obj->Obj
 |.cells _ t frozen=>.cells x t frozen
 |o=>o
noncomputable def ZA(os:Os):World:=
 { World.holding Tryz.prog os ⟨#[], #[],[]⟩with heap:=((World.holding Tryz.prog os ⟨#[], #[],[]⟩).heap.modify 1 (agr firstCells)).modify 2 (agr akL) }
noncomputable def ahm:Array Value:= #[.agg #[.slice none 0 0,.slice none 0 0,.slice none 0 0,.slice none 0 0],.slice none 0 0,.int .u8 0,.int .u8 0]
theorem asR(os:Os):laidMet Tryz.prog Rows.judgeScopeRow.laid ((ZA os).forCall (λ_ _=>0) ⟨#[],ahm,[]⟩).memory:=
 laidMet_of_run' 8 (by kernel_rfl) (by kernel_rfl)
theorem reads(os:Os){H:Type}(enc:TypeId×Value->H):∃places,DataW.whole enc Tryz.prog ((ZA os).forCall (λ_ _=>0) ⟨#[],ahm,[]⟩).memory Tryz.f3.params.toList Rows.judgeScopeSpec.vars false ahm.toList 8=some ([.agg [.nil,.nil,.nil,.nil],.nil,.lit (.int .u8 0),.lit (.int .u8 0)],[],places):=
 ⟨[],by kernel_rfl⟩
theorem lifted(os:Os)(started:os.Started)(H:Type)(enc:TypeId×Value->H)(F:Stop.Interp):
  ReturnsInHanded {} Tryz.checked os 3 .any ((OpenSpec.ofChange Rows.judgeScopeSpec).preRow enc Tryz.prog Tryz.f3 Rows.judgeScopeRow.domain false Rows.judgeScopeRow.laid) (((OpenSpec.ofChange Rows.judgeScopeSpec).at F).post enc Tryz.prog Tryz.f3 false true false false):=by
 obtain⟨places,hx⟩:=reads os enc
 refine returnsInHanded_of_row (C:=Tryz.checked) (s:=OpenSpec.ofChange Rows.judgeScopeSpec) own started (by kernel_rfl) Tryz.func3
  (witness_row_at (enc:=enc) (C:=Tryz.checked) false (ZA os) ahm rfl (by kernel_rfl) (by kernel_rfl) (by kernel_rfl)
   (OpenSpec.preRow_of_cond 8 hx (by kernel_rfl) (λk hk=>by cases hk) (by kernel_rfl) (asR os))) ?_
 intro W base args ds gs before hval hW _ _ _ hL hsh _;exact contract H enc W base args ds gs before hval hW hsh
theorem said:Rows.JudgeScopeSaid:=
 OpenClaim.holds_of_cond 3 Tryz.f3 rfl rfl rfl rfl rfl rfl rfl ⟨rfl,rfl,rfl,rfl,rfl⟩ rfl rfl rfl rfl rfl (by kernel_rfl) Tryz.func3 closed
  (Zg2 (by kernel_rfl)) (by unfold Func.isWrapper;first|(rw[Zb6 (by decide+kernel)];kernel_rfl)|(rw[Za7 (by decide+kernel)];exact⟨rfl,rfl⟩))
  (λos started H enc _ F=>by rw[OpenClaim.pre_eq_preRow];exact lifted os started H enc F)
theorem plain(f:FuncId)(fn:Func)(hf:Tryz.pinned.checked.prog.funcNamed Rows.judgeScopeRow.func=some f)(HW:Tryz.pinned.checked.prog.funcs[f]? =some fn):
   false=Tryz.pinned.checked.prog.looks []/\∀(j:Nat) t,fn.params[j]? =some t->Tryz.pinned.checked.prog.wantsStandIn t=false:=by
 obtain rfl:f=3:=Zi8 ((show Tryz.prog.funcNamed Rows.judgeScopeRow.func=some 3 by kernel_rfl).symm.trans hf) |>.symm;obtain rfl:fn=Tryz.f3:=(Zi8 (Tryz.func3.symm.trans HW)).symm;refine⟨by kernel_rfl,λj t ht=> ?_⟩;rw[Tryz.params3]at ht;have:t=26\/t=27\/t=5:=by simpa using Array.mem_of_getElem? ht
 rcases this with rfl|rfl|rfl
 .exact(show Tryz.prog.wantsStandIn 26=false by kernel_rfl)
 .exact(show Tryz.prog.wantsStandIn 27=false by kernel_rfl)
 .exact(show Tryz.prog.wantsStandIn 5=false by kernel_rfl)
end Go.Proofs.YtmldijpopgaaeaaGreatDoor.Ep
namespace Go.Proofs.YtmldijpopgaaeaaGreatDoor
theorem judgeScope_card:Rows.JudgeScopeCardSaid:=
 Claim7.holds_tied_plain_at .later [] _ _ _ _ Ep.said (λ_ h=>by cases h) (by kernel_rfl) (λ_ h=>by cases h) judgeScope_row_tie rfl ⟨rfl,rfl⟩ (by kernel_rfl) rfl Ep.plain (by kernel_rfl)
#print axioms judgeScope_card
end Go.Proofs.YtmldijpopgaaeaaGreatDoor
end
