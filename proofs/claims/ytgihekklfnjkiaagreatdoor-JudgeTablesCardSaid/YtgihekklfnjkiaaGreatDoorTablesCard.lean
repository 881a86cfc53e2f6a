/- What is proved: JudgeTables' tied card: at all numbers of a problem and all lists of numbers the law's function returns true and they read as before. Condition: the row's listed variables hold what the card ties to the text. -/
import Derived.Test.YtgihekklfnjkiaaGreatDoorCards
import Derived.Test.YtgihekklfnjkiaaGreatDoorTie
import Derived.Lib.LaidTab
import Derived.Test.YtgihekklfnjkiaaGreatDoorTLaw
set_option linter.all false
set_option linter.unusedSectionVars false
set_option linter.deprecated false
section
namespace Go.Proofs.YtgihekklfnjkiaaGreatDoor.Be
open Go Go.Ai Go.Proofs Go.ChangeShapes Go.WideShapes Go.ChangeAt Go.RowKit
theorem own:ownKnob Tryz.prog.godebug=none:=by kernel_rfl
theorem atA{m:Int}{C:Cells}(hC:C ⟨0,0,none⟩=some (.int .i64 m)):vU Tryz.prog C Pc/\oh Pc:=yS (λx hx=>by
 simp only[Za8,Zb7,Ze4]at hx;rcases hx with rfl|rfl
 . exact ay.YH
 . exact aeO Tryz.func14 (by decide) rfl λw hw=>(ay.aoW m w (hw _ _ hC)).mono λe w' h=>⟨h.1,h.2.os,h.2.tape,h.2.output,h.2.size,h.2.block⟩)
set_option maxRecDepth 100000 in
theorem atB{m:Int}{C:Cells}(hC:C ⟨0,0,none⟩=some (.int .i64 m))(C':Cells)(h1:∀ad u,C ad=some u->C' ad=some u):jd Tryz.prog C' (run Pc gg):=by have cF:=atA (C:=C') (h1 _ _ hC);exact aeJ (by kernel_rfl) Ud cF.1 cF.2 Ue
set_option maxRecDepth 100000 in
theorem arj{m:Int}{C:Cells}(hC:C ⟨0,0,none⟩=some (.int .i64 m)):vU Tryz.prog C Oq/\oh Oq:=yS (λx hx=>by
 simp only[Za8,Zb7,Ze4]at hx;rcases hx with rfl|rfl|rfl|rfl|rfl|rfl|rfl|rfl|rfl|rfl
 . exact ay.YH
 . exact aeO Tryz.func14 (by decide) rfl λw hw=>(ay.aoW m w (hw _ _ hC)).mono λe w' h=>⟨h.1,h.2.os,h.2.tape,h.2.output,h.2.size,h.2.block⟩
 all_goals exact apK (atB hC))
set_option maxRecDepth 100000 in
theorem contract(H:Type)(enc:TypeId×Value->H)(W:World)(base:Nat)(args:Array Value)(ds gs:List (DataW H))(before:List MemPlace)
  (hval:∀(j:Nat) t v,Tryz.f4.params[j]? =some t->args[j]? =some v->Value.okWide Tryz.prog W .any base t v)
  (hW:DataW.Whole enc Tryz.prog Tryz.f4.params.toList Rows.judgeTablesSpec.vars false W args.toList ds gs before) (hsh:W.ShapedOpen Tryz.prog):
  Calls Tryz.prog 4 args W λe W'=>∃v,e= .returned v/\Rows.judgeTablesSpec.post enc Tryz.prog Tryz.f4 false true false false W args v W':=by
 have jk:=hW;obtain⟨p,q,hA0,hV,rfl,hfz,hnd⟩:=hW;have hA:DataW.TrodAll enc Tryz.prog W 0 (λ_=>true) true Tryz.f4.params.toList args.toList ds p:=hA0;rw[Tryz.params4]at hA hval;obtain⟨v0,vs0,d0,ds0,p0,q0,yg,rfl,rfl,h0,r0⟩:=trodAll_cons hA;obtain⟨v1,vs1,d1,ds1,p1,q1,rfl,rfl,rfl,h1,r1⟩:=trodAll_cons r0;obtain⟨v2,vs2,d2,ds2,p2,q2,rfl,rfl,rfl,h2,r2⟩:=trodAll_cons r1;obtain⟨rfl,rfl,rfl⟩:=trodAll_nil r2;obtain rfl:args= #[v0,v1,v2]:=by clear jk hV hfz hnd hsh hval;cases args;simp_all
 obtain⟨as0,⟨zt,zg,zy,zr,xt,xg,xy,xr,rfl,ok⟩,k0⟩:=acn afA Tryz.underlying26 (hval 0 _ v0 rfl rfl) h0;obtain⟨as1,⟨z1,l1,rfl,m1⟩,k1⟩:=adK aqj Tryz.underlying27 (hval 1 _ v1 rfl rfl) h1;obtain⟨as2,⟨i2,rfl,wi2⟩,k2⟩:=ahT Tryz.underlying5 (hval 2 _ v2 rfl rfl) h2;have Ak:=wf_u8 wi2;obtain⟨n2,rfl⟩:∃n:Nat,i2=(n:Int):=⟨i2.toNat,by omega⟩
 obtain⟨rfl,rfl⟩:=trodVars_none hV;clear hA0;obtain⟨m,hm⟩:=Tryz.arb.s1_3 W hsh;have cF:=arj (C:=λad=>W.cell? ad) hm;have law:=adX (c:=run Oq gg) rfl ok.t ok.g ok.y ok.r ok.lt ok.lg ok.lr ok.ly zt zg zy zr z1 l1 m1 (show n2<256 by omega) { heap:= .e,next:= .h } (λp x hp=>by rw[T.dP]at hp;cases hp);have walk:=apI (C:=λad=>W.cell? ad) (w:=W) (aeJ (by kernel_rfl) Ud cF.1 cF.2 Ue) (λad v h=>h) (λa v _ o h=>h) Tryz.func4 (by decide) rfl (aL.cons (k0 _ _) (aL.cons ((k1 _ _).2 0 _ _ rfl rfl) (k2 _ _))) law;refine walk.mono λe W' ⟨he,hg⟩=> ?_
 subst he;exact⟨_,rfl,ang (tb:=4) (by kernel_rfl) jk rfl rfl (by rw[Tryz.params4];intro t ht;simp at ht;rcases ht with rfl|rfl|rfl<;>exact⟨by kernel_rfl,Zg9 (by kernel_rfl)⟩) hg.below (by kernel_rfl) (by kernel_rfl)⟩
noncomputable def ajO:Array Value:= #[.int .u8 128,.int .u8 191,.int .u8 160,.int .u8 191,.int .u8 128,.int .u8 159,.int .u8 144,.int .u8 191,.int .u8 128,.int .u8 143,.int .u8 0,.int .u8 0,.int .u8 0,.int .u8 0,.int .u8 0,.int .u8 0,.int .u8 0,.int .u8 0,.int .u8 0,.int .u8 0,.int .u8 0,.int .u8 0,.int .u8 0,.int .u8 0,.int .u8 0,.int .u8 0,.int .u8 0,.int .u8 0,.int .u8 0,.int .u8 0,.int .u8 0,.int .u8 0]
noncomputable def firstCells:Array Value:=(Go.Pinned.utf8FirstZ.map λ(n:Nat)=>Value.int .u8 (n:Int)).toArray
noncomputable def afo(x:Array Value):Obj->Obj
 | .cells _ t frozen=> .cells x t frozen
 |o=>o
noncomputable def YI(os:Os):World:=
 { World.holding Tryz.prog os ⟨#[], #[],[]⟩with heap:=((World.holding Tryz.prog os ⟨#[], #[],[]⟩).heap.modify 1 (afo firstCells)).modify 2 (afo ajO) }
noncomputable def agr:Array Value:= #[.agg #[.slice none 0 0,.slice none 0 0,.slice none 0 0,.slice none 0 0],.slice none 0 0,.int .u8 0]
theorem ark(os:Os):laidMet Tryz.prog Rows.judgeTablesRow.laid ((YI os).forCall (λ_ _=>0) ⟨#[],agr,[]⟩).memory:=
 laidMet_of_run' 8 (by kernel_rfl) (by kernel_rfl)
theorem reads(os:Os){H:Type}(enc:TypeId×Value->H):∃places,DataW.whole enc Tryz.prog ((YI os).forCall (λ_ _=>0) ⟨#[],agr,[]⟩).memory Tryz.f4.params.toList Rows.judgeTablesSpec.vars false agr.toList 8=some ([.agg [.nil,.nil,.nil,.nil],.nil,.lit (.int .u8 0)],[],places):=
 ⟨[],by kernel_rfl⟩
set_option maxRecDepth 100000 in
theorem lifted(os:Os)(started:os.Started)(H:Type)(enc:TypeId×Value->H)(F:Stop.Interp):
  ReturnsInHanded {} Tryz.checked os 4 .any ((OpenSpec.ofChange Rows.judgeTablesSpec).preRow enc Tryz.prog Tryz.f4 Rows.judgeTablesRow.domain false Rows.judgeTablesRow.laid) (((OpenSpec.ofChange Rows.judgeTablesSpec).at F).post enc Tryz.prog Tryz.f4 false true false false):=by
 obtain⟨places,hx⟩:=reads os enc
 refine returnsInHanded_of_row (C:=Tryz.checked) (s:=OpenSpec.ofChange Rows.judgeTablesSpec) own started (by kernel_rfl) Tryz.func4
  (witness_row_at (enc:=enc) (C:=Tryz.checked) false (YI os) agr rfl (by kernel_rfl) (by kernel_rfl) (by kernel_rfl)
   (OpenSpec.preRow_of_cond 8 hx (by kernel_rfl) (λk hk=>by cases hk) (by kernel_rfl) (ark os))) ?_
 intro W base args ds gs before hval hW _ _ _ hL hsh _;exact contract H enc W base args ds gs before hval hW hsh
theorem said:Rows.JudgeTablesSaid:=
 OpenClaim.holds_of_cond 4 Tryz.f4 rfl rfl rfl rfl rfl rfl rfl ⟨rfl,rfl,rfl,rfl,rfl⟩ rfl rfl rfl rfl rfl (by kernel_rfl) Tryz.func4 closed
  (Zg9 (by kernel_rfl)) (by unfold Func.isWrapper;first|(rw[Zb3 (by decide+kernel)];kernel_rfl)|(rw[Za7 (by decide+kernel)];exact⟨rfl,rfl⟩))
  (λos started H enc _ F=>by rw[OpenClaim.pre_eq_preRow];exact lifted os started H enc F)
theorem plain(f:FuncId)(fn:Func)(hf:Tryz.pinned.checked.prog.funcNamed Rows.judgeTablesRow.func=some f)(Hj:Tryz.pinned.checked.prog.funcs[f]? =some fn):
   false=Tryz.pinned.checked.prog.looks []/\∀(j:Nat) t,fn.params[j]? =some t->Tryz.pinned.checked.prog.wantsStandIn t=false:=by
 obtain rfl:f=4:=Zi3 ((show Tryz.prog.funcNamed Rows.judgeTablesRow.func=some 4 by kernel_rfl).symm.trans hf) |>.symm;obtain rfl:fn=Tryz.f4:=(Zi3 (Tryz.func4.symm.trans Hj)).symm;refine⟨by kernel_rfl,λj t ht=> ?_⟩;rw[Tryz.params4]at ht;have:t=26\/t=27\/t=5:=by simpa using Array.mem_of_getElem? ht
 rcases this with rfl|rfl|rfl
 . exact(show Tryz.prog.wantsStandIn 26=false by kernel_rfl)
 . exact(show Tryz.prog.wantsStandIn 27=false by kernel_rfl)
 . exact(show Tryz.prog.wantsStandIn 5=false by kernel_rfl)
end Go.Proofs.YtgihekklfnjkiaaGreatDoor.Be
namespace Go.Proofs.YtgihekklfnjkiaaGreatDoor
theorem judgeTables_card:Rows.JudgeTablesCardSaid:=
 Claim7.holds_tied_plain_at .later [] _ _ _ _ Be.said (λ_ h=>by cases h) (by kernel_rfl) (λ_ h=>by cases h) judgeTables_row_tie rfl ⟨rfl,rfl⟩ (by kernel_rfl) rfl Be.plain (by kernel_rfl)
#print axioms judgeTables_card
end Go.Proofs.YtgihekklfnjkiaaGreatDoor
end
