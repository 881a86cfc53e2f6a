/- The second form of PlanTexts: parsing of any text and the text of any list, for any problem, as the document specifies. -/
import Derived.Test.YtgjikjcfjddloaaGreatDoorCards
import Derived.Test.YtgjikjcfjddloaaGreatDoorTie
import Derived.Lib.LaidTab
import Derived.Test.YtgjikjcfjddloaaGreatDoorXLawD
set_option linter.all false
set_option maxRecDepth 100000
section
namespace Go.Proofs.YtgjikjcfjddloaaGreatDoor.CY
open Go Go.Ai Go.Proofs Go.ChangeShapes Go.WideShapes Go.ChangeAt Go.RowKit
section
variable{H:Type}{enc:TypeId×Value->H}{w:World}{base:Nat}{spare:Nat->Bool}{held:Bool}
theorem YK{t:TypeId}{r:Go.Reach}{b0:Nat}{v:Value}{d:DataW H}{p:List MemPlace}(ht:Tryz.prog.underlying t=some .string)
  (hval:Value.okWide Tryz.prog w r b0 t v) (hd:DataW.Trod enc Tryz.prog w base spare held t v d p):∃us,(∃s:List Nat,us=[AV.str s]/\∀x∈s,x<256)/\∀ρ n,az ρ n (λad=>w.cell? ad) us [v]:=by
 obtain⟨m,rfl⟩:=Go.WideShapes.okWide_string ht hval;obtain⟨fuel,hf⟩:=hd;obtain⟨us,⟨s,e,_,h2⟩,h3⟩:=Wo ht _ _ _ hf;exact⟨us,⟨s,e,h2⟩,h3⟩
end
theorem own:ownKnob Tryz.prog.godebug=none:=by kernel_rfl
theorem abC{C:Cells}:rC Tryz.prog C yV/\k8 yV:=yU (λx hx=>by
 simp only[Za7,Zd0,Zh3]at hx;rcases hx with rfl|rfl
 .exact YF
 .exact Wp Tryz.func18 (by decide) rfl λw hw=>(ad2 w).mono λe w' h=>⟨h.1,h.2.os,h.2.tape,h.2.output,h.2.size,h.2.block⟩)
theorem abD(C:Cells):fG Tryz.prog C (run yV gg):=Wq mix Tc (abC (C:=C)).1 (abC (C:=C)).2 Td
theorem ain{C:Cells}:kT Tryz.prog C 292 idxS:=afM (fn:=Tryz.f292) Tryz.func292 (by kernel_rfl) (by kernel_rfl) (by kernel_rfl) (by kernel_rfl)
theorem aio{C:Cells}:kT Tryz.prog C 296 YL:=afN (fn:=Tryz.f296) Tryz.func296 (by kernel_rfl) (by kernel_rfl) (by kernel_rfl) (by kernel_rfl)
theorem afO{C:Cells}:rC Tryz.prog C Hx/\k8 Hx:=yU (λx hx=>by
 simp only[Za7,Zd0,Zh3]at hx;rcases hx with rfl|rfl|rfl|rfl|rfl|rfl|rfl|rfl|rfl|rfl|rfl|rfl|rfl|rfl|rfl|rfl|rfl|rfl|rfl|rfl
 .exact YF
 .exact Wp Tryz.func18 (by decide) rfl λw hw=>(ad2 w).mono λe w' h=>⟨h.1,h.2.os,h.2.tape,h.2.output,h.2.size,h.2.block⟩
 all_goals first|exact abB|exact ain|exact aio|exact afP λC' _=>abD C'|exact aj6 λC'=>abD C')
theorem contract(H:Type)(enc:TypeId×Value->H)(W:World)(base:Nat)(args:Array Value)(ds gs:List (DataW H))(before:List MemPlace)
  (hval:∀(j:Nat) t v,Tryz.f5.params[j]? =some t->args[j]? =some v->Value.okWide Tryz.prog W .any base t v)
  (hW:DataW.Whole enc Tryz.prog Tryz.f5.params.toList Rows.planTextsSpec.vars false W args.toList ds gs before) (Th:W.ShapedOpen Tryz.prog)
  (acs:Rows.uptoSmall H (ds++gs)=true):
  Calls Tryz.prog 5 args W λe W'=>∃v,e= .returned v/\Rows.planTextsSpec.post enc Tryz.prog Tryz.f5 false true false false W args v W':=by
 have fA:=hW;obtain⟨p,q,hA0,hV,rfl,hfz,M7⟩:=hW;have hA:DataW.TrodAll enc Tryz.prog W 0 (λ_=>true) true Tryz.f5.params.toList args.toList ds p:=hA0;rw[Tryz.params5]at hA hval;obtain⟨v0,vs0,d0,ds0,p0,q0,rD,rfl,rfl,h0,r0⟩:=trodAll_cons hA;obtain⟨v1,vs1,d1,ds1,p1,q1,rfl,rfl,rfl,h1,r1⟩:=trodAll_cons r0;obtain⟨v2,vs2,d2,ds2,p2,q2,rfl,rfl,rfl,h2,r2⟩:=trodAll_cons r1;obtain⟨rfl,rfl,rfl⟩:=trodAll_nil r2;obtain rfl:args= #[v0,v1,v2]:=by clear fA hV hfz M7 Th hval acs;cases args;simp_all
 have hb0:YM d0:=by have h:=Zh6 acs;have:=(At ([d0,d1,d2]++gs)).2 d0 (by simp);show Rows.uptoBulk d0<=1048576;exact Zd6 this h
 have nD:YM d1:=by have h:=Zh6 acs;have:=(At ([d0,d1,d2]++gs)).2 d1 (by simp);show Rows.uptoBulk d1<=1048576;exact Zd6 this h
 obtain⟨as0,⟨pr,rfl,hpr⟩,k0⟩:=Sa ajv Tryz.underlying33 (hval 0 _ v0 rfl rfl) h0 hb0;obtain⟨as1,⟨z1,l1,rfl,_⟩,k1⟩:=Ti U7 Tryz.underlying27 (hval 1 _ v1 rfl rfl) h1 nD;obtain⟨as2,⟨w2,rfl,cZ⟩,k2⟩:=YK Tryz.underlying9 (hval 2 _ v2 rfl rfl) h2;obtain⟨rfl,rfl⟩:=trodVars_none hV;clear hA0;have cQ:=afO (C:=λad=>W.cell? ad);have law:=YN (c:=run Hx gg) (s:={ heap:= .e,next:= .h }) rfl pr hpr z1 l1 cZ (λp x hp=>by rw[T.ej]at hp;cases hp);have walk:=afQ (C:=λad=>W.cell? ad) (w:=W) (Wq mix Tc cQ.1 cQ.2 Td) (λad v h=>h) (λa v _ o h=>h) Tryz.func5 (by decide) rfl (az.cons (k0 _ _) (az.cons ((k1 _ _).2 0 _ _ rfl rfl) (k2 _ _))) law;refine walk.mono λe W' ⟨he,hg⟩=> ?_
 subst he;exact⟨_,rfl,ad3 (tb:=4) (by kernel_rfl) fA rfl rfl (by rw[Tryz.params5];intro t ht;simp at ht;rcases ht with rfl|rfl|rfl<;>exact⟨by kernel_rfl,Zh6 (by kernel_rfl)⟩) hg.below (by kernel_rfl) (by kernel_rfl)⟩
def Tj:DataW Unit->Array Value
 |.agg l=>(l.map λ|.lit (.int k z)=>Value.int k z|_=>Value.bool false).toArray
 |_=> #[]
noncomputable def CZ(x:Array Value):Obj->Obj
 |.cells _ t frozen=>.cells x t frozen
 |o=>o
noncomputable def firstCells:Array Value:=(Go.Pinned.utf8FirstZ.map λ(n:Nat)=>Value.int .u8 (n:Int)).toArray
noncomputable def aa7:Array Value:=match (Rows.laid_unicode_utf8_acceptRanges:DataW Unit)with
 |.agg l=>((l.map λd=>(Tj d).toList).flatten).toArray
 |_=> #[]
noncomputable def N7(os:Os):World:=
 { World.holding Tryz.prog os ⟨#[], #[],[]⟩with heap:=(((((World.holding Tryz.prog os ⟨#[], #[],[]⟩).heap.modify 1 (CZ (Tj Rows.laid_internal_strconv_uint64pow10))).modify 2 (CZ (Tj Rows.laid_math_bits_deBruijn32tab))).modify 3 (CZ (Tj Rows.laid_math_bits_deBruijn64tab))).modify 4 (CZ firstCells)).modify 5 (CZ aa7) }
noncomputable def Yn:Array Value:= #[.agg #[.slice none 0 0,.slice none 0 0,.slice none 0 0,.slice none 0 0,.slice none 0 0],.slice none 0 0,.string ⟨#[]⟩]
theorem afR(os:Os):laidMet Tryz.prog Rows.planTextsUptoRow.laid ((N7 os).forCall (λ_ _=>0) ⟨#[],Yn,[]⟩).memory:=
 laidMet_of_run' 8 (by kernel_rfl) (by kernel_rfl)
theorem reads(os:Os){H:Type}(enc:TypeId×Value->H):∃places,DataW.whole enc Tryz.prog ((N7 os).forCall (λ_ _=>0) ⟨#[],Yn,[]⟩).memory Tryz.f5.params.toList Rows.planTextsSpec.vars false Yn.toList 8=some ([.agg [.nil,.nil,.nil,.nil,.nil],.nil,.lit (.string [])],[],places):=
 ⟨[],by kernel_rfl⟩
theorem lifted(os:Os)(started:os.Started)(H:Type)(enc:TypeId×Value->H)(F:Stop.Interp):
  ReturnsInHanded {} Tryz.checked os 5 .any ((Rows.OpenSpec.upto Rows.planTextsSpec).preRow enc Tryz.prog Tryz.f5 Rows.planTextsUptoRow.domain false Rows.planTextsUptoRow.laid) (((Rows.OpenSpec.upto Rows.planTextsSpec).at F).post enc Tryz.prog Tryz.f5 false true false false):=by
 obtain⟨places,hx⟩:=reads os enc
 refine returnsInHanded_of_row (C:=Tryz.checked) (s:=Rows.OpenSpec.upto Rows.planTextsSpec) own started (by kernel_rfl) Tryz.func5
  (witness_row_at (enc:=enc) (C:=Tryz.checked) false (N7 os) Yn rfl (by kernel_rfl) (by kernel_rfl) (by kernel_rfl)
   (OpenSpec.preRow_of_cond 8 hx (by kernel_rfl) (λk hk=>by cases hk;kernel_rfl) (by kernel_rfl) (afR os))) ?_
 intro W base args ds gs before hval hW _ acu _ _ Th _;exact contract H enc W base args ds gs before hval hW Th (acu _ rfl)
theorem said:Rows.PlanTextsUptoSaid:=
 OpenClaim.holds_of_cond 5 Tryz.f5 rfl rfl rfl rfl rfl rfl rfl ⟨rfl,rfl,rfl,rfl,rfl⟩ rfl rfl rfl rfl rfl (by kernel_rfl) Tryz.func5 closed
  (Zh6 (by kernel_rfl)) (by unfold Func.isWrapper;first|(rw[Za4 (by decide+kernel)];kernel_rfl)|(rw[Za2 (by decide+kernel)];exact⟨rfl,rfl⟩))
  (λos started H enc _ F=>by rw[OpenClaim.pre_eq_preRow];exact lifted os started H enc F)
theorem plain(f:FuncId)(fn:Func)(hf:Tryz.pinned.checked.prog.funcNamed Rows.planTextsUptoRow.func=some f)(Eh:Tryz.pinned.checked.prog.funcs[f]? =some fn):
   false=Tryz.pinned.checked.prog.looks []/\∀(j:Nat) t,fn.params[j]? =some t->Tryz.pinned.checked.prog.wantsStandIn t=false:=by
 obtain rfl:f=5:=Zf4 ((show Tryz.prog.funcNamed Rows.planTextsUptoRow.func=some 5 by kernel_rfl).symm.trans hf) |>.symm;obtain rfl:fn=Tryz.f5:=(Zf4 (Tryz.func5.symm.trans Eh)).symm;refine⟨by kernel_rfl,λj t ht=> ?_⟩;rw[Tryz.params5]at ht;have:t=33\/t=27\/t=9:=by simpa using Zl8 ht
 rcases this with rfl|rfl|rfl
 .exact(show Tryz.prog.wantsStandIn 33=false by kernel_rfl)
 .exact(show Tryz.prog.wantsStandIn 27=false by kernel_rfl)
 .exact(show Tryz.prog.wantsStandIn 9=false by kernel_rfl)
end Go.Proofs.YtgjikjcfjddloaaGreatDoor.CY
namespace Go.Proofs.YtgjikjcfjddloaaGreatDoor
theorem planTextsUpto_card:Rows.PlanTextsUptoCardSaid:=
 Claim7.holds_tied_plain_at .later [] _ _ _ _ CY.said (λ_ h=>by cases h) (by kernel_rfl) (λ_ h=>by cases h) planTextsUpto_row_tie rfl ⟨rfl,rfl⟩ (by kernel_rfl) rfl CY.plain (by kernel_rfl)
#print axioms planTextsUpto_card
end Go.Proofs.YtgjikjcfjddloaaGreatDoor
end
