/- rule.line, the lines of a text, rule.Parse, and the chapter's examples: what they return. -/
import Derived.Test.YtehbdakjkjkekaaGreatDoorWalkB
import Derived.Test.YtehbdakjkjkekaaGreatDoorWalkA
import Derived.Test.YtehbdakjkjkekaaGreatDoorBodA
import Derived.Test.YtehbdakjkjkekaaGreatDoorBodB
import Derived.RangeFuncNested
import Derived.RangeFuncBound
import Derived.RangeFuncCalls
import Derived.RangeFuncLeaves
import Derived.Shelf.Abstract
import Derived.Shelf.RegionOpen
import Derived.WalkKit
import Derived.OwnWalkIn
import Derived.TacticsInMore
import Derived.LoopNIn
import Derived.LoopIn
import Derived.Lib.Hide
import Derived.Lib.IndexLaws
import Derived.RangeFuncBox
import Derived.Test.YtehbdakjkjkekaaGreatDoorLitA
import Derived.Test.YtehbdakjkjkekaaGreatDoorLitB
import Derived.Test.YtehbdakjkjkekaaGreatDoorEvalD
set_option linter.all false
set_option linter.unusedSectionVars false
set_option linter.deprecated false
section
namespace Go.Proofs
open Go.RowKit Go.af
set_option maxRecDepth 100000 in
set_option maxHeartbeats 4000000 in
theorem af.afm (Lo: ∀(u:Nat->ByteArray) (wt:Int) (B off len:Nat) (w:World),B<w.heap.size->(∀i,i<len->w.cell? ⟨B,off+i,none⟩=some (.string (u i)))->1<=len->len<=maxLen->(∀i,i<len->(u i).size<=maxLen)-> -1<=wt/\wt<=999999999->
    Calls Tryz.prog 104 #[.agg #[.int .u8 0,.int .i64 wt,.string ⟨#[]⟩,.string ⟨#[]⟩,.string ⟨#[]⟩,.int .i64 0],.slice (some ⟨B,off,none⟩) len len] w (af.qj u len wt w))
  (s:ByteArray) (m:Int) (w:World) (hs:s.size<=2097152) (hm:w.cell? ⟨1,0,none⟩=some (.int .i64 m)):
  Calls Tryz.prog 35 #[.string s] w (af.Ln s w):=by
 have Uw:=World.block_lt_of_cell? _ _ hm
 have Rp:=Lib.hid Lo;clear Lo
 obtain ⟨s1,YF⟩: ∃s1,s1=af.qL s:=⟨_,rfl⟩
 obtain ⟨ok,eD⟩: ∃ok,ok=af.y9 s:=⟨_,rfl⟩
 have dM:s1.size<=2097152:=by rw[YF];exact Nat.le_trans (af.Uy s) hs
 have hn1:=af.Rn s1
 have S0:=af.Uz s1
 obtain ⟨n,hn⟩: ∃n,n=af.iT s1:=⟨_,rfl⟩
 rw[<-hn] at hn1 S0
 have Xo:=af.agf s
 rw[<-YF, <-eD] at Xo
 have Xp:=af.acV s1 m
 rw[<-hn] at Xp
 have Ey:=Lib.hid YF;have Ez:=Lib.hid eD;have HN:=Lib.hid hn;clear YF eD hn
 have H1:=Lib.hid Xo;have H2:=Lib.hid Xp;clear Xo Xp
 go_enter Tryz.func35,Tryz.ntmps35
 go_wp2_with (first|(go_at_call 101;refine (H1.out _ hs).mono ?_;rintro e w' ⟨rfl,hw⟩;subst hw)|(go_at_call 102;refine (H2.out _ dM (by rw[World.cell?_alloc_old _ _ _ (Nat.ne_of_lt Uw)];exact hm)).mono ?_;rintro e w' ⟨rfl,hw⟩;subst hw))
 have i2:=Is.new (w.alloc (.cells #[.int .u8 0,.int .i64 0,.string ⟨#[]⟩,.string ⟨#[]⟩,.string ⟨#[]⟩,.int .i64 0] 46)) 9 ((af.fZ s1).map Value.string).toArray
 have i1:=(Is.new w 46 #[.int .u8 0,.int .i64 0,.string ⟨#[]⟩,.string ⟨#[]⟩,.string ⟨#[]⟩,.int .i64 0]).alloc (.cells ((af.fZ s1).map Value.string).toArray 9)
 have hB:=((Below.refl w.heap.size w).alloc (Nat.le_refl _) (.cells #[.int .u8 0,.int .i64 0,.string ⟨#[]⟩,.string ⟨#[]⟩,.string ⟨#[]⟩,.int .i64 0] 46)).alloc (by simp) (.cells ((af.fZ s1).map Value.string).toArray 9)
 rw[World.size_alloc] at i2
 have hz:((w.alloc (.cells #[.int .u8 0,.int .i64 0,.string ⟨#[]⟩,.string ⟨#[]⟩,.string ⟨#[]⟩,.int .i64 0] 46)).alloc (.cells ((af.fZ s1).map Value.string).toArray 9)).heap.size=w.heap.size+1+1:=by simp
 generalize ((w.alloc (.cells #[.int .u8 0,.int .i64 0,.string ⟨#[]⟩,.string ⟨#[]⟩,.string ⟨#[]⟩,.int .i64 0] 46)).alloc (.cells ((af.fZ s1).map Value.string).toArray 9))=W at i1 i2 hB hz ⊢
 have hwc: ∀k,k<n->W.cell? ⟨w.heap.size+1,k,none⟩=some (.string (af.kP s1 k)):=fun k hk=>by rw[i2.cell];exact af.Ro s1 k (by rw[<-HN.out];exact hk)
 have G5: ∀k,(af.kP s1 k).size<=maxLen:=fun k=>Nat.le_trans (af.OD s1 k) (by unfold maxLen;omega)
 obtain ⟨u,hu⟩: ∃u,u=af.kP s1:=⟨_,rfl⟩
 rw[<-hu] at hwc G5
 have HU:=Lib.hid hu;clear hu
 obtain ⟨d0,d1,d2,d3,d4,d5⟩:=i1.iO
 have f1:=i1.frozen
 have I1:=Lib.hid i1;have I2:=Lib.hid i2;have HB:=Lib.hid hB;have PR:=Lib.hid hwc;have KK:=Lib.hid G5;have HZ:=Lib.hid hz
 have jP:w.heap.size<W.heap.size:=by omega
 have FV:w.heap.size+1<W.heap.size:=by omega
 clear i1 i2 hB hwc G5 hz
 go_loop [4,18] (fun o i=> ∃k:Nat,k<=n/\i= .int .i64 k/\o= .bool (af.se ok u k)) (fun _ i=>n - (intOf i).toNat)
 case atStart=>exact ⟨0,Nat.zero_le _,rfl,by rw[af.Kq]⟩
 case round=>
  obtain ⟨k,hk,rfl,rfl⟩:=hrel
  by_cases aZ:k<n
  . have hc:=PR.out k aZ
    rcases af.fD (af.se ok u k) with ha|ha
    .   have HA:=Lib.hid (af.Xn ha)
        go_wp2
        go_round
        case rel=>exact ⟨k+1,by omega,by go_num,by rw[HA.out]⟩
        case measure=>simp[intOf];omega
    .   have HA:=Lib.hid (af.acW ha)
        go_wp2
        go_round
        case rel=>exact ⟨k+1,by omega,by go_num,by rw[HA.out]⟩
        case measure=>simp[intOf];omega
  . obtain rfl:k=n:=by omega
    rcases af.fD (af.se ok u k) with ha|ha
    rotate_left
    .   have HA:=Lib.hid ha
        go_wp2
        refine bodyPost_ret (v:= .tuple #[.agg #[.int .u8 0,.int .i64 0,.string ⟨#[]⟩,.string ⟨#[]⟩,.string ⟨#[]⟩,.int .i64 0],.int .i64 3]) (by simp[results,Tryz.results35,go_sem, *]) rfl (af.kU Ey.out Ez.out HN.out HU.out (by simp[af.iL,af.valOf,af.bg,HA.out]) ?_);(repeat (first|(with_reducible refine Below.setCell ?_ (by first|(simp;done)|(simp;omega)) _)|(with_reducible refine Below.alloc ?_ (by first|(simp;done)|(simp;omega)) _)|(with_reducible refine af.below_drewN ?_ _)|(with_reducible exact HB.out)))
    .   have HA :=Lib.hid ha
        have c0:=PR.out 0 (by omega)
        by_cases hh:(u 0).toList=[104,97,114,100]
        . have HH:=Lib.hid hh
          have hh2:((u 0).toList==[104,97,114,100])=true:=by simpa using hh
          by_cases hn:1<k
          . have CU: ∀W':World,Below W.heap.size W W'->Calls Tryz.prog 104 #[.agg #[.int .u8 0,.int .i64 (0),.string ⟨#[]⟩,.string ⟨#[]⟩,.string ⟨#[]⟩,.int .i64 0],.slice (some ⟨w.heap.size+1,1,none⟩) (k - 1) (k - 1)] W' (fun e w1=>e= .returned (af.valOf (af.mP (fun i=>u (i+1)) (k - 1) (0)))/\Below W.heap.size W w1):=
              fun W' hb=>(Rp.out (fun i=>u (i+1)) (0) (w.heap.size+1) 1 (k - 1) W' (Nat.lt_of_lt_of_le FV hb.size) (fun i hi=>(hb.cell (p:=⟨w.heap.size+1,1+i,none⟩) FV).trans ((PR.out (1+i) (by omega)).trans (by rw[Nat.add_comm]))) (by omega) (by unfold maxLen;omega) (fun i _=>KK.out _) (by omega)).mono (fun e w1 h=>⟨h.1,hb.trans (h.2.mono hb.size)⟩)
            have KL:=Lib.hid CU;clear CU
            rcases jJ:af.mP (fun i=>u (i+1)) (k - 1) (0) with e0|r0
            . have uT:=Lib.hid jJ;clear jJ
              go_wp2_with (first|(go_at_call 104;refine (KL.out _ (by (repeat (first|(with_reducible refine Below.setCell ?_ (by first|omega|(simp;done)|(simp;omega)) _)|(with_reducible refine Below.alloc ?_ (by first|omega|(simp;done)|(simp;omega)) _)|(with_reducible refine af.below_drewN ?_ _)|(with_reducible exact Below.refl _ _))))).mono ?_;rintro e w1 ⟨he,hb⟩;rw[uT.out] at he;obtain rfl:e= .returned (.tuple #[.agg #[.int .u8 0,.int .i64 0,.string ⟨#[]⟩,.string ⟨#[]⟩,.string ⟨#[]⟩,.int .i64 0],.int .i64 e0]):=he;obtain ⟨k0,k1,k2,k3,k4,k5⟩:=(I1.out.below hb jP).iO;have kf:=(I1.out.below hb jP).frozen;have EA:=Lib.hid (HB.out.trans (hb.mono (Nat.le_of_lt jP)));clear hb))
              refine bodyPost_ret (v:= .tuple #[.agg #[.int .u8 0,.int .i64 0,.string ⟨#[]⟩,.string ⟨#[]⟩,.string ⟨#[]⟩,.int .i64 0],.int .i64 e0]) (by simp[results,Tryz.results35,go_sem, *]) rfl (af.kU Ey.out Ez.out HN.out HU.out (by simp[af.iL,HA.out,HH.out,hn,uT.out,af.valOf,af.bg,af.RR.val]) ?_);(repeat (first|(with_reducible refine Below.setCell ?_ (by first|omega|(simp;done)|(simp;omega)) _)|(with_reducible refine Below.alloc ?_ (by first|omega|(simp;done)|(simp;omega)) _)|(with_reducible refine af.below_drewN ?_ _)|(with_reducible exact EA.out)))
            . have uT:=Lib.hid jJ;clear jJ
              go_wp2_with (first|(go_at_call 104;refine (KL.out _ (by (repeat (first|(with_reducible refine Below.setCell ?_ (by first|omega|(simp;done)|(simp;omega)) _)|(with_reducible refine Below.alloc ?_ (by first|omega|(simp;done)|(simp;omega)) _)|(with_reducible refine af.below_drewN ?_ _)|(with_reducible exact Below.refl _ _))))).mono ?_;rintro e w1 ⟨he,hb⟩;rw[uT.out] at he;obtain rfl:e= .returned (.tuple #[.agg #[.int .u8 r0.k,.int .i64 r0.wt,.string r0.a,.string r0.b,.string r0.t,.int .i64 r0.n],.int .i64 0]):=he;obtain ⟨k0,k1,k2,k3,k4,k5⟩:=(I1.out.below hb jP).iO;have kf:=(I1.out.below hb jP).frozen;have EA:=Lib.hid (HB.out.trans (hb.mono (Nat.le_of_lt jP)));clear hb))
              refine bodyPost_ret (v:= .tuple #[.agg #[.int .u8 r0.k,.int .i64 r0.wt,.string r0.a,.string r0.b,.string r0.t,.int .i64 r0.n],.int .i64 0]) (by simp[results,Tryz.results35,go_sem, *]) rfl (af.kU Ey.out Ez.out HN.out HU.out (by simp[af.iL,HA.out,HH.out,hn,uT.out,af.valOf,af.bg,af.RR.val]) ?_);(repeat (first|(with_reducible refine Below.setCell ?_ (by first|omega|(simp;done)|(simp;omega)) _)|(with_reducible refine Below.alloc ?_ (by first|omega|(simp;done)|(simp;omega)) _)|(with_reducible refine af.below_drewN ?_ _)|(with_reducible exact EA.out)))
          . obtain rfl:k=1:=by omega
            have mJ:((u 0).toList==[119,101,105,103,104])=false:=by rw[hh];decide
            go_wp2
            refine bodyPost_ret (v:= .tuple #[.agg #[.int .u8 0,.int .i64 0,.string ⟨#[]⟩,.string ⟨#[]⟩,.string ⟨#[]⟩,.int .i64 0],.int .i64 3]) (by simp[results,Tryz.results35,go_sem, *]) rfl (af.kU Ey.out Ez.out HN.out HU.out (by simp[af.iL,af.valOf,af.bg,HA.out,HH.out]) ?_);(repeat (first|(with_reducible refine Below.setCell ?_ (by first|omega|(simp;done)|(simp;omega)) _)|(with_reducible refine Below.alloc ?_ (by first|omega|(simp;done)|(simp;omega)) _)|(with_reducible refine af.below_drewN ?_ _)|(with_reducible exact HB.out)))
        . have HH :=Lib.hid hh
          have hh2:((u 0).toList==[104,97,114,100])=false:=by simpa using hh
          by_cases hw:(u 0).toList=[119,101,105,103,104]
          . have HW :=Lib.hid hw
            have mJ:((u 0).toList==[119,101,105,103,104])=true:=by simpa using hw
            by_cases hn:2<k
            . have c1:=PR.out 1 (by omega)
              rcases af.fD (gj (u 1).data.toList) with gP|gP
              rotate_left
              . go_wp2_with (first|(go_at_call 103;refine (af.jk _ _ (KK.out 1)).mono ?_;rintro e w' ⟨rfl,rfl⟩))
                refine bodyPost_ret (v:= .tuple #[.agg #[.int .u8 0,.int .i64 0,.string ⟨#[]⟩,.string ⟨#[]⟩,.string ⟨#[]⟩,.int .i64 0],.int .i64 3]) (by simp[results,Tryz.results35,go_sem, *]) rfl (af.kU Ey.out Ez.out HN.out HU.out (by simp[af.iL,af.valOf,af.bg,HA.out,HW.out,hn,gP]) ?_);(repeat (first|(with_reducible refine Below.setCell ?_ (by first|omega|(simp;done)|(simp;omega)) _)|(with_reducible refine Below.alloc ?_ (by first|omega|(simp;done)|(simp;omega)) _)|(with_reducible refine af.below_drewN ?_ _)|(with_reducible exact HB.out)))
              . obtain ⟨nv,hnv⟩: ∃nv,nv=cq (u 1).data.toList:=⟨_,rfl⟩
                have bR:=af.Iy (u 1).data.toList
                have Rq:=af.jk (u 1)
                rw[<-hnv] at bR Rq
                have YG:=Lib.hid hnv;clear hnv
                have YH:=Lib.hid Rq;clear Rq
                obtain ⟨bR,bC⟩:=bR
                by_cases u7:(nv==0)=true
                . have hv:nv=0:=by simpa using u7
                  subst hv
                  have CU: ∀W':World,Below W.heap.size W W'->Calls Tryz.prog 104 #[.agg #[.int .u8 0,.int .i64 (-1),.string ⟨#[]⟩,.string ⟨#[]⟩,.string ⟨#[]⟩,.int .i64 0],.slice (some ⟨w.heap.size+1,2,none⟩) (k - 2) (k - 2)] W' (fun e w1=>e= .returned (af.valOf (af.mP (fun i=>u (i+2)) (k - 2) (-1)))/\Below W.heap.size W w1):=
                    fun W' hb=>(Rp.out (fun i=>u (i+2)) (-1) (w.heap.size+1) 2 (k - 2) W' (Nat.lt_of_lt_of_le FV hb.size) (fun i hi=>(hb.cell (p:=⟨w.heap.size+1,2+i,none⟩) FV).trans ((PR.out (2+i) (by omega)).trans (by rw[Nat.add_comm]))) (by omega) (by unfold maxLen;omega) (fun i _=>KK.out _) (by omega)).mono (fun e w1 h=>⟨h.1,hb.trans (h.2.mono hb.size)⟩)
                  have KL:=Lib.hid CU;clear CU
                  rcases jJ:af.mP (fun i=>u (i+2)) (k - 2) (-1) with e0|r0
                  . have uT:=Lib.hid jJ;clear jJ
                    go_wp2_with (first|(go_at_call 103;refine (YH.out _ (KK.out 1)).mono ?_;rintro e w' ⟨rfl,rfl⟩)|(go_at_call 104;refine (KL.out _ (by (repeat (first|(with_reducible refine Below.setCell ?_ (by first|omega|(simp;done)|(simp;omega)) _)|(with_reducible refine Below.alloc ?_ (by first|omega|(simp;done)|(simp;omega)) _)|(with_reducible refine af.below_drewN ?_ _)|(with_reducible exact Below.refl _ _))))).mono ?_;rintro e w1 ⟨he,hb⟩;rw[uT.out] at he;obtain rfl:e= .returned (.tuple #[.agg #[.int .u8 0,.int .i64 0,.string ⟨#[]⟩,.string ⟨#[]⟩,.string ⟨#[]⟩,.int .i64 0],.int .i64 e0]):=he;obtain ⟨k0,k1,k2,k3,k4,k5⟩:=(I1.out.below hb jP).iO;have kf:=(I1.out.below hb jP).frozen;have EA:=Lib.hid (HB.out.trans (hb.mono (Nat.le_of_lt jP)));clear hb))
                    refine bodyPost_ret (v:= .tuple #[.agg #[.int .u8 0,.int .i64 0,.string ⟨#[]⟩,.string ⟨#[]⟩,.string ⟨#[]⟩,.int .i64 0],.int .i64 e0]) (by simp[results,Tryz.results35,go_sem, *]) rfl (af.kU Ey.out Ez.out HN.out HU.out (by simp[af.iL,HA.out,HW.out,hn,gP, <-YG.out,uT.out,af.valOf,af.bg,af.RR.val]) ?_);(repeat (first|(with_reducible refine Below.setCell ?_ (by first|omega|(simp;done)|(simp;omega)) _)|(with_reducible refine Below.alloc ?_ (by first|omega|(simp;done)|(simp;omega)) _)|(with_reducible refine af.below_drewN ?_ _)|(with_reducible exact EA.out)))
                  . have uT:=Lib.hid jJ;clear jJ
                    go_wp2_with (first|(go_at_call 103;refine (YH.out _ (KK.out 1)).mono ?_;rintro e w' ⟨rfl,rfl⟩)|(go_at_call 104;refine (KL.out _ (by (repeat (first|(with_reducible refine Below.setCell ?_ (by first|omega|(simp;done)|(simp;omega)) _)|(with_reducible refine Below.alloc ?_ (by first|omega|(simp;done)|(simp;omega)) _)|(with_reducible refine af.below_drewN ?_ _)|(with_reducible exact Below.refl _ _))))).mono ?_;rintro e w1 ⟨he,hb⟩;rw[uT.out] at he;obtain rfl:e= .returned (.tuple #[.agg #[.int .u8 r0.k,.int .i64 r0.wt,.string r0.a,.string r0.b,.string r0.t,.int .i64 r0.n],.int .i64 0]):=he;obtain ⟨k0,k1,k2,k3,k4,k5⟩:=(I1.out.below hb jP).iO;have kf:=(I1.out.below hb jP).frozen;have EA:=Lib.hid (HB.out.trans (hb.mono (Nat.le_of_lt jP)));clear hb))
                    refine bodyPost_ret (v:= .tuple #[.agg #[.int .u8 r0.k,.int .i64 r0.wt,.string r0.a,.string r0.b,.string r0.t,.int .i64 r0.n],.int .i64 0]) (by simp[results,Tryz.results35,go_sem, *]) rfl (af.kU Ey.out Ez.out HN.out HU.out (by simp[af.iL,HA.out,HW.out,hn,gP, <-YG.out,uT.out,af.valOf,af.bg,af.RR.val]) ?_);(repeat (first|(with_reducible refine Below.setCell ?_ (by first|omega|(simp;done)|(simp;omega)) _)|(with_reducible refine Below.alloc ?_ (by first|omega|(simp;done)|(simp;omega)) _)|(with_reducible refine af.below_drewN ?_ _)|(with_reducible exact EA.out)))
                . have OL:(nv==0)=false:=by simpa using u7
                  have HV:Hid (¬nv=0):=Lib.hid (by simpa using u7)
                  clear u7
                  have CU: ∀W':World,Below W.heap.size W W'->Calls Tryz.prog 104 #[.agg #[.int .u8 0,.int .i64 (nv),.string ⟨#[]⟩,.string ⟨#[]⟩,.string ⟨#[]⟩,.int .i64 0],.slice (some ⟨w.heap.size+1,2,none⟩) (k - 2) (k - 2)] W' (fun e w1=>e= .returned (af.valOf (af.mP (fun i=>u (i+2)) (k - 2) (nv)))/\Below W.heap.size W w1):=
                    fun W' hb=>(Rp.out (fun i=>u (i+2)) (nv) (w.heap.size+1) 2 (k - 2) W' (Nat.lt_of_lt_of_le FV hb.size) (fun i hi=>(hb.cell (p:=⟨w.heap.size+1,2+i,none⟩) FV).trans ((PR.out (2+i) (by omega)).trans (by rw[Nat.add_comm]))) (by omega) (by unfold maxLen;omega) (fun i _=>KK.out _) (by omega)).mono (fun e w1 h=>⟨h.1,hb.trans (h.2.mono hb.size)⟩)
                  have KL:=Lib.hid CU;clear CU
                  rcases jJ:af.mP (fun i=>u (i+2)) (k - 2) (nv) with e0|r0
                  . have uT:=Lib.hid jJ;clear jJ
                    go_wp2_with (first|(go_at_call 103;refine (YH.out _ (KK.out 1)).mono ?_;rintro e w' ⟨rfl,rfl⟩)|(go_at_call 104;refine (KL.out _ (by (repeat (first|(with_reducible refine Below.setCell ?_ (by first|omega|(simp;done)|(simp;omega)) _)|(with_reducible refine Below.alloc ?_ (by first|omega|(simp;done)|(simp;omega)) _)|(with_reducible refine af.below_drewN ?_ _)|(with_reducible exact Below.refl _ _))))).mono ?_;rintro e w1 ⟨he,hb⟩;rw[uT.out] at he;obtain rfl:e= .returned (.tuple #[.agg #[.int .u8 0,.int .i64 0,.string ⟨#[]⟩,.string ⟨#[]⟩,.string ⟨#[]⟩,.int .i64 0],.int .i64 e0]):=he;obtain ⟨k0,k1,k2,k3,k4,k5⟩:=(I1.out.below hb jP).iO;have kf:=(I1.out.below hb jP).frozen;have EA:=Lib.hid (HB.out.trans (hb.mono (Nat.le_of_lt jP)));clear hb))
                    refine bodyPost_ret (v:= .tuple #[.agg #[.int .u8 0,.int .i64 0,.string ⟨#[]⟩,.string ⟨#[]⟩,.string ⟨#[]⟩,.int .i64 0],.int .i64 e0]) (by simp[results,Tryz.results35,go_sem, *]) rfl (af.kU Ey.out Ez.out HN.out HU.out (by simp[af.iL,HA.out,HW.out,hn,gP, <-YG.out,HV.out,uT.out,af.valOf,af.bg,af.RR.val]) ?_);(repeat (first|(with_reducible refine Below.setCell ?_ (by first|omega|(simp;done)|(simp;omega)) _)|(with_reducible refine Below.alloc ?_ (by first|omega|(simp;done)|(simp;omega)) _)|(with_reducible refine af.below_drewN ?_ _)|(with_reducible exact EA.out)))
                  . have uT:=Lib.hid jJ;clear jJ
                    go_wp2_with (first|(go_at_call 103;refine (YH.out _ (KK.out 1)).mono ?_;rintro e w' ⟨rfl,rfl⟩)|(go_at_call 104;refine (KL.out _ (by (repeat (first|(with_reducible refine Below.setCell ?_ (by first|omega|(simp;done)|(simp;omega)) _)|(with_reducible refine Below.alloc ?_ (by first|omega|(simp;done)|(simp;omega)) _)|(with_reducible refine af.below_drewN ?_ _)|(with_reducible exact Below.refl _ _))))).mono ?_;rintro e w1 ⟨he,hb⟩;rw[uT.out] at he;obtain rfl:e= .returned (.tuple #[.agg #[.int .u8 r0.k,.int .i64 r0.wt,.string r0.a,.string r0.b,.string r0.t,.int .i64 r0.n],.int .i64 0]):=he;obtain ⟨k0,k1,k2,k3,k4,k5⟩:=(I1.out.below hb jP).iO;have kf:=(I1.out.below hb jP).frozen;have EA:=Lib.hid (HB.out.trans (hb.mono (Nat.le_of_lt jP)));clear hb))
                    refine bodyPost_ret (v:= .tuple #[.agg #[.int .u8 r0.k,.int .i64 r0.wt,.string r0.a,.string r0.b,.string r0.t,.int .i64 r0.n],.int .i64 0]) (by simp[results,Tryz.results35,go_sem, *]) rfl (af.kU Ey.out Ez.out HN.out HU.out (by simp[af.iL,HA.out,HW.out,hn,gP, <-YG.out,HV.out,uT.out,af.valOf,af.bg,af.RR.val]) ?_);(repeat (first|(with_reducible refine Below.setCell ?_ (by first|omega|(simp;done)|(simp;omega)) _)|(with_reducible refine Below.alloc ?_ (by first|omega|(simp;done)|(simp;omega)) _)|(with_reducible refine af.below_drewN ?_ _)|(with_reducible exact EA.out)))
            . have O0:decide (2<(k:Int))=false:=by rw[decide_eq_false_iff_not];omega
              go_wp2
              refine bodyPost_ret (v:= .tuple #[.agg #[.int .u8 0,.int .i64 0,.string ⟨#[]⟩,.string ⟨#[]⟩,.string ⟨#[]⟩,.int .i64 0],.int .i64 3]) (by simp[results,Tryz.results35,go_sem, *]) rfl (af.kU Ey.out Ez.out HN.out HU.out (by simp[af.iL,af.valOf,af.bg,HA.out,HW.out,hn]) ?_);(repeat (first|(with_reducible refine Below.setCell ?_ (by first|omega|(simp;done)|(simp;omega)) _)|(with_reducible refine Below.alloc ?_ (by first|omega|(simp;done)|(simp;omega)) _)|(with_reducible refine af.below_drewN ?_ _)|(with_reducible exact HB.out)))
          . have HW:=Lib.hid hw
            have mJ:((u 0).toList==[119,101,105,103,104])=false:=by simpa using hw
            go_wp2
            refine bodyPost_ret (v:= .tuple #[.agg #[.int .u8 0,.int .i64 0,.string ⟨#[]⟩,.string ⟨#[]⟩,.string ⟨#[]⟩,.int .i64 0],.int .i64 3]) (by simp[results,Tryz.results35,go_sem, *]) rfl (af.kU Ey.out Ez.out HN.out HU.out (by simp[af.iL,af.valOf,af.bg,HA.out,HW.out,HH.out]) ?_);(repeat (first|(with_reducible refine Below.setCell ?_ (by first|omega|(simp;done)|(simp;omega)) _)|(with_reducible refine Below.alloc ?_ (by first|omega|(simp;done)|(simp;omega)) _)|(with_reducible refine af.below_drewN ?_ _)|(with_reducible exact HB.out)))
end Go.Proofs
end
section
namespace Go.Proofs
open Go.RowKit Go.af
theorem af.afn (u:Nat->ByteArray) (wt:Int) (B off len:Nat) (w:World) (hB:B<w.heap.size) (hc: ∀i,i<len->w.cell? ⟨B,off+i,none⟩=some (.string (u i))) (h1:1<=len) (h3:len<=maxLen) (hu: ∀i,i<len->(u i).size<=maxLen) (lF: -1<=wt/\wt<=999999999):
   Calls Tryz.prog 104 #[.agg #[.int .u8 0,.int .i64 wt,.string ⟨#[]⟩,.string ⟨#[]⟩,.string ⟨#[]⟩,.int .i64 0],.slice (some ⟨B,off,none⟩) len len] w (af.qj u len wt w):=by
 rcases af.shape (kindOf (u 0).data.toList) (dF _) with h|h|h|h|h|h|h|h|h
 . exact af.afl u wt B off len w hB hc h1 h3 hu lF h
 . exact af.ac8 u wt B off len w hB hc h1 h3 hu lF h
 . exact af.ac9 u wt B off len w hB hc h1 h3 hu lF h
 . exact af.ada u wt B off len w hB hc h1 h3 hu lF h
 . exact af.adb u wt B off len w hB hc h1 h3 hu lF h
 . exact af.ade u wt B off len w hB hc h1 h3 hu lF h
 . exact af.adf u wt B off len w hB hc h1 h3 hu lF h
 . exact af.adg u wt B off len w hB hc h1 h3 hu lF h
 . exact af.adh u wt B off len w hB hc h1 h3 hu lF h
theorem af.line (s:ByteArray) (m:Int) (w:World) (hs:s.size<=2097152) (hm:w.cell? ⟨1,0,none⟩=some (.int .i64 m)):Calls Tryz.prog 35 #[.string s] w (af.Ln s w):=
 af.afm af.afn s m w hs hm
end Go.Proofs
end
section
namespace Go.af
open Go Go.RowKit
variable {F : Fence} {n : Nat} {P : Program}
structure C8 (b:Nat) (W W':World):Prop where
 cell:W'.cell? ⟨b,0,none⟩=W.cell? ⟨b,0,none⟩
 cj:W'.frozen? ⟨b,0,none⟩=W.frozen? ⟨b,0,none⟩
theorem C8.trans {b:Nat} {A B C:World} (h:C8 b A B) (k:C8 b B C):C8 b A C:=⟨k.cell.trans h.cell,k.cj.trans h.cj⟩
theorem C8.putObj {b l:Nat} {W:World} (o:Obj) (h:b≠l):C8 b W (W.putObj l o):=by
 have:(W.putObj l o).heap[b]? =W.heap[b]? :=World.putObj_heap_other h
 exact ⟨by simp[World.cell?,this],by simp[World.frozen?,this]⟩
def sF (b:Nat) {β:Type} (J:β->World->Prop):Prop:= ∀s W v,J s W->J s (W.setCell ⟨b,0,none⟩ v)
def SeqC {α:Type} (F:Fence) (n:Nat) (P:Program) (g b:Nat) (lb:Array Value) (encs:α->Array Value) (xs:List α) (w:World):Prop:=
 ∀  (l:Nat) (J Jx:List α->World->Prop) (W:World),Below w.heap.size w W->AbidesFrom W.heap.size J->AbidesFrom W.heap.size Jx->sF b J->sF b Jx->
    (∀pre x W1,J pre W1->pre++[x] <+: xs->YieldAt F (n - 1) P l (encs x) W1 fun e W'=>
     (e= .returned (.bool true)/\J (pre++[x]) W'/\C8 b W1 W')\/(e= .returned (.bool false)/\Jx (pre++[x]) W'))->
    J [] W->
    CallsIn F n P g (#[.func (.yield l) #[] #[]]++lb) W fun e W'=>(∃v,e= .returned v)/\(J xs W'\/ ∃pre,pre <+: xs/\Jx pre W')
def UA {α:Type} (b B:Nat) (I:List α->World->Prop) (Ix:List α->World->Prop) (xs:List α) (W:World):Exit->Act->World->Prop
 | .normal,_,W'=>KeepsFrom B W W'/\C8 b W W'/\I xs W'
 | .ret,_,W'=>KeepsFrom B W W'/\Ix xs W'
 |_,_,_=>False
theorem OE {α:Type} {g:Operand} {ps:Array Tmp} {assign body:Code} {Q:Exit->Act->World->Prop} {a:Act} {w:World}
   (JX:F.round=none) (h1:1<=n) {gf b:Nat} {lb:Array Value} (hg:a.eval g= .func (.func gf) #[] lb) (hFg:F.fn gf) (eg: ∀args w,(callFunc gf args).run P w= .ok (.enter gf args) w)
   {encs:α->Array Value} {xs:List α} (hseq:SeqC F (n - 1) P gf b lb encs xs w) (hbw:b<w.heap.size) (OT: ∀x,(encs x).size=ps.size)
   (I:List α->World->Prop) (Ix:List α->World->Prop) (hI:OwnFrom w.heap.size I) (hIx:OwnFrom w.heap.size Ix) (hIs:sF b I) (hIxs:sF b Ix) (h0:I [] w) (a₁:α->Act)
   (acX: ∀(l:Nat) (x:α) (W:World) (K:Act->World->Prop),K (a₁ x) W->
     assign.wpIn (F.inRound l) (n - 1 - 1) P (Exit.then K (fun _ _ _=>False)) { tmps:=(ps.zip (encs x)).foldl (fun t (p,v)=>t.setIfInBounds p v) a.tmps,defers:=[] } W)
   (Lo: ∀(l:Nat) (pre:List α) (x:α) (W:World),I pre W->pre++[x] <+: xs->w.heap.size<=W.heap.size->body.wpIn (F.inRound l) (n - 1 - 1) P (UA b w.heap.size I Ix (pre++[x]) W) (a₁ x) W)
   (agh: ∀(D:Nat) (W:World),w.heap.size<=D->I xs W->W.heap[D]? =some (.deferred (some []))->Q .normal { a with defers:={ target:= .collected D,args:= #[] }::a.defers } W)
   (agi: ∀(D:Nat) (pre:List α) (W:World),w.heap.size<=D->pre <+: xs->Ix pre W->W.heap[D]? =some (.deferred (some []))->Code.ret.wpIn F n P Q { a with defers:={ target:= .collected D,args:= #[] }::a.defers } W):
   (Code.rangeFunc g ps assign body).wpIn F n P Q a w:=by
 refine wpIn_rangeFunc fun fn gM=> ?_
 rw[JX]
 let GW:LoopState->Option Code->Loop:=fun st pe=>{ state:=st,pending:=pe,fn,tmps:=a.tmps,params:=ps,assign,body,defers:=w.heap.size }
 let L:Nat:=w.heap.size+1
 let W1:World:=(w.alloc (.deferred (some []))).alloc (.loop (GW .ready none))
 have hL1:W1.heap[L]? =some (.loop (GW .ready none)):=by
   have:=World.alloc_heap_new (w.alloc (.deferred (some []))) (.loop (GW .ready none));rwa [World.size_alloc] at this
 have hK1:W1.heap[w.heap.size]? =some (.deferred (some [])):=(Below.heap_alloc _ _ _ (by simp)).trans (World.alloc_heap_new w _)
 have hWs:W1.heap.size=w.heap.size+1+1:=by show ((w.alloc _).alloc _).heap.size=_;simp
 have bR:Below w.heap.size w W1:=((Below.refl _ w).alloc (Nat.le_refl _) _).alloc (by simp) _
 let J:List α->World->Prop:=fun pre W=>I pre W/\W.heap[L]? =some (.loop (GW .ready none))/\W.heap[w.heap.size]? =some (.deferred (some []))/\w.heap.size<=W.heap.size
 let Jx:List α->World->Prop:=fun pre W=>Ix pre W/\W.heap[L]? =some (.loop (GW .done (some .ret)))/\W.heap[w.heap.size]? =some (.deferred (some []))/\w.heap.size<=W.heap.size
 have up: ∀{A:World} {row:Option Nat},(∀r,row=some r->W1.heap.size<=r/\ ∃o:Obj,A.heap[r]? =some o/\o.isWalk=true)-> ∀r,row=some r->w.heap.size<=r/\ ∃o:Obj,A.heap[r]? =some o/\o.isCells=false:=
   fun hr r e=>by obtain ⟨q,o,ho,hw⟩:=hr r e;exact ⟨by omega,o,ho,Obj.not_cells_of_walk hw⟩
 have hJ:AbidesFrom W1.heap.size J:=fun s A B row hs rL hr=>
   ⟨hI s A B row hs.1 rL (up hr),(grownBy_keeps rL (fun r e=>(hr r e).2) hs.2.1 rfl).trans hs.2.1,(grownBy_keeps rL (fun r e=>(hr r e).2) hs.2.2.1 rfl).trans hs.2.2.1,Nat.le_trans hs.2.2.2 rL.size⟩
 have YI:AbidesFrom W1.heap.size Jx:=fun s A B row hs rL hr=>
   ⟨hIx s A B row hs.1 rL (up hr),(grownBy_keeps rL (fun r e=>(hr r e).2) hs.2.1 rfl).trans hs.2.1,(grownBy_keeps rL (fun r e=>(hr r e).2) hs.2.2.1 rfl).trans hs.2.2.1,Nat.le_trans hs.2.2.2 rL.size⟩
 have tF: ∀(W:World) (v:Value) (k:Nat),w.heap.size<=k->(W.setCell ⟨b,0,none⟩ v).heap[k]? =W.heap[k]? :=fun W v k hk=>Below.heap_setCell W _ v k (by show k≠b;omega)
 have PT:sF b J:=fun s W v hs=>⟨hIs s W v hs.1,(tF _ _ _ (by show w.heap.size<=w.heap.size+1;omega)).trans hs.2.1,(tF _ _ _ (Nat.le_refl _)).trans hs.2.2.1,by rw[World.size_setCell];exact hs.2.2.2⟩
 have hJxs:sF b Jx:=fun s W v hs=>⟨hIxs s W v hs.1,(tF _ _ _ (by show w.heap.size<=w.heap.size+1;omega)).trans hs.2.1,(tF _ _ _ (Nat.le_refl _)).trans hs.2.2.1,by rw[World.size_setCell];exact hs.2.2.2⟩
 refine ⟨L,[{ target:= .collected w.heap.size,args:= #[] }],W1,{ target:= .fn (.func gf) lb,args:= #[.func (.yield L) #[] #[]] },W1,gf, #[.func (.yield L) #[] #[]]++lb,W1,run_enterLoop_outer _ _ _ _ _,?_,?_,?_,fun _=>h1,?_⟩
 . simp only[resolve,hg];simp[go_sem]
 . intro f' OV;simp[Target.leads] at OV;subst OV;exact hFg
 . simp[invoke,go_sem,eg]
 refine (hseq L J Jx W1 bR hJ YI PT hJxs ?_ ⟨hI.alloc _ (hI.alloc _ h0),hL1,hK1,by omega⟩).mono ?_
 ·
   rintro pre x W ⟨hi,hl,hk,dM⟩ GY
   have aZ:L<W.heap.size:=(Array.getElem?_eq_some_iff.1 hl).1
   refine ⟨fn,_,assign,body,run_yield (P:=P) (args:=encs x) hl (OT x),roundIn_of_wpIn gM (acX _ x W _ ⟨_,run_beginRound hl rfl,?_⟩)⟩
   have hneL:b≠L:=by show b≠w.heap.size+1;omega
   let W2:World:=W.putObj L (.loop { GW .ready none with state:= .busy })
   have jv:W2.heap[L]? =some (.loop { GW .ready none with state:= .busy }):=World.putObj_heap_same aZ
   have jC:W2.heap[w.heap.size]? =some (.deferred (some [])):=(World.putObj_heap_other (by show w.heap.size≠w.heap.size+1;omega)).trans hk
   have Xq:w.heap.size<=W2.heap.size:=Nat.le_trans dM (grownBy_putObj' W L _).size
   refine wpIn_mono (Lo L pre x W2 (hI.putObj _ hi (by show w.heap.size<=w.heap.size+1;omega) hl rfl) GY Xq) ?_
   rintro e a3 W3 hp
   cases e with
   | normal=>
     obtain ⟨sP,hkp3,hi3⟩:=hp
     have NP:=sP.same _ _ (by show w.heap.size<=w.heap.size+1;omega) jv rfl
     have Xr:=(Array.getElem?_eq_some_iff.1 NP).1
     exact ⟨_,_,run_endRound (P:=P) none NP,.inl ⟨rfl,⟨hI.putObj _ hi3 (by show w.heap.size<=w.heap.size+1;omega) NP rfl,World.putObj_heap_same Xr,(World.putObj_heap_other (by show w.heap.size≠w.heap.size+1;omega)).trans (sP.same _ _ (Nat.le_refl _) jC rfl),Nat.le_trans (Nat.le_trans Xq sP.size) (grownBy_putObj' W3 L _).size⟩,
        ((C8.putObj _ hneL).trans hkp3).trans (C8.putObj _ hneL)⟩⟩
   | ret=>
     obtain ⟨sP,hi3⟩:=hp
     have NP:=sP.same _ _ (by show w.heap.size<=w.heap.size+1;omega) jv rfl
     have Xr:=(Array.getElem?_eq_some_iff.1 NP).1
     exact ⟨_,_,run_endRound (P:=P) (some .ret) NP,.inr ⟨rfl,hIx.putObj _ hi3 (by show w.heap.size<=w.heap.size+1;omega) NP rfl,World.putObj_heap_same Xr,(World.putObj_heap_other (by show w.heap.size≠w.heap.size+1;omega)).trans (sP.same _ _ (Nat.le_refl _) jC rfl),Nat.le_trans (Nat.le_trans Xq sP.size) (grownBy_putObj' W3 L _).size⟩⟩
   |exit id=>exact hp.elim
   |goto t=>exact hp.elim
   |panic ch=>exact hp.elim
   |outgrown=>exact hp.elim
 ·
   rintro e W2 ⟨⟨v,rfl⟩,(⟨hi,hl,hk,_⟩|⟨pre,GY,hi,hl,hk,_⟩)⟩
   . exact ⟨none,_,run_endLoop (P:=P) hl (by show LoopState.ready≠LoopState.busy;simp),agh _ _ (Nat.le_refl _) (hI.putObj _ hi (by show w.heap.size<=w.heap.size+1;omega) hl rfl) ((World.putObj_heap_other (by show w.heap.size≠w.heap.size+1;omega)).trans hk)⟩
   . exact ⟨some .ret,_,run_endLoop (P:=P) hl (by show LoopState.done≠LoopState.busy;simp),agi _ pre _ (Nat.le_refl _) GY (hIx.putObj _ hi (by show w.heap.size<=w.heap.size+1;omega) hl rfl) ((World.putObj_heap_other (by show w.heap.size≠w.heap.size+1;omega)).trans hk)⟩
end Go.af
end
section
namespace Go.af
open Go
def oh (s:ByteArray):Int:=Lib.indexByte s.data.toList 10
def oE:Nat->ByteArray->List ByteArray
 |0,_=>[]
 |f+1,s=>if s.size=0 then [] else if oh s<0 then [s] else s.extract 0 ((oh s).toNat+1)::oE f (s.extract ((oh s).toNat+1) s.size)
def dh (s:ByteArray):List ByteArray:=oE s.size s
theorem acY (s:ByteArray): -1<=oh s:=Lib.indexByte_ge _ _
theorem acZ (s:ByteArray) (h:0<=oh s):(oh s).toNat<s.size:=by
 have e:oh s=((oh s).toNat:Int):=by omega
 have:=(Lib.indexByte_some (l:=s.data.toList) (c:=10) (o:=(oh s).toNat) e).1
 have:=(List.getElem?_eq_some_iff.1 this).1
 simpa using this
theorem FZ: ∀(f g:Nat) (s:ByteArray),s.size<=f->s.size<=g->oE f s=oE g s
 |0,0,_,_,_=>rfl
 |0,g+1,s,h,_=>by
  have:s.size=0:=by omega
  simp[oE,this]
 |f+1,0,s,_,h=>by
  have:s.size=0:=by omega
  simp[oE,this]
 |f +1,g+1,s,h1,h2=>by
  unfold oE
  split
  . rfl
  . split
    . rfl
    . rw[FZ f g _ (by simp;omega) (by simp;omega)]
theorem B8 {s:ByteArray} (h:s.size=0):dh s=[]:=by unfold dh;rw[h];rfl
theorem OG {s:ByteArray} (h:s.size≠0) (hi:oh s<0):dh s=[s]:=by
 unfold dh
 obtain ⟨k,hk⟩: ∃k,s.size=k+1:=⟨s.size - 1,by omega⟩
 rw[hk]
 simp only[oE]
 rw[if_neg h,if_pos hi]
theorem I0 {s:ByteArray} (h:s.size≠0) (hi:0<=oh s):dh s=s.extract 0 ((oh s).toNat+1)::dh (s.extract ((oh s).toNat+1) s.size):=by
 unfold dh
 obtain ⟨k,hk⟩: ∃k,s.size=k+1:=⟨s.size - 1,by omega⟩
 conv=>lhs;rw[hk]
 simp only[oE]
 rw[if_neg h,if_neg (by omega)]
 rw[FZ k _ _ (by simp;omega) (Nat.le_refl _)]
theorem F0: ∀(f:Nat) (s x:ByteArray),x∈oE f s->x.size<=s.size
 |0,_,_,h=>by simp[oE] at h
 |f +   1,s,x,h=>by
  unfold oE at h
  split at h
  . simp at h
  . split at h
    .   simp at h;rw[h];exact Nat.le_refl _
    .   rcases List.mem_cons.1 h with rfl|h
        . simp;omega
        . have:=F0 f _ x h
          simp at this;omega
theorem OH (s x:ByteArray) (h:x∈dh s):x.size<=s.size:=F0 _ s x h
def NQ (w:World) (b:Nat):Nat:=match w.cell? ⟨b,0,none⟩ with
 |some (.string r)=>r.size
 |_=>0
theorem yN {w:World} {b:Nat} {r:ByteArray} (h:w.cell? ⟨b,0,none⟩=some (.string r)):NQ w b=r.size:=by unfold NQ;rw[h]
end Go.af
namespace Go.Proofs
open Go.RowKit Go.Shelf Go.af
attribute [local go_sem] Oper.semAt_some
theorem af.grown_drewN (w:World) (k:Nat):w.grownBy (w.drewN k) none:=⟨rfl,rfl,rfl,Nat.le_refl _,fun _ _ _=>rfl⟩
theorem af.YJ (r:ByteArray) (w:World):Calls Tryz.prog 108 #[.string r,.int .u8 10] w fun e w'=>e= .returned (.int .i64 (oh r))/\w=w':=(Tryz.strings_IndexByte r 10 w).mono fun _ _ h=>⟨h.1,h.2.symm⟩
set_option maxRecDepth 100000 in
set_option maxHeartbeats 2000000 in
theorem af.ac0 (n:Nat) (l b:Nat) (s:ByteArray) (hs:s.size<=65536) (J Jx:List ByteArray->World->Prop) (W:World) (B0:Nat) (hJ:AbidesFrom B0 J) (YI:AbidesFrom B0 Jx) (PT:sF b J)
  (hY: ∀pre x W1,J pre W1->pre++[x] <+: dh s->YieldAt Fence.wide (n - 1) Tryz.prog l #[.string x] W1 fun e W'=>
    (e= .returned (.bool true)/\J (pre++[x]) W'/\C8 b W1 W')\/(e= .returned (.bool false)/\Jx (pre++[x]) W'))
  (hn:1<=n) (hb:W.cell? ⟨b,0,none⟩=some (.string s)) (hf:W.frozen? ⟨b,0,none⟩=false) (h0:J [] W):
  CallsIn Fence.wide n Tryz.prog 107 #[.func (.yield l) #[] #[],.pointer (some ⟨b,0,none⟩)] W fun e W'=>(∃v,e= .returned v)/\(J (dh s) W'\/ ∃pre,pre <+: dh s/\Jx pre W'):=by
 have HY:=Lib.hid hY;clear hY
 refine callsIn_of_wp Tryz.func107 rfl trivial ?_ rfl
 simp only[Tryz.ntmps107,List.size_toArray,List.length_cons,List.length_nil,Nat.reduceAdd,Nat.reduceSub,Array.replicate_succ,Array.replicate_zero,List.push_toArray,List.append_toArray,List.nil_append,List.cons_append]
 gi_wp2
 gi_loopw [3] (fun _ wr=> ∃(pre:List ByteArray) (r:ByteArray),wr.cell? ⟨b,0,none⟩=some (.string r)/\wr.frozen? ⟨b,0,none⟩=false/\dh s=pre++dh r/\r.size<=s.size/\J pre wr) (fun _ wr=>NQ wr b)
 case atStart=>exact ⟨[],s,hb,hf,rfl,Nat.le_refl _,h0⟩
 case round=>
  obtain ⟨pre,r,hc,Hh,rM,OZ,hj⟩:=hrel
  have NR:=Lib.hid rM;have HJ0:=Lib.hid hj;clear rM hj
  by_cases oJ:r.size=0
  . gi_wp2
    go_end0
    refine ⟨⟨_,rfl⟩,.inl ?_⟩
    rw[NR.out,B8 oJ,List.append_nil];exact HJ0.out
  . have Pj:0<r.size:=by omega
    have hge:=acY r
    by_cases hi:oh r<0
    .   have HL:=Lib.hid (OG oJ hi)
        have hj1:=PT _ _ (.string ⟨#[]⟩) HJ0.out
        obtain ⟨fn,tmps,assign,body,hy,hR⟩:=HY.out pre r _ hj1 (by rw[NR.out,HL.out];exact List.prefix_refl _)
        gi_wp2_with (first|(refine ⟨trivial,?_⟩;gi_at_call 108;refine (callsIn_wide.2 (af.YJ r _)).mono ?_;rintro e w' ⟨rfl,rfl⟩))
        refine hR.mono ?_
        rintro e W3 (⟨rfl,hJ3,sP⟩|⟨rfl,Xs⟩)
        . have UB:W3.cell? ⟨b,0,none⟩=some (.string ⟨#[]⟩):=sP.cell.trans (World.cell?_setCell_same' _ _ _ (by rw[hc];rfl))
          have hf3:W3.frozen? ⟨b,0,none⟩=false:=sP.cj.trans (by rw[World.frozen?_setCell];exact Hh)
          gi_wp2
          go_roundw
          case rel=>exact ⟨pre++[r],⟨#[]⟩,UB,hf3,by rw[NR.out,HL.out,B8 (s:=⟨#[]⟩) rfl,List.append_nil],Nat.zero_le _,hJ3⟩
          case measure=>rw[yN UB,yN hc];exact Pj
        . gi_wp2
          refine bodyPost_ret (results_none rfl _ _ _) rfl ?_
          exact ⟨⟨_,rfl⟩,.inr ⟨pre++[r],by rw[NR.out,HL.out];exact List.prefix_refl _,Xs⟩⟩
    .   have aZ:=acZ r (by omega)
        obtain ⟨i,R6⟩: ∃i:Nat,oh r=i:=⟨(oh r).toNat,by omega⟩
        have HH:=Lib.hid (I0 oJ (by omega:0<=oh r))
        have HIX:=af.YJ r
        rw[R6] at HIX
        have HI:=Lib.hid HIX;clear HIX
        have u9:i<r.size:=by omega
        have HIE:=Lib.hid R6;clear R6 hge hi aZ
        gi_wp2_with (first|(refine ⟨trivial,?_⟩;gi_at_call 108;refine (callsIn_wide.2 (HI.out _)).mono ?_;rintro e w' ⟨rfl,rfl⟩))
        gi_region
        have hj1:J pre (wr.setCell ⟨b,0,none⟩ (.string (r.extract (i+1) r.size))).drew:=hJ _ _ _ none (PT _ _ (.string (r.extract (i+1) r.size)) HJ0.out) (af.grown_drewN _ 1) (fun _ e=>by cases e)
        obtain ⟨fn,tmps,assign,body,hy,hR⟩:=HY.out pre (r.extract 0 (i+1)) _ hj1 (by
          rw[NR.out,HH.out,HIE.out]
          exact ⟨dh (r.extract (i+1) r.size),by simp⟩)
        gi_wp2
        refine hR.mono ?_
        rintro e W3 (⟨rfl,hJ3,sP⟩|⟨rfl,Xs⟩)
        . have UB:W3.cell? ⟨b,0,none⟩=some (.string (r.extract (i+1) r.size)):=sP.cell.trans (World.cell?_setCell_same' _ _ _ (by rw[hc];rfl))
          have hf3:W3.frozen? ⟨b,0,none⟩=false:=sP.cj.trans (by show (wr.setCell _ _).frozen? _=false;rw[World.frozen?_setCell];exact Hh)
          gi_wp2
          go_roundw
          case rel=>exact ⟨pre++[r.extract 0 (i+1)],r.extract (i+1) r.size,UB,hf3,by rw[NR.out,HH.out,HIE.out];simp,by simp;omega,hJ3⟩
          case measure=>rw[yN UB,yN hc];simp;omega
        . gi_wp2
          refine bodyPost_ret (results_none rfl _ _ _) rfl ?_
          exact ⟨⟨_,rfl⟩,.inr ⟨pre++[r.extract 0 (i+1)],by rw[NR.out,HH.out,HIE.out];exact ⟨dh (r.extract (i+1) r.size),by simp⟩,Xs⟩⟩
end Go.Proofs
end
section
namespace Go.Proofs
open Go.RowKit Go.Shelf Go.af
attribute [local go_sem] Oper.semAt_some
def af.js (x:ByteArray):Int ⊕ af.RR:=af.iL (af.y9 x) (af.kP (af.qL x)) (af.iT (af.qL x))
def af.RR.cells (r:af.RR):List Value:=[.int .u8 r.k,.int .i64 r.wt,.string r.a,.string r.b,.string r.t,.int .i64 r.n]
def af.cellsOf (rs:List af.RR):List Value:=rs.flatMap af.RR.cells
theorem af.NS (rs:List af.RR) (r:af.RR):af.cellsOf (rs++[r])=af.cellsOf rs++r.cells:=by simp[af.cellsOf]
theorem af.Ac (rs:List af.RR):(af.cellsOf rs).length=rs.length*6:=by
 induction rs with
 |nil=>rfl
 |cons r rs ih=>simp[af.cellsOf] at ih ⊢; rw[ih];simp[af.RR.cells];omega
def af.xK:List af.RR->List ByteArray->Int×Nat×List af.RR
 |acc,[]=>(0,0,acc)
 |  acc,x::xs=>match af.js x with
    | .inl e=>(e,acc.length,[])
    | .inr r=>if acc.length=64 then (7,64,[]) else af.xK (acc++[r]) xs
def af.gH (s:ByteArray):Int×Nat×List af.RR:=if 65536<s.size then (7,0,[]) else af.xK [] (dh s)
theorem af.yO: ∀(p:List ByteArray) (rs acc:List af.RR) (ys:List ByteArray),p.map af.js=rs.map Sum.inr->(acc++rs).length<=64->af.xK acc (p++ys)=af.xK (acc++rs) ys
 |[],rs,acc,ys,h,_=>by
  cases rs with
  |nil=>simp
  |cons r rs=>simp at h
 |x::p,rs,acc,ys,h,hl=>by
  cases rs with
  |nil=>simp at h
  |cons r rs=>
   simp only[List.map_cons,List.cons.injEq] at h
   simp only[List.length_append,List.length_cons] at hl
   rw[List.cons_append,af.xK,h.1]
   simp only
   rw[if_neg (by omega),af.yO p rs (acc++[r]) ys h.2 (by simp;omega)]
   simp
theorem af.UC {u:Nat->ByteArray} {len:Nat} {wt e:Int} (h:af.mP u len wt= .inl e):1<=e/\e<=100:=by
 unfold af.mP af.aV at h
 simp only at h
 repeat' split at h
 all_goals (cases h)
 all_goals omega
theorem af.Kl {ok:Bool} {u:Nat->ByteArray} {len:Nat} {e:Int} (h:af.iL ok u len= .inl e):1<=e/\e<=100:=by
 unfold af.iL at h
 repeat' split at h
 all_goals first
  |exact af.UC h
  |(cases h;omega)
set_option maxRecDepth 100000 in
theorem af.ac1 (s:ByteArray) (w:World):Calls Tryz.prog 46 #[.string s] w fun e w'=>e= .returned (.func (.func 107) #[] #[.pointer (some ⟨w.heap.size,0,none⟩)])/\w'=w.alloc (.cells #[.string s] 9):=by
 go_enter Tryz.func46,Tryz.ntmps46
 go_wp2
 go_ret
 exact ⟨rfl,rfl⟩
def af.I5 (w:World) (pre:List ByteArray) (W:World):Prop:=
 ∃  (rs:List af.RR) (v:Value),pre.map af.js=rs.map Sum.inr/\rs.length<=64/\Is W w.heap.size 22 #[.slice none 0 0]/\Is W (w.heap.size+1) 3 #[.int .i64 0]/\Is W (w.heap.size+1+1) 25 #[.int .i64 0]/\
    Is W (w.heap.size+1+1+1) 22 #[v]/\W.ownsRow (w.heap.size+5) 46 6 v rs.length (af.cellsOf rs)/\w.heap.size+5<=W.heap.size/\Below w.heap.size w W/\(rs=[]->v= .slice none 0 0)
def af.I6 (w:World) (s:ByteArray) (pre:List ByteArray) (W:World):Prop:=
 ∃(e:Int) (k:Nat),1<=e/\e<=100/\k<=64/\(∀ys,pre++ys=dh s->af.xK [] (dh s)=(e,k,[]))/\Is W w.heap.size 22 #[.slice none 0 0]/\Is W (w.heap.size+1) 3 #[.int .i64 k]/\Is W (w.heap.size+1+1) 25 #[.int .i64 e]/\w.heap.size+5<=W.heap.size/\Below w.heap.size w W
def af.IP (s:ByteArray) (w:World) (e:Ending) (w':World):Prop:=
 ∃v,e= .returned (.tuple #[v,.int .i64 (af.gH s).2.1,.int .i64 (af.gH s).1])/\w'.ownsRow w.heap.size 46 6 v (af.gH s).2.2.length (af.cellsOf (af.gH s).2.2)/\Below w.heap.size w w'/\((af.gH s).1≠0\/(af.gH s).2.2=[]->v= .slice none 0 0)
theorem af.mI {W W':World} {n:Nat} {T:TypeId} {cs:Array Value} {row:Option Nat} (h:Is W n T cs) (hg:W.grownBy W' row) (bO:some n≠row):Is W' n T cs:=h.of_heap (hg.block n h.lt bO)
theorem af.nR {W:World} {n:Nat} {T:TypeId} {cs:Array Value} {row:Option Nat} (h:Is W n T cs) (hr: ∀r,row=some r-> ∃o:Obj,W.heap[r]? =some o/\o.isCells=false):some n≠row:=by
 intro e
 obtain ⟨o,ho,hc⟩:=hr n e.symm
 unfold Is at h
 rw[h] at ho
 obtain rfl:Obj.cells cs T (0,0)=o:=by injection ho
 cases hc
theorem af.Rr {W:World} {base k size:Nat} {e:TypeId} {v:Value} {xs:List Value} {row:Option Nat} (h:W.ownsRow base e size v k xs) (hr: ∀r,row=some r-> ∃o:Obj,W.heap[r]? =some o/\o.isCells=false):v.ownBlock=none\/v.ownBlock≠row:=by
 rcases h.2 with ⟨rfl,_⟩|⟨g,cap,cur,rfl,_,hb,_⟩
 . exact .inl rfl
 . right
   intro e
   obtain ⟨o,ho,hc⟩:=hr g (by rw[<-e];rfl)
   rw[hb] at ho
   obtain rfl:Obj.cells cur _ (0,0)=o:=by injection ho
   cases hc
theorem af.KM {W W':World} {base k size:Nat} {e:TypeId} {v:Value} {xs:List Value} (h:W.ownsRow base e size v k xs) (hb:Below W.heap.size W W'):W'.ownsRow base e size v k xs:=
 h.kept (row:=none) ⟨hb.os,hb.tape,hb.output,hb.size,fun i hi _=>hb.block i hi⟩ (by
  cases h0:v.ownBlock
  . exact .inl rfl
  . right;simp)
theorem af.zq {B:Nat} {W W':World} (hb:Below W.heap.size W W'):KeepsFrom B W W':=⟨hb.size,fun k o _ hk _=>(hb.block k (Array.getElem?_eq_some_iff.1 hk).1).trans hk⟩
theorem af.Rs (w:World) (B0:Nat) (hB:w.heap.size<=B0):OwnFrom B0 (af.I5 w):=by
 rintro pre W W' row ⟨rs,v,h1,h2,i1,i2,i3,i4,eX,dM,hb,hn⟩ hg hr
 have jB: ∀r,row=some r-> ∃o:Obj,W.heap[r]? =some o/\o.isCells=false:=fun r e=>(hr r e).2
 exact ⟨rs,v,h1,h2,af.mI i1 hg (af.nR i1 jB),af.mI i2 hg (af.nR i2 jB),af.mI i3 hg (af.nR i3 jB),af.mI i4 hg (af.nR i4 jB),
  eX.kept hg (af.Rr eX jB),Nat.le_trans dM hg.size,hb.grown hg (by omega) (fun k e=>Nat.le_trans hB (hr k e).1),hn⟩
theorem af.Rt (w:World) (s:ByteArray) (B0:Nat) (hB:w.heap.size<=B0):OwnFrom B0 (af.I6 w s):=by
 rintro pre W W' row ⟨e,k,h1,h2,h3,h4,i1,i2,i3,dM,hb⟩ hg hr
 have jB: ∀r,row=some r-> ∃o:Obj,W.heap[r]? =some o/\o.isCells=false:=fun r e=>(hr r e).2
 exact ⟨e,k,h1,h2,h3,h4,af.mI i1 hg (af.nR i1 jB),af.mI i2 hg (af.nR i2 jB),af.mI i3 hg (af.nR i3 jB),Nat.le_trans dM hg.size,hb.grown hg (by omega) (fun k e=>Nat.le_trans hB (hr k e).1)⟩
theorem af.Ru (w:World):sF (w.heap.size+1+1+1+1) (af.I5 w):=by
 rintro pre W x ⟨rs,v,h1,h2,i1,i2,i3,i4,eX,dM,hb,hn⟩
 exact ⟨rs,v,h1,h2,i1.other (by omega) _ _,i2.other (by omega) _ _,i3.other (by omega) _ _,i4.other (by omega) _ _,ownsRow_setCell_below eX (by show w.heap.size+1+1+1+1<w.heap.size+5;omega) _,by rw[World.size_setCell];exact dM,hb.setCell (by show w.heap.size<=w.heap.size+1+1+1+1;omega) _,hn⟩
theorem af.Rv (w:World) (s:ByteArray):sF (w.heap.size+1+1+1+1) (af.I6 w s):=by
 rintro pre W x ⟨e,k,h1,h2,h3,h4,i1,i2,i3,dM,hb⟩
 exact ⟨e,k,h1,h2,h3,h4,i1.other (by omega) _ _,i2.other (by omega) _ _,i3.other (by omega) _ _,by rw[World.size_setCell];exact dM,hb.setCell (by show w.heap.size<=w.heap.size+1+1+1+1;omega) _⟩
theorem af.Xt {s:ByteArray} {pre:List ByteArray} {x:ByteArray} {rs:List af.RR} {e:Int} (h:pre.map af.js=rs.map Sum.inr) (hl:rs.length<=64) (hx:af.js x= .inl e) (ys:List ByteArray) (hy:pre++[x]++ys=dh s):af.xK [] (dh s)=(e,rs.length,[]):=by
 rw[<-hy,List.append_assoc,af.yO pre rs [] _ h (by simpa using hl)]
 simp[af.xK,hx]
theorem af.UD {s:ByteArray} {pre:List ByteArray} {x:ByteArray} {rs:List af.RR} {r:af.RR} (h:pre.map af.js=rs.map Sum.inr) (hl:rs.length=64) (hx:af.js x= .inr r) (ys:List ByteArray) (hy:pre++[x]++ys=dh s):af.xK [] (dh s)=(7,64,[]):=by
 rw[<-hy,List.append_assoc,af.yO pre rs [] _ h (by simp;omega)]
 simp[af.xK,hx,hl]
theorem af.KN {w:World} {base:Nat} {e:TypeId} {size:Nat} {v:Value} {n:Nat} {xs:List Value} (h:w.ownsRow base e size v n xs): ∃a c,v= .slice a n c:=by
 rcases h.2 with ⟨rfl,rfl⟩|⟨g,cap,cur,rfl,_⟩
 . exact ⟨none,0,rfl⟩
 . exact ⟨_,_,rfl⟩
theorem af.oG {W:World} {n:Nat} {T:TypeId} {a v:Value} (h:Is W n T #[a]):Is (W.setCell ⟨n,0,none⟩ v) n T #[v]:=(h.set 0 v).cast rfl
theorem af.NT {B:Nat} {W W':World} (h:KeepsFrom B W W') (p:Addr) (v:Value):KeepsFrom B W (W'.setCell p v):=h.trans ((KeepsOthers.setCell W' p v).from B)
theorem af.CI {B:Nat} {W W':World} (h:KeepsFrom B W W') (o:Obj):KeepsFrom B W (W'.alloc o):=h.trans ((KeepsOthers.alloc W' o).from B)
theorem af.PU {B:Nat} {W W':World} (h:KeepsFrom B W W'):KeepsFrom B W W'.drew:=h.trans ⟨Nat.le_refl _,fun _ _ _ hk _=>hk⟩
theorem af.KO {w W':World} {s:ByteArray} {pre:List ByteArray} {e:Int} {k:Nat} (h1:1<=e/\e<=100) (h2:k<=64) (h3: ∀ys,pre++ys=dh s->af.xK [] (dh s)=(e,k,[]))
  (i1:Is W' w.heap.size 22 #[.slice none 0 0]) (i2:Is W' (w.heap.size+1) 3 #[.int .i64 k]) (i3:Is W' (w.heap.size+1+1) 25 #[.int .i64 e]) (hz:w.heap.size+5<=W'.heap.size) (hb:Below w.heap.size w W'):af.I6 w s pre W':=
 ⟨e,k,h1.1,h1.2,h2,h3,i1,i2,i3,hz,hb⟩
theorem af.GZ {w:World} {base:Nat} {e:TypeId} {size:Nat} {v:Value} {n:Nat} {xs:List Value} (h:w.ownsRow base e size v n xs) (j:Nat) (hj:v.ownBlock=some j):base<=j:=by
 rcases h.2 with ⟨rfl,rfl⟩|⟨g,cap,cur,rfl,hb,_⟩
 . cases hj
 . obtain rfl:g=j:=by simpa [Value.ownBlock] using hj
   exact hb
theorem af.UE {w:World} {base:Nat} {e:TypeId} {size:Nat} {v:Value} {n:Nat} {xs:List Value} (h:w.ownsRow base e size v n xs) (j:Nat) (o:Obj) (hj:v.ownBlock=some j) (ho:w.heap[j]? =some o):o.isCells=true:=by
 rcases h.2 with ⟨rfl,rfl⟩|⟨g,cap,cur,rfl,hb,hg,_⟩
 . cases hj
 . obtain rfl:g=j:=by simpa [Value.ownBlock] using hj
   rw[hg] at ho;cases ho;rfl
theorem af.UF (r:af.RR): ∀u∈r.cells,u.oneCell'=true:=by
 intro u hu
 simp only[af.RR.cells,List.mem_cons,List.not_mem_nil,or_false] at hu
 rcases hu with rfl|rfl|rfl|rfl|rfl|rfl<;>rfl
theorem af.UG (W:World) (T:TypeId) (cs:List Value) (j:Nat) (u:Value) (h:cs[j]? =some u):(W.alloc (.cells cs.toArray T)).cell? ((⟨W.heap.size,0,none⟩:Addr).add j)=some u:=by
 have:(⟨W.heap.size,0,none⟩:Addr).add j=⟨W.heap.size,j,none⟩:=by
  unfold Addr.add
  split
  . rename_i h0;subst h0;rfl
  . simp
 rw[this,(Is.new W T cs.toArray).cell]
 simpa using h
theorem af.UH {w W w1 w5:World} {n:Nat} {v:Value} {xs:List Value} {A C:Obj} {va:Value} (bR:Below W.heap.size W w1) (dM:w.heap.size+5<=W.heap.size) (j4:Is W (w.heap.size+1+1+1) 22 #[va])
  (eX:W.ownsRow (w.heap.size+5) 46 6 v n xs) (sH:((w1.alloc A).alloc C).grownBy w5 v.ownBlock):Is w5 (w.heap.size+1+1+1) 22 #[va]:=
 af.mI (((j4.below bR (by omega)).alloc _).alloc _) sH (fun e=>by have:=af.GZ eX _ e.symm;omega)
theorem af.Rw {w W w1 w5:World} {B:Nat} {pre:List ByteArray} {x:ByteArray} {rs:List af.RR} {r:af.RR} {v v':Value} {A C:Obj} (p1:pre.map af.js=rs.map Sum.inr) (p2:rs.length<64) (hx:af.js x= .inr r)
   (hb:Below w.heap.size w W) (bR:Below W.heap.size W w1) (dM:w.heap.size+5<=W.heap.size)
   (j1:Is W w.heap.size 22 #[.slice none 0 0]) (j2:Is W (w.heap.size+1) 3 #[.int .i64 0]) (j3:Is W (w.heap.size+1+1) 25 #[.int .i64 0]) (j4:Is W (w.heap.size+1+1+1) 22 #[v])
   (eX:W.ownsRow (w.heap.size+5) 46 6 v rs.length (af.cellsOf rs)) (NU:w5.ownsRow (w.heap.size+5) 46 6 v' (rs.length+1) (af.cellsOf rs++r.cells)) (sH:((w1.alloc A).alloc C).grownBy w5 v.ownBlock):
   KeepsFrom B W (w5.setCell ⟨w.heap.size+1+1+1,0,none⟩ v')/\C8 (w.heap.size+1+1+1+1) W (w5.setCell ⟨w.heap.size+1+1+1,0,none⟩ v')/\af.I5 w (pre++[x]) (w5.setCell ⟨w.heap.size+1+1+1,0,none⟩ v'):=by
 have agj:=((af.KM eX bR).alloc A).alloc C
 have bO: ∀k,k<w.heap.size+5->some k≠v.ownBlock:=fun k hk e=>by have:=af.GZ eX _ e.symm;omega
 have YK: ∀{k:Nat} {T:TypeId} {cs:Array Value},Is W k T cs->k<w.heap.size+5->Is w5 k T cs:=fun h hk=>af.mI (((h.below bR (by omega)).alloc _).alloc _) sH (bO _ hk)
 have vh:w5.heap[w.heap.size+1+1+1+1]? =W.heap[w.heap.size+1+1+1+1]? :=by
   have hlt1:=bR.size
   rw[sH.block _ (by simp;omega) (bO _ (by omega)),Go.af.heap_alloc _ _ (by simp;omega),Go.af.heap_alloc _ _ (by omega)]
   exact bR.block _ (by omega)
 have hp6:(w5.setCell ⟨w.heap.size+1+1+1,0,none⟩ v').heap[w.heap.size+1+1+1+1]? =W.heap[w.heap.size+1+1+1+1]? :=by rw[Go.af.FW (by omega)];exact vh
 refine ⟨?_,⟨by simp[World.cell?,hp6],by simp[World.frozen?,hp6]⟩,rs++[r],v',?_,by simp;omega,(YK j1 (by omega)).other (by omega) _ _,(YK j2 (by omega)).other (by omega) _ _,(YK j3 (by omega)).other (by omega) _ _,af.oG (YK j4 (by omega)),?_,?_,?_,fun h=>by simp at h⟩
 . refine af.NT ((af.CI (af.CI (af.zq bR) _) _).trans ((KeepsOthers.of_grownBy sH fun j o ej hj=>af.UE agj j o ej hj).from B)) _ _
 . simp[p1,hx]
 . rw[af.NS]
   have:=ownsRow_setCell_below NU (a:=⟨w.heap.size+1+1+1,0,none⟩) (by show w.heap.size+1+1+1<w.heap.size+5;omega) v'
   simpa using this
 . have h1:=bR.size
   have h2:=sH.size
   simp at h2 ⊢; omega
 . have h1:=bR.size
   exact ((((hb.trans (bR.mono (by omega))).alloc (by omega) A).alloc (by simp;omega) C).grown sH (by simp;omega) (fun k e=>by have:=af.GZ eX k e;omega)).setCell (by show w.heap.size<=w.heap.size+1+1+1;omega) _
theorem af.rA {W:World} {n D:Nat} {T:TypeId} {cs:Array Value} {o o':Obj} (h:Is W n T cs) (hk:W.heap[D]? =some o) (ho:o.isCells=false):Is (W.putObj D o') n T cs:=
 af.mI h (grownBy_putObj' W D o') (af.nR h (fun r e=>by cases e;exact ⟨o,hk,ho⟩))
theorem af.EB {s:ByteArray} {w w':World} {v:Value} {i:Int} {er:Int} {rs:List af.RR} {k:Nat} (hp:af.gH s=(er,k,rs)) (hi:i=k) (eX:w'.ownsRow w.heap.size 46 6 v rs.length (af.cellsOf rs)) (hb:Below w.heap.size w w') (wX:er≠0\/rs=[]->v= .slice none 0 0:=by intro h;rfl):
   af.IP s w (.returned (.tuple #[v,.int .i64 i,.int .i64 er])) w':=by
 subst hi
 refine ⟨v,by rw[hp],?_,hb,?_⟩
 . rw[hp];exact eX
 . rw[hp];exact wX
theorem af.Xu {w:World} {base Qv:Nat} {e:TypeId} {size:Nat} {v:Value} {n:Nat} {xs:List Value} (h:w.ownsRow base e size v n xs) (hb:Qv<=base):w.ownsRow Qv e size v n xs:=by
 refine ⟨h.1,h.2.imp id ?_⟩
 rintro ⟨g,cap,cur,h1,h2,h3⟩
 exact ⟨g,cap,cur,h1,Nat.le_trans hb h2,h3⟩
theorem af.FP {s:ByteArray} {rs:List af.RR} (hs:s.size<=65536) (h:(dh s).map af.js=rs.map Sum.inr) (hl:rs.length<=64):af.gH s=(0,0,rs):=by
 have:=af.yO (dh s) rs [] [] h (by simpa using hl)
 rw[List.append_nil] at this
 unfold af.gH
 rw[if_neg (by omega),this]
 rfl
theorem af.afo: ∃i0 z,Tryz.prog.info? 46=some i0/\i0.zero=some z/\i0.size=6/\i0.bytes=72/\z.cells.size=6:=by
 have h:(Tryz.prog.info? 46).map (fun i=>(i.zero.map (·.cells.size),i.size,i.bytes))=some (some 6,6,72):=by kernel_rfl
 cases hi:Tryz.prog.info? 46 with
 |none=>rw[hi] at h;simp at h
 |some i0=>
  rw[hi] at h
  simp only[Option.map_some,Option.some.injEq,Prod.mk.injEq,Option.map_eq_some_iff] at h
  obtain ⟨⟨z,hz,FV⟩,h2,h3⟩:=h
  exact ⟨i0,z,rfl,hz,h2,h3,FV⟩
set_option maxRecDepth 100000 in
set_option maxHeartbeats 4000000 in
theorem af.TM (r9: ∀(s:ByteArray) (m:Int) (w:World),s.size<=65536->w.cell? ⟨1,0,none⟩=some (.int .i64 m)->Calls Tryz.prog 35 #[.string s] w (af.Ln s w))
   (s:ByteArray) (m:Int) (w:World) (hs:s.size<=65536) (hm:w.cell? ⟨1,0,none⟩=some (.int .i64 m)):
   Calls Tryz.prog 9 #[.string s] w (af.IP s w):=by
 have Uw:=World.block_lt_of_cell? _ _ hm
 refine (callsIn_wide (n:=5)).1 ?_
 refine callsIn_of_wp_marks Tryz.func9 rfl trivial ?_ rfl
 simp only[Tryz.ntmps9,List.size_toArray,List.length_cons,List.length_nil,Nat.reduceAdd,Nat.reduceSub,Array.replicate_succ,Array.replicate_zero,List.push_toArray,List.append_toArray,List.nil_append,List.cons_append]
 gi_wp2_with (refine ⟨trivial,?_⟩;gi_at_call 46;refine (callsIn_wide.2 (af.ac1 s _)).mono ?_;rintro e w' ⟨rfl,rfl⟩)
 obtain ⟨W0,I7⟩: ∃W0,W0=(((((w.alloc (.cells #[.slice none 0 0] 22)).alloc (.cells #[.int .i64 0] 3)).alloc (.cells #[.int .i64 0] 25)).alloc (.cells #[.slice none 0 0] 22)).alloc (.cells #[.string s] 9)):=⟨_,rfl⟩
 have hz:W0.heap.size=w.heap.size+1+1+1+1+1:=by rw[I7];simp
 have i1:Is W0 w.heap.size 22 #[.slice none 0 0]:=by rw[I7];exact ((((Is.new w 22 _).alloc _).alloc _).alloc _).alloc _
 have i2:Is W0 (w.heap.size+1) 3 #[.int .i64 0]:=by rw[I7];have:=(((Is.new (w.alloc (.cells #[.slice none 0 0] 22)) 3 #[.int .i64 0]).alloc (.cells #[.int .i64 0] 25)).alloc (.cells #[.slice none 0 0] 22)).alloc (.cells #[.string s] 9);rwa [World.size_alloc] at this
 have i3:Is W0 (w.heap.size+1+1) 25 #[.int .i64 0]:=by rw[I7];have:=((Is.new ((w.alloc (.cells #[.slice none 0 0] 22)).alloc (.cells #[.int .i64 0] 3)) 25 #[.int .i64 0]).alloc (.cells #[.slice none 0 0] 22)).alloc (.cells #[.string s] 9);rwa [World.size_alloc,World.size_alloc] at this
 have i4:Is W0 (w.heap.size+1+1+1) 22 #[.slice none 0 0]:=by rw[I7];have:=(Is.new (((w.alloc (.cells #[.slice none 0 0] 22)).alloc (.cells #[.int .i64 0] 3)).alloc (.cells #[.int .i64 0] 25)) 22 #[.slice none 0 0]).alloc (.cells #[.string s] 9);rwa [World.size_alloc,World.size_alloc,World.size_alloc] at this
 have i5:Is W0 (w.heap.size+1+1+1+1) 9 #[.string s]:=by rw[I7];have:=Is.new ((((w.alloc (.cells #[.slice none 0 0] 22)).alloc (.cells #[.int .i64 0] 3)).alloc (.cells #[.int .i64 0] 25)).alloc (.cells #[.slice none 0 0] 22)) 9 #[.string s];rwa [World.size_alloc,World.size_alloc,World.size_alloc,World.size_alloc] at this
 have rK:Below w.heap.size w W0:=by rw[I7];exact (((((Below.refl _ w).alloc (Nat.le_refl _) _).alloc (by simp) _).alloc (by simp;omega) _).alloc (by simp;omega) _).alloc (by simp;omega) _
 rw[<-I7]
 clear I7
 refine OE (n:=5) rfl (by decide) (gf:=107) (b:=w.heap.size+1+1+1+1) (lb:= #[.pointer (some ⟨w.heap.size+1+1+1+1,0,none⟩)]) rfl trivial (enters_of Tryz.func107 (by kernel_rfl) rfl) (encs:=fun x=> #[.string x]) (xs:=dh s) ?_ (by omega) (fun _=>rfl)
   (af.I5 w) (af.I6 w s) (af.Rs w _ (by omega)) (af.Rt w s _ (by omega)) (af.Ru w) (af.Rv w s)
   ⟨[],.slice none 0 0,rfl,by simp,i1,i2,i3,i4,⟨rfl,.inl ⟨rfl,rfl⟩⟩,by omega,rK,fun _=>rfl⟩
   (fun x=>{ tmps:= #[.string s,undef,.pointer (some ⟨w.heap.size,0,none⟩),.pointer (some ⟨w.heap.size+1,0,none⟩),.pointer (some ⟨w.heap.size+1+1,0,none⟩),.pointer (some ⟨w.heap.size+1+1+1,0,none⟩),.string x,undef,undef,.string s,
     .int .i64 s.size,.bool (decide (65536<(s.size:Int))),.string s,.func (.func 107) #[] #[.pointer (some ⟨w.heap.size+1+1+1+1,0,none⟩)],.string x,undef,undef,undef,undef,undef,undef,undef,undef,undef,undef,undef,undef,undef,undef,undef,undef,undef,undef,undef,undef,undef,undef],defers:=[] })
   ?assign ?body ?done ?stop
 . exact fun l J Jx W hW hJ YI PT hJxs hY h0=>af.ac0 _ l _ s hs J Jx W _ hJ YI PT hY (by decide) (by rw[hW.cell (p:=⟨w.heap.size+1+1+1+1,0,none⟩) (by show w.heap.size+1+1+1+1<W0.heap.size;omega)];exact i5.one) (by rw[hW.frozen (p:=⟨w.heap.size+1+1+1+1,0,none⟩) (by show w.heap.size+1+1+1+1<W0.heap.size;omega)];exact i5.frozen 0) h0
 case assign=>
   intro l x W K hK
   gi_wp2
   exact hK
 case body=>
   rintro l pre x W ⟨rs,v,p1,p2,j1,j2,j3,j4,eX,dM,hb,_⟩ GY hWz
   obtain ⟨va,vc,rfl⟩:=af.KN eX
   obtain ⟨ys,pO⟩:=GY
   have hx:x.size<=65536:=Nat.le_trans (OH s x (by rw[<-pO];simp)) hs
   have hmW:W.cell? ⟨1,0,none⟩=some (.int .i64 m):=(hb.cell (p:=⟨1,0,none⟩) Uw).trans hm
   have HL:=Lib.hid (r9 x m W hx hmW)
   have z1:w.heap.size<W.heap.size:=by omega
   have z2:w.heap.size+1<W.heap.size:=by omega
   have z3:w.heap.size+1+1<W.heap.size:=by omega
   have z4:w.heap.size+1+1+1<W.heap.size:=by omega
   have NV:=Lib.hid eX;have HB:=Lib.hid hb;have HP1:=Lib.hid p1;have HYS:=Lib.hid pO
   have J1:=Lib.hid j1;have J2:=Lib.hid j2;have J3:=Lib.hid j3;have J4:=Lib.hid j4
   have HM:=Lib.hid hm;have HH:=Lib.hid r9;have HI5:=Lib.hid i5
   clear eX hb p1 pO j1 j2 j3 j4 hmW hm r9 i1 i2 i3 i4 i5 rK
   rcases r4:af.js x with e0|r
   . have hee:=af.Kl r4
     have G1:=Lib.hid r4;clear r4
     gi_wp2_with (refine ⟨trivial,?_⟩;gi_at_call 35;refine (CallsIn.inRound l (callsIn_wide.2 HL.out)).mono ?_;rintro e w1 ⟨he,bR⟩;rw[show af.iL (af.y9 x) (af.kP (af.qL x)) (af.iT (af.qL x))= .inl e0 from G1.out] at he;obtain rfl:e= .returned (.tuple #[.agg #[.int .u8 0,.int .i64 0,.string ⟨#[]⟩,.string ⟨#[]⟩,.string ⟨#[]⟩,.int .i64 0],.int .i64 e0]):=he;have K1:=J1.out.below bR z1;have K2:=J2.out.below bR z2;have K3:=J3.out.below bR z3;have K4:=J4.out.below bR z4;have k1:=K1.one;have k2:=K2.one;have k3:=K3.one;have k4:=K4.one;have g1:=K1.frozen;have g2:=K2.frozen;have g3:=K3.frozen;have g4:=K4.frozen;have jP:=bR.size;have y1:=Nat.lt_of_lt_of_le z1 jP;have y2:=Nat.lt_of_lt_of_le z2 jP;have y3:=Nat.lt_of_lt_of_le z3 jP;have y4:=Nat.lt_of_lt_of_le z4 jP;have L1:=Lib.hid K1;have L2:=Lib.hid K2;have L3:=Lib.hid K3;have L4:=Lib.hid K4;clear K1 K2 K3 K4;have ny:=Lib.hid bR;have YM:=Lib.hid (HB.out.trans (bR.mono (Nat.le_of_lt z1)));clear bR)
     gi_region
     all_goals gi_wp2
     all_goals
        refine ⟨?_,af.KO (e:=e0) (k:=rs.length) hee p2 (fun ys hy=>af.Xt HP1.out p2 G1.out ys hy) ?_ ?_ ?_ ?_ ?_⟩
        . (repeat (first|(with_reducible refine af.PU ?_)|(with_reducible refine af.CI ?_ _)|(with_reducible refine af.NT ?_ _ _)|(with_reducible exact af.zq ny.out)))
        . (repeat (first|(with_reducible refine Is.drew ?_)|(with_reducible refine Is.alloc ?_ _)|(with_reducible refine af.oG (a:= .slice none 0 0) ?_)|(with_reducible refine Is.other ?_ (by omega) _ _)|(with_reducible exact L1.out)))
        . (repeat (first|(with_reducible refine Is.drew ?_)|(with_reducible refine Is.alloc ?_ _)|(with_reducible refine af.oG (a:= .int .i64 0) ?_)|(with_reducible refine Is.other ?_ (by omega) _ _)|(with_reducible exact L2.out)))
        . (repeat (first|(with_reducible refine Is.drew ?_)|(with_reducible refine Is.alloc ?_ _)|(with_reducible refine af.oG (a:= .int .i64 0) ?_)|(with_reducible refine Is.other ?_ (by omega) _ _)|(with_reducible exact L3.out)))
        . simp;omega
        . (repeat (first|(with_reducible refine Below.drew ?_)|(with_reducible refine Below.setCell ?_ (by first|(simp;done)|(simp;omega)) _)|(with_reducible refine Below.alloc ?_ (by first|omega|(simp;done)|(simp;omega)) _)|(with_reducible exact YM.out)))
   . have G1:=Lib.hid r4;clear r4
     by_cases hl:rs.length=64
     .  have hl64:((rs.length:Int)==64)=true:=by rw[hl];rfl
        have HLEN:=Lib.hid hl;clear hl
        gi_wp2_with (refine ⟨trivial,?_⟩;gi_at_call 35;refine (CallsIn.inRound l (callsIn_wide.2 HL.out)).mono ?_;rintro e w1 ⟨he,bR⟩;rw[show af.iL (af.y9 x) (af.kP (af.qL x)) (af.iT (af.qL x))= .inr r from G1.out] at he;obtain rfl:e= .returned (.tuple #[.agg #[.int .u8 r.k,.int .i64 r.wt,.string r.a,.string r.b,.string r.t,.int .i64 r.n],.int .i64 0]):=he;have K1:=J1.out.below bR z1;have K2:=J2.out.below bR z2;have K3:=J3.out.below bR z3;have K4:=J4.out.below bR z4;have k1:=K1.one;have k2:=K2.one;have k3:=K3.one;have k4:=K4.one;have g1:=K1.frozen;have g2:=K2.frozen;have g3:=K3.frozen;have g4:=K4.frozen;have jP:=bR.size;have y1:=Nat.lt_of_lt_of_le z1 jP;have y2:=Nat.lt_of_lt_of_le z2 jP;have y3:=Nat.lt_of_lt_of_le z3 jP;have y4:=Nat.lt_of_lt_of_le z4 jP;have L1:=Lib.hid K1;have L2:=Lib.hid K2;have L3:=Lib.hid K3;have L4:=Lib.hid K4;clear K1 K2 K3 K4;have ny:=Lib.hid bR;have YM:=Lib.hid (HB.out.trans (bR.mono (Nat.le_of_lt z1)));clear bR)
        gi_region
        all_goals gi_wp2
        all_goals
          refine ⟨?_,af.KO (e:=7) (k:=rs.length) (by decide) p2 (fun ys hy=>(af.UD HP1.out HLEN.out G1.out ys hy).trans (by rw[HLEN.out])) ?_ ?_ ?_ ?_ ?_⟩
          . (repeat (first|(with_reducible refine af.PU ?_)|(with_reducible refine af.CI ?_ _)|(with_reducible refine af.NT ?_ _ _)|(with_reducible exact af.zq ny.out)))
          . (repeat (first|(with_reducible refine Is.drew ?_)|(with_reducible refine Is.alloc ?_ _)|(with_reducible refine af.oG (a:= .slice none 0 0) ?_)|(with_reducible refine Is.other ?_ (by omega) _ _)|(with_reducible exact L1.out)))
          . (repeat (first|(with_reducible refine Is.drew ?_)|(with_reducible refine Is.alloc ?_ _)|(with_reducible refine af.oG (a:= .int .i64 0) ?_)|(with_reducible refine Is.other ?_ (by omega) _ _)|(with_reducible exact L2.out)))
          . (repeat (first|(with_reducible refine Is.drew ?_)|(with_reducible refine Is.alloc ?_ _)|(with_reducible refine af.oG (a:= .int .i64 0) ?_)|(with_reducible refine Is.other ?_ (by omega) _ _)|(with_reducible exact L3.out)))
          . simp;omega
          . (repeat (first|(with_reducible refine Below.drew ?_)|(with_reducible refine Below.setCell ?_ (by first|(simp;done)|(simp;omega)) _)|(with_reducible refine Below.alloc ?_ (by first|omega|(simp;done)|(simp;omega)) _)|(with_reducible exact YM.out)))
     .  have hl64:((rs.length:Int)==64)=false:=by rw[beq_eq_false_iff_ne];omega
        obtain ⟨i0,z,jI,Sf,JO,hzb,ov⟩:=af.afo
        gi_wp2_with (first|(refine ⟨trivial,?_⟩;gi_at_call 35;refine (CallsIn.inRound l (callsIn_wide.2 HL.out)).mono ?_;rintro e w1 ⟨he,bR⟩;rw[show af.iL (af.y9 x) (af.kP (af.qL x)) (af.iT (af.qL x))= .inr r from G1.out] at he;obtain rfl:e= .returned (.tuple #[.agg #[.int .u8 r.k,.int .i64 r.wt,.string r.a,.string r.b,.string r.t,.int .i64 r.n],.int .i64 0]):=he;have K1:=J1.out.below bR z1;have K2:=J2.out.below bR z2;have K3:=J3.out.below bR z3;have K4:=J4.out.below bR z4;have k1:=K1.one;have k2:=K2.one;have k3:=K3.one;have k4:=K4.one;have g1:=K1.frozen;have g2:=K2.frozen;have g3:=K3.frozen;have g4:=K4.frozen;have jP:=bR.size;have y1:=Nat.lt_of_lt_of_le z1 jP;have y2:=Nat.lt_of_lt_of_le z2 jP;have y3:=Nat.lt_of_lt_of_le z3 jP;have y4:=Nat.lt_of_lt_of_le z4 jP;have L1:=Lib.hid K1;have L2:=Lib.hid K2;have L3:=Lib.hid K3;have L4:=Lib.hid K4;clear K1 K2 K3 K4;have ny:=Lib.hid bR;have YM:=Lib.hid (HB.out.trans (bR.mono (Nat.le_of_lt z1)));clear bR)|(gi_at_builtin;refine wpListIn_append_own _ rfl _ _ 22 rfl (w.heap.size+5) 46 i0 z 6 72 Tryz.underlying22 jI Sf JO hzb ov (by decide) _ _ _ rfl (((af.KM NV.out ny.out).alloc _).alloc _) ⟨w1.heap.size+1,0,none⟩ 1 1 r.cells rfl rfl ?_ ?_ ?_ ?_ ?_ ?_))
        . intro j u hu
          have:=af.UG (w1.alloc (.cells r.cells.toArray 46)) 46 r.cells j u hu
          rw[World.size_alloc] at this
          exact this
        . exact af.UF r
        . unfold maxLen;omega
        . omega
        . have:=ny.out.size;simp;omega
        . intro v' w5 NU sH _
          obtain ⟨g',aH,rfl⟩:=ownsRow_succ NU
          have zz:=af.UH ny.out dM J4.out NV.out sH
          have k5:=zz.one
          have g5:=zz.frozen
          have HM5:=Lib.hid zz
          have HOWN:=Lib.hid NU
          have agk:=Lib.hid sH
          clear zz NU sH
          gi_wp2
          exact af.Rw HP1.out (by omega) G1.out HB.out ny.out dM J1.out J2.out J3.out J4.out NV.out HOWN.out agk.out
 case done=>
   rintro D W hD ⟨rs,v,h1,h2,j1,j2,j3,j4,eX,dM,hb,wX⟩ hK
   obtain ⟨va,vc,rfl⟩:=af.KN eX
   have HNIL:=Lib.hid wX;clear wX
   have c1:=j1.one;have c2:=j2.one;have c3:=j3.one;have c4:=j4.one
   have f1:=j1.frozen;have f2:=j2.frozen;have f3:=j3.frozen;have f4:=j4.frozen
   have NV:=Lib.hid eX;have HB:=Lib.hid hb;have H1:=Lib.hid h1
   have J1:=Lib.hid j1;have J2:=Lib.hid j2;have J3:=Lib.hid j3;have J4:=Lib.hid j4
   have HK:=Lib.hid hK
   clear eX hb h1 j1 j2 j3 j4 hK hm r9 i1 i2 i3 i4 i5 rK
   gi_wp2
   have UI:(((W.setCell ⟨w.heap.size,0,none⟩ (.slice va rs.length vc)).setCell ⟨w.heap.size+1,0,none⟩ (.int .i64 0)).setCell ⟨w.heap.size+1+1,0,none⟩ (.int .i64 0)).heap[D]? =some (.deferred (some [])):=
     (KeepsOthers.setCell _ _ _).same D _ ((KeepsOthers.setCell _ _ _).same D _ ((KeepsOthers.setCell _ _ _).same D _ HK.out rfl) rfl) rfl
   have q1:=af.rA (o':= .deferred none) (((af.oG (v:= .slice va rs.length vc) J1.out).other (m:=w.heap.size+1) (by omega) 0 (.int .i64 0)).other (m:=w.heap.size+1+1) (by omega) 0 (.int .i64 0)) UI rfl
   have q2:=af.rA (o':= .deferred none) ((af.oG (v:= .int .i64 0) (J2.out.other (m:=w.heap.size) (by omega) 0 (.slice va rs.length vc))).other (m:=w.heap.size+1+1) (by omega) 0 (.int .i64 0)) UI rfl
   have q3:=af.rA (o':= .deferred none) (af.oG (v:= .int .i64 0) ((J3.out.other (m:=w.heap.size) (by omega) 0 (.slice va rs.length vc)).other (m:=w.heap.size+1) (by omega) 0 (.int .i64 0))) UI rfl
   have r1:=q1.one;have r2:=q2.one;have r3:=q3.one
   refine ⟨by simp,.inl ⟨_,_,rfl,run_takeDeferred UI,?_⟩⟩
   refine ⟨.tuple #[.slice va rs.length vc,.int .i64 0,.int .i64 0],by simp[results,Tryz.results9,go_sem,r1,r2,r3],af.EB (k:=0) (rs:=rs) (af.FP hs H1.out h2) rfl ?_ ?_ (fun h=>h.elim (fun h=>absurd rfl h) HNIL.out)⟩
   . refine af.Xu (base:=w.heap.size+5) ?_ (by omega)
     refine ownsRow_putObj (ownsRow_setCell_below (ownsRow_setCell_below (ownsRow_setCell_below NV.out ?_ _) ?_ _) ?_ _) _ UI rfl
     .  show w.heap.size<w.heap.size+5;omega
     .  show w.heap.size+1<w.heap.size+5;omega
     .  show w.heap.size+1+1<w.heap.size+5;omega
   . exact (((HB.out.setCell (p:=⟨w.heap.size,0,none⟩) (Nat.le_refl _) _).setCell (p:=⟨w.heap.size+1,0,none⟩) (by show w.heap.size<=w.heap.size+1;omega) _).setCell (p:=⟨w.heap.size+1+1,0,none⟩) (by show w.heap.size<=w.heap.size+1+1;omega) _).grown (grownBy_putObj' _ D _) (by simp;omega) (fun k e=>by cases e;omega)
 case stop=>
   rintro D pre W hD GY ⟨e,k,h1,h2,h3,h4,j1,j2,j3,dM,hb⟩ hK
   obtain ⟨ys,pO⟩:=GY
   have q1:=af.rA (o':= .deferred none) j1 hK rfl
   have q2:=af.rA (o':= .deferred none) j2 hK rfl
   have q3:=af.rA (o':= .deferred none) j3 hK rfl
   have r1:=q1.one;have r2:=q2.one;have r3:=q3.one
   have HB:=Lib.hid hb;have H4:=Lib.hid (h4 ys pO)
   have HK:=Lib.hid hK
   have R1:=Lib.hid r1;have R2:=Lib.hid r2;have R3:=Lib.hid r3
   clear hb h4 j1 j2 j3 hK hm r9 i1 i2 i3 i4 i5 rK pO q1 q2 q3 r1 r2 r3
   gi_wp2
   refine ⟨by simp,.inl ⟨_,_,rfl,run_takeDeferred HK.out,?_⟩⟩
   refine ⟨.tuple #[.slice none 0 0,.int .i64 k,.int .i64 e],by simp[results,Tryz.results9,go_sem,R1.out,R2.out,R3.out],af.EB (k:=k) (rs:=[]) (by unfold af.gH;rw[if_neg (by omega),H4.out]) rfl ⟨rfl,.inl ⟨rfl,rfl⟩⟩ ?_⟩
   exact HB.out.grown (grownBy_putObj' _ D _) (by omega) (fun k e=>by cases e;omega)
set_option maxRecDepth 100000 in
set_option maxHeartbeats 1000000 in
theorem af.Rf (s:ByteArray) (w:World) (hs:65536<s.size) (hm:s.size<=maxLen):
  Calls Tryz.prog 9 #[.string s] w (af.IP s w):=by
 unfold maxLen at hm
 refine (callsIn_wide (n:=5)).1 ?_
 refine callsIn_of_wp_marks Tryz.func9 rfl trivial ?_ rfl
 simp only[Tryz.ntmps9,List.size_toArray,List.length_cons,List.length_nil,Nat.reduceAdd,Nat.reduceSub,Array.replicate_succ,Array.replicate_zero,List.push_toArray,List.append_toArray,List.nil_append,List.cons_append]
 gi_wp2
 refine ⟨.tuple #[.slice none 0 0,.int .i64 0,.int .i64 7],by simp[results,Tryz.results9,go_sem],af.EB (k:=0) (rs:=[]) (by unfold af.gH;rw[if_pos hs]) rfl ⟨rfl,.inl ⟨rfl,rfl⟩⟩ ?_⟩
 exact (((Below.refl _ w).alloc (Nat.le_refl _) _).alloc (by simp) _).alloc (by simp;omega) _
end Go.Proofs
end
section
set_option maxRecDepth 1000000
namespace Go.Ai
open Go Go.RowKit
theorem NW {P:Program} {tt:TT} {O:eE} {G:T aN} {C:Cells} {m d f:Nat} {n0:Pos} {fn:Func} {c:Code} (hm:P.follows .mixedOrders=true) (hT:bZ P tt) (hG:Hz P tt G)
  (hO:nS P C O) (FD:ji O) (hf:P.funcs[f]? =some fn) (lT: ¬fn.name= "runtime.NumGoroutine") (hb:fn.body=some c) {b:Bool}
  (h:EL (R:=Bool) false O G m d f [] { heap:= .e,next:=n0 } (fun v _=>ki v (.bool b))=true) (w:World) (hC: ∀ad v,C ad=some v->w.cell? ad=some v) (Me: ∀a v,C a=some v-> ∀o,C ⟨a.block,o,none⟩=none->w.cell? ⟨a.block,o,none⟩=none):
  Calls P f #[] w fun e w'=>e= .returned (.bool b)/\Below w.heap.size w w':=by
 rw[BM false O G m d] at h
 unfold pT at h
 split at h<;>first|(cases h;done)|skip
 rename_i x hx
 obtain ⟨v,bu⟩:=x
 have hv:=tH h
 simp only at hv
 subst hv
 have hr:=vL hm hT hO FD hG m d (fun _=>⟨0,0,0⟩) { heap:= .e,next:=n0 } w f [] (.bool b) bu [] hx (uw hC Me) aq.nil
 have bH:(callFunc f ([]:List Value).toArray).run P w= .ok (.enter f #[]) w:=by simp[callFunc,hf,lT,hb]
 rw[bH] at hr
 refine Calls.mono hr fun e w' he=> ?_
 cases e with
 |returned x=>
  obtain ⟨ρ',h1,_,_,_,hE⟩:=he
  have:=h1.gQ;subst this
  exact ⟨rfl,hE.os,hE.tape,hE.output,hE.size,fun k hk=>hE.block k hk fun b x hb=>by rw[T.cG] at hb;cases hb⟩
 |panicked c=>exact he.elim
 |outgrown=>exact he.elim
section
variable {ρ : Pos -> Go.Ai.Loc} {C : Cells} {st : St} {w w' : World}
theorem bn.later (h:bn ρ C st w) (hb:Below w.heap.size w w'):bn ρ C st w' where
 live b x hx:=by
  obtain ⟨h1,h2,h3⟩:=h.live b x hx
  exact ⟨h1,Nat.lt_of_lt_of_le h2 hb.size,h3.of_heap (hb.block _ h2)⟩
 inj:=h.inj
 cj a v ha:=by
  obtain ⟨h1,h2⟩:=h.cj a v ha
  exact ⟨(hb.cell (World.block_lt_of_cell? _ _ h1)).trans h1,h2⟩
 whole a v ha o ho:=by
  have jv:a.block<w.heap.size:=World.block_lt_of_cell? _ _ (h.cj a v ha).1
  exact (hb.cell (p:=⟨a.block,o,none⟩) jv).trans (h.whole a v ha o ho)
theorem jY.later (h:bn ρ C st w) (hb:Below w.heap.size w w'):jY ρ st w ρ st w':=⟨hb.os,hb.tape,hb.output,hb.size,fun k hk _=>hb.block k hk,fun b x hx=> .inl ⟨b,x,hx,rfl⟩⟩
theorem TO (hW:bn ρ C st w) {x0:AB} {base size g:Nat} (hb:Below w.heap.size w w') (hg:w.heap.size<=g) (uA:g<w'.heap.size)
   (hB: ∀ρ' n',(∀b:Pos,b.toNat<st.next.toNat->ρ' b=ρ b)->st.next.toNat<=n'->kj ρ' n' C ⟨g,base,size⟩ w' x0):
   ∃ρ':Pos->Go.Ai.Loc,(∀b:Pos,b.toNat<st.next.toNat->ρ' b=ρ b)/\ρ' st.next=⟨g,base,size⟩/\bn ρ' C (st.aE none none (some x0)) w'/\jY ρ st w ρ' (st.aE none none (some x0)) w':=by
 let ρ':Pos->Go.Ai.Loc:=fun b=>if b=st.next then ⟨g,base,size⟩ else ρ b
 have aL: ∀b:Pos,b.toNat<st.next.toNat->ρ' b=ρ b:=fun b hb=>if_neg (fun e=>by rw[e] at hb;omega)
 have ck:ρ' st.next=⟨g,base,size⟩:=if_pos rfl
 refine ⟨ρ',aL,ck,?_,⟨hb.os,hb.tape,hb.output,hb.size,fun k hk _=>hb.block k hk,fun b x hx=> ?_⟩⟩
 rotate_left
 . by_cases he:b=st.next
   . right;rw[he,ck];exact hg
   . left
     simp only[St.aE,wk,uV] at hx
     rw[T.bq _ (fun e=>he e.symm)] at hx
     exact ⟨b,x,hx,by rw[aL b (hW.live b x hx).1]⟩
 refine hW.Lz (b0:=st.next) (x0:=x0) (by rw[Pos.az];omega) (by rw[Pos.az];omega) (by rw[T.dZ]) ?_ aL (by rw[ck];exact hB _ _ aL (by rw[Pos.az];omega)) ?_ (by rw[ck];exact uA) hb.size (fun k hk _=>hb.block k hk)
 . intro b x hb hx
   simp only[wk,uV] at hx
   rw[T.bq _ (fun e=>hb e.symm)] at hx
   refine ⟨hx,?_⟩
   rw[ck]
   have:=(hW.live b x hx).2.1
   simp only;omega
 . intro a v ha
   have:=World.block_lt_of_cell? _ _ (hW.cj a v ha).1
   rw[ck];simp only;omega
end
end Go.Ai
namespace Go.Proofs
open Go Go.Ai Go.RowKit Go.af Go.Proofs.YtehbdakjkjkekaaGreatDoor
def af.aD (t:List Nat):ByteArray:=⟨(t.map UInt8.ofNat).toArray⟩
theorem af.GF {t:List Nat} {bs:ByteArray} (h:bs.data.toList.map UInt8.toNat=t):bs=af.aD t:=by
 unfold af.aD
 rw[<-h,List.map_map]
 have:(UInt8.ofNat∘UInt8.toNat)=id:=by funext c;simp
 rw[this,List.map_id]
def af.parseLit (t0:List Nat) (er i:Int) (n:Nat) (cs:List AV):List AV->St->Option (AV×St):=fun args st=>
 match args with
 |  [.str t]=>match fT t t0 with
    |true=>match n with
     |0=>some (.tuple [.ai,.int .i64 i,.int .i64 er],st)
     |n+1=>some (.tuple [.slice st.next 0 (n+1) none 6,.int .i64 i,.int .i64 er],st.aE none none (some (.cells cs 0)))
    |false=>none
 |_=>none
theorem af.EC {ρ:Pos->Go.Ai.Loc} {n:Nat} {C:Cells}: ∀{cs:List AV} {vs:List Value},cs.mapM qC=some vs->(∀v∈cs,∃k i,v= .int k i\/ ∃s,v= .str s/\ ∀c∈s,c<256)->aq ρ n C cs vs
 |[],vs,h,_=>by simp at h;subst h;exact aq.nil
 |v ::cs,vs,h,hv=>by
  simp only[List.mapM_cons,Option.bind_eq_bind,Option.bind_eq_some_iff,Option.pure_def,Option.some.injEq] at h
  obtain ⟨y,hy,zs,hz,rfl⟩:=h
  refine aq.cons ?_ (af.EC hz fun v hm=>hv v (List.mem_cons_of_mem _ hm))
  obtain ⟨k,i,rfl|⟨s,rfl,hs⟩⟩:=hv v (List.mem_cons_self ..)
  . simp[qC] at hy;subst hy;exact .int _ _
  . simp only[qC,Option.some.injEq] at hy;subst hy
    refine .str _ _ ?_
    show (s.map UInt8.ofNat).toArray.toList.map UInt8.toNat=s
    simp only[List.map_map]
    conv=>rhs;rw[<-List.map_id s]
    refine List.map_congr_left fun c hc=> ?_
    have:=hs c hc
    simp[UInt8.toNat_ofNat]
    omega
theorem af.zu {C:Cells} {m:Int} (hC:C ⟨1,0,none⟩=some (.int .i64 m)) {t0:List Nat} {er i:Int} {n k:Nat} {cs:List AV} {rs:List af.RR} (dM:t0.length<=65536) (hp:af.gH (af.aD t0)=(er,k,rs)) (hi:i=k) (hn:n=rs.length)
  (gN:cs.mapM qC=some (af.cellsOf rs)) (hsc: ∀v∈cs,∃k i,v= .int k i\/ ∃s,v= .str s/\ ∀c∈s,c<256) (hz:n=0->er≠0):mC Tryz.prog C 9 (af.parseLit t0 er i n cs) where
 mono args st v st' h:=by
  unfold af.parseLit at h
  split at h<;>first|(cases h;done)|skip
  split at h<;>first|(cases h;done)|skip
  split at h
  . injection h with h;injection h with h1 h2;subst h2;exact Nat.le_refl _
  . injection h with h;injection h with h1 h2;subst h2;exact St.tG _ _ _ _
 runs ρ st w args v st' bl h hW hv:=by
  unfold af.parseLit at h
  split at h<;>first|(cases h;done)|skip
  rename_i t
  split at h<;>first|(cases h;done)|skip
  rename_i hbq
  have ht:t=t0:=fU.1 hbq
  subst ht
  obtain ⟨x,xs,rfl,h1,h2⟩:=hv.cons_inv
  have:=h2.iE;subst this
  obtain ⟨bs,rfl,hs⟩:=h1.cv
  have jJ:=af.GF hs
  have hm:=(hW.cj _ _ hC).1
  have P0:bs.size<=65536:=by
    have:bs.data.toList.length=t.length:=by rw[<-hs];simp
    have h3:bs.size=bs.data.toList.length:=by simp
    omega
  have hc:=af.TM (fun s m w h=>af.line s m w (Nat.le_trans h (by decide))) bs m w P0 hm
  have bH:(callFunc 9 ([Value.string bs]:List Value).toArray).run Tryz.prog w= .ok (.enter 9 #[.string bs]) w:=enters_of Tryz.func9 (by kernel_rfl) rfl _ _
  rw[bH]
  refine Calls.mono hc fun e w' LJ=> ?_
  obtain ⟨v',he,eX,hb,wX⟩:=LJ
  rw[jJ,hp] at he eX wX
  subst he
  subst hi
  simp only at eX wX ⊢
  split at h
  . injection h with h;injection h with e1 e2;subst e1;subst e2
    have u7:=wX (.inl (hz rfl))
    subst u7
    exact ⟨ρ,.jQ (aq.cons .ai (aq.cons (.int _ _) (aq.cons (.int _ _) aq.nil))),fun _ _=>rfl,Nat.le_refl _,hW.later hb,jY.later hW hb⟩
  . rename_i n'
    injection h with h;injection h with e1 e2;subst e1;subst e2
    rcases eX.2 with ⟨_,h0⟩|⟨g,cap,cur,rfl,hg,TN,tE,hcm,Nr,Rg⟩
    .   omega
    .   have IB:=(Array.getElem?_eq_some_iff.1 TN).1
        have hlen:cs.length=rs.length*6:=by
         have hvr:=af.EC (ρ:=ρ) (n:=0) (C:=C) gN hsc
         rw[hvr.1,af.Ac]
        obtain ⟨ρ',aL,ck,di,hE⟩:=TO (x0:= .cells cs 0) (base:=0) (size:=cur.size) hW hb hg IB (fun ρ' n' _ _=>
         nJ TN (by rw[hlen,Nr];exact Nat.mul_le_mul_right _ tE) (by rw[hlen,Rg];exact af.EC gN hsc) (fun i _=>by simp))
        refine ⟨ρ',.jQ (aq.cons ?_ (aq.cons (.int _ _) (aq.cons (.int _ _) aq.nil))),aL,St.tG _ _ _ _,di,hE⟩
        have agl:n'+1<=cap:=by omega
        rw[<-hn]
        exact oX (by simp[St.aE,Pos.az]) ck agl (fun c hc=>by cases hc) (by rw[Nr];exact Nat.le_refl _)
noncomputable def af.P1:List AV->St->Option (AV×St):=af.parseLit [104,97,114,100,32,97,112,97,114,116,32,97,110,110,97,32,98,111,114,105,115,32,50,10,119,101,105,103,104,32,53,32,104,111,110,111,117,114,32,45,10] 0 0 2 [.int .u8 1,.int .i64 0,.str [97,110,110,97],.str [98,111,114,105,115],.str [],.int .i64 2,.int .u8 14,.int .i64 5,.str [],.str [],.str [],.int .i64 0]
noncomputable def af.P2:List AV->St->Option (AV×St):=af.parseLit [119,101,105,103,104,32,48,32,109,105,120,32,45,10] 41 0 0 []
noncomputable def af.P3:List AV->St->Option (AV×St):=af.parseLit [104,97,114,100,32,97,116,32,97,110,110,97,32,45,10] 4 0 0 []
theorem af.agm:af.gH (af.aD [104,97,114,100,32,97,112,97,114,116,32,97,110,110,97,32,98,111,114,105,115,32,50,10,119,101,105,103,104,32,53,32,104,111,110,111,117,114,32,45,10])=(0,0,[⟨1,0,⟨#[97,110,110,97]⟩,⟨#[98,111,114,105,115]⟩,⟨#[]⟩,2⟩,⟨14,5,⟨#[]⟩,⟨#[]⟩,⟨#[]⟩,0⟩]):=by kernel_rfl
theorem af.agn:af.gH (af.aD [119,101,105,103,104,32,48,32,109,105,120,32,45,10])=(41,0,[]):=by kernel_rfl
theorem af.ago:af.gH (af.aD [104,97,114,100,32,97,116,32,97,110,110,97,32,45,10])=(4,0,[]):=by kernel_rfl
theorem af.Rx {k:IntKind} {i:Int}: ∃k' i',(AV.int k i)= .int k' i'\/ ∃s,(AV.int k i)= .str s/\ ∀c∈s,c<256:=⟨k,i,.inl rfl⟩
theorem af.Ry {s:List Nat} (h:s.all (fun c=>decide (c<256))=true): ∃k' i',(AV.str s)= .int k' i'\/ ∃s',(AV.str s)= .str s'/\ ∀c∈s',c<256:=⟨.i64,0,.inr ⟨s,rfl,fun c hc=>by have:=List.all_eq_true.1 h c hc;simpa using this⟩⟩
theorem af.agp {C:Cells} {m:Int} (hC:C ⟨1,0,none⟩=some (.int .i64 m)):mC Tryz.prog C 9 af.P1:=
 af.zu hC (by decide) af.agm rfl rfl (by rfl) (by
  intro v hv
  simp only[List.mem_cons,List.not_mem_nil,or_false] at hv
  rcases hv with rfl|rfl|rfl|rfl|rfl|rfl|rfl|rfl|rfl|rfl|rfl|rfl<;>first|exact af.Rx|exact af.Ry (by decide)) (by decide)
theorem af.agq {C:Cells} {m:Int} (hC:C ⟨1,0,none⟩=some (.int .i64 m)):mC Tryz.prog C 9 af.P2:=af.zu hC (by decide) af.agn rfl rfl rfl (by simp) (by decide)
theorem af.agr {C:Cells} {m:Int} (hC:C ⟨1,0,none⟩=some (.int .i64 m)):mC Tryz.prog C 9 af.P3:=af.zu hC (by decide) af.ago rfl rfl rfl (by simp) (by decide)
noncomputable def af.orcA:eE:=qt [(277,uZ),(30,Ig (BP Fa) (BP Fb)),(9,Ig af.P1 (Ig af.P2 af.P3))]
noncomputable def af.chkA:Bool:=EL (R:=Bool) false af.orcA gg 100000 60 6 [] { heap:= .e,next:= .o (.i (.o (.i (.o (.i (.o (.i (.o .h)))))))) } fun v _=>ki v (.bool true)
theorem af.UJ:af.chkA=true:=by kernel_rfl
theorem af.Dg {C:Cells}:mC Tryz.prog C 277 uZ:=Vj (fn:=Tryz.f277) Tryz.func277 (by kernel_rfl) (by kernel_rfl) (by kernel_rfl) (by kernel_rfl)
theorem af.ac2 {C:Cells}:mC Tryz.prog C 30 (BP Fa):=by
 have ho:=th (P:=Tryz.prog) (C:=C) (l:=[(277,uZ)]) (fun x hx=>by simp at hx;subst hx;exact af.Dg)
 exact Mn (O:=Ys) (G:=gg) (m:=100000) (d:=60) (vL (by kernel_rfl) ED ho.1 ho.2 EE _ _) (vJ ho.2 _ _) ady afT
theorem af.ac3 {C:Cells}:mC Tryz.prog C 30 (BP Fb):=by
 have ho:=th (P:=Tryz.prog) (C:=C) (l:=[(277,uZ)]) (fun x hx=>by simp at hx;subst hx;exact af.Dg)
 exact Mn (O:=Yt) (G:=gg) (m:=100000) (d:=60) (vL (by kernel_rfl) ED ho.1 ho.2 EE _ _) (vJ ho.2 _ _) adz afU
theorem af.Rz (m:Int) (w:World) (hm:w.cell? ⟨1,0,none⟩=some (.int .i64 m)):Calls Tryz.prog 6 #[] w fun e w'=>e= .returned (.bool true)/\Below w.heap.size w w':=by
 have hC:(fun ad=>w.cell? ad:Cells) ⟨1,0,none⟩=some (.int .i64 m):=hm
 have ho:=th (P:=Tryz.prog) (C:=fun ad=>w.cell? ad) (l:=[(277,uZ),(30,Ig (BP Fa) (BP Fb)),(9,Ig af.P1 (Ig af.P2 af.P3))]) (fun x hx=>by
  simp only[List.mem_cons,List.not_mem_nil,or_false] at hx
  rcases hx with rfl|rfl|rfl
  . exact af.Dg
  . exact Mo af.ac2 af.ac3
  . exact Mo (af.agp hC) (Mo (af.agq hC) (af.agr hC)))
 exact NW (by kernel_rfl) ED EE ho.1 ho.2 (fn:=Tryz.f6) (c:=Tryz.f6.body.get rfl) Tryz.func6 (by decide) rfl af.UJ w (fun ad v h=>h) fun a v _ o h=>h
end Go.Proofs
end
section
namespace Go.af
open Go Go.Proofs
theorem MW {a b:ByteArray} (h:a.data.toList=b.data.toList):a=b:=by
 cases a;cases b;congr 1;exact Array.toList_inj.1 h
theorem Ff (s:ByteArray) (a j b:Nat) (h:a+b<=s.size):(s.extract a s.size).extract j b=s.extract (a+j) (a+b):=by
 apply MW
 rw[Lib.extract_data,Lib.extract_data,Lib.extract_data]
 simp only[List.drop_take,List.drop_drop,List.take_take]
 congr 1
 omega
theorem NX (s:ByteArray) (a:Nat):(s.extract a s.size).size=s.size - a:=by simp
theorem NY (s:ByteArray) (a k:Nat) (h:a+k<s.size):(s.extract a s.size).data.toList[k]? =some s[a+k]:=by
 rw[Lib.extract_data,List.getElem?_take,List.getElem?_drop,if_pos (by omega)]
 rw[List.getElem?_eq_getElem (by simpa using h)]
 rfl
theorem I8 {l:List UInt8} {c:UInt8} {j:Nat} (h1:l[j]? =some c) (h2: ∀k,k<j->l[k]? ≠some c):Lib.indexByte l c=j:=by
 by_cases h:Lib.indexByte l c= -1
 . exact absurd h1 (Lib.indexByte_none h j)
 . have hge:=Lib.indexByte_ge l c
   obtain ⟨o,ho⟩: ∃o:Nat,Lib.indexByte l c=o:=⟨(Lib.indexByte l c).toNat,by omega⟩
   obtain ⟨g1,g2⟩:=Lib.indexByte_some ho
   have:o=j:=by
    rcases Nat.lt_trichotomy o j with h|h|h
    . exact absurd g1 (h2 o h)
    . exact h
    . exact absurd h1 (g2 j h)
   rw[ho,this]
theorem NZ {l:List UInt8} {c:UInt8} (h: ∀k:Nat,l[k]? ≠some c):Lib.indexByte l c= -1:=by
 by_cases h0:Lib.indexByte l c= -1
 . exact h0
 . have hge:=Lib.indexByte_ge l c
   obtain ⟨o,ho⟩: ∃o:Nat,Lib.indexByte l c=o:=⟨(Lib.indexByte l c).toNat,by omega⟩
   exact absurd (Lib.indexByte_some ho).1 (h o)
def zW (s:ByteArray) (c:UInt8) (a k:Nat):Prop:= ∀j,a<=j->j<k-> ∀h:j<s.size,s[j]≠c
theorem zW.nil (s:ByteArray) (c:UInt8) (a:Nat):zW s c a a:=fun j h1 h2=>by omega
theorem zW.more {s:ByteArray} {c:UInt8} {a k:Nat} (h:zW s c a k) (hk: ∀h:k<s.size,s[k]≠c):zW s c a (k+1):=fun j h1 h2 hj=>by
 rcases Nat.lt_or_ge j k with h3|h3
 . exact h j h1 h3 hj
 . obtain rfl:j=k:=by omega
   exact hk hj
theorem N4 {s:ByteArray} {c:UInt8} {a k:Nat} (h:zW s c a k) (YN:a<=k) (hk:k<s.size) (hc:s[k]=c):Lib.indexByte (s.extract a s.size).data.toList c=((k - a:Nat):Int):=by
 refine I8 ?_ ?_
 . rw[NY s a (k - a) (by omega)]
   congr 1
   have:a+(k - a)=k:=by omega
   simp only[this];exact hc
 . intro j hj e
   rw[NY s a j (by omega)] at e
   injection e with e
   exact h (a+j) (by omega) (by omega) (by omega) e
theorem ac4 {s:ByteArray} {c:UInt8} {a:Nat} (h:zW s c a s.size):Lib.indexByte (s.extract a s.size).data.toList c= -1:=by
 refine NZ fun j e=> ?_
 by_cases hj:a+j<s.size
 . rw[NY s a j hj] at e
   injection e with e
   exact h (a+j) (by omega) hj hj e
 . rw[List.getElem?_eq_none (by rw[Lib.extract_data];simp;omega)] at e
   cases e
theorem QX {s:ByteArray} {a k:Nat} (h:zW s 10 a k) (YN:a<=k) (hk:k<s.size) (hc:s[k]=10):
  dh (s.extract a s.size)=s.extract a (k+1)::dh (s.extract (k+1) s.size):=by
 have hi:oh (s.extract a s.size)=((k - a:Nat):Int):=N4 h YN hk hc
 rw[I0 (by simp;omega) (by omega),hi]
 have e1:(((k - a:Nat):Int)).toNat=k - a:=by omega
 rw[e1,NX]
 rw[Ff s a 0 (k - a+1) (by omega),Ff s a (k - a+1) (s.size - a) (by omega)]
 rw[show a+(k - a+1)=k+1 by omega,show a+(s.size - a)=s.size by omega,Nat.add_zero]
theorem QT {s:ByteArray} {a k:Nat} (h:zW s 32 a k) (YN:a<=k) (hk:k<s.size) (hc:s[k]=32):
  af.fZ (s.extract a s.size)=s.extract a k::af.fZ (s.extract (k+1) s.size):=by
 have hi:Lib.indexB (s.extract a s.size) ⟨#[32]⟩=((k - a:Nat):Int):=by
  exact (Lib.index_one _ _).trans (N4 h YN hk hc)
 unfold af.fZ
 rw[Lib.countB_hit _ _ _ (by decide) hi,Nat.add_comm,Lib.splitB_hit _ _ _ _ _ hi]
 have e1:(⟨#[32]⟩:ByteArray).size=1:=rfl
 rw[e1,Nat.add_zero,NX,Ff s a 0 (k - a) (by omega),Ff s a (k - a+1) (s.size - a) (by omega)]
 rw[show a+(k - a+1)=k+1 by omega,show a+(s.size - a)=s.size by omega,show a+(k - a)=k by omega,Nat.add_zero]
theorem QU {s:ByteArray} {a:Nat} (h:zW s 32 a s.size):af.fZ (s.extract a s.size)=[s.extract a s.size]:=by
 have hi:Lib.indexB (s.extract a s.size) ⟨#[32]⟩= -1:=by
  exact (Lib.index_one _ _).trans (ac4 h)
 unfold af.fZ
 rw[Lib.splitB_miss _ _ _ _ hi]
end Go.af
end
