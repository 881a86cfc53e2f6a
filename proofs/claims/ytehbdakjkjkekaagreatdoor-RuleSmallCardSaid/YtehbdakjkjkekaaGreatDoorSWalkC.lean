/- rule.line, the lines of a text, rule.Parse, and the chapter's examples: what they return. -/
import Derived.Test.YtehbdakjkjkekaaGreatDoorSWalkB
import Derived.Test.YtehbdakjkjkekaaGreatDoorSWalkA
import Derived.Test.YtehbdakjkjkekaaGreatDoorSBodA
import Derived.Test.YtehbdakjkjkekaaGreatDoorSBodB
import Derived.RangeFuncNested
import Derived.RangeFuncBound
import Derived.RangeFuncCalls
import Derived.RangeFuncLeaves
import Derived.Shelf.Abstract
import Derived.Shelf.RegionOpen
import Derived.WalkKit
import Derived.OwnWalkIn
import Derived.TacticsInMore
import Derived.LoopNIn
import Derived.LoopIn
import Derived.Lib.Hide
import Derived.Lib.IndexLaws
import Derived.RangeFuncBox
import Derived.Test.YtehbdakjkjkekaaGreatDoorSLitA
import Derived.Test.YtehbdakjkjkekaaGreatDoorSLitB
import Derived.Test.YtehbdakjkjkekaaGreatDoorSEvalD
set_option linter.all false
set_option linter.unusedSectionVars false
set_option linter.deprecated false
section
namespace Go.Proofs
open Go.RowKit Go.ag
set_option maxRecDepth 100000 in
set_option maxHeartbeats 4000000 in
theorem ag.ahV (PS: ∀(u:Nat->ByteArray) (wt:Int) (B off len:Nat) (w:World),B<w.heap.size->(∀i,i<len->w.cell? ⟨B,off+i,none⟩=some (.string (u i)))->1<=len->len<=maxLen->(∀i,i<len->(u i).size<=maxLen)-> -1<=wt/\wt<=999999999->
    Calls Tryz.prog 104 #[.agg #[.int .u8 0,.int .i64 wt,.string ⟨#[]⟩,.string ⟨#[]⟩,.string ⟨#[]⟩,.int .i64 0],.slice (some ⟨B,off,none⟩) len len] w (ag.vp u len wt w))
  (s:ByteArray) (m:Int) (w:World) (hs:s.size<=2097152) (hm:w.cell? ⟨1,0,none⟩=some (.int .i64 m)):
  Calls Tryz.prog 35 #[.string s] w (ag.PR s w):=by
 have Y5:=World.block_lt_of_cell? _ _ hm
 have Wr:=Lib.hid PS;clear PS
 obtain ⟨s1,hs1⟩: ∃s1,s1=ag.vX s:=⟨_,rfl⟩
 obtain ⟨ok,dr⟩: ∃ok,ok=ag.DU s:=⟨_,rfl⟩
 have fh:s1.size<=2097152:=by rw[hs1];exact Nat.le_trans (ag.Y7 s) hs
 have hn1:=ag.Wp s1
 have UN:=ag.Y8 s1
 obtain ⟨n,hn⟩: ∃n,n=ag.lD s1:=⟨_,rfl⟩
 rw[<-hn] at hn1 UN
 have aaO:=ag.aiV s
 rw[<-hs1, <-dr] at aaO
 have aaP:=ag.afo s1 m
 rw[<-hn] at aaP
 have IX:=Lib.hid hs1;have IY:=Lib.hid dr;have HN:=Lib.hid hn;clear hs1 dr hn
 have H1:=Lib.hid aaO;have H2:=Lib.hid aaP;clear aaO aaP
 go_enter Tryz.func35,Tryz.ntmps35
 go_wp2_with (first|(go_at_call 101;refine (H1.out _ hs).mono ?_;rintro e w' ⟨rfl,hw⟩;subst hw)|(go_at_call 102;refine (H2.out _ fh (by rw[World.cell?_alloc_old _ _ _ (Nat.ne_of_lt Y5)];exact hm)).mono ?_;rintro e w' ⟨rfl,hw⟩;subst hw))
 have i2:=Is.new (w.alloc (.cells #[.int .u8 0,.int .i64 0,.string ⟨#[]⟩,.string ⟨#[]⟩,.string ⟨#[]⟩,.int .i64 0] 46)) 9 ((ag.jk s1).map Value.string).toArray
 have i1:=(Is.new w 46 #[.int .u8 0,.int .i64 0,.string ⟨#[]⟩,.string ⟨#[]⟩,.string ⟨#[]⟩,.int .i64 0]).alloc (.cells ((ag.jk s1).map Value.string).toArray 9)
 have hB:=((Below.refl w.heap.size w).alloc (Nat.le_refl _) (.cells #[.int .u8 0,.int .i64 0,.string ⟨#[]⟩,.string ⟨#[]⟩,.string ⟨#[]⟩,.int .i64 0] 46)).alloc (by simp) (.cells ((ag.jk s1).map Value.string).toArray 9)
 rw[World.size_alloc] at i2
 have hz:((w.alloc (.cells #[.int .u8 0,.int .i64 0,.string ⟨#[]⟩,.string ⟨#[]⟩,.string ⟨#[]⟩,.int .i64 0] 46)).alloc (.cells ((ag.jk s1).map Value.string).toArray 9)).heap.size=w.heap.size+1+1:=by simp
 generalize ((w.alloc (.cells #[.int .u8 0,.int .i64 0,.string ⟨#[]⟩,.string ⟨#[]⟩,.string ⟨#[]⟩,.int .i64 0] 46)).alloc (.cells ((ag.jk s1).map Value.string).toArray 9))=W at i1 i2 hB hz ⊢
 have hwc: ∀k,k<n->W.cell? ⟨w.heap.size+1,k,none⟩=some (.string (ag.oA s1 k)):=fun k hk=>by rw[i2.cell];exact ag.Wq s1 k (by rw[<-HN.out];exact hk)
 have hws: ∀k,(ag.oA s1 k).size<=maxLen:=fun k=>Nat.le_trans (ag.TY s1 k) (by unfold maxLen;omega)
 obtain ⟨u,hu⟩: ∃u,u=ag.oA s1:=⟨_,rfl⟩
 rw[<-hu] at hwc hws
 have HU:=Lib.hid hu;clear hu
 obtain ⟨d0,d1,d2,d3,d4,d5⟩:=i1.mF
 have f1:=i1.frozen
 have I1:=Lib.hid i1;have I2:=Lib.hid i2;have HB:=Lib.hid hB;have U9:=Lib.hid hwc;have OX:=Lib.hid hws;have HZ:=Lib.hid hz
 have mO:w.heap.size<W.heap.size:=by omega
 have Kj:w.heap.size+1<W.heap.size:=by omega
 clear i1 i2 hB hwc hws hz
 go_loop [4,18] (fun o i=> ∃k:Nat,k<=n/\i= .int .i64 k/\o= .bool (ag.xE ok u k)) (fun _ i=>n - (intOf i).toNat)
 case atStart=>exact ⟨0,Nat.zero_le _,rfl,by rw[ag.OM]⟩
 case round=>
  obtain ⟨k,hk,rfl,rfl⟩:=hrel
  by_cases bI:k<n
  . have hc:=U9.out k bI
    rcases ag.ij (ag.xE ok u k) with ha|ha
    .   have HA:=Lib.hid (ag.aaN ha)
        go_wp2
        go_round
        case rel=>exact ⟨k+1,by omega,by go_num,by rw[HA.out]⟩
        case measure=>simp[intOf];omega
    .   have HA:=Lib.hid (ag.afp ha)
        go_wp2
        go_round
        case rel=>exact ⟨k+1,by omega,by go_num,by rw[HA.out]⟩
        case measure=>simp[intOf];omega
  . obtain rfl:k=n:=by omega
    rcases ag.ij (ag.xE ok u k) with ha|ha
    rotate_left
    .   have HA:=Lib.hid ha
        go_wp2
        refine bodyPost_ret (v:= .tuple #[.agg #[.int .u8 0,.int .i64 0,.string ⟨#[]⟩,.string ⟨#[]⟩,.string ⟨#[]⟩,.int .i64 0],.int .i64 3]) (by simp[results,Tryz.results35,go_sem, *]) rfl (ag.oC IX.out IY.out HN.out HU.out (by simp[ag.kZ,ag.valOf,ag.bE,HA.out]) ?_);(repeat (first|(with_reducible refine Below.setCell ?_ (by first|(simp;done)|(simp;omega)) _)|(with_reducible refine Below.alloc ?_ (by first|(simp;done)|(simp;omega)) _)|(with_reducible refine ag.below_drewN ?_ _)|(with_reducible exact HB.out)))
    .   have HA :=Lib.hid ha
        have c0:=U9.out 0 (by omega)
        by_cases hh:(u 0).toList=[104,97,114,100]
        . have HH:=Lib.hid hh
          have hh2:((u 0).toList==[104,97,114,100])=true:=by simpa using hh
          by_cases hn:1<k
          . have Hh: ∀W':World,Below W.heap.size W W'->Calls Tryz.prog 104 #[.agg #[.int .u8 0,.int .i64 (0),.string ⟨#[]⟩,.string ⟨#[]⟩,.string ⟨#[]⟩,.int .i64 0],.slice (some ⟨w.heap.size+1,1,none⟩) (k - 1) (k - 1)] W' (fun e w1=>e= .returned (ag.valOf (ag.qc (fun i=>u (i+1)) (k - 1) (0)))/\Below W.heap.size W w1):=
              fun W' hb=>(Wr.out (fun i=>u (i+1)) (0) (w.heap.size+1) 1 (k - 1) W' (Nat.lt_of_lt_of_le Kj hb.size) (fun i hi=>(hb.cell (p:=⟨w.heap.size+1,1+i,none⟩) Kj).trans ((U9.out (1+i) (by omega)).trans (by rw[Nat.add_comm]))) (by omega) (by unfold maxLen;omega) (fun i _=>OX.out _) (by omega)).mono (fun e w1 h=>⟨h.1,hb.trans (h.2.mono hb.size)⟩)
            have OY:=Lib.hid Hh;clear Hh
            rcases mH:ag.qc (fun i=>u (i+1)) (k - 1) (0) with e0|r0
            . have zR:=Lib.hid mH;clear mH
              go_wp2_with (first|(go_at_call 104;refine (OY.out _ (by (repeat (first|(with_reducible refine Below.setCell ?_ (by first|omega|(simp;done)|(simp;omega)) _)|(with_reducible refine Below.alloc ?_ (by first|omega|(simp;done)|(simp;omega)) _)|(with_reducible refine ag.below_drewN ?_ _)|(with_reducible exact Below.refl _ _))))).mono ?_;rintro e w1 ⟨he,hb⟩;rw[zR.out] at he;obtain rfl:e= .returned (.tuple #[.agg #[.int .u8 0,.int .i64 0,.string ⟨#[]⟩,.string ⟨#[]⟩,.string ⟨#[]⟩,.int .i64 0],.int .i64 e0]):=he;obtain ⟨k0,k1,k2,k3,k4,k5⟩:=(I1.out.below hb mO).mF;have kf:=(I1.out.below hb mO).frozen;have IZ:=Lib.hid (HB.out.trans (hb.mono (Nat.le_of_lt mO)));clear hb))
              refine bodyPost_ret (v:= .tuple #[.agg #[.int .u8 0,.int .i64 0,.string ⟨#[]⟩,.string ⟨#[]⟩,.string ⟨#[]⟩,.int .i64 0],.int .i64 e0]) (by simp[results,Tryz.results35,go_sem, *]) rfl (ag.oC IX.out IY.out HN.out HU.out (by simp[ag.kZ,HA.out,HH.out,hn,zR.out,ag.valOf,ag.bE,ag.RR.val]) ?_);(repeat (first|(with_reducible refine Below.setCell ?_ (by first|omega|(simp;done)|(simp;omega)) _)|(with_reducible refine Below.alloc ?_ (by first|omega|(simp;done)|(simp;omega)) _)|(with_reducible refine ag.below_drewN ?_ _)|(with_reducible exact IZ.out)))
            . have zR:=Lib.hid mH;clear mH
              go_wp2_with (first|(go_at_call 104;refine (OY.out _ (by (repeat (first|(with_reducible refine Below.setCell ?_ (by first|omega|(simp;done)|(simp;omega)) _)|(with_reducible refine Below.alloc ?_ (by first|omega|(simp;done)|(simp;omega)) _)|(with_reducible refine ag.below_drewN ?_ _)|(with_reducible exact Below.refl _ _))))).mono ?_;rintro e w1 ⟨he,hb⟩;rw[zR.out] at he;obtain rfl:e= .returned (.tuple #[.agg #[.int .u8 r0.k,.int .i64 r0.wt,.string r0.a,.string r0.b,.string r0.t,.int .i64 r0.n],.int .i64 0]):=he;obtain ⟨k0,k1,k2,k3,k4,k5⟩:=(I1.out.below hb mO).mF;have kf:=(I1.out.below hb mO).frozen;have IZ:=Lib.hid (HB.out.trans (hb.mono (Nat.le_of_lt mO)));clear hb))
              refine bodyPost_ret (v:= .tuple #[.agg #[.int .u8 r0.k,.int .i64 r0.wt,.string r0.a,.string r0.b,.string r0.t,.int .i64 r0.n],.int .i64 0]) (by simp[results,Tryz.results35,go_sem, *]) rfl (ag.oC IX.out IY.out HN.out HU.out (by simp[ag.kZ,HA.out,HH.out,hn,zR.out,ag.valOf,ag.bE,ag.RR.val]) ?_);(repeat (first|(with_reducible refine Below.setCell ?_ (by first|omega|(simp;done)|(simp;omega)) _)|(with_reducible refine Below.alloc ?_ (by first|omega|(simp;done)|(simp;omega)) _)|(with_reducible refine ag.below_drewN ?_ _)|(with_reducible exact IZ.out)))
          . obtain rfl:k=1:=by omega
            have gm:((u 0).toList==[119,101,105,103,104])=false:=by rw[hh];decide
            go_wp2
            refine bodyPost_ret (v:= .tuple #[.agg #[.int .u8 0,.int .i64 0,.string ⟨#[]⟩,.string ⟨#[]⟩,.string ⟨#[]⟩,.int .i64 0],.int .i64 3]) (by simp[results,Tryz.results35,go_sem, *]) rfl (ag.oC IX.out IY.out HN.out HU.out (by simp[ag.kZ,ag.valOf,ag.bE,HA.out,HH.out]) ?_);(repeat (first|(with_reducible refine Below.setCell ?_ (by first|omega|(simp;done)|(simp;omega)) _)|(with_reducible refine Below.alloc ?_ (by first|omega|(simp;done)|(simp;omega)) _)|(with_reducible refine ag.below_drewN ?_ _)|(with_reducible exact HB.out)))
        . have HH :=Lib.hid hh
          have hh2:((u 0).toList==[104,97,114,100])=false:=by simpa using hh
          by_cases hw:(u 0).toList=[119,101,105,103,104]
          . have HW :=Lib.hid hw
            have gm:((u 0).toList==[119,101,105,103,104])=true:=by simpa using hw
            by_cases hn:2<k
            . have c1:=U9.out 1 (by omega)
              rcases ag.ij (jt (u 1).data.toList) with gy|gy
              rotate_left
              . go_wp2_with (first|(go_at_call 103;refine (ag.lW _ _ (OX.out 1)).mono ?_;rintro e w' ⟨rfl,rfl⟩))
                refine bodyPost_ret (v:= .tuple #[.agg #[.int .u8 0,.int .i64 0,.string ⟨#[]⟩,.string ⟨#[]⟩,.string ⟨#[]⟩,.int .i64 0],.int .i64 3]) (by simp[results,Tryz.results35,go_sem, *]) rfl (ag.oC IX.out IY.out HN.out HU.out (by simp[ag.kZ,ag.valOf,ag.bE,HA.out,HW.out,hn,gy]) ?_);(repeat (first|(with_reducible refine Below.setCell ?_ (by first|omega|(simp;done)|(simp;omega)) _)|(with_reducible refine Below.alloc ?_ (by first|omega|(simp;done)|(simp;omega)) _)|(with_reducible refine ag.below_drewN ?_ _)|(with_reducible exact HB.out)))
              . obtain ⟨nv,hnv⟩: ∃nv,nv=sx (u 1).data.toList:=⟨_,rfl⟩
                have cW:=ag.ML (u 1).data.toList
                have Ws:=ag.lW (u 1)
                rw[<-hnv] at cW Ws
                have HNV:=Lib.hid hnv;clear hnv
                have HNU:=Lib.hid Ws;clear Ws
                obtain ⟨cW,cE⟩:=cW
                by_cases wj:(nv==0)=true
                . have hv:nv=0:=by simpa using wj
                  subst hv
                  have Hh: ∀W':World,Below W.heap.size W W'->Calls Tryz.prog 104 #[.agg #[.int .u8 0,.int .i64 (-1),.string ⟨#[]⟩,.string ⟨#[]⟩,.string ⟨#[]⟩,.int .i64 0],.slice (some ⟨w.heap.size+1,2,none⟩) (k - 2) (k - 2)] W' (fun e w1=>e= .returned (ag.valOf (ag.qc (fun i=>u (i+2)) (k - 2) (-1)))/\Below W.heap.size W w1):=
                    fun W' hb=>(Wr.out (fun i=>u (i+2)) (-1) (w.heap.size+1) 2 (k - 2) W' (Nat.lt_of_lt_of_le Kj hb.size) (fun i hi=>(hb.cell (p:=⟨w.heap.size+1,2+i,none⟩) Kj).trans ((U9.out (2+i) (by omega)).trans (by rw[Nat.add_comm]))) (by omega) (by unfold maxLen;omega) (fun i _=>OX.out _) (by omega)).mono (fun e w1 h=>⟨h.1,hb.trans (h.2.mono hb.size)⟩)
                  have OY:=Lib.hid Hh;clear Hh
                  rcases mH:ag.qc (fun i=>u (i+2)) (k - 2) (-1) with e0|r0
                  . have zR:=Lib.hid mH;clear mH
                    go_wp2_with (first|(go_at_call 103;refine (HNU.out _ (OX.out 1)).mono ?_;rintro e w' ⟨rfl,rfl⟩)|(go_at_call 104;refine (OY.out _ (by (repeat (first|(with_reducible refine Below.setCell ?_ (by first|omega|(simp;done)|(simp;omega)) _)|(with_reducible refine Below.alloc ?_ (by first|omega|(simp;done)|(simp;omega)) _)|(with_reducible refine ag.below_drewN ?_ _)|(with_reducible exact Below.refl _ _))))).mono ?_;rintro e w1 ⟨he,hb⟩;rw[zR.out] at he;obtain rfl:e= .returned (.tuple #[.agg #[.int .u8 0,.int .i64 0,.string ⟨#[]⟩,.string ⟨#[]⟩,.string ⟨#[]⟩,.int .i64 0],.int .i64 e0]):=he;obtain ⟨k0,k1,k2,k3,k4,k5⟩:=(I1.out.below hb mO).mF;have kf:=(I1.out.below hb mO).frozen;have IZ:=Lib.hid (HB.out.trans (hb.mono (Nat.le_of_lt mO)));clear hb))
                    refine bodyPost_ret (v:= .tuple #[.agg #[.int .u8 0,.int .i64 0,.string ⟨#[]⟩,.string ⟨#[]⟩,.string ⟨#[]⟩,.int .i64 0],.int .i64 e0]) (by simp[results,Tryz.results35,go_sem, *]) rfl (ag.oC IX.out IY.out HN.out HU.out (by simp[ag.kZ,HA.out,HW.out,hn,gy, <-HNV.out,zR.out,ag.valOf,ag.bE,ag.RR.val]) ?_);(repeat (first|(with_reducible refine Below.setCell ?_ (by first|omega|(simp;done)|(simp;omega)) _)|(with_reducible refine Below.alloc ?_ (by first|omega|(simp;done)|(simp;omega)) _)|(with_reducible refine ag.below_drewN ?_ _)|(with_reducible exact IZ.out)))
                  . have zR:=Lib.hid mH;clear mH
                    go_wp2_with (first|(go_at_call 103;refine (HNU.out _ (OX.out 1)).mono ?_;rintro e w' ⟨rfl,rfl⟩)|(go_at_call 104;refine (OY.out _ (by (repeat (first|(with_reducible refine Below.setCell ?_ (by first|omega|(simp;done)|(simp;omega)) _)|(with_reducible refine Below.alloc ?_ (by first|omega|(simp;done)|(simp;omega)) _)|(with_reducible refine ag.below_drewN ?_ _)|(with_reducible exact Below.refl _ _))))).mono ?_;rintro e w1 ⟨he,hb⟩;rw[zR.out] at he;obtain rfl:e= .returned (.tuple #[.agg #[.int .u8 r0.k,.int .i64 r0.wt,.string r0.a,.string r0.b,.string r0.t,.int .i64 r0.n],.int .i64 0]):=he;obtain ⟨k0,k1,k2,k3,k4,k5⟩:=(I1.out.below hb mO).mF;have kf:=(I1.out.below hb mO).frozen;have IZ:=Lib.hid (HB.out.trans (hb.mono (Nat.le_of_lt mO)));clear hb))
                    refine bodyPost_ret (v:= .tuple #[.agg #[.int .u8 r0.k,.int .i64 r0.wt,.string r0.a,.string r0.b,.string r0.t,.int .i64 r0.n],.int .i64 0]) (by simp[results,Tryz.results35,go_sem, *]) rfl (ag.oC IX.out IY.out HN.out HU.out (by simp[ag.kZ,HA.out,HW.out,hn,gy, <-HNV.out,zR.out,ag.valOf,ag.bE,ag.RR.val]) ?_);(repeat (first|(with_reducible refine Below.setCell ?_ (by first|omega|(simp;done)|(simp;omega)) _)|(with_reducible refine Below.alloc ?_ (by first|omega|(simp;done)|(simp;omega)) _)|(with_reducible refine ag.below_drewN ?_ _)|(with_reducible exact IZ.out)))
                . have LB:(nv==0)=false:=by simpa using wj
                  have HV:Hid (¬nv=0):=Lib.hid (by simpa using wj)
                  clear wj
                  have Hh: ∀W':World,Below W.heap.size W W'->Calls Tryz.prog 104 #[.agg #[.int .u8 0,.int .i64 (nv),.string ⟨#[]⟩,.string ⟨#[]⟩,.string ⟨#[]⟩,.int .i64 0],.slice (some ⟨w.heap.size+1,2,none⟩) (k - 2) (k - 2)] W' (fun e w1=>e= .returned (ag.valOf (ag.qc (fun i=>u (i+2)) (k - 2) (nv)))/\Below W.heap.size W w1):=
                    fun W' hb=>(Wr.out (fun i=>u (i+2)) (nv) (w.heap.size+1) 2 (k - 2) W' (Nat.lt_of_lt_of_le Kj hb.size) (fun i hi=>(hb.cell (p:=⟨w.heap.size+1,2+i,none⟩) Kj).trans ((U9.out (2+i) (by omega)).trans (by rw[Nat.add_comm]))) (by omega) (by unfold maxLen;omega) (fun i _=>OX.out _) (by omega)).mono (fun e w1 h=>⟨h.1,hb.trans (h.2.mono hb.size)⟩)
                  have OY:=Lib.hid Hh;clear Hh
                  rcases mH:ag.qc (fun i=>u (i+2)) (k - 2) (nv) with e0|r0
                  . have zR:=Lib.hid mH;clear mH
                    go_wp2_with (first|(go_at_call 103;refine (HNU.out _ (OX.out 1)).mono ?_;rintro e w' ⟨rfl,rfl⟩)|(go_at_call 104;refine (OY.out _ (by (repeat (first|(with_reducible refine Below.setCell ?_ (by first|omega|(simp;done)|(simp;omega)) _)|(with_reducible refine Below.alloc ?_ (by first|omega|(simp;done)|(simp;omega)) _)|(with_reducible refine ag.below_drewN ?_ _)|(with_reducible exact Below.refl _ _))))).mono ?_;rintro e w1 ⟨he,hb⟩;rw[zR.out] at he;obtain rfl:e= .returned (.tuple #[.agg #[.int .u8 0,.int .i64 0,.string ⟨#[]⟩,.string ⟨#[]⟩,.string ⟨#[]⟩,.int .i64 0],.int .i64 e0]):=he;obtain ⟨k0,k1,k2,k3,k4,k5⟩:=(I1.out.below hb mO).mF;have kf:=(I1.out.below hb mO).frozen;have IZ:=Lib.hid (HB.out.trans (hb.mono (Nat.le_of_lt mO)));clear hb))
                    refine bodyPost_ret (v:= .tuple #[.agg #[.int .u8 0,.int .i64 0,.string ⟨#[]⟩,.string ⟨#[]⟩,.string ⟨#[]⟩,.int .i64 0],.int .i64 e0]) (by simp[results,Tryz.results35,go_sem, *]) rfl (ag.oC IX.out IY.out HN.out HU.out (by simp[ag.kZ,HA.out,HW.out,hn,gy, <-HNV.out,HV.out,zR.out,ag.valOf,ag.bE,ag.RR.val]) ?_);(repeat (first|(with_reducible refine Below.setCell ?_ (by first|omega|(simp;done)|(simp;omega)) _)|(with_reducible refine Below.alloc ?_ (by first|omega|(simp;done)|(simp;omega)) _)|(with_reducible refine ag.below_drewN ?_ _)|(with_reducible exact IZ.out)))
                  . have zR:=Lib.hid mH;clear mH
                    go_wp2_with (first|(go_at_call 103;refine (HNU.out _ (OX.out 1)).mono ?_;rintro e w' ⟨rfl,rfl⟩)|(go_at_call 104;refine (OY.out _ (by (repeat (first|(with_reducible refine Below.setCell ?_ (by first|omega|(simp;done)|(simp;omega)) _)|(with_reducible refine Below.alloc ?_ (by first|omega|(simp;done)|(simp;omega)) _)|(with_reducible refine ag.below_drewN ?_ _)|(with_reducible exact Below.refl _ _))))).mono ?_;rintro e w1 ⟨he,hb⟩;rw[zR.out] at he;obtain rfl:e= .returned (.tuple #[.agg #[.int .u8 r0.k,.int .i64 r0.wt,.string r0.a,.string r0.b,.string r0.t,.int .i64 r0.n],.int .i64 0]):=he;obtain ⟨k0,k1,k2,k3,k4,k5⟩:=(I1.out.below hb mO).mF;have kf:=(I1.out.below hb mO).frozen;have IZ:=Lib.hid (HB.out.trans (hb.mono (Nat.le_of_lt mO)));clear hb))
                    refine bodyPost_ret (v:= .tuple #[.agg #[.int .u8 r0.k,.int .i64 r0.wt,.string r0.a,.string r0.b,.string r0.t,.int .i64 r0.n],.int .i64 0]) (by simp[results,Tryz.results35,go_sem, *]) rfl (ag.oC IX.out IY.out HN.out HU.out (by simp[ag.kZ,HA.out,HW.out,hn,gy, <-HNV.out,HV.out,zR.out,ag.valOf,ag.bE,ag.RR.val]) ?_);(repeat (first|(with_reducible refine Below.setCell ?_ (by first|omega|(simp;done)|(simp;omega)) _)|(with_reducible refine Below.alloc ?_ (by first|omega|(simp;done)|(simp;omega)) _)|(with_reducible refine ag.below_drewN ?_ _)|(with_reducible exact IZ.out)))
            . have hn':decide (2<(k:Int))=false:=by rw[decide_eq_false_iff_not];omega
              go_wp2
              refine bodyPost_ret (v:= .tuple #[.agg #[.int .u8 0,.int .i64 0,.string ⟨#[]⟩,.string ⟨#[]⟩,.string ⟨#[]⟩,.int .i64 0],.int .i64 3]) (by simp[results,Tryz.results35,go_sem, *]) rfl (ag.oC IX.out IY.out HN.out HU.out (by simp[ag.kZ,ag.valOf,ag.bE,HA.out,HW.out,hn]) ?_);(repeat (first|(with_reducible refine Below.setCell ?_ (by first|omega|(simp;done)|(simp;omega)) _)|(with_reducible refine Below.alloc ?_ (by first|omega|(simp;done)|(simp;omega)) _)|(with_reducible refine ag.below_drewN ?_ _)|(with_reducible exact HB.out)))
          . have HW:=Lib.hid hw
            have gm:((u 0).toList==[119,101,105,103,104])=false:=by simpa using hw
            go_wp2
            refine bodyPost_ret (v:= .tuple #[.agg #[.int .u8 0,.int .i64 0,.string ⟨#[]⟩,.string ⟨#[]⟩,.string ⟨#[]⟩,.int .i64 0],.int .i64 3]) (by simp[results,Tryz.results35,go_sem, *]) rfl (ag.oC IX.out IY.out HN.out HU.out (by simp[ag.kZ,ag.valOf,ag.bE,HA.out,HW.out,HH.out]) ?_);(repeat (first|(with_reducible refine Below.setCell ?_ (by first|omega|(simp;done)|(simp;omega)) _)|(with_reducible refine Below.alloc ?_ (by first|omega|(simp;done)|(simp;omega)) _)|(with_reducible refine ag.below_drewN ?_ _)|(with_reducible exact HB.out)))
end Go.Proofs
end
section
namespace Go.Proofs
open Go.RowKit Go.ag
theorem ag.ahW (u:Nat->ByteArray) (wt:Int) (B off len:Nat) (w:World) (hB:B<w.heap.size) (hc: ∀i,i<len->w.cell? ⟨B,off+i,none⟩=some (.string (u i))) (h1:1<=len) (h3:len<=maxLen) (hu: ∀i,i<len->(u i).size<=maxLen) (td: -1<=wt/\wt<=999999999):
   Calls Tryz.prog 104 #[.agg #[.int .u8 0,.int .i64 wt,.string ⟨#[]⟩,.string ⟨#[]⟩,.string ⟨#[]⟩,.int .i64 0],.slice (some ⟨B,off,none⟩) len len] w (ag.vp u len wt w):=by
 rcases ag.shape (kindOf (u 0).data.toList) (eS _) with h|h|h|h|h|h|h|h|h
 . exact ag.ahU u wt B off len w hB hc h1 h3 hu td h
 . exact ag.afC u wt B off len w hB hc h1 h3 hu td h
 . exact ag.afD u wt B off len w hB hc h1 h3 hu td h
 . exact ag.afE u wt B off len w hB hc h1 h3 hu td h
 . exact ag.afF u wt B off len w hB hc h1 h3 hu td h
 . exact ag.afG u wt B off len w hB hc h1 h3 hu td h
 . exact ag.afH u wt B off len w hB hc h1 h3 hu td h
 . exact ag.afI u wt B off len w hB hc h1 h3 hu td h
 . exact ag.afJ u wt B off len w hB hc h1 h3 hu td h
theorem ag.line (s:ByteArray) (m:Int) (w:World) (hs:s.size<=2097152) (hm:w.cell? ⟨1,0,none⟩=some (.int .i64 m)):Calls Tryz.prog 35 #[.string s] w (ag.PR s w):=
 ag.ahV ag.ahW s m w hs hm
end Go.Proofs
end
section
namespace Go.ag
open Go Go.RowKit
variable {F : Fence} {n : Nat} {P : Program}
structure Ho (b:Nat) (W W':World):Prop where
 cell:W'.cell? ⟨b,0,none⟩=W.cell? ⟨b,0,none⟩
 dc:W'.frozen? ⟨b,0,none⟩=W.frozen? ⟨b,0,none⟩
theorem Ho.trans {b:Nat} {A B C:World} (h:Ho b A B) (k:Ho b B C):Ho b A C:=⟨k.cell.trans h.cell,k.dc.trans h.dc⟩
theorem Ho.putObj {b l:Nat} {W:World} (o:Obj) (h:b≠l):Ho b W (W.putObj l o):=by
 have:(W.putObj l o).heap[b]? =W.heap[b]? :=World.putObj_heap_other h
 exact ⟨by simp[World.cell?,this],by simp[World.frozen?,this]⟩
def xM (b:Nat) {β:Type} (J:β->World->Prop):Prop:= ∀s W v,J s W->J s (W.setCell ⟨b,0,none⟩ v)
def SeqC {α:Type} (F:Fence) (n:Nat) (P:Program) (g b:Nat) (lb:Array Value) (encs:α->Array Value) (xs:List α) (w:World):Prop:=
 ∀  (l:Nat) (J Jx:List α->World->Prop) (W:World),Below w.heap.size w W->AbidesFrom W.heap.size J->AbidesFrom W.heap.size Jx->xM b J->xM b Jx->
    (∀pre x W1,J pre W1->pre++[x] <+: xs->YieldAt F (n - 1) P l (encs x) W1 fun e W'=>
     (e= .returned (.bool true)/\J (pre++[x]) W'/\Ho b W1 W')\/(e= .returned (.bool false)/\Jx (pre++[x]) W'))->
    J [] W->
    CallsIn F n P g (#[.func (.yield l) #[] #[]]++lb) W fun e W'=>(∃v,e= .returned v)/\(J xs W'\/ ∃pre,pre <+: xs/\Jx pre W')
def Y9 {α:Type} (b B:Nat) (I:List α->World->Prop) (Ix:List α->World->Prop) (xs:List α) (W:World):Exit->Act->World->Prop
 | .normal,_,W'=>KeepsFrom B W W'/\Ho b W W'/\I xs W'
 | .ret,_,W'=>KeepsFrom B W W'/\Ix xs W'
 |_,_,_=>False
theorem TZ {α:Type} {g:Operand} {ps:Array Tmp} {assign body:Code} {Q:Exit->Act->World->Prop} {a:Act} {w:World}
   (Og:F.round=none) (h1:1<=n) {gf b:Nat} {lb:Array Value} (hg:a.eval g= .func (.func gf) #[] lb) (hFg:F.fn gf) (eg: ∀args w,(callFunc gf args).run P w= .ok (.enter gf args) w)
   {encs:α->Array Value} {xs:List α} (hseq:SeqC F (n - 1) P gf b lb encs xs w) (hbw:b<w.heap.size) (Uh: ∀x,(encs x).size=ps.size)
   (I:List α->World->Prop) (Ix:List α->World->Prop) (hI:OwnFrom w.heap.size I) (hIx:OwnFrom w.heap.size Ix) (hIs:xM b I) (hIxs:xM b Ix) (h0:I [] w) (a₁:α->Act)
   (afq: ∀(l:Nat) (x:α) (W:World) (K:Act->World->Prop),K (a₁ x) W->
     assign.wpIn (F.inRound l) (n - 1 - 1) P (Exit.then K (fun _ _ _=>False)) { tmps:=(ps.zip (encs x)).foldl (fun t (p,v)=>t.setIfInBounds p v) a.tmps,defers:=[] } W)
   (PS: ∀(l:Nat) (pre:List α) (x:α) (W:World),I pre W->pre++[x] <+: xs->w.heap.size<=W.heap.size->body.wpIn (F.inRound l) (n - 1 - 1) P (Y9 b w.heap.size I Ix (pre++[x]) W) (a₁ x) W)
   (aiW: ∀(D:Nat) (W:World),w.heap.size<=D->I xs W->W.heap[D]? =some (.deferred (some []))->Q .normal { a with defers:={ target:= .collected D,args:= #[] }::a.defers } W)
   (aiX: ∀(D:Nat) (pre:List α) (W:World),w.heap.size<=D->pre <+: xs->Ix pre W->W.heap[D]? =some (.deferred (some []))->Code.ret.wpIn F n P Q { a with defers:={ target:= .collected D,args:= #[] }::a.defers } W):
   (Code.rangeFunc g ps assign body).wpIn F n P Q a w:=by
 refine wpIn_rangeFunc fun fn jM=> ?_
 rw[Og]
 let Lq:LoopState->Option Code->Loop:=fun st pe=>{ state:=st,pending:=pe,fn,tmps:=a.tmps,params:=ps,assign,body,defers:=w.heap.size }
 let L:Nat:=w.heap.size+1
 let W1:World:=(w.alloc (.deferred (some []))).alloc (.loop (Lq .ready none))
 have hL1:W1.heap[L]? =some (.loop (Lq .ready none)):=by
   have:=World.alloc_heap_new (w.alloc (.deferred (some []))) (.loop (Lq .ready none));rwa [World.size_alloc] at this
 have hK1:W1.heap[w.heap.size]? =some (.deferred (some [])):=(Below.heap_alloc _ _ _ (by simp)).trans (World.alloc_heap_new w _)
 have hWs:W1.heap.size=w.heap.size+1+1:=by show ((w.alloc _).alloc _).heap.size=_;simp
 have cW:Below w.heap.size w W1:=((Below.refl _ w).alloc (Nat.le_refl _) _).alloc (by simp) _
 let J:List α->World->Prop:=fun pre W=>I pre W/\W.heap[L]? =some (.loop (Lq .ready none))/\W.heap[w.heap.size]? =some (.deferred (some []))/\w.heap.size<=W.heap.size
 let Jx:List α->World->Prop:=fun pre W=>Ix pre W/\W.heap[L]? =some (.loop (Lq .done (some .ret)))/\W.heap[w.heap.size]? =some (.deferred (some []))/\w.heap.size<=W.heap.size
 have up: ∀{A:World} {row:Option Nat},(∀r,row=some r->W1.heap.size<=r/\ ∃o:Obj,A.heap[r]? =some o/\o.isWalk=true)-> ∀r,row=some r->w.heap.size<=r/\ ∃o:Obj,A.heap[r]? =some o/\o.isCells=false:=
   fun hr r e=>by obtain ⟨q,o,ho,hw⟩:=hr r e;exact ⟨by omega,o,ho,Obj.not_cells_of_walk hw⟩
 have hJ:AbidesFrom W1.heap.size J:=fun s A B row hs wP hr=>
   ⟨hI s A B row hs.1 wP (up hr),(grownBy_keeps wP (fun r e=>(hr r e).2) hs.2.1 rfl).trans hs.2.1,(grownBy_keeps wP (fun r e=>(hr r e).2) hs.2.2.1 rfl).trans hs.2.2.1,Nat.le_trans hs.2.2.2 wP.size⟩
 have hJx:AbidesFrom W1.heap.size Jx:=fun s A B row hs wP hr=>
   ⟨hIx s A B row hs.1 wP (up hr),(grownBy_keeps wP (fun r e=>(hr r e).2) hs.2.1 rfl).trans hs.2.1,(grownBy_keeps wP (fun r e=>(hr r e).2) hs.2.2.1 rfl).trans hs.2.2.1,Nat.le_trans hs.2.2.2 wP.size⟩
 have yj: ∀(W:World) (v:Value) (k:Nat),w.heap.size<=k->(W.setCell ⟨b,0,none⟩ v).heap[k]? =W.heap[k]? :=fun W v k hk=>Below.heap_setCell W _ v k (by show k≠b;omega)
 have Va:xM b J:=fun s W v hs=>⟨hIs s W v hs.1,(yj _ _ _ (by show w.heap.size<=w.heap.size+1;omega)).trans hs.2.1,(yj _ _ _ (Nat.le_refl _)).trans hs.2.2.1,by rw[World.size_setCell];exact hs.2.2.2⟩
 have hJxs:xM b Jx:=fun s W v hs=>⟨hIxs s W v hs.1,(yj _ _ _ (by show w.heap.size<=w.heap.size+1;omega)).trans hs.2.1,(yj _ _ _ (Nat.le_refl _)).trans hs.2.2.1,by rw[World.size_setCell];exact hs.2.2.2⟩
 refine ⟨L,[{ target:= .collected w.heap.size,args:= #[] }],W1,{ target:= .fn (.func gf) lb,args:= #[.func (.yield L) #[] #[]] },W1,gf, #[.func (.yield L) #[] #[]]++lb,W1,run_enterLoop_outer _ _ _ _ _,?_,?_,?_,fun _=>h1,?_⟩
 . simp only[resolve,hg];simp[go_sem]
 . intro f' Uk;simp[Target.leads] at Uk;subst Uk;exact hFg
 . simp[invoke,go_sem,eg]
 refine (hseq L J Jx W1 cW hJ hJx Va hJxs ?_ ⟨hI.alloc _ (hI.alloc _ h0),hL1,hK1,by omega⟩).mono ?_
 ·
   rintro pre x W ⟨hi,hl,hk,fh⟩ Lr
   have bI:L<W.heap.size:=(Array.getElem?_eq_some_iff.1 hl).1
   refine ⟨fn,_,assign,body,run_yield (P:=P) (args:=encs x) hl (Uh x),roundIn_of_wpIn jM (afq _ x W _ ⟨_,run_beginRound hl rfl,?_⟩)⟩
   have hneL:b≠L:=by show b≠w.heap.size+1;omega
   let W2:World:=W.putObj L (.loop { Lq .ready none with state:= .busy })
   have mb:W2.heap[L]? =some (.loop { Lq .ready none with state:= .busy }):=World.putObj_heap_same bI
   have tE:W2.heap[w.heap.size]? =some (.deferred (some [])):=(World.putObj_heap_other (by show w.heap.size≠w.heap.size+1;omega)).trans hk
   have aaQ:w.heap.size<=W2.heap.size:=Nat.le_trans fh (grownBy_putObj' W L _).size
   refine wpIn_mono (PS L pre x W2 (hI.putObj _ hi (by show w.heap.size<=w.heap.size+1;omega) hl rfl) Lr aaQ) ?_
   rintro e a3 W3 hp
   cases e with
   | normal=>
     obtain ⟨Am,hkp3,Mx⟩:=hp
     have S9:=Am.same _ _ (by show w.heap.size<=w.heap.size+1;omega) mb rfl
     have aaR:=(Array.getElem?_eq_some_iff.1 S9).1
     exact ⟨_,_,run_endRound (P:=P) none S9,.inl ⟨rfl,⟨hI.putObj _ Mx (by show w.heap.size<=w.heap.size+1;omega) S9 rfl,World.putObj_heap_same aaR,(World.putObj_heap_other (by show w.heap.size≠w.heap.size+1;omega)).trans (Am.same _ _ (Nat.le_refl _) tE rfl),Nat.le_trans (Nat.le_trans aaQ Am.size) (grownBy_putObj' W3 L _).size⟩,
        ((Ho.putObj _ hneL).trans hkp3).trans (Ho.putObj _ hneL)⟩⟩
   | ret=>
     obtain ⟨Am,Mx⟩:=hp
     have S9:=Am.same _ _ (by show w.heap.size<=w.heap.size+1;omega) mb rfl
     have aaR:=(Array.getElem?_eq_some_iff.1 S9).1
     exact ⟨_,_,run_endRound (P:=P) (some .ret) S9,.inr ⟨rfl,hIx.putObj _ Mx (by show w.heap.size<=w.heap.size+1;omega) S9 rfl,World.putObj_heap_same aaR,(World.putObj_heap_other (by show w.heap.size≠w.heap.size+1;omega)).trans (Am.same _ _ (Nat.le_refl _) tE rfl),Nat.le_trans (Nat.le_trans aaQ Am.size) (grownBy_putObj' W3 L _).size⟩⟩
   |exit id=>exact hp.elim
   |goto t=>exact hp.elim
   |panic ch=>exact hp.elim
   |outgrown=>exact hp.elim
 ·
   rintro e W2 ⟨⟨v,rfl⟩,(⟨hi,hl,hk,_⟩|⟨pre,Lr,hi,hl,hk,_⟩)⟩
   . exact ⟨none,_,run_endLoop (P:=P) hl (by show LoopState.ready≠LoopState.busy;simp),aiW _ _ (Nat.le_refl _) (hI.putObj _ hi (by show w.heap.size<=w.heap.size+1;omega) hl rfl) ((World.putObj_heap_other (by show w.heap.size≠w.heap.size+1;omega)).trans hk)⟩
   . exact ⟨some .ret,_,run_endLoop (P:=P) hl (by show LoopState.done≠LoopState.busy;simp),aiX _ pre _ (Nat.le_refl _) Lr (hIx.putObj _ hi (by show w.heap.size<=w.heap.size+1;omega) hl rfl) ((World.putObj_heap_other (by show w.heap.size≠w.heap.size+1;omega)).trans hk)⟩
end Go.ag
end
section
namespace Go.ag
open Go
def rG (s:ByteArray):Int:=Lib.indexByte s.data.toList 10
def si:Nat->ByteArray->List ByteArray
 |0,_=>[]
 |f+1,s=>if s.size=0 then [] else if rG s<0 then [s] else s.extract 0 ((rG s).toNat+1)::si f (s.extract ((rG s).toNat+1) s.size)
def fA (s:ByteArray):List ByteArray:=si s.size s
theorem afr (s:ByteArray): -1<=rG s:=Lib.indexByte_ge _ _
theorem afs (s:ByteArray) (h:0<=rG s):(rG s).toNat<s.size:=by
 have e:rG s=((rG s).toNat:Int):=by omega
 have:=(Lib.indexByte_some (l:=s.data.toList) (c:=10) (o:=(rG s).toNat) e).1
 have:=(List.getElem?_eq_some_iff.1 this).1
 simpa using this
theorem Kn: ∀(f g:Nat) (s:ByteArray),s.size<=f->s.size<=g->si f s=si g s
 |0,0,_,_,_=>rfl
 |0,g+1,s,h,_=>by
  have:s.size=0:=by omega
  simp[si,this]
 |f+1,0,s,_,h=>by
  have:s.size=0:=by omega
  simp[si,this]
 |f +1,g+1,s,h1,h2=>by
  unfold si
  split
  . rfl
  . split
    . rfl
    . rw[Kn f g _ (by simp;omega) (by simp;omega)]
theorem M0 {s:ByteArray} (h:s.size=0):fA s=[]:=by unfold fA;rw[h];rfl
theorem T3 {s:ByteArray} (h:s.size≠0) (hi:rG s<0):fA s=[s]:=by
 unfold fA
 obtain ⟨k,hk⟩: ∃k,s.size=k+1:=⟨s.size - 1,by omega⟩
 rw[hk]
 simp only[si]
 rw[if_neg h,if_pos hi]
theorem M3 {s:ByteArray} (h:s.size≠0) (hi:0<=rG s):fA s=s.extract 0 ((rG s).toNat+1)::fA (s.extract ((rG s).toNat+1) s.size):=by
 unfold fA
 obtain ⟨k,hk⟩: ∃k,s.size=k+1:=⟨s.size - 1,by omega⟩
 conv=>lhs;rw[hk]
 simp only[si]
 rw[if_neg h,if_neg (by omega)]
 rw[Kn k _ _ (by simp;omega) (Nat.le_refl _)]
theorem Ko: ∀(f:Nat) (s x:ByteArray),x∈si f s->x.size<=s.size
 |0,_,_,h=>by simp[si] at h
 |f +   1,s,x,h=>by
  unfold si at h
  split at h
  . simp at h
  . split at h
    .   simp at h;rw[h];exact Nat.le_refl _
    .   rcases List.mem_cons.1 h with rfl|h
        . simp;omega
        . have:=Ko f _ x h
          simp at this;omega
theorem T5 (s x:ByteArray) (h:x∈fA s):x.size<=s.size:=Ko _ s x h
def Ta (w:World) (b:Nat):Nat:=match w.cell? ⟨b,0,none⟩ with
 |some (.string r)=>r.size
 |_=>0
theorem DB {w:World} {b:Nat} {r:ByteArray} (h:w.cell? ⟨b,0,none⟩=some (.string r)):Ta w b=r.size:=by unfold Ta;rw[h]
end Go.ag
namespace Go.Proofs
open Go.RowKit Go.Shelf Go.ag
attribute [local go_sem] Oper.semAt_some
theorem ag.grown_drewN (w:World) (k:Nat):w.grownBy (w.drewN k) none:=⟨rfl,rfl,rfl,Nat.le_refl _,fun _ _ _=>rfl⟩
theorem ag.abp (r:ByteArray) (w:World):Calls Tryz.prog 108 #[.string r,.int .u8 10] w fun e w'=>e= .returned (.int .i64 (rG r))/\w=w':=(Tryz.strings_IndexByte r 10 w).mono fun _ _ h=>⟨h.1,h.2.symm⟩
set_option maxRecDepth 100000 in
set_option maxHeartbeats 2000000 in
theorem ag.afu (n:Nat) (l b:Nat) (s:ByteArray) (hs:s.size<=65536) (J Jx:List ByteArray->World->Prop) (W:World) (B0:Nat) (hJ:AbidesFrom B0 J) (hJx:AbidesFrom B0 Jx) (Va:xM b J)
  (hY: ∀pre x W1,J pre W1->pre++[x] <+: fA s->YieldAt Fence.wide (n - 1) Tryz.prog l #[.string x] W1 fun e W'=>
    (e= .returned (.bool true)/\J (pre++[x]) W'/\Ho b W1 W')\/(e= .returned (.bool false)/\Jx (pre++[x]) W'))
  (hn:1<=n) (hb:W.cell? ⟨b,0,none⟩=some (.string s)) (hf:W.frozen? ⟨b,0,none⟩=false) (h0:J [] W):
  CallsIn Fence.wide n Tryz.prog 107 #[.func (.yield l) #[] #[],.pointer (some ⟨b,0,none⟩)] W fun e W'=>(∃v,e= .returned v)/\(J (fA s) W'\/ ∃pre,pre <+: fA s/\Jx pre W'):=by
 have HY:=Lib.hid hY;clear hY
 refine callsIn_of_wp Tryz.func107 rfl trivial ?_ rfl
 simp only[Tryz.ntmps107,List.size_toArray,List.length_cons,List.length_nil,Nat.reduceAdd,Nat.reduceSub,Array.replicate_succ,Array.replicate_zero,List.push_toArray,List.append_toArray,List.nil_append,List.cons_append]
 gi_wp2
 gi_loopw [3] (fun _ wr=> ∃(pre:List ByteArray) (r:ByteArray),wr.cell? ⟨b,0,none⟩=some (.string r)/\wr.frozen? ⟨b,0,none⟩=false/\fA s=pre++fA r/\r.size<=s.size/\J pre wr) (fun _ wr=>Ta wr b)
 case atStart=>exact ⟨[],s,hb,hf,rfl,Nat.le_refl _,h0⟩
 case round=>
  obtain ⟨pre,r,hc,LD,wQ,Ig,hj⟩:=hrel
  have Tb:=Lib.hid wQ;have HJ0:=Lib.hid hj;clear wQ hj
  by_cases sL:r.size=0
  . gi_wp2
    go_end0
    refine ⟨⟨_,rfl⟩,.inl ?_⟩
    rw[Tb.out,M0 sL,List.append_nil];exact HJ0.out
  . have UP:0<r.size:=by omega
    have hge:=afr r
    by_cases hi:rG r<0
    .   have HL:=Lib.hid (T3 sL hi)
        have hj1:=Va _ _ (.string ⟨#[]⟩) HJ0.out
        obtain ⟨fn,tmps,assign,body,hy,hR⟩:=HY.out pre r _ hj1 (by rw[Tb.out,HL.out];exact List.prefix_refl _)
        gi_wp2_with (first|(refine ⟨trivial,?_⟩;gi_at_call 108;refine (callsIn_wide.2 (ag.abp r _)).mono ?_;rintro e w' ⟨rfl,rfl⟩))
        refine hR.mono ?_
        rintro e W3 (⟨rfl,hJ3,Am⟩|⟨rfl,aaS⟩)
        . have Za:W3.cell? ⟨b,0,none⟩=some (.string ⟨#[]⟩):=Am.cell.trans (World.cell?_setCell_same' _ _ _ (by rw[hc];rfl))
          have hf3:W3.frozen? ⟨b,0,none⟩=false:=Am.dc.trans (by rw[World.frozen?_setCell];exact LD)
          gi_wp2
          go_roundw
          case rel=>exact ⟨pre++[r],⟨#[]⟩,Za,hf3,by rw[Tb.out,HL.out,M0 (s:=⟨#[]⟩) rfl,List.append_nil],Nat.zero_le _,hJ3⟩
          case measure=>rw[DB Za,DB hc];exact UP
        . gi_wp2
          refine bodyPost_ret (results_none rfl _ _ _) rfl ?_
          exact ⟨⟨_,rfl⟩,.inr ⟨pre++[r],by rw[Tb.out,HL.out];exact List.prefix_refl _,aaS⟩⟩
    .   have bI:=afs r (by omega)
        obtain ⟨i,WW⟩: ∃i:Nat,rG r=i:=⟨(rG r).toNat,by omega⟩
        have HH:=Lib.hid (M3 sL (by omega:0<=rG r))
        have HIX:=ag.abp r
        rw[WW] at HIX
        have HI:=Lib.hid HIX;clear HIX
        have tR:i<r.size:=by omega
        have HIE:=Lib.hid WW;clear WW hge hi bI
        gi_wp2_with (first|(refine ⟨trivial,?_⟩;gi_at_call 108;refine (callsIn_wide.2 (HI.out _)).mono ?_;rintro e w' ⟨rfl,rfl⟩))
        gi_region
        have hj1:J pre (wr.setCell ⟨b,0,none⟩ (.string (r.extract (i+1) r.size))).drew:=hJ _ _ _ none (Va _ _ (.string (r.extract (i+1) r.size)) HJ0.out) (ag.grown_drewN _ 1) (fun _ e=>by cases e)
        obtain ⟨fn,tmps,assign,body,hy,hR⟩:=HY.out pre (r.extract 0 (i+1)) _ hj1 (by
          rw[Tb.out,HH.out,HIE.out]
          exact ⟨fA (r.extract (i+1) r.size),by simp⟩)
        gi_wp2
        refine hR.mono ?_
        rintro e W3 (⟨rfl,hJ3,Am⟩|⟨rfl,aaS⟩)
        . have Za:W3.cell? ⟨b,0,none⟩=some (.string (r.extract (i+1) r.size)):=Am.cell.trans (World.cell?_setCell_same' _ _ _ (by rw[hc];rfl))
          have hf3:W3.frozen? ⟨b,0,none⟩=false:=Am.dc.trans (by show (wr.setCell _ _).frozen? _=false;rw[World.frozen?_setCell];exact LD)
          gi_wp2
          go_roundw
          case rel=>exact ⟨pre++[r.extract 0 (i+1)],r.extract (i+1) r.size,Za,hf3,by rw[Tb.out,HH.out,HIE.out];simp,by simp;omega,hJ3⟩
          case measure=>rw[DB Za,DB hc];simp;omega
        . gi_wp2
          refine bodyPost_ret (results_none rfl _ _ _) rfl ?_
          exact ⟨⟨_,rfl⟩,.inr ⟨pre++[r.extract 0 (i+1)],by rw[Tb.out,HH.out,HIE.out];exact ⟨fA (r.extract (i+1) r.size),by simp⟩,aaS⟩⟩
end Go.Proofs
end
section
namespace Go.Proofs
open Go.RowKit Go.Shelf Go.ag
attribute [local go_sem] Oper.semAt_some
def ag.l5 (x:ByteArray):Int ⊕ ag.RR:=ag.kZ (ag.DU x) (ag.oA (ag.vX x)) (ag.lD (ag.vX x))
def ag.RR.cells (r:ag.RR):List Value:=[.int .u8 r.k,.int .i64 r.wt,.string r.a,.string r.b,.string r.t,.int .i64 r.n]
def ag.cellsOf (rs:List ag.RR):List Value:=rs.flatMap ag.RR.cells
theorem ag.Tc (rs:List ag.RR) (r:ag.RR):ag.cellsOf (rs++[r])=ag.cellsOf rs++r.cells:=by simp[ag.cellsOf]
theorem ag.ER (rs:List ag.RR):(ag.cellsOf rs).length=rs.length*6:=by
 induction rs with
 |nil=>rfl
 |cons r rs ih=>simp[ag.cellsOf] at ih ⊢; rw[ih];simp[ag.RR.cells];omega
def ag.Cy:List ag.RR->List ByteArray->Int×Nat×List ag.RR
 |acc,[]=>(0,0,acc)
 |  acc,x::xs=>match ag.l5 x with
    | .inl e=>(e,acc.length,[])
    | .inr r=>if acc.length=64 then (7,64,[]) else ag.Cy (acc++[r]) xs
def ag.ki (s:ByteArray):Int×Nat×List ag.RR:=if 65536<s.size then (7,0,[]) else ag.Cy [] (fA s)
theorem ag.DC: ∀(p:List ByteArray) (rs acc:List ag.RR) (ys:List ByteArray),p.map ag.l5=rs.map Sum.inr->(acc++rs).length<=64->ag.Cy acc (p++ys)=ag.Cy (acc++rs) ys
 |[],rs,acc,ys,h,_=>by
  cases rs with
  |nil=>simp
  |cons r rs=>simp at h
 |x::p,rs,acc,ys,h,hl=>by
  cases rs with
  |nil=>simp at h
  |cons r rs=>
   simp only[List.map_cons,List.cons.injEq] at h
   simp only[List.length_append,List.length_cons] at hl
   rw[List.cons_append,ag.Cy,h.1]
   simp only
   rw[if_neg (by omega),ag.DC p rs (acc++[r]) ys h.2 (by simp;omega)]
   simp
theorem ag.Zb {u:Nat->ByteArray} {len:Nat} {wt e:Int} (h:ag.qc u len wt= .inl e):1<=e/\e<=100:=by
 unfold ag.qc ag.bB at h
 simp only at h
 repeat' split at h
 all_goals (cases h)
 all_goals omega
theorem ag.OI {ok:Bool} {u:Nat->ByteArray} {len:Nat} {e:Int} (h:ag.kZ ok u len= .inl e):1<=e/\e<=100:=by
 unfold ag.kZ at h
 repeat' split at h
 all_goals first
  |exact ag.Zb h
  |(cases h;omega)
set_option maxRecDepth 100000 in
theorem ag.afv (s:ByteArray) (w:World):Calls Tryz.prog 46 #[.string s] w fun e w'=>e= .returned (.func (.func 107) #[] #[.pointer (some ⟨w.heap.size,0,none⟩)])/\w'=w.alloc (.cells #[.string s] 9):=by
 go_enter Tryz.func46,Tryz.ntmps46
 go_wp2
 go_ret
 exact ⟨rfl,rfl⟩
def ag.M5 (w:World) (pre:List ByteArray) (W:World):Prop:=
 ∃  (rs:List ag.RR) (v:Value),pre.map ag.l5=rs.map Sum.inr/\rs.length<=64/\Is W w.heap.size 22 #[.slice none 0 0]/\Is W (w.heap.size+1) 3 #[.int .i64 0]/\Is W (w.heap.size+1+1) 25 #[.int .i64 0]/\
    Is W (w.heap.size+1+1+1) 22 #[v]/\W.ownsRow (w.heap.size+5) 46 6 v rs.length (ag.cellsOf rs)/\w.heap.size+5<=W.heap.size/\Below w.heap.size w W/\(rs=[]->v= .slice none 0 0)
def ag.M6 (w:World) (s:ByteArray) (pre:List ByteArray) (W:World):Prop:=
 ∃(e:Int) (k:Nat),1<=e/\e<=100/\k<=64/\(∀ys,pre++ys=fA s->ag.Cy [] (fA s)=(e,k,[]))/\Is W w.heap.size 22 #[.slice none 0 0]/\Is W (w.heap.size+1) 3 #[.int .i64 k]/\Is W (w.heap.size+1+1) 25 #[.int .i64 e]/\w.heap.size+5<=W.heap.size/\Below w.heap.size w W
def ag.MW (s:ByteArray) (w:World) (e:Ending) (w':World):Prop:=
 ∃v,e= .returned (.tuple #[v,.int .i64 (ag.ki s).2.1,.int .i64 (ag.ki s).1])/\w'.ownsRow w.heap.size 46 6 v (ag.ki s).2.2.length (ag.cellsOf (ag.ki s).2.2)/\Below w.heap.size w w'/\((ag.ki s).1≠0\/(ag.ki s).2.2=[]->v= .slice none 0 0)
theorem ag.pX {W W':World} {n:Nat} {T:TypeId} {cs:Array Value} {row:Option Nat} (h:Is W n T cs) (hg:W.grownBy W' row) (en:some n≠row):Is W' n T cs:=h.of_heap (hg.block n h.lt en)
theorem ag.qR {W:World} {n:Nat} {T:TypeId} {cs:Array Value} {row:Option Nat} (h:Is W n T cs) (hr: ∀r,row=some r-> ∃o:Obj,W.heap[r]? =some o/\o.isCells=false):some n≠row:=by
 intro e
 obtain ⟨o,ho,hc⟩:=hr n e.symm
 unfold Is at h
 rw[h] at ho
 obtain rfl:Obj.cells cs T (0,0)=o:=by injection ho
 cases hc
theorem ag.Wt {W:World} {base k size:Nat} {e:TypeId} {v:Value} {xs:List Value} {row:Option Nat} (h:W.ownsRow base e size v k xs) (hr: ∀r,row=some r-> ∃o:Obj,W.heap[r]? =some o/\o.isCells=false):v.ownBlock=none\/v.ownBlock≠row:=by
 rcases h.2 with ⟨rfl,_⟩|⟨g,cap,cur,rfl,_,hb,_⟩
 . exact .inl rfl
 . right
   intro e
   obtain ⟨o,ho,hc⟩:=hr g (by rw[<-e];rfl)
   rw[hb] at ho
   obtain rfl:Obj.cells cur _ (0,0)=o:=by injection ho
   cases hc
theorem ag.OZ {W W':World} {base k size:Nat} {e:TypeId} {v:Value} {xs:List Value} (h:W.ownsRow base e size v k xs) (hb:Below W.heap.size W W'):W'.ownsRow base e size v k xs:=
 h.kept (row:=none) ⟨hb.os,hb.tape,hb.output,hb.size,fun i hi _=>hb.block i hi⟩ (by
  cases h0:v.ownBlock
  . exact .inl rfl
  . right;simp)
theorem ag.D6 {B:Nat} {W W':World} (hb:Below W.heap.size W W'):KeepsFrom B W W':=⟨hb.size,fun k o _ hk _=>(hb.block k (Array.getElem?_eq_some_iff.1 hk).1).trans hk⟩
theorem ag.Wu (w:World) (B0:Nat) (hB:w.heap.size<=B0):OwnFrom B0 (ag.M5 w):=by
 rintro pre W W' row ⟨rs,v,h1,h2,i1,i2,i3,i4,fO,fh,hb,hn⟩ hg hr
 have mo: ∀r,row=some r-> ∃o:Obj,W.heap[r]? =some o/\o.isCells=false:=fun r e=>(hr r e).2
 exact ⟨rs,v,h1,h2,ag.pX i1 hg (ag.qR i1 mo),ag.pX i2 hg (ag.qR i2 mo),ag.pX i3 hg (ag.qR i3 mo),ag.pX i4 hg (ag.qR i4 mo),
  fO.kept hg (ag.Wt fO mo),Nat.le_trans fh hg.size,hb.grown hg (by omega) (fun k e=>Nat.le_trans hB (hr k e).1),hn⟩
theorem ag.Wv (w:World) (s:ByteArray) (B0:Nat) (hB:w.heap.size<=B0):OwnFrom B0 (ag.M6 w s):=by
 rintro pre W W' row ⟨e,k,h1,h2,h3,h4,i1,i2,i3,fh,hb⟩ hg hr
 have mo: ∀r,row=some r-> ∃o:Obj,W.heap[r]? =some o/\o.isCells=false:=fun r e=>(hr r e).2
 exact ⟨e,k,h1,h2,h3,h4,ag.pX i1 hg (ag.qR i1 mo),ag.pX i2 hg (ag.qR i2 mo),ag.pX i3 hg (ag.qR i3 mo),Nat.le_trans fh hg.size,hb.grown hg (by omega) (fun k e=>Nat.le_trans hB (hr k e).1)⟩
theorem ag.Ww (w:World):xM (w.heap.size+1+1+1+1) (ag.M5 w):=by
 rintro pre W x ⟨rs,v,h1,h2,i1,i2,i3,i4,fO,fh,hb,hn⟩
 exact ⟨rs,v,h1,h2,i1.other (by omega) _ _,i2.other (by omega) _ _,i3.other (by omega) _ _,i4.other (by omega) _ _,ownsRow_setCell_below fO (by show w.heap.size+1+1+1+1<w.heap.size+5;omega) _,by rw[World.size_setCell];exact fh,hb.setCell (by show w.heap.size<=w.heap.size+1+1+1+1;omega) _,hn⟩
theorem ag.Wx (w:World) (s:ByteArray):xM (w.heap.size+1+1+1+1) (ag.M6 w s):=by
 rintro pre W x ⟨e,k,h1,h2,h3,h4,i1,i2,i3,fh,hb⟩
 exact ⟨e,k,h1,h2,h3,h4,i1.other (by omega) _ _,i2.other (by omega) _ _,i3.other (by omega) _ _,by rw[World.size_setCell];exact fh,hb.setCell (by show w.heap.size<=w.heap.size+1+1+1+1;omega) _⟩
theorem ag.aaT {s:ByteArray} {pre:List ByteArray} {x:ByteArray} {rs:List ag.RR} {e:Int} (h:pre.map ag.l5=rs.map Sum.inr) (hl:rs.length<=64) (hx:ag.l5 x= .inl e) (ys:List ByteArray) (hy:pre++[x]++ys=fA s):ag.Cy [] (fA s)=(e,rs.length,[]):=by
 rw[<-hy,List.append_assoc,ag.DC pre rs [] _ h (by simpa using hl)]
 simp[ag.Cy,hx]
theorem ag.Zc {s:ByteArray} {pre:List ByteArray} {x:ByteArray} {rs:List ag.RR} {r:ag.RR} (h:pre.map ag.l5=rs.map Sum.inr) (hl:rs.length=64) (hx:ag.l5 x= .inr r) (ys:List ByteArray) (hy:pre++[x]++ys=fA s):ag.Cy [] (fA s)=(7,64,[]):=by
 rw[<-hy,List.append_assoc,ag.DC pre rs [] _ h (by simp;omega)]
 simp[ag.Cy,hx,hl]
theorem ag.O0 {w:World} {base:Nat} {e:TypeId} {size:Nat} {v:Value} {n:Nat} {xs:List Value} (h:w.ownsRow base e size v n xs): ∃a c,v= .slice a n c:=by
 rcases h.2 with ⟨rfl,rfl⟩|⟨g,cap,cur,rfl,_⟩
 . exact ⟨none,0,rfl⟩
 . exact ⟨_,_,rfl⟩
theorem ag.sw {W:World} {n:Nat} {T:TypeId} {a v:Value} (h:Is W n T #[a]):Is (W.setCell ⟨n,0,none⟩ v) n T #[v]:=(h.set 0 v).cast rfl
theorem ag.Td {B:Nat} {W W':World} (h:KeepsFrom B W W') (p:Addr) (v:Value):KeepsFrom B W (W'.setCell p v):=h.trans ((KeepsOthers.setCell W' p v).from B)
theorem ag.GZ {B:Nat} {W W':World} (h:KeepsFrom B W W') (o:Obj):KeepsFrom B W (W'.alloc o):=h.trans ((KeepsOthers.alloc W' o).from B)
theorem ag.Vb {B:Nat} {W W':World} (h:KeepsFrom B W W'):KeepsFrom B W W'.drew:=h.trans ⟨Nat.le_refl _,fun _ _ _ hk _=>hk⟩
theorem ag.O1 {w W':World} {s:ByteArray} {pre:List ByteArray} {e:Int} {k:Nat} (h1:1<=e/\e<=100) (h2:k<=64) (h3: ∀ys,pre++ys=fA s->ag.Cy [] (fA s)=(e,k,[]))
  (i1:Is W' w.heap.size 22 #[.slice none 0 0]) (i2:Is W' (w.heap.size+1) 3 #[.int .i64 k]) (i3:Is W' (w.heap.size+1+1) 25 #[.int .i64 e]) (hz:w.heap.size+5<=W'.heap.size) (hb:Below w.heap.size w W'):ag.M6 w s pre W':=
 ⟨e,k,h1.1,h1.2,h2,h3,i1,i2,i3,hz,hb⟩
theorem ag.Lt {w:World} {base:Nat} {e:TypeId} {size:Nat} {v:Value} {n:Nat} {xs:List Value} (h:w.ownsRow base e size v n xs) (j:Nat) (hj:v.ownBlock=some j):base<=j:=by
 rcases h.2 with ⟨rfl,rfl⟩|⟨g,cap,cur,rfl,hb,_⟩
 . cases hj
 . obtain rfl:g=j:=by simpa [Value.ownBlock] using hj
   exact hb
theorem ag.Zd {w:World} {base:Nat} {e:TypeId} {size:Nat} {v:Value} {n:Nat} {xs:List Value} (h:w.ownsRow base e size v n xs) (j:Nat) (o:Obj) (hj:v.ownBlock=some j) (ho:w.heap[j]? =some o):o.isCells=true:=by
 rcases h.2 with ⟨rfl,rfl⟩|⟨g,cap,cur,rfl,hb,hg,_⟩
 . cases hj
 . obtain rfl:g=j:=by simpa [Value.ownBlock] using hj
   rw[hg] at ho;cases ho;rfl
theorem ag.Ze (r:ag.RR): ∀u∈r.cells,u.oneCell'=true:=by
 intro u hu
 simp only[ag.RR.cells,List.mem_cons,List.not_mem_nil,or_false] at hu
 rcases hu with rfl|rfl|rfl|rfl|rfl|rfl<;>rfl
theorem ag.Zf (W:World) (T:TypeId) (cs:List Value) (j:Nat) (u:Value) (h:cs[j]? =some u):(W.alloc (.cells cs.toArray T)).cell? ((⟨W.heap.size,0,none⟩:Addr).add j)=some u:=by
 have:(⟨W.heap.size,0,none⟩:Addr).add j=⟨W.heap.size,j,none⟩:=by
  unfold Addr.add
  split
  . rename_i h0;subst h0;rfl
  . simp
 rw[this,(Is.new W T cs.toArray).cell]
 simpa using h
theorem ag.Zg {w W w1 w5:World} {n:Nat} {v:Value} {xs:List Value} {A C:Obj} {va:Value} (cW:Below W.heap.size W w1) (fh:w.heap.size+5<=W.heap.size) (j4:Is W (w.heap.size+1+1+1) 22 #[va])
  (fO:W.ownsRow (w.heap.size+5) 46 6 v n xs) (xN:((w1.alloc A).alloc C).grownBy w5 v.ownBlock):Is w5 (w.heap.size+1+1+1) 22 #[va]:=
 ag.pX (((j4.below cW (by omega)).alloc _).alloc _) xN (fun e=>by have:=ag.Lt fO _ e.symm;omega)
theorem ag.Wy {w W w1 w5:World} {B:Nat} {pre:List ByteArray} {x:ByteArray} {rs:List ag.RR} {r:ag.RR} {v v':Value} {A C:Obj} (p1:pre.map ag.l5=rs.map Sum.inr) (p2:rs.length<64) (hx:ag.l5 x= .inr r)
   (hb:Below w.heap.size w W) (cW:Below W.heap.size W w1) (fh:w.heap.size+5<=W.heap.size)
   (j1:Is W w.heap.size 22 #[.slice none 0 0]) (j2:Is W (w.heap.size+1) 3 #[.int .i64 0]) (j3:Is W (w.heap.size+1+1) 25 #[.int .i64 0]) (j4:Is W (w.heap.size+1+1+1) 22 #[v])
   (fO:W.ownsRow (w.heap.size+5) 46 6 v rs.length (ag.cellsOf rs)) (Te:w5.ownsRow (w.heap.size+5) 46 6 v' (rs.length+1) (ag.cellsOf rs++r.cells)) (xN:((w1.alloc A).alloc C).grownBy w5 v.ownBlock):
   KeepsFrom B W (w5.setCell ⟨w.heap.size+1+1+1,0,none⟩ v')/\Ho (w.heap.size+1+1+1+1) W (w5.setCell ⟨w.heap.size+1+1+1,0,none⟩ v')/\ag.M5 w (pre++[x]) (w5.setCell ⟨w.heap.size+1+1+1,0,none⟩ v'):=by
 have aiY:=((ag.OZ fO cW).alloc A).alloc C
 have en: ∀k,k<w.heap.size+5->some k≠v.ownBlock:=fun k hk e=>by have:=ag.Lt fO _ e.symm;omega
 have is5: ∀{k:Nat} {T:TypeId} {cs:Array Value},Is W k T cs->k<w.heap.size+5->Is w5 k T cs:=fun h hk=>ag.pX (((h.below cW (by omega)).alloc _).alloc _) xN (en _ hk)
 have hp5:w5.heap[w.heap.size+1+1+1+1]? =W.heap[w.heap.size+1+1+1+1]? :=by
   have hlt1:=cW.size
   rw[xN.block _ (by simp;omega) (en _ (by omega)),Go.ag.heap_alloc _ _ (by simp;omega),Go.ag.heap_alloc _ _ (by omega)]
   exact cW.block _ (by omega)
 have hp6:(w5.setCell ⟨w.heap.size+1+1+1,0,none⟩ v').heap[w.heap.size+1+1+1+1]? =W.heap[w.heap.size+1+1+1+1]? :=by rw[Go.ag.Kk (by omega)];exact hp5
 refine ⟨?_,⟨by simp[World.cell?,hp6],by simp[World.frozen?,hp6]⟩,rs++[r],v',?_,by simp;omega,(is5 j1 (by omega)).other (by omega) _ _,(is5 j2 (by omega)).other (by omega) _ _,(is5 j3 (by omega)).other (by omega) _ _,ag.sw (is5 j4 (by omega)),?_,?_,?_,fun h=>by simp at h⟩
 . refine ag.Td ((ag.GZ (ag.GZ (ag.D6 cW) _) _).trans ((KeepsOthers.of_grownBy xN fun j o ej hj=>ag.Zd aiY j o ej hj).from B)) _ _
 . simp[p1,hx]
 . rw[ag.Tc]
   have:=ownsRow_setCell_below Te (a:=⟨w.heap.size+1+1+1,0,none⟩) (by show w.heap.size+1+1+1<w.heap.size+5;omega) v'
   simpa using this
 . have h1:=cW.size
   have h2:=xN.size
   simp at h2 ⊢; omega
 . have h1:=cW.size
   exact ((((hb.trans (cW.mono (by omega))).alloc (by omega) A).alloc (by simp;omega) C).grown xN (by simp;omega) (fun k e=>by have:=ag.Lt fO k e;omega)).setCell (by show w.heap.size<=w.heap.size+1+1+1;omega) _
theorem ag.wE {W:World} {n D:Nat} {T:TypeId} {cs:Array Value} {o o':Obj} (h:Is W n T cs) (hk:W.heap[D]? =some o) (ho:o.isCells=false):Is (W.putObj D o') n T cs:=
 ag.pX h (grownBy_putObj' W D o') (ag.qR h (fun r e=>by cases e;exact ⟨o,hk,ho⟩))
theorem ag.I0 {s:ByteArray} {w w':World} {v:Value} {i:Int} {er:Int} {rs:List ag.RR} {k:Nat} (hp:ag.ki s=(er,k,rs)) (hi:i=k) (fO:w'.ownsRow w.heap.size 46 6 v rs.length (ag.cellsOf rs)) (hb:Below w.heap.size w w') (Cm:er≠0\/rs=[]->v= .slice none 0 0:=by intro h;rfl):
   ag.MW s w (.returned (.tuple #[v,.int .i64 i,.int .i64 er])) w':=by
 subst hi
 refine ⟨v,by rw[hp],?_,hb,?_⟩
 . rw[hp];exact fO
 . rw[hp];exact Cm
theorem ag.aaU {w:World} {base VH:Nat} {e:TypeId} {size:Nat} {v:Value} {n:Nat} {xs:List Value} (h:w.ownsRow base e size v n xs) (hb:VH<=base):w.ownsRow VH e size v n xs:=by
 refine ⟨h.1,h.2.imp id ?_⟩
 rintro ⟨g,cap,cur,h1,h2,h3⟩
 exact ⟨g,cap,cur,h1,Nat.le_trans hb h2,h3⟩
theorem ag.T6 {s:ByteArray} {rs:List ag.RR} (hs:s.size<=65536) (h:(fA s).map ag.l5=rs.map Sum.inr) (hl:rs.length<=64):ag.ki s=(0,0,rs):=by
 have:=ag.DC (fA s) rs [] [] h (by simpa using hl)
 rw[List.append_nil] at this
 unfold ag.ki
 rw[if_neg (by omega),this]
 rfl
theorem ag.ahX: ∃i0 z,Tryz.prog.info? 46=some i0/\i0.zero=some z/\i0.size=6/\i0.bytes=72/\z.cells.size=6:=by
 have h:(Tryz.prog.info? 46).map (fun i=>(i.zero.map (·.cells.size),i.size,i.bytes))=some (some 6,6,72):=by kernel_rfl
 cases hi:Tryz.prog.info? 46 with
 |none=>rw[hi] at h;simp at h
 |some i0=>
  rw[hi] at h
  simp only[Option.map_some,Option.some.injEq,Prod.mk.injEq,Option.map_eq_some_iff] at h
  obtain ⟨⟨z,hz,Kj⟩,h2,h3⟩:=h
  exact ⟨i0,z,rfl,hz,h2,h3,Kj⟩
set_option maxRecDepth 100000 in
set_option maxHeartbeats 4000000 in
theorem ag.Yr (xk: ∀(s:ByteArray) (m:Int) (w:World),s.size<=65536->w.cell? ⟨1,0,none⟩=some (.int .i64 m)->Calls Tryz.prog 35 #[.string s] w (ag.PR s w))
   (s:ByteArray) (m:Int) (w:World) (hs:s.size<=65536) (hm:w.cell? ⟨1,0,none⟩=some (.int .i64 m)):
   Calls Tryz.prog 9 #[.string s] w (ag.MW s w):=by
 have Y5:=World.block_lt_of_cell? _ _ hm
 refine (callsIn_wide (n:=5)).1 ?_
 refine callsIn_of_wp_marks Tryz.func9 rfl trivial ?_ rfl
 simp only[Tryz.ntmps9,List.size_toArray,List.length_cons,List.length_nil,Nat.reduceAdd,Nat.reduceSub,Array.replicate_succ,Array.replicate_zero,List.push_toArray,List.append_toArray,List.nil_append,List.cons_append]
 gi_wp2_with (refine ⟨trivial,?_⟩;gi_at_call 46;refine (callsIn_wide.2 (ag.afv s _)).mono ?_;rintro e w' ⟨rfl,rfl⟩)
 obtain ⟨W0,M7⟩: ∃W0,W0=(((((w.alloc (.cells #[.slice none 0 0] 22)).alloc (.cells #[.int .i64 0] 3)).alloc (.cells #[.int .i64 0] 25)).alloc (.cells #[.slice none 0 0] 22)).alloc (.cells #[.string s] 9)):=⟨_,rfl⟩
 have hz:W0.heap.size=w.heap.size+1+1+1+1+1:=by rw[M7];simp
 have i1:Is W0 w.heap.size 22 #[.slice none 0 0]:=by rw[M7];exact ((((Is.new w 22 _).alloc _).alloc _).alloc _).alloc _
 have i2:Is W0 (w.heap.size+1) 3 #[.int .i64 0]:=by rw[M7];have:=(((Is.new (w.alloc (.cells #[.slice none 0 0] 22)) 3 #[.int .i64 0]).alloc (.cells #[.int .i64 0] 25)).alloc (.cells #[.slice none 0 0] 22)).alloc (.cells #[.string s] 9);rwa [World.size_alloc] at this
 have i3:Is W0 (w.heap.size+1+1) 25 #[.int .i64 0]:=by rw[M7];have:=((Is.new ((w.alloc (.cells #[.slice none 0 0] 22)).alloc (.cells #[.int .i64 0] 3)) 25 #[.int .i64 0]).alloc (.cells #[.slice none 0 0] 22)).alloc (.cells #[.string s] 9);rwa [World.size_alloc,World.size_alloc] at this
 have i4:Is W0 (w.heap.size+1+1+1) 22 #[.slice none 0 0]:=by rw[M7];have:=(Is.new (((w.alloc (.cells #[.slice none 0 0] 22)).alloc (.cells #[.int .i64 0] 3)).alloc (.cells #[.int .i64 0] 25)) 22 #[.slice none 0 0]).alloc (.cells #[.string s] 9);rwa [World.size_alloc,World.size_alloc,World.size_alloc] at this
 have i5:Is W0 (w.heap.size+1+1+1+1) 9 #[.string s]:=by rw[M7];have:=Is.new ((((w.alloc (.cells #[.slice none 0 0] 22)).alloc (.cells #[.int .i64 0] 3)).alloc (.cells #[.int .i64 0] 25)).alloc (.cells #[.slice none 0 0] 22)) 9 #[.string s];rwa [World.size_alloc,World.size_alloc,World.size_alloc,World.size_alloc] at this
 have wO:Below w.heap.size w W0:=by rw[M7];exact (((((Below.refl _ w).alloc (Nat.le_refl _) _).alloc (by simp) _).alloc (by simp;omega) _).alloc (by simp;omega) _).alloc (by simp;omega) _
 rw[<-M7]
 clear M7
 refine TZ (n:=5) rfl (by decide) (gf:=107) (b:=w.heap.size+1+1+1+1) (lb:= #[.pointer (some ⟨w.heap.size+1+1+1+1,0,none⟩)]) rfl trivial (enters_of Tryz.func107 (by kernel_rfl) rfl) (encs:=fun x=> #[.string x]) (xs:=fA s) ?_ (by omega) (fun _=>rfl)
   (ag.M5 w) (ag.M6 w s) (ag.Wu w _ (by omega)) (ag.Wv w s _ (by omega)) (ag.Ww w) (ag.Wx w s)
   ⟨[],.slice none 0 0,rfl,by simp,i1,i2,i3,i4,⟨rfl,.inl ⟨rfl,rfl⟩⟩,by omega,wO,fun _=>rfl⟩
   (fun x=>{ tmps:= #[.string s,undef,.pointer (some ⟨w.heap.size,0,none⟩),.pointer (some ⟨w.heap.size+1,0,none⟩),.pointer (some ⟨w.heap.size+1+1,0,none⟩),.pointer (some ⟨w.heap.size+1+1+1,0,none⟩),.string x,undef,undef,.string s,
     .int .i64 s.size,.bool (decide (65536<(s.size:Int))),.string s,.func (.func 107) #[] #[.pointer (some ⟨w.heap.size+1+1+1+1,0,none⟩)],.string x,undef,undef,undef,undef,undef,undef,undef,undef,undef,undef,undef,undef,undef,undef,undef,undef,undef,undef,undef,undef,undef,undef],defers:=[] })
   ?assign ?body ?done ?stop
 . exact fun l J Jx W hW hJ hJx Va hJxs hY h0=>ag.afu _ l _ s hs J Jx W _ hJ hJx Va hY (by decide) (by rw[hW.cell (p:=⟨w.heap.size+1+1+1+1,0,none⟩) (by show w.heap.size+1+1+1+1<W0.heap.size;omega)];exact i5.one) (by rw[hW.frozen (p:=⟨w.heap.size+1+1+1+1,0,none⟩) (by show w.heap.size+1+1+1+1<W0.heap.size;omega)];exact i5.frozen 0) h0
 case assign=>
   intro l x W K hK
   gi_wp2
   exact hK
 case body=>
   rintro l pre x W ⟨rs,v,p1,p2,j1,j2,j3,j4,fO,fh,hb,_⟩ Lr hWz
   obtain ⟨va,vc,rfl⟩:=ag.O0 fO
   obtain ⟨ys,uF⟩:=Lr
   have hx:x.size<=65536:=Nat.le_trans (T5 s x (by rw[<-uF];simp)) hs
   have hmW:W.cell? ⟨1,0,none⟩=some (.int .i64 m):=(hb.cell (p:=⟨1,0,none⟩) Y5).trans hm
   have HL:=Lib.hid (xk x m W hx hmW)
   have z1:w.heap.size<W.heap.size:=by omega
   have z2:w.heap.size+1<W.heap.size:=by omega
   have z3:w.heap.size+1+1<W.heap.size:=by omega
   have z4:w.heap.size+1+1+1<W.heap.size:=by omega
   have Tf:=Lib.hid fO;have HB:=Lib.hid hb;have HP1:=Lib.hid p1;have HYS:=Lib.hid uF
   have J1:=Lib.hid j1;have J2:=Lib.hid j2;have J3:=Lib.hid j3;have J4:=Lib.hid j4
   have HM:=Lib.hid hm;have HH:=Lib.hid xk;have HI5:=Lib.hid i5
   clear fO hb p1 uF j1 j2 j3 j4 hmW hm xk i1 i2 i3 i4 i5 wO
   rcases wZ:ag.l5 x with e0|r
   . have hee:=ag.OI wZ
     have Lu:=Lib.hid wZ;clear wZ
     gi_wp2_with (refine ⟨trivial,?_⟩;gi_at_call 35;refine (CallsIn.inRound l (callsIn_wide.2 HL.out)).mono ?_;rintro e w1 ⟨he,cW⟩;rw[show ag.kZ (ag.DU x) (ag.oA (ag.vX x)) (ag.lD (ag.vX x))= .inl e0 from Lu.out] at he;obtain rfl:e= .returned (.tuple #[.agg #[.int .u8 0,.int .i64 0,.string ⟨#[]⟩,.string ⟨#[]⟩,.string ⟨#[]⟩,.int .i64 0],.int .i64 e0]):=he;have K1:=J1.out.below cW z1;have K2:=J2.out.below cW z2;have K3:=J3.out.below cW z3;have K4:=J4.out.below cW z4;have k1:=K1.one;have k2:=K2.one;have k3:=K3.one;have k4:=K4.one;have g1:=K1.frozen;have g2:=K2.frozen;have g3:=K3.frozen;have g4:=K4.frozen;have mO:=cW.size;have y1:=Nat.lt_of_lt_of_le z1 mO;have y2:=Nat.lt_of_lt_of_le z2 mO;have y3:=Nat.lt_of_lt_of_le z3 mO;have y4:=Nat.lt_of_lt_of_le z4 mO;have L1:=Lib.hid K1;have L2:=Lib.hid K2;have L3:=Lib.hid K3;have L4:=Lib.hid K4;clear K1 K2 K3 K4;have qD:=Lib.hid cW;have HBB:=Lib.hid (HB.out.trans (cW.mono (Nat.le_of_lt z1)));clear cW)
     gi_region
     all_goals gi_wp2
     all_goals
        refine ⟨?_,ag.O1 (e:=e0) (k:=rs.length) hee p2 (fun ys hy=>ag.aaT HP1.out p2 Lu.out ys hy) ?_ ?_ ?_ ?_ ?_⟩
        . (repeat (first|(with_reducible refine ag.Vb ?_)|(with_reducible refine ag.GZ ?_ _)|(with_reducible refine ag.Td ?_ _ _)|(with_reducible exact ag.D6 qD.out)))
        . (repeat (first|(with_reducible refine Is.drew ?_)|(with_reducible refine Is.alloc ?_ _)|(with_reducible refine ag.sw (a:= .slice none 0 0) ?_)|(with_reducible refine Is.other ?_ (by omega) _ _)|(with_reducible exact L1.out)))
        . (repeat (first|(with_reducible refine Is.drew ?_)|(with_reducible refine Is.alloc ?_ _)|(with_reducible refine ag.sw (a:= .int .i64 0) ?_)|(with_reducible refine Is.other ?_ (by omega) _ _)|(with_reducible exact L2.out)))
        . (repeat (first|(with_reducible refine Is.drew ?_)|(with_reducible refine Is.alloc ?_ _)|(with_reducible refine ag.sw (a:= .int .i64 0) ?_)|(with_reducible refine Is.other ?_ (by omega) _ _)|(with_reducible exact L3.out)))
        . simp;omega
        . (repeat (first|(with_reducible refine Below.drew ?_)|(with_reducible refine Below.setCell ?_ (by first|(simp;done)|(simp;omega)) _)|(with_reducible refine Below.alloc ?_ (by first|omega|(simp;done)|(simp;omega)) _)|(with_reducible exact HBB.out)))
   . have Lu:=Lib.hid wZ;clear wZ
     by_cases hl:rs.length=64
     .  have hl64:((rs.length:Int)==64)=true:=by rw[hl];rfl
        have HLEN:=Lib.hid hl;clear hl
        gi_wp2_with (refine ⟨trivial,?_⟩;gi_at_call 35;refine (CallsIn.inRound l (callsIn_wide.2 HL.out)).mono ?_;rintro e w1 ⟨he,cW⟩;rw[show ag.kZ (ag.DU x) (ag.oA (ag.vX x)) (ag.lD (ag.vX x))= .inr r from Lu.out] at he;obtain rfl:e= .returned (.tuple #[.agg #[.int .u8 r.k,.int .i64 r.wt,.string r.a,.string r.b,.string r.t,.int .i64 r.n],.int .i64 0]):=he;have K1:=J1.out.below cW z1;have K2:=J2.out.below cW z2;have K3:=J3.out.below cW z3;have K4:=J4.out.below cW z4;have k1:=K1.one;have k2:=K2.one;have k3:=K3.one;have k4:=K4.one;have g1:=K1.frozen;have g2:=K2.frozen;have g3:=K3.frozen;have g4:=K4.frozen;have mO:=cW.size;have y1:=Nat.lt_of_lt_of_le z1 mO;have y2:=Nat.lt_of_lt_of_le z2 mO;have y3:=Nat.lt_of_lt_of_le z3 mO;have y4:=Nat.lt_of_lt_of_le z4 mO;have L1:=Lib.hid K1;have L2:=Lib.hid K2;have L3:=Lib.hid K3;have L4:=Lib.hid K4;clear K1 K2 K3 K4;have qD:=Lib.hid cW;have HBB:=Lib.hid (HB.out.trans (cW.mono (Nat.le_of_lt z1)));clear cW)
        gi_region
        all_goals gi_wp2
        all_goals
          refine ⟨?_,ag.O1 (e:=7) (k:=rs.length) (by decide) p2 (fun ys hy=>(ag.Zc HP1.out HLEN.out Lu.out ys hy).trans (by rw[HLEN.out])) ?_ ?_ ?_ ?_ ?_⟩
          . (repeat (first|(with_reducible refine ag.Vb ?_)|(with_reducible refine ag.GZ ?_ _)|(with_reducible refine ag.Td ?_ _ _)|(with_reducible exact ag.D6 qD.out)))
          . (repeat (first|(with_reducible refine Is.drew ?_)|(with_reducible refine Is.alloc ?_ _)|(with_reducible refine ag.sw (a:= .slice none 0 0) ?_)|(with_reducible refine Is.other ?_ (by omega) _ _)|(with_reducible exact L1.out)))
          . (repeat (first|(with_reducible refine Is.drew ?_)|(with_reducible refine Is.alloc ?_ _)|(with_reducible refine ag.sw (a:= .int .i64 0) ?_)|(with_reducible refine Is.other ?_ (by omega) _ _)|(with_reducible exact L2.out)))
          . (repeat (first|(with_reducible refine Is.drew ?_)|(with_reducible refine Is.alloc ?_ _)|(with_reducible refine ag.sw (a:= .int .i64 0) ?_)|(with_reducible refine Is.other ?_ (by omega) _ _)|(with_reducible exact L3.out)))
          . simp;omega
          . (repeat (first|(with_reducible refine Below.drew ?_)|(with_reducible refine Below.setCell ?_ (by first|(simp;done)|(simp;omega)) _)|(with_reducible refine Below.alloc ?_ (by first|omega|(simp;done)|(simp;omega)) _)|(with_reducible exact HBB.out)))
     .  have hl64:((rs.length:Int)==64)=false:=by rw[beq_eq_false_iff_ne];omega
        obtain ⟨i0,z,mG,Xb,N7,hzb,rN⟩:=ag.ahX
        gi_wp2_with (first|(refine ⟨trivial,?_⟩;gi_at_call 35;refine (CallsIn.inRound l (callsIn_wide.2 HL.out)).mono ?_;rintro e w1 ⟨he,cW⟩;rw[show ag.kZ (ag.DU x) (ag.oA (ag.vX x)) (ag.lD (ag.vX x))= .inr r from Lu.out] at he;obtain rfl:e= .returned (.tuple #[.agg #[.int .u8 r.k,.int .i64 r.wt,.string r.a,.string r.b,.string r.t,.int .i64 r.n],.int .i64 0]):=he;have K1:=J1.out.below cW z1;have K2:=J2.out.below cW z2;have K3:=J3.out.below cW z3;have K4:=J4.out.below cW z4;have k1:=K1.one;have k2:=K2.one;have k3:=K3.one;have k4:=K4.one;have g1:=K1.frozen;have g2:=K2.frozen;have g3:=K3.frozen;have g4:=K4.frozen;have mO:=cW.size;have y1:=Nat.lt_of_lt_of_le z1 mO;have y2:=Nat.lt_of_lt_of_le z2 mO;have y3:=Nat.lt_of_lt_of_le z3 mO;have y4:=Nat.lt_of_lt_of_le z4 mO;have L1:=Lib.hid K1;have L2:=Lib.hid K2;have L3:=Lib.hid K3;have L4:=Lib.hid K4;clear K1 K2 K3 K4;have qD:=Lib.hid cW;have HBB:=Lib.hid (HB.out.trans (cW.mono (Nat.le_of_lt z1)));clear cW)|(gi_at_builtin;refine wpListIn_append_own _ rfl _ _ 22 rfl (w.heap.size+5) 46 i0 z 6 72 Tryz.underlying22 mG Xb N7 hzb rN (by decide) _ _ _ rfl (((ag.OZ Tf.out qD.out).alloc _).alloc _) ⟨w1.heap.size+1,0,none⟩ 1 1 r.cells rfl rfl ?_ ?_ ?_ ?_ ?_ ?_))
        . intro j u hu
          have:=ag.Zf (w1.alloc (.cells r.cells.toArray 46)) 46 r.cells j u hu
          rw[World.size_alloc] at this
          exact this
        . exact ag.Ze r
        . unfold maxLen;omega
        . omega
        . have:=qD.out.size;simp;omega
        . intro v' w5 Te xN _
          obtain ⟨g',aL,rfl⟩:=ownsRow_succ Te
          have D8:=ag.Zg qD.out fh J4.out Tf.out xN
          have k5:=D8.one
          have g5:=D8.frozen
          have HM5:=Lib.hid D8
          have HOWN:=Lib.hid Te
          have aiZ:=Lib.hid xN
          clear D8 Te xN
          gi_wp2
          exact ag.Wy HP1.out (by omega) Lu.out HB.out qD.out fh J1.out J2.out J3.out J4.out Tf.out HOWN.out aiZ.out
 case done=>
   rintro D W hD ⟨rs,v,h1,h2,j1,j2,j3,j4,fO,fh,hb,Cm⟩ hK
   obtain ⟨va,vc,rfl⟩:=ag.O0 fO
   have HNIL:=Lib.hid Cm;clear Cm
   have c1:=j1.one;have c2:=j2.one;have c3:=j3.one;have c4:=j4.one
   have f1:=j1.frozen;have f2:=j2.frozen;have f3:=j3.frozen;have f4:=j4.frozen
   have Tf:=Lib.hid fO;have HB:=Lib.hid hb;have H1:=Lib.hid h1
   have J1:=Lib.hid j1;have J2:=Lib.hid j2;have J3:=Lib.hid j3;have J4:=Lib.hid j4
   have HK:=Lib.hid hK
   clear fO hb h1 j1 j2 j3 j4 hK hm xk i1 i2 i3 i4 i5 wO
   gi_wp2
   have Zh:(((W.setCell ⟨w.heap.size,0,none⟩ (.slice va rs.length vc)).setCell ⟨w.heap.size+1,0,none⟩ (.int .i64 0)).setCell ⟨w.heap.size+1+1,0,none⟩ (.int .i64 0)).heap[D]? =some (.deferred (some [])):=
     (KeepsOthers.setCell _ _ _).same D _ ((KeepsOthers.setCell _ _ _).same D _ ((KeepsOthers.setCell _ _ _).same D _ HK.out rfl) rfl) rfl
   have q1:=ag.wE (o':= .deferred none) (((ag.sw (v:= .slice va rs.length vc) J1.out).other (m:=w.heap.size+1) (by omega) 0 (.int .i64 0)).other (m:=w.heap.size+1+1) (by omega) 0 (.int .i64 0)) Zh rfl
   have q2:=ag.wE (o':= .deferred none) ((ag.sw (v:= .int .i64 0) (J2.out.other (m:=w.heap.size) (by omega) 0 (.slice va rs.length vc))).other (m:=w.heap.size+1+1) (by omega) 0 (.int .i64 0)) Zh rfl
   have q3:=ag.wE (o':= .deferred none) (ag.sw (v:= .int .i64 0) ((J3.out.other (m:=w.heap.size) (by omega) 0 (.slice va rs.length vc)).other (m:=w.heap.size+1) (by omega) 0 (.int .i64 0))) Zh rfl
   have r1:=q1.one;have r2:=q2.one;have r3:=q3.one
   refine ⟨by simp,.inl ⟨_,_,rfl,run_takeDeferred Zh,?_⟩⟩
   refine ⟨.tuple #[.slice va rs.length vc,.int .i64 0,.int .i64 0],by simp[results,Tryz.results9,go_sem,r1,r2,r3],ag.I0 (k:=0) (rs:=rs) (ag.T6 hs H1.out h2) rfl ?_ ?_ (fun h=>h.elim (fun h=>absurd rfl h) HNIL.out)⟩
   . refine ag.aaU (base:=w.heap.size+5) ?_ (by omega)
     refine ownsRow_putObj (ownsRow_setCell_below (ownsRow_setCell_below (ownsRow_setCell_below Tf.out ?_ _) ?_ _) ?_ _) _ Zh rfl
     .  show w.heap.size<w.heap.size+5;omega
     .  show w.heap.size+1<w.heap.size+5;omega
     .  show w.heap.size+1+1<w.heap.size+5;omega
   . exact (((HB.out.setCell (p:=⟨w.heap.size,0,none⟩) (Nat.le_refl _) _).setCell (p:=⟨w.heap.size+1,0,none⟩) (by show w.heap.size<=w.heap.size+1;omega) _).setCell (p:=⟨w.heap.size+1+1,0,none⟩) (by show w.heap.size<=w.heap.size+1+1;omega) _).grown (grownBy_putObj' _ D _) (by simp;omega) (fun k e=>by cases e;omega)
 case stop=>
   rintro D pre W hD Lr ⟨e,k,h1,h2,h3,h4,j1,j2,j3,fh,hb⟩ hK
   obtain ⟨ys,uF⟩:=Lr
   have q1:=ag.wE (o':= .deferred none) j1 hK rfl
   have q2:=ag.wE (o':= .deferred none) j2 hK rfl
   have q3:=ag.wE (o':= .deferred none) j3 hK rfl
   have r1:=q1.one;have r2:=q2.one;have r3:=q3.one
   have HB:=Lib.hid hb;have H4:=Lib.hid (h4 ys uF)
   have HK:=Lib.hid hK
   have R1:=Lib.hid r1;have R2:=Lib.hid r2;have R3:=Lib.hid r3
   clear hb h4 j1 j2 j3 hK hm xk i1 i2 i3 i4 i5 wO uF q1 q2 q3 r1 r2 r3
   gi_wp2
   refine ⟨by simp,.inl ⟨_,_,rfl,run_takeDeferred HK.out,?_⟩⟩
   refine ⟨.tuple #[.slice none 0 0,.int .i64 k,.int .i64 e],by simp[results,Tryz.results9,go_sem,R1.out,R2.out,R3.out],ag.I0 (k:=k) (rs:=[]) (by unfold ag.ki;rw[if_neg (by omega),H4.out]) rfl ⟨rfl,.inl ⟨rfl,rfl⟩⟩ ?_⟩
   exact HB.out.grown (grownBy_putObj' _ D _) (by omega) (fun k e=>by cases e;omega)
set_option maxRecDepth 100000 in
set_option maxHeartbeats 1000000 in
theorem ag.Wn (s:ByteArray) (w:World) (hs:65536<s.size) (hm:s.size<=maxLen):
  Calls Tryz.prog 9 #[.string s] w (ag.MW s w):=by
 unfold maxLen at hm
 refine (callsIn_wide (n:=5)).1 ?_
 refine callsIn_of_wp_marks Tryz.func9 rfl trivial ?_ rfl
 simp only[Tryz.ntmps9,List.size_toArray,List.length_cons,List.length_nil,Nat.reduceAdd,Nat.reduceSub,Array.replicate_succ,Array.replicate_zero,List.push_toArray,List.append_toArray,List.nil_append,List.cons_append]
 gi_wp2
 refine ⟨.tuple #[.slice none 0 0,.int .i64 0,.int .i64 7],by simp[results,Tryz.results9,go_sem],ag.I0 (k:=0) (rs:=[]) (by unfold ag.ki;rw[if_pos hs]) rfl ⟨rfl,.inl ⟨rfl,rfl⟩⟩ ?_⟩
 exact (((Below.refl _ w).alloc (Nat.le_refl _) _).alloc (by simp) _).alloc (by simp;omega) _
end Go.Proofs
end
section
set_option maxRecDepth 1000000
namespace Go.Ai
open Go Go.RowKit
theorem Tg {P:Program} {tt:TT} {O:eW} {G:T aM} {C:Cells} {m d f:Nat} {n0:Pos} {fn:Func} {c:Code} (hm:P.follows .mixedOrders=true) (hT:dh P tt) (hG:LU P tt G)
  (hO:qZ P C O) (J5:lY O) (hf:P.funcs[f]? =some fn) (o9: ¬fn.name= "runtime.NumGoroutine") (hb:fn.body=some c) {b:Bool}
  (h:vt (R:=Bool) false O G m d f [] { heap:= .e,next:=n0 } (fun v _=>fN v (.bool b))=true) (w:World) (hC: ∀ad v,C ad=some v->w.cell? ad=some v) (QC: ∀a v,C a=some v-> ∀o,C ⟨a.block,o,none⟩=none->w.cell? ⟨a.block,o,none⟩=none):
  Calls P f #[] w fun e w'=>e= .returned (.bool b)/\Below w.heap.size w w':=by
 rw[yo false O G m d] at h
 unfold sy at h
 split at h<;>first|(cases h;done)|skip
 rename_i x hx
 obtain ⟨v,cm⟩:=x
 have hv:=tH h
 simp only at hv
 subst hv
 have hr:=uA hm hT hO J5 hG m d (fun _=>⟨0,0,0⟩) { heap:= .e,next:=n0 } w f [] (.bool b) cm [] hx (tJ hC QC) az.nil
 have cA:(callFunc f ([]:List Value).toArray).run P w= .ok (.enter f #[]) w:=by simp[callFunc,hf,o9,hb]
 rw[cA] at hr
 refine Calls.mono hr fun e w' he=> ?_
 cases e with
 |returned x=>
  obtain ⟨ρ',h1,_,_,_,hE⟩:=he
  have:=h1.jP;subst this
  exact ⟨rfl,hE.os,hE.tape,hE.output,hE.size,fun k hk=>hE.block k hk fun b x hb=>by rw[T.eE] at hb;cases hb⟩
 |panicked c=>exact he.elim
 |outgrown=>exact he.elim
section
variable {ρ : Pos -> Go.Ai.Loc} {C : Cells} {st : St} {w w' : World}
theorem bM.later (h:bM ρ C st w) (hb:Below w.heap.size w w'):bM ρ C st w' where
 live b x hx:=by
  obtain ⟨h1,h2,h3⟩:=h.live b x hx
  exact ⟨h1,Nat.lt_of_lt_of_le h2 hb.size,h3.of_heap (hb.block _ h2)⟩
 inj:=h.inj
 dc a v ha:=by
  obtain ⟨h1,h2⟩:=h.dc a v ha
  exact ⟨(hb.cell (World.block_lt_of_cell? _ _ h1)).trans h1,h2⟩
 whole a v ha o ho:=by
  have mb:a.block<w.heap.size:=World.block_lt_of_cell? _ _ (h.dc a v ha).1
  exact (hb.cell (p:=⟨a.block,o,none⟩) mb).trans (h.whole a v ha o ho)
theorem ni.later (h:bM ρ C st w) (hb:Below w.heap.size w w'):ni ρ st w ρ st w':=⟨hb.os,hb.tape,hb.output,hb.size,fun k hk _=>hb.block k hk,fun b x hx=> .inl ⟨b,x,hx,rfl⟩⟩
theorem Yt (hW:bM ρ C st w) {x0:AB} {base size g:Nat} (hb:Below w.heap.size w w') (hg:w.heap.size<=g) (lq:g<w'.heap.size)
   (hB: ∀ρ' n',(∀b:Pos,b.toNat<st.next.toNat->ρ' b=ρ b)->st.next.toNat<=n'->nG ρ' n' C ⟨g,base,size⟩ w' x0):
   ∃ρ':Pos->Go.Ai.Loc,(∀b:Pos,b.toNat<st.next.toNat->ρ' b=ρ b)/\ρ' st.next=⟨g,base,size⟩/\bM ρ' C (st.aI none none (some x0)) w'/\ni ρ st w ρ' (st.aI none none (some x0)) w':=by
 let ρ':Pos->Go.Ai.Loc:=fun b=>if b=st.next then ⟨g,base,size⟩ else ρ b
 have aU: ∀b:Pos,b.toNat<st.next.toNat->ρ' b=ρ b:=fun b hb=>if_neg (fun e=>by rw[e] at hb;omega)
 have dI:ρ' st.next=⟨g,base,size⟩:=if_pos rfl
 refine ⟨ρ',aU,dI,?_,⟨hb.os,hb.tape,hb.output,hb.size,fun k hk _=>hb.block k hk,fun b x hx=> ?_⟩⟩
 rotate_left
 . by_cases he:b=st.next
   . right;rw[he,dI];exact hg
   . left
     simp only[St.aI,Bf,zT] at hx
     rw[T.bN _ (fun e=>he e.symm)] at hx
     exact ⟨b,x,hx,by rw[aU b (hW.live b x hx).1]⟩
 refine hW.P4 (b0:=st.next) (x0:=x0) (by rw[Pos.aG];omega) (by rw[Pos.aG];omega) (by rw[T.fj]) ?_ aU (by rw[dI];exact hB _ _ aU (by rw[Pos.aG];omega)) ?_ (by rw[dI];exact lq) hb.size (fun k hk _=>hb.block k hk)
 . intro b x hb hx
   simp only[Bf,zT] at hx
   rw[T.bN _ (fun e=>hb e.symm)] at hx
   refine ⟨hx,?_⟩
   rw[dI]
   have:=(hW.live b x hx).2.1
   simp only;omega
 . intro a v ha
   have:=World.block_lt_of_cell? _ _ (hW.dc a v ha).1
   rw[dI];simp only;omega
end
end Go.Ai
namespace Go.Proofs
open Go Go.Ai Go.RowKit Go.ag Go.Proofs.YtehbdakjkjkekaaGreatDoor
def ag.aO (t:List Nat):ByteArray:=⟨(t.map UInt8.ofNat).toArray⟩
theorem ag.Lo {t:List Nat} {bs:ByteArray} (h:bs.data.toList.map UInt8.toNat=t):bs=ag.aO t:=by
 unfold ag.aO
 rw[<-h,List.map_map]
 have:(UInt8.ofNat∘UInt8.toNat)=id:=by funext c;simp
 rw[this,List.map_id]
def ag.parseLit (t0:List Nat) (er i:Int) (n:Nat) (cs:List AV):List AV->St->Option (AV×St):=fun args st=>
 match args with
 |  [.str t]=>match iC t t0 with
    |true=>match n with
     |0=>some (.tuple [.aj,.int .i64 i,.int .i64 er],st)
     |n+1=>some (.tuple [.slice st.next 0 (n+1) none 6,.int .i64 i,.int .i64 er],st.aI none none (some (.cells cs 0)))
    |false=>none
 |_=>none
theorem ag.I5 {ρ:Pos->Go.Ai.Loc} {n:Nat} {C:Cells}: ∀{cs:List AV} {vs:List Value},cs.mapM vI=some vs->(∀v∈cs,∃k i,v= .int k i\/ ∃s,v= .str s/\ ∀c∈s,c<256)->az ρ n C cs vs
 |[],vs,h,_=>by simp at h;subst h;exact az.nil
 |v ::cs,vs,h,hv=>by
  simp only[List.mapM_cons,Option.bind_eq_bind,Option.bind_eq_some_iff,Option.pure_def,Option.some.injEq] at h
  obtain ⟨y,hy,zs,hz,rfl⟩:=h
  refine az.cons ?_ (ag.I5 hz fun v hm=>hv v (List.mem_cons_of_mem _ hm))
  obtain ⟨k,i,rfl|⟨s,rfl,hs⟩⟩:=hv v (List.mem_cons_self ..)
  . simp[vI] at hy;subst hy;exact .int _ _
  . simp only[vI,Option.some.injEq] at hy;subst hy
    refine .str _ _ ?_
    show (s.map UInt8.ofNat).toArray.toList.map UInt8.toNat=s
    simp only[List.map_map]
    conv=>rhs;rw[<-List.map_id s]
    refine List.map_congr_left fun c hc=> ?_
    have:=hs c hc
    simp[UInt8.toNat_ofNat]
    omega
theorem ag.D7 {C:Cells} {m:Int} (hC:C ⟨1,0,none⟩=some (.int .i64 m)) {t0:List Nat} {er i:Int} {n k:Nat} {cs:List AV} {rs:List ag.RR} (fh:t0.length<=65536) (hp:ag.ki (ag.aO t0)=(er,k,rs)) (hi:i=k) (hn:n=rs.length)
  (iD:cs.mapM vI=some (ag.cellsOf rs)) (hsc: ∀v∈cs,∃k i,v= .int k i\/ ∃s,v= .str s/\ ∀c∈s,c<256) (hz:n=0->er≠0):mS Tryz.prog C 9 (ag.parseLit t0 er i n cs) where
 mono args st v st' h:=by
  unfold ag.parseLit at h
  split at h<;>first|(cases h;done)|skip
  split at h<;>first|(cases h;done)|skip
  split at h
  . injection h with h;injection h with h1 h2;subst h2;exact Nat.le_refl _
  . injection h with h;injection h with h1 h2;subst h2;exact St.yl _ _ _ _
 runs ρ st w args v st' bu h hW hv:=by
  unfold ag.parseLit at h
  split at h<;>first|(cases h;done)|skip
  rename_i t
  split at h<;>first|(cases h;done)|skip
  rename_i hbq
  have ht:t=t0:=kD.1 hbq
  subst ht
  obtain ⟨x,xs,rfl,h1,h2⟩:=hv.cons_inv
  have:=h2.kQ;subst this
  obtain ⟨bs,rfl,hs⟩:=h1.dN
  have mH:=ag.Lo hs
  have hm:=(hW.dc _ _ hC).1
  have Vh:bs.size<=65536:=by
    have:bs.data.toList.length=t.length:=by rw[<-hs];simp
    have h3:bs.size=bs.data.toList.length:=by simp
    omega
  have hc:=ag.Yr (fun s m w h=>ag.line s m w (Nat.le_trans h (by decide))) bs m w Vh hm
  have cA:(callFunc 9 ([Value.string bs]:List Value).toArray).run Tryz.prog w= .ok (.enter 9 #[.string bs]) w:=enters_of Tryz.func9 (by kernel_rfl) rfl _ _
  rw[cA]
  refine Calls.mono hc fun e w' Qe=> ?_
  obtain ⟨v',he,fO,hb,Cm⟩:=Qe
  rw[mH,hp] at he fO Cm
  subst he
  subst hi
  simp only at fO Cm ⊢
  split at h
  . injection h with h;injection h with e1 e2;subst e1;subst e2
    have wj:=Cm (.inl (hz rfl))
    subst wj
    exact ⟨ρ,.mP (az.cons .aj (az.cons (.int _ _) (az.cons (.int _ _) az.nil))),fun _ _=>rfl,Nat.le_refl _,hW.later hb,ni.later hW hb⟩
  . rename_i n'
    injection h with h;injection h with e1 e2;subst e1;subst e2
    rcases fO.2 with ⟨_,h0⟩|⟨g,cap,cur,rfl,hg,Ys,yh,hcm,SP,Wo⟩
    .   omega
    .   have hgl:=(Array.getElem?_eq_some_iff.1 Ys).1
        have hlen:cs.length=rs.length*6:=by
         have hvr:=ag.I5 (ρ:=ρ) (n:=0) (C:=C) iD hsc
         rw[hvr.1,ag.ER]
        obtain ⟨ρ',aU,dI,eF,hE⟩:=Yt (x0:= .cells cs 0) (base:=0) (size:=cur.size) hW hb hg hgl (fun ρ' n' _ _=>
         qK Ys (by rw[hlen,SP];exact Nat.mul_le_mul_right _ yh) (by rw[hlen,Wo];exact ag.I5 iD hsc) (fun i _=>by simp))
        refine ⟨ρ',.mP (az.cons ?_ (az.cons (.int _ _) (az.cons (.int _ _) az.nil))),aU,St.yl _ _ _ _,eF,hE⟩
        have ai0:n'+1<=cap:=by omega
        rw[<-hn]
        exact tB (by simp[St.aI,Pos.aG]) dI ai0 (fun c hc=>by cases hc) (by rw[SP];exact Nat.le_refl _)
noncomputable def ag.P1:List AV->St->Option (AV×St):=ag.parseLit [104,97,114,100,32,97,112,97,114,116,32,97,110,110,97,32,98,111,114,105,115,32,50,10,119,101,105,103,104,32,53,32,104,111,110,111,117,114,32,45,10] 0 0 2 [.int .u8 1,.int .i64 0,.str [97,110,110,97],.str [98,111,114,105,115],.str [],.int .i64 2,.int .u8 14,.int .i64 5,.str [],.str [],.str [],.int .i64 0]
noncomputable def ag.P2:List AV->St->Option (AV×St):=ag.parseLit [119,101,105,103,104,32,48,32,109,105,120,32,45,10] 41 0 0 []
noncomputable def ag.P3:List AV->St->Option (AV×St):=ag.parseLit [104,97,114,100,32,97,116,32,97,110,110,97,32,45,10] 4 0 0 []
theorem ag.ai1:ag.ki (ag.aO [104,97,114,100,32,97,112,97,114,116,32,97,110,110,97,32,98,111,114,105,115,32,50,10,119,101,105,103,104,32,53,32,104,111,110,111,117,114,32,45,10])=(0,0,[⟨1,0,⟨#[97,110,110,97]⟩,⟨#[98,111,114,105,115]⟩,⟨#[]⟩,2⟩,⟨14,5,⟨#[]⟩,⟨#[]⟩,⟨#[]⟩,0⟩]):=by kernel_rfl
theorem ag.ai2:ag.ki (ag.aO [119,101,105,103,104,32,48,32,109,105,120,32,45,10])=(41,0,[]):=by kernel_rfl
theorem ag.ai3:ag.ki (ag.aO [104,97,114,100,32,97,116,32,97,110,110,97,32,45,10])=(4,0,[]):=by kernel_rfl
theorem ag.Wz {k:IntKind} {i:Int}: ∃k' i',(AV.int k i)= .int k' i'\/ ∃s,(AV.int k i)= .str s/\ ∀c∈s,c<256:=⟨k,i,.inl rfl⟩
theorem ag.WA {s:List Nat} (h:s.all (fun c=>decide (c<256))=true): ∃k' i',(AV.str s)= .int k' i'\/ ∃s',(AV.str s)= .str s'/\ ∀c∈s',c<256:=⟨.i64,0,.inr ⟨s,rfl,fun c hc=>by have:=List.all_eq_true.1 h c hc;simpa using this⟩⟩
theorem ag.ai4 {C:Cells} {m:Int} (hC:C ⟨1,0,none⟩=some (.int .i64 m)):mS Tryz.prog C 9 ag.P1:=
 ag.D7 hC (by decide) ag.ai1 rfl rfl (by rfl) (by
  intro v hv
  simp only[List.mem_cons,List.not_mem_nil,or_false] at hv
  rcases hv with rfl|rfl|rfl|rfl|rfl|rfl|rfl|rfl|rfl|rfl|rfl|rfl<;>first|exact ag.Wz|exact ag.WA (by decide)) (by decide)
theorem ag.ai5 {C:Cells} {m:Int} (hC:C ⟨1,0,none⟩=some (.int .i64 m)):mS Tryz.prog C 9 ag.P2:=ag.D7 hC (by decide) ag.ai2 rfl rfl rfl (by simp) (by decide)
theorem ag.ai6 {C:Cells} {m:Int} (hC:C ⟨1,0,none⟩=some (.int .i64 m)):mS Tryz.prog C 9 ag.P3:=ag.D7 hC (by decide) ag.ai3 rfl rfl rfl (by simp) (by decide)
noncomputable def ag.orcA:eW:=uB [(277,vP),(30,Mf (FD Ju) (FD Jv)),(9,Mf ag.P1 (Mf ag.P2 ag.P3))]
noncomputable def ag.chkA:Bool:=vt (R:=Bool) false ag.orcA gg 100000 60 6 [] { heap:= .e,next:= .o (.i (.o (.i (.o (.i (.o (.i (.o .h)))))))) } fun v _=>fN v (.bool true)
theorem ag.Zi:ag.chkA=true:=by kernel_rfl
theorem ag.Cz {C:Cells}:mS Tryz.prog C 277 vP:=ZP (fn:=Tryz.f277) Tryz.func277 (by kernel_rfl) (by kernel_rfl) (by kernel_rfl) (by kernel_rfl)
theorem ag.afw {C:Cells}:mS Tryz.prog C 30 (FD Ju):=by
 have ho:=tK (P:=Tryz.prog) (C:=C) (l:=[(277,vP)]) (fun x hx=>by simp at hx;subst hx;exact ag.Cz)
 exact QK (O:=abf) (G:=gg) (m:=100000) (d:=60) (uA (by kernel_rfl) Dy ho.1 ho.2 Dz _ _) (AA ho.2 _ _) af5 aiz
theorem ag.afx {C:Cells}:mS Tryz.prog C 30 (FD Jv):=by
 have ho:=tK (P:=Tryz.prog) (C:=C) (l:=[(277,vP)]) (fun x hx=>by simp at hx;subst hx;exact ag.Cz)
 exact QK (O:=abg) (G:=gg) (m:=100000) (d:=60) (uA (by kernel_rfl) Dy ho.1 ho.2 Dz _ _) (AA ho.2 _ _) af6 aiA
theorem ag.Zj (m:Int) (w:World) (hm:w.cell? ⟨1,0,none⟩=some (.int .i64 m)):Calls Tryz.prog 6 #[] w fun e w'=>e= .returned (.bool true)/\Below w.heap.size w w':=by
 have hC:(fun ad=>w.cell? ad:Cells) ⟨1,0,none⟩=some (.int .i64 m):=hm
 have ho:=tK (P:=Tryz.prog) (C:=fun ad=>w.cell? ad) (l:=[(277,vP),(30,Mf (FD Ju) (FD Jv)),(9,Mf ag.P1 (Mf ag.P2 ag.P3))]) (fun x hx=>by
  simp only[List.mem_cons,List.not_mem_nil,or_false] at hx
  rcases hx with rfl|rfl|rfl
  . exact ag.Cz
  . exact QL ag.afw ag.afx
  . exact QL (ag.ai4 hC) (QL (ag.ai5 hC) (ag.ai6 hC)))
 exact Tg (by kernel_rfl) Dy Dz ho.1 ho.2 (fn:=Tryz.f6) (c:=Tryz.f6.body.get rfl) Tryz.func6 (by decide) rfl ag.Zi w (fun ad v h=>h) fun a v _ o h=>h
end Go.Proofs
end
section
namespace Go.ag
open Go Go.Proofs
theorem Sr {a b:ByteArray} (h:a.data.toList=b.data.toList):a=b:=by
 cases a;cases b;congr 1;exact Array.toList_inj.1 h
theorem JA (s:ByteArray) (a j b:Nat) (h:a+b<=s.size):(s.extract a s.size).extract j b=s.extract (a+j) (a+b):=by
 apply Sr
 rw[Lib.extract_data,Lib.extract_data,Lib.extract_data]
 simp only[List.drop_take,List.drop_drop,List.take_take]
 congr 1
 omega
theorem Th (s:ByteArray) (a:Nat):(s.extract a s.size).size=s.size - a:=by simp
theorem Ti (s:ByteArray) (a k:Nat) (h:a+k<s.size):(s.extract a s.size).data.toList[k]? =some s[a+k]:=by
 rw[Lib.extract_data,List.getElem?_take,List.getElem?_drop,if_pos (by omega)]
 rw[List.getElem?_eq_getElem (by simpa using h)]
 rfl
theorem M8 {l:List UInt8} {c:UInt8} {j:Nat} (h1:l[j]? =some c) (h2: ∀k,k<j->l[k]? ≠some c):Lib.indexByte l c=j:=by
 by_cases h:Lib.indexByte l c= -1
 . exact absurd h1 (Lib.indexByte_none h j)
 . have hge:=Lib.indexByte_ge l c
   obtain ⟨o,ho⟩: ∃o:Nat,Lib.indexByte l c=o:=⟨(Lib.indexByte l c).toNat,by omega⟩
   obtain ⟨g1,g2⟩:=Lib.indexByte_some ho
   have:o=j:=by
    rcases Nat.lt_trichotomy o j with h|h|h
    . exact absurd g1 (h2 o h)
    . exact h
    . exact absurd h1 (g2 j h)
   rw[ho,this]
theorem Tj {l:List UInt8} {c:UInt8} (h: ∀k:Nat,l[k]? ≠some c):Lib.indexByte l c= -1:=by
 by_cases h0:Lib.indexByte l c= -1
 . exact h0
 . have hge:=Lib.indexByte_ge l c
   obtain ⟨o,ho⟩: ∃o:Nat,Lib.indexByte l c=o:=⟨(Lib.indexByte l c).toNat,by omega⟩
   exact absurd (Lib.indexByte_some ho).1 (h o)
def Su (s:ByteArray) (c:UInt8) (a k:Nat):Prop:= ∀j,a<=j->j<k-> ∀h:j<s.size,s[j]≠c
theorem Tk {s:ByteArray} {c:UInt8} {a k:Nat} (h:Su s c a k) (hak:a<=k) (hk:k<s.size) (hc:s[k]=c):Lib.indexByte (s.extract a s.size).data.toList c=((k - a:Nat):Int):=by
 refine M8 ?_ ?_
 . rw[Ti s a (k - a) (by omega)]
   congr 1
   have:a+(k - a)=k:=by omega
   simp only[this];exact hc
 . intro j hj e
   rw[Ti s a j (by omega)] at e
   injection e with e
   exact h (a+j) (by omega) (by omega) (by omega) e
theorem afy {s:ByteArray} {c:UInt8} {a:Nat} (h:Su s c a s.size):Lib.indexByte (s.extract a s.size).data.toList c= -1:=by
 refine Tj fun j e=> ?_
 by_cases hj:a+j<s.size
 . rw[Ti s a j hj] at e
   injection e with e
   exact h (a+j) (by omega) hj hj e
 . rw[List.getElem?_eq_none (by rw[Lib.extract_data];simp;omega)] at e
   cases e
theorem ai7 {s:ByteArray} {a k:Nat} (h:Su s 10 a k) (hak:a<=k) (hk:k<s.size) (hc:s[k]=10):
  fA (s.extract a s.size)=s.extract a (k+1)::fA (s.extract (k+1) s.size):=by
 have hi:rG (s.extract a s.size)=((k - a:Nat):Int):=Tk h hak hk hc
 rw[M3 (by simp;omega) (by omega),hi]
 have e1:(((k - a:Nat):Int)).toNat=k - a:=by omega
 rw[e1,Th]
 rw[JA s a 0 (k - a+1) (by omega),JA s a (k - a+1) (s.size - a) (by omega)]
 rw[show a+(k - a+1)=k+1 by omega,show a+(s.size - a)=s.size by omega,Nat.add_zero]
theorem Wd {s:ByteArray} {a k:Nat} (h:Su s 32 a k) (hak:a<=k) (hk:k<s.size) (hc:s[k]=32):
  ag.jk (s.extract a s.size)=s.extract a k::ag.jk (s.extract (k+1) s.size):=by
 have hi:Lib.indexB (s.extract a s.size) ⟨#[32]⟩=((k - a:Nat):Int):=by
  exact (Lib.index_one _ _).trans (Tk h hak hk hc)
 unfold ag.jk
 rw[Lib.countB_hit _ _ _ (by decide) hi,Nat.add_comm,Lib.splitB_hit _ _ _ _ _ hi]
 have e1:(⟨#[32]⟩:ByteArray).size=1:=rfl
 rw[e1,Nat.add_zero,Th,JA s a 0 (k - a) (by omega),JA s a (k - a+1) (s.size - a) (by omega)]
 rw[show a+(k - a+1)=k+1 by omega,show a+(s.size - a)=s.size by omega,show a+(k - a)=k by omega,Nat.add_zero]
theorem We {s:ByteArray} {a:Nat} (h:Su s 32 a s.size):ag.jk (s.extract a s.size)=[s.extract a s.size]:=by
 have hi:Lib.indexB (s.extract a s.size) ⟨#[32]⟩= -1:=by
  exact (Lib.index_one _ _).trans (afy h)
 unfold ag.jk
 rw[Lib.splitB_miss _ _ _ _ hi]
end Go.ag
end
