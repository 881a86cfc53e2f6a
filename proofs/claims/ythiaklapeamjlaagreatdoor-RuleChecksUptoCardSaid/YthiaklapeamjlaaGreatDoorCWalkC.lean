/- rule.line, the lines of a text, rule.Parse, and the chapter's examples: what they return. -/
import Derived.Test.YthiaklapeamjlaaGreatDoorCWalkB
import Derived.Test.YthiaklapeamjlaaGreatDoorCWalkA
import Derived.Test.YthiaklapeamjlaaGreatDoorCBod
import Derived.RangeFuncNested
import Derived.RangeFuncBound
import Derived.RangeFuncCalls
import Derived.RangeFuncLeaves
import Derived.Shelf.Abstract
import Derived.Shelf.RegionOpen
import Derived.WalkKit
import Derived.OwnWalkIn
import Derived.TacticsInMore
import Derived.LoopNIn
import Derived.LoopIn
import Derived.Lib.Hide
import Derived.Lib.IndexLaws
import Derived.RangeFuncBox
import Derived.Test.YthiaklapeamjlaaGreatDoorCLitA
import Derived.Test.YthiaklapeamjlaaGreatDoorCLitB
import Derived.Test.YthiaklapeamjlaaGreatDoorCEvalD
set_option linter.all false
set_option linter.unusedSectionVars false
set_option linter.deprecated false
namespace Go.Proofs
section
open Go.RowKit Go.af
def af.okW (x:ByteArray):Bool:=[0,1,6,14,18].contains (kindOf x.data.toList)
def af.okL (x:ByteArray):Bool:=af.okW (af.mY (af.wj x) 1)&&af.okW (af.mY (af.wj x) 2)
set_option maxRecDepth 100000 in
set_option maxHeartbeats 4000000 in
theorem af.akr (Y5: ∀(u:Nat->ByteArray),af.okW (u 0)=true-> ∀(wt:Int) (B off len:Nat) (w:World),B<w.heap.size->(∀i,i<len->w.cell? ⟨B,off+i,none⟩=some (.string (u i)))->1<=len->len<=maxLen->(∀i,i<len->(u i).size<=maxLen)-> -1<=wt/\wt<=999999999->
    Calls Tryz.prog 223 #[.agg #[.int .u8 0,.int .i64 wt,.string ⟨#[]⟩,.string ⟨#[]⟩,.string ⟨#[]⟩,.int .i64 0],.slice (some ⟨B,off,none⟩) len len] w (af.Kh u len wt w))
  (s:ByteArray) (hq:af.okL s=true) (m:Int) (w:World) (hs:s.size<=2097152) (hm:w.cell? ⟨0,0,none⟩=some (.int .i64 m)):
  Calls Tryz.prog 127 #[.string s] w (af.Y4 s w):=by
 have hbk:=World.block_lt_of_cell? _ _ hm
 have aex:=Lib.hid Y5;clear Y5
 have hq:=(Bool.and_eq_true _ _).mp hq
 obtain ⟨s1,CY⟩: ∃s1,s1=af.wj s:=⟨_,rfl⟩
 obtain ⟨ok,bu⟩: ∃ok,ok=af.Qd s:=⟨_,rfl⟩
 have eI:s1.size<=2097152:=by rw[CY];exact Nat.le_trans (af.af8 s) hs
 have hn1:=af.aeu s1
 have MA:=af.af9 s1
 obtain ⟨n,hn⟩: ∃n,n=af.lO s1:=⟨_,rfl⟩
 rw[<-hn] at hn1 MA
 have ahW:=af.alg s
 rw[<-CY, <-bu] at ahW
 rw[<-CY] at hq
 have ahX:=af.ajB s1 m
 rw[<-hn] at ahX
 have Qe:=Lib.hid CY;have Qf:=Lib.hid bu;have HN:=Lib.hid hn;clear CY bu hn
 have H1:=Lib.hid ahW;have H2:=Lib.hid ahX;clear ahW ahX
 go_enter Tryz.func127,Tryz.ntmps127
 go_wp2_with (first|(go_at_call 220;refine (H1.out _ hs).mono ?_;rintro e w' ⟨rfl,hw⟩;subst hw)|(go_at_call 221;refine (H2.out _ eI (by rw[World.cell?_alloc_old _ _ _ (Nat.ne_of_lt hbk)];exact hm)).mono ?_;rintro e w' ⟨rfl,hw⟩;subst hw))
 have i2:=Is.new (w.alloc (.cells #[.int .u8 0,.int .i64 0,.string ⟨#[]⟩,.string ⟨#[]⟩,.string ⟨#[]⟩,.int .i64 0] 40)) 9 ((af.qm s1).map Value.string).toArray
 have i1:=(Is.new w 40 #[.int .u8 0,.int .i64 0,.string ⟨#[]⟩,.string ⟨#[]⟩,.string ⟨#[]⟩,.int .i64 0]).alloc (.cells ((af.qm s1).map Value.string).toArray 9)
 have hB:=((Below.refl w.heap.size w).alloc (Nat.le_refl _) (.cells #[.int .u8 0,.int .i64 0,.string ⟨#[]⟩,.string ⟨#[]⟩,.string ⟨#[]⟩,.int .i64 0] 40)).alloc (by simp) (.cells ((af.qm s1).map Value.string).toArray 9)
 rw[World.size_alloc] at i2
 have hz:((w.alloc (.cells #[.int .u8 0,.int .i64 0,.string ⟨#[]⟩,.string ⟨#[]⟩,.string ⟨#[]⟩,.int .i64 0] 40)).alloc (.cells ((af.qm s1).map Value.string).toArray 9)).heap.size=w.heap.size+1+1:=by simp
 generalize ((w.alloc (.cells #[.int .u8 0,.int .i64 0,.string ⟨#[]⟩,.string ⟨#[]⟩,.string ⟨#[]⟩,.int .i64 0] 40)).alloc (.cells ((af.qm s1).map Value.string).toArray 9))=W at i1 i2 hB hz ⊢
 have hwc: ∀k,k<n->W.cell? ⟨w.heap.size+1,k,none⟩=some (.string (af.mY s1 k)):=fun k hk=>by rw[i2.cell];exact af.aev s1 k (by rw[<-HN.out];exact hk)
 have hws: ∀k,(af.mY s1 k).size<=maxLen:=fun k=>Nat.le_trans (af.acn s1 k) (by unfold maxLen;omega)
 obtain ⟨u,hu⟩: ∃u,u=af.mY s1:=⟨_,rfl⟩
 rw[<-hu] at hwc hws hq
 have HQ:=Lib.hid hq;clear hq
 have HU:=Lib.hid hu;clear hu
 obtain ⟨d0,d1,d2,d3,d4,d5⟩:=i1.yU
 have f1:=i1.frozen
 have I1:=Lib.hid i1;have I2:=Lib.hid i2;have HB:=Lib.hid hB;have HWC:=Lib.hid hwc;have XY:=Lib.hid hws;have HZ:=Lib.hid hz
 have kQ:w.heap.size<W.heap.size:=by omega
 have Hu:w.heap.size+1<W.heap.size:=by omega
 clear i1 i2 hB hwc hws hz
 go_loop [4,18] (fun o i=> ∃k:Nat,k<=n/\i= .int .i64 k/\o= .bool (af.Bz ok u k)) (fun _ i=>n - (intOf i).toNat)
 case atStart=>exact ⟨0,Nat.zero_le _,rfl,by rw[af.aga]⟩
 case round=>
  obtain ⟨k,hk,rfl,rfl⟩:=hrel
  by_cases aP:k<n
  . have hc:=HWC.out k aP
    rcases af.tR (af.Bz ok u k) with ha|ha
    .   have HA:=Lib.hid (af.ahV ha)
        go_wp2
        go_round
        case rel=>exact ⟨k+1,by omega,by go_num,by rw[HA.out]⟩
        case measure=>simp[intOf];omega
    .   have HA:=Lib.hid (af.ajC ha)
        go_wp2
        go_round
        case rel=>exact ⟨k+1,by omega,by go_num,by rw[HA.out]⟩
        case measure=>simp[intOf];omega
  . obtain rfl:k=n:=by omega
    rcases af.tR (af.Bz ok u k) with ha|ha
    rotate_left
    .   have HA:=Lib.hid ha
        go_wp2
        refine bodyPost_ret (v:= .tuple #[.agg #[.int .u8 0,.int .i64 0,.string ⟨#[]⟩,.string ⟨#[]⟩,.string ⟨#[]⟩,.int .i64 0],.int .i64 3]) (by simp[results,Tryz.results127,go_sem, *]) rfl (af.mZ Qe.out Qf.out HN.out HU.out (by simp[af.l7,af.valOf,af.eM,HA.out]) ?_);(repeat (first|(with_reducible refine Below.setCell ?_ (by first|(simp;done)|(simp;omega)) _)|(with_reducible refine Below.alloc ?_ (by first|(simp;done)|(simp;omega)) _)|(with_reducible refine af.below_drewN ?_ _)|(with_reducible exact HB.out)))
    .   have HA :=Lib.hid ha
        have c0:=HWC.out 0 (by omega)
        by_cases hh:(u 0).toList=[104,97,114,100]
        . have HH:=Lib.hid hh
          have hh2:((u 0).toList==[104,97,114,100])=true:=by simpa using hh
          by_cases hn:1<k
          . have MG: ∀W':World,Below W.heap.size W W'->Calls Tryz.prog 223 #[.agg #[.int .u8 0,.int .i64 (0),.string ⟨#[]⟩,.string ⟨#[]⟩,.string ⟨#[]⟩,.int .i64 0],.slice (some ⟨w.heap.size+1,1,none⟩) (k - 1) (k - 1)] W' (fun e w1=>e= .returned (af.valOf (af.xF (fun i=>u (i+1)) (k - 1) (0)))/\Below W.heap.size W w1):=
              fun W' hb=>(aex.out (fun i=>u (i+1)) HQ.out.1 (0) (w.heap.size+1) 1 (k - 1) W' (Nat.lt_of_lt_of_le Hu hb.size) (fun i hi=>(hb.cell (p:=⟨w.heap.size+1,1+i,none⟩) Hu).trans ((HWC.out (1+i) (by omega)).trans (by rw[Nat.add_comm]))) (by omega) (by unfold maxLen;omega) (fun i _=>XY.out _) (by omega)).mono (fun e w1 h=>⟨h.1,hb.trans (h.2.mono hb.size)⟩)
            have XZ:=Lib.hid MG;clear MG
            rcases kz:af.xF (fun i=>u (i+1)) (k - 1) (0) with e0|r0
            . have Ct:=Lib.hid kz;clear kz
              go_wp2_with (first|(go_at_call 223;refine (XZ.out _ (by (repeat (first|(with_reducible refine Below.setCell ?_ (by first|omega|(simp;done)|(simp;omega)) _)|(with_reducible refine Below.alloc ?_ (by first|omega|(simp;done)|(simp;omega)) _)|(with_reducible refine af.below_drewN ?_ _)|(with_reducible exact Below.refl _ _))))).mono ?_;rintro e w1 ⟨he,hb⟩;rw[Ct.out] at he;obtain rfl:e= .returned (.tuple #[.agg #[.int .u8 0,.int .i64 0,.string ⟨#[]⟩,.string ⟨#[]⟩,.string ⟨#[]⟩,.int .i64 0],.int .i64 e0]):=he;obtain ⟨k0,k1,k2,k3,k4,k5⟩:=(I1.out.below hb kQ).yU;have kf:=(I1.out.below hb kQ).frozen;have Qg:=Lib.hid (HB.out.trans (hb.mono (Nat.le_of_lt kQ)));clear hb))
              refine bodyPost_ret (v:= .tuple #[.agg #[.int .u8 0,.int .i64 0,.string ⟨#[]⟩,.string ⟨#[]⟩,.string ⟨#[]⟩,.int .i64 0],.int .i64 e0]) (by simp[results,Tryz.results127,go_sem, *]) rfl (af.mZ Qe.out Qf.out HN.out HU.out (by simp[af.l7,HA.out,HH.out,hn,Ct.out,af.valOf,af.eM,af.RR.val]) ?_);(repeat (first|(with_reducible refine Below.setCell ?_ (by first|omega|(simp;done)|(simp;omega)) _)|(with_reducible refine Below.alloc ?_ (by first|omega|(simp;done)|(simp;omega)) _)|(with_reducible refine af.below_drewN ?_ _)|(with_reducible exact Qg.out)))
            . have Ct:=Lib.hid kz;clear kz
              go_wp2_with (first|(go_at_call 223;refine (XZ.out _ (by (repeat (first|(with_reducible refine Below.setCell ?_ (by first|omega|(simp;done)|(simp;omega)) _)|(with_reducible refine Below.alloc ?_ (by first|omega|(simp;done)|(simp;omega)) _)|(with_reducible refine af.below_drewN ?_ _)|(with_reducible exact Below.refl _ _))))).mono ?_;rintro e w1 ⟨he,hb⟩;rw[Ct.out] at he;obtain rfl:e= .returned (.tuple #[.agg #[.int .u8 r0.k,.int .i64 r0.wt,.string r0.a,.string r0.b,.string r0.t,.int .i64 r0.n],.int .i64 0]):=he;obtain ⟨k0,k1,k2,k3,k4,k5⟩:=(I1.out.below hb kQ).yU;have kf:=(I1.out.below hb kQ).frozen;have Qg:=Lib.hid (HB.out.trans (hb.mono (Nat.le_of_lt kQ)));clear hb))
              refine bodyPost_ret (v:= .tuple #[.agg #[.int .u8 r0.k,.int .i64 r0.wt,.string r0.a,.string r0.b,.string r0.t,.int .i64 r0.n],.int .i64 0]) (by simp[results,Tryz.results127,go_sem, *]) rfl (af.mZ Qe.out Qf.out HN.out HU.out (by simp[af.l7,HA.out,HH.out,hn,Ct.out,af.valOf,af.eM,af.RR.val]) ?_);(repeat (first|(with_reducible refine Below.setCell ?_ (by first|omega|(simp;done)|(simp;omega)) _)|(with_reducible refine Below.alloc ?_ (by first|omega|(simp;done)|(simp;omega)) _)|(with_reducible refine af.below_drewN ?_ _)|(with_reducible exact Qg.out)))
          . obtain rfl:k=1:=by omega
            have eP:((u 0).toList==[119,101,105,103,104])=false:=by rw[hh];decide
            go_wp2
            refine bodyPost_ret (v:= .tuple #[.agg #[.int .u8 0,.int .i64 0,.string ⟨#[]⟩,.string ⟨#[]⟩,.string ⟨#[]⟩,.int .i64 0],.int .i64 3]) (by simp[results,Tryz.results127,go_sem, *]) rfl (af.mZ Qe.out Qf.out HN.out HU.out (by simp[af.l7,af.valOf,af.eM,HA.out,HH.out]) ?_);(repeat (first|(with_reducible refine Below.setCell ?_ (by first|omega|(simp;done)|(simp;omega)) _)|(with_reducible refine Below.alloc ?_ (by first|omega|(simp;done)|(simp;omega)) _)|(with_reducible refine af.below_drewN ?_ _)|(with_reducible exact HB.out)))
        . have HH :=Lib.hid hh
          have hh2:((u 0).toList==[104,97,114,100])=false:=by simpa using hh
          by_cases hw:(u 0).toList=[119,101,105,103,104]
          . have HW :=Lib.hid hw
            have eP:((u 0).toList==[119,101,105,103,104])=true:=by simpa using hw
            by_cases hn:2<k
            . have c1:=HWC.out 1 (by omega)
              rcases af.tR (j9 (u 1).data.toList) with sH|sH
              rotate_left
              . go_wp2_with (first|(go_at_call 222;refine (af.DR _ _ (XY.out 1)).mono ?_;rintro e w' ⟨rfl,rfl⟩))
                refine bodyPost_ret (v:= .tuple #[.agg #[.int .u8 0,.int .i64 0,.string ⟨#[]⟩,.string ⟨#[]⟩,.string ⟨#[]⟩,.int .i64 0],.int .i64 3]) (by simp[results,Tryz.results127,go_sem, *]) rfl (af.mZ Qe.out Qf.out HN.out HU.out (by simp[af.l7,af.valOf,af.eM,HA.out,HW.out,hn,sH]) ?_);(repeat (first|(with_reducible refine Below.setCell ?_ (by first|omega|(simp;done)|(simp;omega)) _)|(with_reducible refine Below.alloc ?_ (by first|omega|(simp;done)|(simp;omega)) _)|(with_reducible refine af.below_drewN ?_ _)|(with_reducible exact HB.out)))
              . obtain ⟨nv,hnv⟩: ∃nv,nv=yW (u 1).data.toList:=⟨_,rfl⟩
                have cJ:=af.aew (u 1).data.toList
                have aey:=af.DR (u 1)
                rw[<-hnv] at cJ aey
                have HNV:=Lib.hid hnv;clear hnv
                have HNU:=Lib.hid aey;clear aey
                obtain ⟨cJ,dD⟩:=cJ
                by_cases GN:(nv==0)=true
                . have hv:nv=0:=by simpa using GN
                  subst hv
                  have MG: ∀W':World,Below W.heap.size W W'->Calls Tryz.prog 223 #[.agg #[.int .u8 0,.int .i64 (-1),.string ⟨#[]⟩,.string ⟨#[]⟩,.string ⟨#[]⟩,.int .i64 0],.slice (some ⟨w.heap.size+1,2,none⟩) (k - 2) (k - 2)] W' (fun e w1=>e= .returned (af.valOf (af.xF (fun i=>u (i+2)) (k - 2) (-1)))/\Below W.heap.size W w1):=
                    fun W' hb=>(aex.out (fun i=>u (i+2)) HQ.out.2 (-1) (w.heap.size+1) 2 (k - 2) W' (Nat.lt_of_lt_of_le Hu hb.size) (fun i hi=>(hb.cell (p:=⟨w.heap.size+1,2+i,none⟩) Hu).trans ((HWC.out (2+i) (by omega)).trans (by rw[Nat.add_comm]))) (by omega) (by unfold maxLen;omega) (fun i _=>XY.out _) (by omega)).mono (fun e w1 h=>⟨h.1,hb.trans (h.2.mono hb.size)⟩)
                  have XZ:=Lib.hid MG;clear MG
                  rcases kz:af.xF (fun i=>u (i+2)) (k - 2) (-1) with e0|r0
                  . have Ct:=Lib.hid kz;clear kz
                    go_wp2_with (first|(go_at_call 222;refine (HNU.out _ (XY.out 1)).mono ?_;rintro e w' ⟨rfl,rfl⟩)|(go_at_call 223;refine (XZ.out _ (by (repeat (first|(with_reducible refine Below.setCell ?_ (by first|omega|(simp;done)|(simp;omega)) _)|(with_reducible refine Below.alloc ?_ (by first|omega|(simp;done)|(simp;omega)) _)|(with_reducible refine af.below_drewN ?_ _)|(with_reducible exact Below.refl _ _))))).mono ?_;rintro e w1 ⟨he,hb⟩;rw[Ct.out] at he;obtain rfl:e= .returned (.tuple #[.agg #[.int .u8 0,.int .i64 0,.string ⟨#[]⟩,.string ⟨#[]⟩,.string ⟨#[]⟩,.int .i64 0],.int .i64 e0]):=he;obtain ⟨k0,k1,k2,k3,k4,k5⟩:=(I1.out.below hb kQ).yU;have kf:=(I1.out.below hb kQ).frozen;have Qg:=Lib.hid (HB.out.trans (hb.mono (Nat.le_of_lt kQ)));clear hb))
                    refine bodyPost_ret (v:= .tuple #[.agg #[.int .u8 0,.int .i64 0,.string ⟨#[]⟩,.string ⟨#[]⟩,.string ⟨#[]⟩,.int .i64 0],.int .i64 e0]) (by simp[results,Tryz.results127,go_sem, *]) rfl (af.mZ Qe.out Qf.out HN.out HU.out (by simp[af.l7,HA.out,HW.out,hn,sH, <-HNV.out,Ct.out,af.valOf,af.eM,af.RR.val]) ?_);(repeat (first|(with_reducible refine Below.setCell ?_ (by first|omega|(simp;done)|(simp;omega)) _)|(with_reducible refine Below.alloc ?_ (by first|omega|(simp;done)|(simp;omega)) _)|(with_reducible refine af.below_drewN ?_ _)|(with_reducible exact Qg.out)))
                  . have Ct:=Lib.hid kz;clear kz
                    go_wp2_with (first|(go_at_call 222;refine (HNU.out _ (XY.out 1)).mono ?_;rintro e w' ⟨rfl,rfl⟩)|(go_at_call 223;refine (XZ.out _ (by (repeat (first|(with_reducible refine Below.setCell ?_ (by first|omega|(simp;done)|(simp;omega)) _)|(with_reducible refine Below.alloc ?_ (by first|omega|(simp;done)|(simp;omega)) _)|(with_reducible refine af.below_drewN ?_ _)|(with_reducible exact Below.refl _ _))))).mono ?_;rintro e w1 ⟨he,hb⟩;rw[Ct.out] at he;obtain rfl:e= .returned (.tuple #[.agg #[.int .u8 r0.k,.int .i64 r0.wt,.string r0.a,.string r0.b,.string r0.t,.int .i64 r0.n],.int .i64 0]):=he;obtain ⟨k0,k1,k2,k3,k4,k5⟩:=(I1.out.below hb kQ).yU;have kf:=(I1.out.below hb kQ).frozen;have Qg:=Lib.hid (HB.out.trans (hb.mono (Nat.le_of_lt kQ)));clear hb))
                    refine bodyPost_ret (v:= .tuple #[.agg #[.int .u8 r0.k,.int .i64 r0.wt,.string r0.a,.string r0.b,.string r0.t,.int .i64 r0.n],.int .i64 0]) (by simp[results,Tryz.results127,go_sem, *]) rfl (af.mZ Qe.out Qf.out HN.out HU.out (by simp[af.l7,HA.out,HW.out,hn,sH, <-HNV.out,Ct.out,af.valOf,af.eM,af.RR.val]) ?_);(repeat (first|(with_reducible refine Below.setCell ?_ (by first|omega|(simp;done)|(simp;omega)) _)|(with_reducible refine Below.alloc ?_ (by first|omega|(simp;done)|(simp;omega)) _)|(with_reducible refine af.below_drewN ?_ _)|(with_reducible exact Qg.out)))
                . have hv1:(nv==0)=false:=by simpa using GN
                  have HV:Hid (¬nv=0):=Lib.hid (by simpa using GN)
                  clear GN
                  have MG: ∀W':World,Below W.heap.size W W'->Calls Tryz.prog 223 #[.agg #[.int .u8 0,.int .i64 (nv),.string ⟨#[]⟩,.string ⟨#[]⟩,.string ⟨#[]⟩,.int .i64 0],.slice (some ⟨w.heap.size+1,2,none⟩) (k - 2) (k - 2)] W' (fun e w1=>e= .returned (af.valOf (af.xF (fun i=>u (i+2)) (k - 2) (nv)))/\Below W.heap.size W w1):=
                    fun W' hb=>(aex.out (fun i=>u (i+2)) HQ.out.2 (nv) (w.heap.size+1) 2 (k - 2) W' (Nat.lt_of_lt_of_le Hu hb.size) (fun i hi=>(hb.cell (p:=⟨w.heap.size+1,2+i,none⟩) Hu).trans ((HWC.out (2+i) (by omega)).trans (by rw[Nat.add_comm]))) (by omega) (by unfold maxLen;omega) (fun i _=>XY.out _) (by omega)).mono (fun e w1 h=>⟨h.1,hb.trans (h.2.mono hb.size)⟩)
                  have XZ:=Lib.hid MG;clear MG
                  rcases kz:af.xF (fun i=>u (i+2)) (k - 2) (nv) with e0|r0
                  . have Ct:=Lib.hid kz;clear kz
                    go_wp2_with (first|(go_at_call 222;refine (HNU.out _ (XY.out 1)).mono ?_;rintro e w' ⟨rfl,rfl⟩)|(go_at_call 223;refine (XZ.out _ (by (repeat (first|(with_reducible refine Below.setCell ?_ (by first|omega|(simp;done)|(simp;omega)) _)|(with_reducible refine Below.alloc ?_ (by first|omega|(simp;done)|(simp;omega)) _)|(with_reducible refine af.below_drewN ?_ _)|(with_reducible exact Below.refl _ _))))).mono ?_;rintro e w1 ⟨he,hb⟩;rw[Ct.out] at he;obtain rfl:e= .returned (.tuple #[.agg #[.int .u8 0,.int .i64 0,.string ⟨#[]⟩,.string ⟨#[]⟩,.string ⟨#[]⟩,.int .i64 0],.int .i64 e0]):=he;obtain ⟨k0,k1,k2,k3,k4,k5⟩:=(I1.out.below hb kQ).yU;have kf:=(I1.out.below hb kQ).frozen;have Qg:=Lib.hid (HB.out.trans (hb.mono (Nat.le_of_lt kQ)));clear hb))
                    refine bodyPost_ret (v:= .tuple #[.agg #[.int .u8 0,.int .i64 0,.string ⟨#[]⟩,.string ⟨#[]⟩,.string ⟨#[]⟩,.int .i64 0],.int .i64 e0]) (by simp[results,Tryz.results127,go_sem, *]) rfl (af.mZ Qe.out Qf.out HN.out HU.out (by simp[af.l7,HA.out,HW.out,hn,sH, <-HNV.out,HV.out,Ct.out,af.valOf,af.eM,af.RR.val]) ?_);(repeat (first|(with_reducible refine Below.setCell ?_ (by first|omega|(simp;done)|(simp;omega)) _)|(with_reducible refine Below.alloc ?_ (by first|omega|(simp;done)|(simp;omega)) _)|(with_reducible refine af.below_drewN ?_ _)|(with_reducible exact Qg.out)))
                  . have Ct:=Lib.hid kz;clear kz
                    go_wp2_with (first|(go_at_call 222;refine (HNU.out _ (XY.out 1)).mono ?_;rintro e w' ⟨rfl,rfl⟩)|(go_at_call 223;refine (XZ.out _ (by (repeat (first|(with_reducible refine Below.setCell ?_ (by first|omega|(simp;done)|(simp;omega)) _)|(with_reducible refine Below.alloc ?_ (by first|omega|(simp;done)|(simp;omega)) _)|(with_reducible refine af.below_drewN ?_ _)|(with_reducible exact Below.refl _ _))))).mono ?_;rintro e w1 ⟨he,hb⟩;rw[Ct.out] at he;obtain rfl:e= .returned (.tuple #[.agg #[.int .u8 r0.k,.int .i64 r0.wt,.string r0.a,.string r0.b,.string r0.t,.int .i64 r0.n],.int .i64 0]):=he;obtain ⟨k0,k1,k2,k3,k4,k5⟩:=(I1.out.below hb kQ).yU;have kf:=(I1.out.below hb kQ).frozen;have Qg:=Lib.hid (HB.out.trans (hb.mono (Nat.le_of_lt kQ)));clear hb))
                    refine bodyPost_ret (v:= .tuple #[.agg #[.int .u8 r0.k,.int .i64 r0.wt,.string r0.a,.string r0.b,.string r0.t,.int .i64 r0.n],.int .i64 0]) (by simp[results,Tryz.results127,go_sem, *]) rfl (af.mZ Qe.out Qf.out HN.out HU.out (by simp[af.l7,HA.out,HW.out,hn,sH, <-HNV.out,HV.out,Ct.out,af.valOf,af.eM,af.RR.val]) ?_);(repeat (first|(with_reducible refine Below.setCell ?_ (by first|omega|(simp;done)|(simp;omega)) _)|(with_reducible refine Below.alloc ?_ (by first|omega|(simp;done)|(simp;omega)) _)|(with_reducible refine af.below_drewN ?_ _)|(with_reducible exact Qg.out)))
            . have W9:decide (2<(k:Int))=false:=by rw[decide_eq_false_iff_not];omega
              go_wp2
              refine bodyPost_ret (v:= .tuple #[.agg #[.int .u8 0,.int .i64 0,.string ⟨#[]⟩,.string ⟨#[]⟩,.string ⟨#[]⟩,.int .i64 0],.int .i64 3]) (by simp[results,Tryz.results127,go_sem, *]) rfl (af.mZ Qe.out Qf.out HN.out HU.out (by simp[af.l7,af.valOf,af.eM,HA.out,HW.out,hn]) ?_);(repeat (first|(with_reducible refine Below.setCell ?_ (by first|omega|(simp;done)|(simp;omega)) _)|(with_reducible refine Below.alloc ?_ (by first|omega|(simp;done)|(simp;omega)) _)|(with_reducible refine af.below_drewN ?_ _)|(with_reducible exact HB.out)))
          . have HW:=Lib.hid hw
            have eP:((u 0).toList==[119,101,105,103,104])=false:=by simpa using hw
            go_wp2
            refine bodyPost_ret (v:= .tuple #[.agg #[.int .u8 0,.int .i64 0,.string ⟨#[]⟩,.string ⟨#[]⟩,.string ⟨#[]⟩,.int .i64 0],.int .i64 3]) (by simp[results,Tryz.results127,go_sem, *]) rfl (af.mZ Qe.out Qf.out HN.out HU.out (by simp[af.l7,af.valOf,af.eM,HA.out,HW.out,HH.out]) ?_);(repeat (first|(with_reducible refine Below.setCell ?_ (by first|omega|(simp;done)|(simp;omega)) _)|(with_reducible refine Below.alloc ?_ (by first|omega|(simp;done)|(simp;omega)) _)|(with_reducible refine af.below_drewN ?_ _)|(with_reducible exact HB.out)))
end
section
open Go.RowKit Go.af
theorem af.Gb {x:ByteArray} (hq:af.okW x=true) {a t:Int} {b n:Bool} (h1:nY (kindOf x.data.toList)=a) (h2:nZ (kindOf x.data.toList)=b) (h3:n6 (kindOf x.data.toList)=t) (h4:n8 (kindOf x.data.toList)=n)
  (hn: ∀K∈[0,1,6,14,18],¬(nY K=a/\nZ K=b/\n6 K=t/\n8 K=n)):False:=
 hn _ (by unfold af.okW at hq;exact List.contains_iff_mem.1 hq) ⟨h1,h2,h3,h4⟩
theorem af.aks (u:Nat->ByteArray) (hq:af.okW (u 0)=true) (wt:Int) (B off len:Nat) (w:World) (hB:B<w.heap.size) (hc: ∀i,i<len->w.cell? ⟨B,off+i,none⟩=some (.string (u i))) (h1:1<=len) (h3:len<=maxLen) (hu: ∀i,i<len->(u i).size<=maxLen) (WO: -1<=wt/\wt<=999999999):
   Calls Tryz.prog 223 #[.agg #[.int .u8 0,.int .i64 wt,.string ⟨#[]⟩,.string ⟨#[]⟩,.string ⟨#[]⟩,.int .i64 0],.slice (some ⟨B,off,none⟩) len len] w (af.Kh u len wt w):=by
 rcases af.shape (kindOf (u 0).data.toList) (oa _) with h|h|h|h|h|h|h|h|h
 . exact af.akq u wt B off len w hB hc h1 h3 hu WO h
 . exact af.ajM u wt B off len w hB hc h1 h3 hu WO h
 . exact (af.Gb hq h.2.1 h.2.2.1 h.2.2.2.1 h.2.2.2.2 (by decide)).elim
 . exact af.ajN u wt B off len w hB hc h1 h3 hu WO h
 . exact (af.Gb hq h.2.1 h.2.2.1 h.2.2.2.1 h.2.2.2.2 (by decide)).elim
 . exact af.ajO u wt B off len w hB hc h1 h3 hu WO h
 . exact (af.Gb hq h.2.1 h.2.2.1 h.2.2.2.1 h.2.2.2.2 (by decide)).elim
 . exact (af.Gb hq h.2.1 h.2.2.1 h.2.2.2.1 h.2.2.2.2 (by decide)).elim
 . exact (af.Gb hq h.2.1 h.2.2.1 h.2.2.2.1 h.2.2.2.2 (by decide)).elim
theorem af.line (s:ByteArray) (hq:af.okL s=true) (m:Int) (w:World) (hs:s.size<=2097152) (hm:w.cell? ⟨0,0,none⟩=some (.int .i64 m)):Calls Tryz.prog 127 #[.string s] w (af.Y4 s w):=
 af.akr af.aks s hq m w hs hm
end
end Go.Proofs
namespace Go.af
section
open Go Go.RowKit
variable {F : Fence} {n : Nat} {P : Program}
structure Nn (b:Nat) (W W':World):Prop where
 cell:W'.cell? ⟨b,0,none⟩=W.cell? ⟨b,0,none⟩
 cZ:W'.frozen? ⟨b,0,none⟩=W.frozen? ⟨b,0,none⟩
theorem Nn.trans {b:Nat} {A B C:World} (h:Nn b A B) (k:Nn b B C):Nn b A C:=⟨k.cell.trans h.cell,k.cZ.trans h.cZ⟩
theorem Nn.putObj {b l:Nat} {W:World} (o:Obj) (h:b≠l):Nn b W (W.putObj l o):=by
 have:(W.putObj l o).heap[b]? =W.heap[b]? :=World.putObj_heap_other h
 exact ⟨by simp[World.cell?,this],by simp[World.frozen?,this]⟩
def AD (b:Nat) {β:Type} (J:β->World->Prop):Prop:= ∀s W v,J s W->J s (W.setCell ⟨b,0,none⟩ v)
def SeqC {α:Type} (F:Fence) (n:Nat) (P:Program) (g b:Nat) (lb:Array Value) (encs:α->Array Value) (xs:List α) (w:World):Prop:=
 ∀  (l:Nat) (J Jx:List α->World->Prop) (W:World),Below w.heap.size w W->AbidesFrom W.heap.size J->AbidesFrom W.heap.size Jx->AD b J->AD b Jx->
    (∀pre x W1,J pre W1->pre++[x] <+: xs->YieldAt F (n - 1) P l (encs x) W1 fun e W'=>
     (e= .returned (.bool true)/\J (pre++[x]) W'/\Nn b W1 W')\/(e= .returned (.bool false)/\Jx (pre++[x]) W'))->
    J [] W->
    CallsIn F n P g (#[.func (.yield l) #[] #[]]++lb) W fun e W'=>(∃v,e= .returned v)/\(J xs W'\/ ∃pre,pre <+: xs/\Jx pre W')
def agb {α:Type} (b B:Nat) (I:List α->World->Prop) (Ix:List α->World->Prop) (xs:List α) (W:World):Exit->Act->World->Prop
 | .normal,_,W'=>KeepsFrom B W W'/\Nn b W W'/\I xs W'
 | .ret,_,W'=>KeepsFrom B W W'/\Ix xs W'
 |_,_,_=>False
theorem aco {α:Type} {g:Operand} {ps:Array Tmp} {assign body:Code} {Q:Exit->Act->World->Prop} {a:Act} {w:World}
   (RO:F.round=none) (h1:1<=n) {gf b:Nat} {lb:Array Value} (hg:a.eval g= .func (.func gf) #[] lb) (hFg:F.fn gf) (eg: ∀args w,(callFunc gf args).run P w= .ok (.enter gf args) w)
   {encs:α->Array Value} {xs:List α} (hseq:SeqC F (n - 1) P gf b lb encs xs w) (hbw:b<w.heap.size) (hps: ∀x,(encs x).size=ps.size)
   (I:List α->World->Prop) (Ix:List α->World->Prop) (hI:OwnFrom w.heap.size I) (hIx:OwnFrom w.heap.size Ix) (hIs:AD b I) (hIxs:AD b Ix) (h0:I [] w) (a₁:α->Act)
   (ajD: ∀(l:Nat) (x:α) (W:World) (K:Act->World->Prop),K (a₁ x) W->
     assign.wpIn (F.inRound l) (n - 1 - 1) P (Exit.then K (fun _ _ _=>False)) { tmps:=(ps.zip (encs x)).foldl (fun t (p,v)=>t.setIfInBounds p v) a.tmps,defers:=[] } W)
   (Y5: ∀(l:Nat) (pre:List α) (x:α) (W:World),I pre W->pre++[x] <+: xs->w.heap.size<=W.heap.size->body.wpIn (F.inRound l) (n - 1 - 1) P (agb b w.heap.size I Ix (pre++[x]) W) (a₁ x) W)
   (alh: ∀(D:Nat) (W:World),w.heap.size<=D->I xs W->W.heap[D]? =some (.deferred (some []))->Q .normal { a with defers:={ target:= .collected D,args:= #[] }::a.defers } W)
   (ali: ∀(D:Nat) (pre:List α) (W:World),w.heap.size<=D->pre <+: xs->Ix pre W->W.heap[D]? =some (.deferred (some []))->Code.ret.wpIn F n P Q { a with defers:={ target:= .collected D,args:= #[] }::a.defers } W):
   (Code.rangeFunc g ps assign body).wpIn F n P Q a w:=by
 refine wpIn_rangeFunc fun fn kY=> ?_
 rw[RO]
 let TD:LoopState->Option Code->Loop:=fun st pe=>{ state:=st,pending:=pe,fn,tmps:=a.tmps,params:=ps,assign,body,defers:=w.heap.size }
 let L:Nat:=w.heap.size+1
 let W1:World:=(w.alloc (.deferred (some []))).alloc (.loop (TD .ready none))
 have hL1:W1.heap[L]? =some (.loop (TD .ready none)):=by
   have:=World.alloc_heap_new (w.alloc (.deferred (some []))) (.loop (TD .ready none));rwa [World.size_alloc] at this
 have hK1:W1.heap[w.heap.size]? =some (.deferred (some [])):=(Below.heap_alloc _ _ _ (by simp)).trans (World.alloc_heap_new w _)
 have hWs:W1.heap.size=w.heap.size+1+1:=by show ((w.alloc _).alloc _).heap.size=_;simp
 have cJ:Below w.heap.size w W1:=((Below.refl _ w).alloc (Nat.le_refl _) _).alloc (by simp) _
 let J:List α->World->Prop:=fun pre W=>I pre W/\W.heap[L]? =some (.loop (TD .ready none))/\W.heap[w.heap.size]? =some (.deferred (some []))/\w.heap.size<=W.heap.size
 let Jx:List α->World->Prop:=fun pre W=>Ix pre W/\W.heap[L]? =some (.loop (TD .done (some .ret)))/\W.heap[w.heap.size]? =some (.deferred (some []))/\w.heap.size<=W.heap.size
 have up: ∀{A:World} {row:Option Nat},(∀r,row=some r->W1.heap.size<=r/\ ∃o:Obj,A.heap[r]? =some o/\o.isWalk=true)-> ∀r,row=some r->w.heap.size<=r/\ ∃o:Obj,A.heap[r]? =some o/\o.isCells=false:=
   fun hr r e=>by obtain ⟨q,o,ho,hw⟩:=hr r e;exact ⟨by omega,o,ho,Obj.not_cells_of_walk hw⟩
 have hJ:AbidesFrom W1.heap.size J:=fun s A B row hs ze hr=>
   ⟨hI s A B row hs.1 ze (up hr),(grownBy_keeps ze (fun r e=>(hr r e).2) hs.2.1 rfl).trans hs.2.1,(grownBy_keeps ze (fun r e=>(hr r e).2) hs.2.2.1 rfl).trans hs.2.2.1,Nat.le_trans hs.2.2.2 ze.size⟩
 have hJx:AbidesFrom W1.heap.size Jx:=fun s A B row hs ze hr=>
   ⟨hIx s A B row hs.1 ze (up hr),(grownBy_keeps ze (fun r e=>(hr r e).2) hs.2.1 rfl).trans hs.2.1,(grownBy_keeps ze (fun r e=>(hr r e).2) hs.2.2.1 rfl).trans hs.2.2.1,Nat.le_trans hs.2.2.2 ze.size⟩
 have Bc: ∀(W:World) (v:Value) (k:Nat),w.heap.size<=k->(W.setCell ⟨b,0,none⟩ v).heap[k]? =W.heap[k]? :=fun W v k hk=>Below.heap_setCell W _ v k (by show k≠b;omega)
 have hJs:AD b J:=fun s W v hs=>⟨hIs s W v hs.1,(Bc _ _ _ (by show w.heap.size<=w.heap.size+1;omega)).trans hs.2.1,(Bc _ _ _ (Nat.le_refl _)).trans hs.2.2.1,by rw[World.size_setCell];exact hs.2.2.2⟩
 have hJxs:AD b Jx:=fun s W v hs=>⟨hIxs s W v hs.1,(Bc _ _ _ (by show w.heap.size<=w.heap.size+1;omega)).trans hs.2.1,(Bc _ _ _ (Nat.le_refl _)).trans hs.2.2.1,by rw[World.size_setCell];exact hs.2.2.2⟩
 refine ⟨L,[{ target:= .collected w.heap.size,args:= #[] }],W1,{ target:= .fn (.func gf) lb,args:= #[.func (.yield L) #[] #[]] },W1,gf, #[.func (.yield L) #[] #[]]++lb,W1,run_enterLoop_outer _ _ _ _ _,?_,?_,?_,fun _=>h1,?_⟩
 . simp only[resolve,hg];simp[go_sem]
 . intro f' hf';simp[Target.leads] at hf';subst hf';exact hFg
 . simp[invoke,go_sem,eg]
 refine (hseq L J Jx W1 cJ hJ hJx hJs hJxs ?_ ⟨hI.alloc _ (hI.alloc _ h0),hL1,hK1,by omega⟩).mono ?_
 ·
   rintro pre x W ⟨hi,hl,hk,eI⟩ TE
   have aP:L<W.heap.size:=(Array.getElem?_eq_some_iff.1 hl).1
   refine ⟨fn,_,assign,body,run_yield (P:=P) (args:=encs x) hl (hps x),roundIn_of_wpIn kY (ajD _ x W _ ⟨_,run_beginRound hl rfl,?_⟩)⟩
   have hneL:b≠L:=by show b≠w.heap.size+1;omega
   let W2:World:=W.putObj L (.loop { TD .ready none with state:= .busy })
   have jF:W2.heap[L]? =some (.loop { TD .ready none with state:= .busy }):=World.putObj_heap_same aP
   have o9:W2.heap[w.heap.size]? =some (.deferred (some [])):=(World.putObj_heap_other (by show w.heap.size≠w.heap.size+1;omega)).trans hk
   have ahY:w.heap.size<=W2.heap.size:=Nat.le_trans eI (grownBy_putObj' W L _).size
   refine wpIn_mono (Y5 L pre x W2 (hI.putObj _ hi (by show w.heap.size<=w.heap.size+1;omega) hl rfl) TE ahY) ?_
   rintro e a3 W3 hp
   cases e with
   | normal=>
     obtain ⟨Ca,hkp3,UN⟩:=hp
     have hl3:=Ca.same _ _ (by show w.heap.size<=w.heap.size+1;omega) jF rfl
     have ahZ:=(Array.getElem?_eq_some_iff.1 hl3).1
     exact ⟨_,_,run_endRound (P:=P) none hl3,.inl ⟨rfl,⟨hI.putObj _ UN (by show w.heap.size<=w.heap.size+1;omega) hl3 rfl,World.putObj_heap_same ahZ,(World.putObj_heap_other (by show w.heap.size≠w.heap.size+1;omega)).trans (Ca.same _ _ (Nat.le_refl _) o9 rfl),Nat.le_trans (Nat.le_trans ahY Ca.size) (grownBy_putObj' W3 L _).size⟩,
        ((Nn.putObj _ hneL).trans hkp3).trans (Nn.putObj _ hneL)⟩⟩
   | ret=>
     obtain ⟨Ca,UN⟩:=hp
     have hl3:=Ca.same _ _ (by show w.heap.size<=w.heap.size+1;omega) jF rfl
     have ahZ:=(Array.getElem?_eq_some_iff.1 hl3).1
     exact ⟨_,_,run_endRound (P:=P) (some .ret) hl3,.inr ⟨rfl,hIx.putObj _ UN (by show w.heap.size<=w.heap.size+1;omega) hl3 rfl,World.putObj_heap_same ahZ,(World.putObj_heap_other (by show w.heap.size≠w.heap.size+1;omega)).trans (Ca.same _ _ (Nat.le_refl _) o9 rfl),Nat.le_trans (Nat.le_trans ahY Ca.size) (grownBy_putObj' W3 L _).size⟩⟩
   |exit id=>exact hp.elim
   |goto t=>exact hp.elim
   |panic ch=>exact hp.elim
   |outgrown=>exact hp.elim
 ·
   rintro e W2 ⟨⟨v,rfl⟩,(⟨hi,hl,hk,_⟩|⟨pre,TE,hi,hl,hk,_⟩)⟩
   . exact ⟨none,_,run_endLoop (P:=P) hl (by show LoopState.ready≠LoopState.busy;simp),alh _ _ (Nat.le_refl _) (hI.putObj _ hi (by show w.heap.size<=w.heap.size+1;omega) hl rfl) ((World.putObj_heap_other (by show w.heap.size≠w.heap.size+1;omega)).trans hk)⟩
   . exact ⟨some .ret,_,run_endLoop (P:=P) hl (by show LoopState.done≠LoopState.busy;simp),ali _ pre _ (Nat.le_refl _) TE (hIx.putObj _ hi (by show w.heap.size<=w.heap.size+1;omega) hl rfl) ((World.putObj_heap_other (by show w.heap.size≠w.heap.size+1;omega)).trans hk)⟩
end
end Go.af
section
namespace Go.af
open Go
def sZ (s:ByteArray):Int:=Lib.indexByte s.data.toList 10
def sr:Nat->ByteArray->List ByteArray
 |0,_=>[]
 |f+1,s=>if s.size=0 then [] else if sZ s<0 then [s] else s.extract 0 ((sZ s).toNat+1)::sr f (s.extract ((sZ s).toNat+1) s.size)
def eG (s:ByteArray):List ByteArray:=sr s.size s
theorem ajE (s:ByteArray): -1<=sZ s:=Lib.indexByte_ge _ _
theorem ajF (s:ByteArray) (h:0<=sZ s):(sZ s).toNat<s.size:=by
 have e:sZ s=((sZ s).toNat:Int):=by omega
 have:=(Lib.indexByte_some (l:=s.data.toList) (c:=10) (o:=(sZ s).toNat) e).1
 have:=(List.getElem?_eq_some_iff.1 this).1
 simpa using this
theorem SL: ∀(f g:Nat) (s:ByteArray),s.size<=f->s.size<=g->sr f s=sr g s
 |0,0,_,_,_=>rfl
 |0,g+1,s,h,_=>by
  have:s.size=0:=by omega
  simp[sr,this]
 |f+1,0,s,_,h=>by
  have:s.size=0:=by omega
  simp[sr,this]
 |f +1,g+1,s,h1,h2=>by
  unfold sr
  split
  . rfl
  . split
    . rfl
    . rw[SL f g _ (by simp;omega) (by simp;omega)]
theorem Vq {s:ByteArray} (h:s.size=0):eG s=[]:=by unfold eG;rw[h];rfl
theorem acp {s:ByteArray} (h:s.size≠0) (hi:sZ s<0):eG s=[s]:=by
 unfold eG
 obtain ⟨k,hk⟩: ∃k,s.size=k+1:=⟨s.size - 1,by omega⟩
 rw[hk]
 simp only[sr]
 rw[if_neg h,if_pos hi]
theorem aez {s:ByteArray} (h:s.size≠0) (hi:0<=sZ s):eG s=s.extract 0 ((sZ s).toNat+1)::eG (s.extract ((sZ s).toNat+1) s.size):=by
 unfold eG
 obtain ⟨k,hk⟩: ∃k,s.size=k+1:=⟨s.size - 1,by omega⟩
 conv=>lhs;rw[hk]
 simp only[sr]
 rw[if_neg h,if_neg (by omega)]
 rw[SL k _ _ (by simp;omega) (Nat.le_refl _)]
theorem SM: ∀(f:Nat) (s x:ByteArray),x∈sr f s->x.size<=s.size
 |0,_,_,h=>by simp[sr] at h
 |f +   1,s,x,h=>by
  unfold sr at h
  split at h
  . simp at h
  . split at h
    .   simp at h;rw[h];exact Nat.le_refl _
    .   rcases List.mem_cons.1 h with rfl|h
        . simp;omega
        . have:=SM f _ x h
          simp at this;omega
theorem acq (s x:ByteArray) (h:x∈eG s):x.size<=s.size:=SM _ s x h
def abz (w:World) (b:Nat):Nat:=match w.cell? ⟨b,0,none⟩ with
 |some (.string r)=>r.size
 |_=>0
theorem H6 {w:World} {b:Nat} {r:ByteArray} (h:w.cell? ⟨b,0,none⟩=some (.string r)):abz w b=r.size:=by unfold abz;rw[h]
end Go.af
namespace Go.Proofs
open Go.RowKit Go.Shelf Go.af
attribute [local go_sem] Oper.semAt_some
theorem af.grown_drewN (w:World) (k:Nat):w.grownBy (w.drewN k) none:=⟨rfl,rfl,rfl,Nat.le_refl _,fun _ _ _=>rfl⟩
theorem af.ais (r:ByteArray) (w:World):Calls Tryz.prog 219 #[.string r,.int .u8 10] w fun e w'=>e= .returned (.int .i64 (sZ r))/\w=w':=(Tryz.strings_IndexByte r 10 w).mono fun _ _ h=>⟨h.1,h.2.symm⟩
set_option maxRecDepth 100000 in
set_option maxHeartbeats 2000000 in
theorem af.ajG (n:Nat) (l b:Nat) (s:ByteArray) (hs:s.size<=65536) (J Jx:List ByteArray->World->Prop) (W:World) (B0:Nat) (hJ:AbidesFrom B0 J) (hJx:AbidesFrom B0 Jx) (hJs:AD b J)
  (hY: ∀pre x W1,J pre W1->pre++[x] <+: eG s->YieldAt Fence.wide (n - 1) Tryz.prog l #[.string x] W1 fun e W'=>
    (e= .returned (.bool true)/\J (pre++[x]) W'/\Nn b W1 W')\/(e= .returned (.bool false)/\Jx (pre++[x]) W'))
  (hn:1<=n) (hb:W.cell? ⟨b,0,none⟩=some (.string s)) (hf:W.frozen? ⟨b,0,none⟩=false) (h0:J [] W):
  CallsIn Fence.wide n Tryz.prog 218 #[.func (.yield l) #[] #[],.pointer (some ⟨b,0,none⟩)] W fun e W'=>(∃v,e= .returned v)/\(J (eG s) W'\/ ∃pre,pre <+: eG s/\Jx pre W'):=by
 have HY:=Lib.hid hY;clear hY
 refine callsIn_of_wp Tryz.func218 rfl trivial ?_ rfl
 simp only[Tryz.ntmps218,List.size_toArray,List.length_cons,List.length_nil,Nat.reduceAdd,Nat.reduceSub,Array.replicate_succ,Array.replicate_zero,List.push_toArray,List.append_toArray,List.nil_append,List.cons_append]
 gi_wp2
 gi_loopw [3] (fun _ wr=> ∃(pre:List ByteArray) (r:ByteArray),wr.cell? ⟨b,0,none⟩=some (.string r)/\wr.frozen? ⟨b,0,none⟩=false/\eG s=pre++eG r/\r.size<=s.size/\J pre wr) (fun _ wr=>abz wr b)
 case atStart=>exact ⟨[],s,hb,hf,rfl,Nat.le_refl _,h0⟩
 case round=>
  obtain ⟨pre,r,hc,GF,tq,hrs,hj⟩:=hrel
  have HSP:=Lib.hid tq;have HJ0:=Lib.hid hj;clear tq hj
  by_cases NQ:r.size=0
  . gi_wp2
    go_end0
    refine ⟨⟨_,rfl⟩,.inl ?_⟩
    rw[HSP.out,Vq NQ,List.append_nil];exact HJ0.out
  . have hr1:0<r.size:=by omega
    have hge:=ajE r
    by_cases hi:sZ r<0
    .   have HL:=Lib.hid (acp NQ hi)
        have hj1:=hJs _ _ (.string ⟨#[]⟩) HJ0.out
        obtain ⟨fn,tmps,assign,body,hy,hR⟩:=HY.out pre r _ hj1 (by rw[HSP.out,HL.out];exact List.prefix_refl _)
        gi_wp2_with (first|(refine ⟨trivial,?_⟩;gi_at_call 219;refine (callsIn_wide.2 (af.ais r _)).mono ?_;rintro e w' ⟨rfl,rfl⟩))
        refine hR.mono ?_
        rintro e W3 (⟨rfl,hJ3,Ca⟩|⟨rfl,ah0⟩)
        . have hc3:W3.cell? ⟨b,0,none⟩=some (.string ⟨#[]⟩):=Ca.cell.trans (World.cell?_setCell_same' _ _ _ (by rw[hc];rfl))
          have hf3:W3.frozen? ⟨b,0,none⟩=false:=Ca.cZ.trans (by rw[World.frozen?_setCell];exact GF)
          gi_wp2
          go_roundw
          case rel=>exact ⟨pre++[r],⟨#[]⟩,hc3,hf3,by rw[HSP.out,HL.out,Vq (s:=⟨#[]⟩) rfl,List.append_nil],Nat.zero_le _,hJ3⟩
          case measure=>rw[H6 hc3,H6 hc];exact hr1
        . gi_wp2
          refine bodyPost_ret (results_none rfl _ _ _) rfl ?_
          exact ⟨⟨_,rfl⟩,.inr ⟨pre++[r],by rw[HSP.out,HL.out];exact List.prefix_refl _,ah0⟩⟩
    .   have aP:=ajF r (by omega)
        obtain ⟨i,hie⟩: ∃i:Nat,sZ r=i:=⟨(sZ r).toNat,by omega⟩
        have HH:=Lib.hid (aez NQ (by omega:0<=sZ r))
        have HIX:=af.ais r
        rw[hie] at HIX
        have HI:=Lib.hid HIX;clear HIX
        have kC:i<r.size:=by omega
        have HIE:=Lib.hid hie;clear hie hge hi aP
        gi_wp2_with (first|(refine ⟨trivial,?_⟩;gi_at_call 219;refine (callsIn_wide.2 (HI.out _)).mono ?_;rintro e w' ⟨rfl,rfl⟩))
        gi_region
        have hj1:J pre (wr.setCell ⟨b,0,none⟩ (.string (r.extract (i+1) r.size))).drew:=hJ _ _ _ none (hJs _ _ (.string (r.extract (i+1) r.size)) HJ0.out) (af.grown_drewN _ 1) (fun _ e=>by cases e)
        obtain ⟨fn,tmps,assign,body,hy,hR⟩:=HY.out pre (r.extract 0 (i+1)) _ hj1 (by
          rw[HSP.out,HH.out,HIE.out]
          exact ⟨eG (r.extract (i+1) r.size),by simp⟩)
        gi_wp2
        refine hR.mono ?_
        rintro e W3 (⟨rfl,hJ3,Ca⟩|⟨rfl,ah0⟩)
        . have hc3:W3.cell? ⟨b,0,none⟩=some (.string (r.extract (i+1) r.size)):=Ca.cell.trans (World.cell?_setCell_same' _ _ _ (by rw[hc];rfl))
          have hf3:W3.frozen? ⟨b,0,none⟩=false:=Ca.cZ.trans (by show (wr.setCell _ _).frozen? _=false;rw[World.frozen?_setCell];exact GF)
          gi_wp2
          go_roundw
          case rel=>exact ⟨pre++[r.extract 0 (i+1)],r.extract (i+1) r.size,hc3,hf3,by rw[HSP.out,HH.out,HIE.out];simp,by simp;omega,hJ3⟩
          case measure=>rw[H6 hc3,H6 hc];simp;omega
        . gi_wp2
          refine bodyPost_ret (results_none rfl _ _ _) rfl ?_
          exact ⟨⟨_,rfl⟩,.inr ⟨pre++[r.extract 0 (i+1)],by rw[HSP.out,HH.out,HIE.out];exact ⟨eG (r.extract (i+1) r.size),by simp⟩,ah0⟩⟩
end Go.Proofs
end
namespace Go.Proofs
section
open Go.RowKit Go.Shelf Go.af
attribute [local go_sem] Oper.semAt_some
def af.AE (x:ByteArray):Int ⊕ af.RR:=af.l7 (af.Qd x) (af.mY (af.wj x)) (af.lO (af.wj x))
def af.RR.cells (r:af.RR):List Value:=[.int .u8 r.k,.int .i64 r.wt,.string r.a,.string r.b,.string r.t,.int .i64 r.n]
def af.cellsOf (rs:List af.RR):List Value:=rs.flatMap af.RR.cells
theorem af.abA (rs:List af.RR) (r:af.RR):af.cellsOf (rs++[r])=af.cellsOf rs++r.cells:=by simp[af.cellsOf]
theorem af.WN (rs:List af.RR):(af.cellsOf rs).length=rs.length*6:=by
 induction rs with
 |nil=>rfl
 |cons r rs ih=>simp[af.cellsOf] at ih ⊢; rw[ih];simp[af.RR.cells];omega
def af.Gc:List af.RR->List ByteArray->Int×Nat×List af.RR
 |acc,[]=>(0,0,acc)
 |  acc,x::xs=>match af.AE x with
    | .inl e=>(e,acc.length,[])
    | .inr r=>if acc.length=64 then (7,64,[]) else af.Gc (acc++[r]) xs
def af.oE (s:ByteArray):Int×Nat×List af.RR:=if 65536<s.size then (7,0,[]) else af.Gc [] (eG s)
theorem af.H7: ∀(p:List ByteArray) (rs acc:List af.RR) (ys:List ByteArray),p.map af.AE=rs.map Sum.inr->(acc++rs).length<=64->af.Gc acc (p++ys)=af.Gc (acc++rs) ys
 |[],rs,acc,ys,h,_=>by
  cases rs with
  |nil=>simp
  |cons r rs=>simp at h
 |x::p,rs,acc,ys,h,hl=>by
  cases rs with
  |nil=>simp at h
  |cons r rs=>
   simp only[List.map_cons,List.cons.injEq] at h
   simp only[List.length_append,List.length_cons] at hl
   rw[List.cons_append,af.Gc,h.1]
   simp only
   rw[if_neg (by omega),af.H7 p rs (acc++[r]) ys h.2 (by simp;omega)]
   simp
theorem af.agc {u:Nat->ByteArray} {len:Nat} {wt e:Int} (h:af.xF u len wt= .inl e):1<=e/\e<=100:=by
 unfold af.xF af.gu at h
 simp only at h
 repeat' split at h
 all_goals (cases h)
 all_goals omega
theorem af.agd {ok:Bool} {u:Nat->ByteArray} {len:Nat} {e:Int} (h:af.l7 ok u len= .inl e):1<=e/\e<=100:=by
 unfold af.l7 at h
 repeat' split at h
 all_goals first
  |exact af.agc h
  |(cases h;omega)
set_option maxRecDepth 100000 in
theorem af.ajH (s:ByteArray) (w:World):Calls Tryz.prog 126 #[.string s] w fun e w'=>e= .returned (.func (.func 218) #[] #[.pointer (some ⟨w.heap.size,0,none⟩)])/\w'=w.alloc (.cells #[.string s] 9):=by
 go_enter Tryz.func126,Tryz.ntmps126
 go_wp2
 go_ret
 exact ⟨rfl,rfl⟩
def af.Vr (w:World) (pre:List ByteArray) (W:World):Prop:=
 ∃  (rs:List af.RR) (v:Value),pre.map af.AE=rs.map Sum.inr/\rs.length<=64/\Is W w.heap.size 32 #[.slice none 0 0]/\Is W (w.heap.size+1) 3 #[.int .i64 0]/\Is W (w.heap.size+1+1) 48 #[.int .i64 0]/\
    Is W (w.heap.size+1+1+1) 32 #[v]/\W.ownsRow (w.heap.size+5) 40 6 v rs.length (af.cellsOf rs)/\w.heap.size+5<=W.heap.size/\Below w.heap.size w W/\(rs=[]->v= .slice none 0 0)
def af.Vt (w:World) (s:ByteArray) (pre:List ByteArray) (W:World):Prop:=
 ∃(e:Int) (k:Nat),1<=e/\e<=100/\k<=64/\(∀ys,pre++ys=eG s->af.Gc [] (eG s)=(e,k,[]))/\Is W w.heap.size 32 #[.slice none 0 0]/\Is W (w.heap.size+1) 3 #[.int .i64 k]/\Is W (w.heap.size+1+1) 48 #[.int .i64 e]/\w.heap.size+5<=W.heap.size/\Below w.heap.size w W
def af.age (s:ByteArray) (w:World) (e:Ending) (w':World):Prop:=
 ∃v,e= .returned (.tuple #[v,.int .i64 (af.oE s).2.1,.int .i64 (af.oE s).1])/\w'.ownsRow w.heap.size 40 6 v (af.oE s).2.2.length (af.cellsOf (af.oE s).2.2)/\Below w.heap.size w w'/\((af.oE s).1≠0\/(af.oE s).2.2=[]->v= .slice none 0 0)
theorem af.o6 {W W':World} {n:Nat} {T:TypeId} {cs:Array Value} {row:Option Nat} (h:Is W n T cs) (hg:W.grownBy W' row) (bX:some n≠row):Is W' n T cs:=h.of_heap (hg.block n h.lt bX)
theorem af.qG {W:World} {n:Nat} {T:TypeId} {cs:Array Value} {row:Option Nat} (h:Is W n T cs) (hr: ∀r,row=some r-> ∃o:Obj,W.heap[r]? =some o/\o.isCells=false):some n≠row:=by
 intro e
 obtain ⟨o,ho,hc⟩:=hr n e.symm
 unfold Is at h
 rw[h] at ho
 obtain rfl:Obj.cells cs T (0,0)=o:=by injection ho
 cases hc
theorem af.aeA {W:World} {base k size:Nat} {e:TypeId} {v:Value} {xs:List Value} {row:Option Nat} (h:W.ownsRow base e size v k xs) (hr: ∀r,row=some r-> ∃o:Obj,W.heap[r]? =some o/\o.isCells=false):v.ownBlock=none\/v.ownBlock≠row:=by
 rcases h.2 with ⟨rfl,_⟩|⟨g,cap,cur,rfl,_,hb,_⟩
 . exact .inl rfl
 . right
   intro e
   obtain ⟨o,ho,hc⟩:=hr g (by rw[<-e];rfl)
   rw[hb] at ho
   obtain rfl:Obj.cells cur _ (0,0)=o:=by injection ho
   cases hc
theorem af.X0 {W W':World} {base k size:Nat} {e:TypeId} {v:Value} {xs:List Value} (h:W.ownsRow base e size v k xs) (hb:Below W.heap.size W W'):W'.ownsRow base e size v k xs:=
 h.kept (row:=none) ⟨hb.os,hb.tape,hb.output,hb.size,fun i hi _=>hb.block i hi⟩ (by
  cases h0:v.ownBlock
  . exact .inl rfl
  . right;simp)
theorem af.I8 {B:Nat} {W W':World} (hb:Below W.heap.size W W'):KeepsFrom B W W':=⟨hb.size,fun k o _ hk _=>(hb.block k (Array.getElem?_eq_some_iff.1 hk).1).trans hk⟩
theorem af.aeB (w:World) (B0:Nat) (hB:w.heap.size<=B0):OwnFrom B0 (af.Vr w):=by
 rintro pre W W' row ⟨rs,v,h1,h2,i1,i2,i3,i4,eJ,eI,hb,hn⟩ hg hr
 have kA: ∀r,row=some r-> ∃o:Obj,W.heap[r]? =some o/\o.isCells=false:=fun r e=>(hr r e).2
 exact ⟨rs,v,h1,h2,af.o6 i1 hg (af.qG i1 kA),af.o6 i2 hg (af.qG i2 kA),af.o6 i3 hg (af.qG i3 kA),af.o6 i4 hg (af.qG i4 kA),
  eJ.kept hg (af.aeA eJ kA),Nat.le_trans eI hg.size,hb.grown hg (by omega) (fun k e=>Nat.le_trans hB (hr k e).1),hn⟩
theorem af.aeC (w:World) (s:ByteArray) (B0:Nat) (hB:w.heap.size<=B0):OwnFrom B0 (af.Vt w s):=by
 rintro pre W W' row ⟨e,k,h1,h2,h3,h4,i1,i2,i3,eI,hb⟩ hg hr
 have kA: ∀r,row=some r-> ∃o:Obj,W.heap[r]? =some o/\o.isCells=false:=fun r e=>(hr r e).2
 exact ⟨e,k,h1,h2,h3,h4,af.o6 i1 hg (af.qG i1 kA),af.o6 i2 hg (af.qG i2 kA),af.o6 i3 hg (af.qG i3 kA),Nat.le_trans eI hg.size,hb.grown hg (by omega) (fun k e=>Nat.le_trans hB (hr k e).1)⟩
theorem af.aeD (w:World):AD (w.heap.size+1+1+1+1) (af.Vr w):=by
 rintro pre W x ⟨rs,v,h1,h2,i1,i2,i3,i4,eJ,eI,hb,hn⟩
 exact ⟨rs,v,h1,h2,i1.other (by omega) _ _,i2.other (by omega) _ _,i3.other (by omega) _ _,i4.other (by omega) _ _,ownsRow_setCell_below eJ (by show w.heap.size+1+1+1+1<w.heap.size+5;omega) _,by rw[World.size_setCell];exact eI,hb.setCell (by show w.heap.size<=w.heap.size+1+1+1+1;omega) _,hn⟩
theorem af.aeE (w:World) (s:ByteArray):AD (w.heap.size+1+1+1+1) (af.Vt w s):=by
 rintro pre W x ⟨e,k,h1,h2,h3,h4,i1,i2,i3,eI,hb⟩
 exact ⟨e,k,h1,h2,h3,h4,i1.other (by omega) _ _,i2.other (by omega) _ _,i3.other (by omega) _ _,by rw[World.size_setCell];exact eI,hb.setCell (by show w.heap.size<=w.heap.size+1+1+1+1;omega) _⟩
theorem af.ah1 {s:ByteArray} {pre:List ByteArray} {x:ByteArray} {rs:List af.RR} {e:Int} (h:pre.map af.AE=rs.map Sum.inr) (hl:rs.length<=64) (hx:af.AE x= .inl e) (ys:List ByteArray) (hy:pre++[x]++ys=eG s):af.Gc [] (eG s)=(e,rs.length,[]):=by
 rw[<-hy,List.append_assoc,af.H7 pre rs [] _ h (by simpa using hl)]
 simp[af.Gc,hx]
theorem af.agf {s:ByteArray} {pre:List ByteArray} {x:ByteArray} {rs:List af.RR} {r:af.RR} (h:pre.map af.AE=rs.map Sum.inr) (hl:rs.length=64) (hx:af.AE x= .inr r) (ys:List ByteArray) (hy:pre++[x]++ys=eG s):af.Gc [] (eG s)=(7,64,[]):=by
 rw[<-hy,List.append_assoc,af.H7 pre rs [] _ h (by simp;omega)]
 simp[af.Gc,hx,hl]
theorem af.X2 {w:World} {base:Nat} {e:TypeId} {size:Nat} {v:Value} {n:Nat} {xs:List Value} (h:w.ownsRow base e size v n xs): ∃a c,v= .slice a n c:=by
 rcases h.2 with ⟨rfl,rfl⟩|⟨g,cap,cur,rfl,_⟩
 . exact ⟨none,0,rfl⟩
 . exact ⟨_,_,rfl⟩
theorem af.sG {W:World} {n:Nat} {T:TypeId} {a v:Value} (h:Is W n T #[a]):Is (W.setCell ⟨n,0,none⟩ v) n T #[v]:=(h.set 0 v).cast rfl
theorem af.abB {B:Nat} {W W':World} (h:KeepsFrom B W W') (p:Addr) (v:Value):KeepsFrom B W (W'.setCell p v):=h.trans ((KeepsOthers.setCell W' p v).from B)
theorem af.Mn {B:Nat} {W W':World} (h:KeepsFrom B W W') (o:Obj):KeepsFrom B W (W'.alloc o):=h.trans ((KeepsOthers.alloc W' o).from B)
theorem af.ade {B:Nat} {W W':World} (h:KeepsFrom B W W'):KeepsFrom B W W'.drew:=h.trans ⟨Nat.le_refl _,fun _ _ _ hk _=>hk⟩
theorem af.X3 {w W':World} {s:ByteArray} {pre:List ByteArray} {e:Int} {k:Nat} (h1:1<=e/\e<=100) (h2:k<=64) (h3: ∀ys,pre++ys=eG s->af.Gc [] (eG s)=(e,k,[]))
  (i1:Is W' w.heap.size 32 #[.slice none 0 0]) (i2:Is W' (w.heap.size+1) 3 #[.int .i64 k]) (i3:Is W' (w.heap.size+1+1) 48 #[.int .i64 e]) (hz:w.heap.size+5<=W'.heap.size) (hb:Below w.heap.size w W'):af.Vt w s pre W':=
 ⟨e,k,h1.1,h1.2,h2,h3,i1,i2,i3,hz,hb⟩
theorem af.TF {w:World} {base:Nat} {e:TypeId} {size:Nat} {v:Value} {n:Nat} {xs:List Value} (h:w.ownsRow base e size v n xs) (j:Nat) (hj:v.ownBlock=some j):base<=j:=by
 rcases h.2 with ⟨rfl,rfl⟩|⟨g,cap,cur,rfl,hb,_⟩
 . cases hj
 . obtain rfl:g=j:=by simpa [Value.ownBlock] using hj
   exact hb
theorem af.agh {w:World} {base:Nat} {e:TypeId} {size:Nat} {v:Value} {n:Nat} {xs:List Value} (h:w.ownsRow base e size v n xs) (j:Nat) (o:Obj) (hj:v.ownBlock=some j) (ho:w.heap[j]? =some o):o.isCells=true:=by
 rcases h.2 with ⟨rfl,rfl⟩|⟨g,cap,cur,rfl,hb,hg,_⟩
 . cases hj
 . obtain rfl:g=j:=by simpa [Value.ownBlock] using hj
   rw[hg] at ho;cases ho;rfl
theorem af.agi (r:af.RR): ∀u∈r.cells,u.oneCell'=true:=by
 intro u hu
 simp only[af.RR.cells,List.mem_cons,List.not_mem_nil,or_false] at hu
 rcases hu with rfl|rfl|rfl|rfl|rfl|rfl<;>rfl
theorem af.agj (W:World) (T:TypeId) (cs:List Value) (j:Nat) (u:Value) (h:cs[j]? =some u):(W.alloc (.cells cs.toArray T)).cell? ((⟨W.heap.size,0,none⟩:Addr).add j)=some u:=by
 have:(⟨W.heap.size,0,none⟩:Addr).add j=⟨W.heap.size,j,none⟩:=by
  unfold Addr.add
  split
  . rename_i h0;subst h0;rfl
  . simp
 rw[this,(Is.new W T cs.toArray).cell]
 simpa using h
theorem af.agk {w W w1 w5:World} {n:Nat} {v:Value} {xs:List Value} {A C:Obj} {va:Value} (cJ:Below W.heap.size W w1) (eI:w.heap.size+5<=W.heap.size) (j4:Is W (w.heap.size+1+1+1) 32 #[va])
  (eJ:W.ownsRow (w.heap.size+5) 40 6 v n xs) (AG:((w1.alloc A).alloc C).grownBy w5 v.ownBlock):Is w5 (w.heap.size+1+1+1) 32 #[va]:=
 af.o6 (((j4.below cJ (by omega)).alloc _).alloc _) AG (fun e=>by have:=af.TF eJ _ e.symm;omega)
theorem af.aeF {w W w1 w5:World} {B:Nat} {pre:List ByteArray} {x:ByteArray} {rs:List af.RR} {r:af.RR} {v v':Value} {A C:Obj} (p1:pre.map af.AE=rs.map Sum.inr) (p2:rs.length<64) (hx:af.AE x= .inr r)
   (hb:Below w.heap.size w W) (cJ:Below W.heap.size W w1) (eI:w.heap.size+5<=W.heap.size)
   (j1:Is W w.heap.size 32 #[.slice none 0 0]) (j2:Is W (w.heap.size+1) 3 #[.int .i64 0]) (j3:Is W (w.heap.size+1+1) 48 #[.int .i64 0]) (j4:Is W (w.heap.size+1+1+1) 32 #[v])
   (eJ:W.ownsRow (w.heap.size+5) 40 6 v rs.length (af.cellsOf rs)) (abC:w5.ownsRow (w.heap.size+5) 40 6 v' (rs.length+1) (af.cellsOf rs++r.cells)) (AG:((w1.alloc A).alloc C).grownBy w5 v.ownBlock):
   KeepsFrom B W (w5.setCell ⟨w.heap.size+1+1+1,0,none⟩ v')/\Nn (w.heap.size+1+1+1+1) W (w5.setCell ⟨w.heap.size+1+1+1,0,none⟩ v')/\af.Vr w (pre++[x]) (w5.setCell ⟨w.heap.size+1+1+1,0,none⟩ v'):=by
 have alj:=((af.X0 eJ cJ).alloc A).alloc C
 have bX: ∀k,k<w.heap.size+5->some k≠v.ownBlock:=fun k hk e=>by have:=af.TF eJ _ e.symm;omega
 have is5: ∀{k:Nat} {T:TypeId} {cs:Array Value},Is W k T cs->k<w.heap.size+5->Is w5 k T cs:=fun h hk=>af.o6 (((h.below cJ (by omega)).alloc _).alloc _) AG (bX _ hk)
 have hp5:w5.heap[w.heap.size+1+1+1+1]? =W.heap[w.heap.size+1+1+1+1]? :=by
   have adZ:=cJ.size
   rw[AG.block _ (by simp;omega) (bX _ (by omega)),Go.af.heap_alloc _ _ (by simp;omega),Go.af.heap_alloc _ _ (by omega)]
   exact cJ.block _ (by omega)
 have hp6:(w5.setCell ⟨w.heap.size+1+1+1,0,none⟩ v').heap[w.heap.size+1+1+1+1]? =W.heap[w.heap.size+1+1+1+1]? :=by rw[Go.af.SJ (by omega)];exact hp5
 refine ⟨?_,⟨by simp[World.cell?,hp6],by simp[World.frozen?,hp6]⟩,rs++[r],v',?_,by simp;omega,(is5 j1 (by omega)).other (by omega) _ _,(is5 j2 (by omega)).other (by omega) _ _,(is5 j3 (by omega)).other (by omega) _ _,af.sG (is5 j4 (by omega)),?_,?_,?_,fun h=>by simp at h⟩
 . refine af.abB ((af.Mn (af.Mn (af.I8 cJ) _) _).trans ((KeepsOthers.of_grownBy AG fun j o ej hj=>af.agh alj j o ej hj).from B)) _ _
 . simp[p1,hx]
 . rw[af.abA]
   have:=ownsRow_setCell_below abC (a:=⟨w.heap.size+1+1+1,0,none⟩) (by show w.heap.size+1+1+1<w.heap.size+5;omega) v'
   simpa using this
 . have h1:=cJ.size
   have h2:=AG.size
   simp at h2 ⊢; omega
 . have h1:=cJ.size
   exact ((((hb.trans (cJ.mono (by omega))).alloc (by omega) A).alloc (by simp;omega) C).grown AG (by simp;omega) (fun k e=>by have:=af.TF eJ k e;omega)).setCell (by show w.heap.size<=w.heap.size+1+1+1;omega) _
theorem af.yR {W:World} {n D:Nat} {T:TypeId} {cs:Array Value} {o o':Obj} (h:Is W n T cs) (hk:W.heap[D]? =some o) (ho:o.isCells=false):Is (W.putObj D o') n T cs:=
 af.o6 h (grownBy_putObj' W D o') (af.qG h (fun r e=>by cases e;exact ⟨o,hk,ho⟩))
theorem af.X4 {s:ByteArray} {w w':World} {v:Value} {i:Int} {er:Int} {rs:List af.RR} {k:Nat} (hp:af.oE s=(er,k,rs)) (hi:i=k) (eJ:w'.ownsRow w.heap.size 40 6 v rs.length (af.cellsOf rs)) (hb:Below w.heap.size w w') (Qh:er≠0\/rs=[]->v= .slice none 0 0:=by intro h;rfl):
   af.age s w (.returned (.tuple #[v,.int .i64 i,.int .i64 er])) w':=by
 subst hi
 refine ⟨v,by rw[hp],?_,hb,?_⟩
 . rw[hp];exact eJ
 . rw[hp];exact Qh
theorem af.ah2 {w:World} {base adM:Nat} {e:TypeId} {size:Nat} {v:Value} {n:Nat} {xs:List Value} (h:w.ownsRow base e size v n xs) (hb:adM<=base):w.ownsRow adM e size v n xs:=by
 refine ⟨h.1,h.2.imp id ?_⟩
 rintro ⟨g,cap,cur,h1,h2,h3⟩
 exact ⟨g,cap,cur,h1,Nat.le_trans hb h2,h3⟩
theorem af.acr {s:ByteArray} {rs:List af.RR} (hs:s.size<=65536) (h:(eG s).map af.AE=rs.map Sum.inr) (hl:rs.length<=64):af.oE s=(0,0,rs):=by
 have:=af.H7 (eG s) rs [] [] h (by simpa using hl)
 rw[List.append_nil] at this
 unfold af.oE
 rw[if_neg (by omega),this]
 rfl
theorem af.akt: ∃i0 z,Tryz.prog.info? 40=some i0/\i0.zero=some z/\i0.size=6/\i0.bytes=72/\z.cells.size=6:=by
 have h:(Tryz.prog.info? 40).map (fun i=>(i.zero.map (·.cells.size),i.size,i.bytes))=some (some 6,6,72):=by kernel_rfl
 cases hi:Tryz.prog.info? 40 with
 |none=>rw[hi] at h;simp at h
 |some i0=>
  rw[hi] at h
  simp only[Option.map_some,Option.some.injEq,Prod.mk.injEq,Option.map_eq_some_iff] at h
  obtain ⟨⟨z,hz,Hu⟩,h2,h3⟩:=h
  exact ⟨i0,z,rfl,hz,h2,h3,Hu⟩
set_option maxRecDepth 100000 in
set_option maxHeartbeats 4000000 in
theorem af.aku (s:ByteArray) (Vu: ∀s0∈eG s,∀(m:Int) (w:World),s0.size<=65536->w.cell? ⟨0,0,none⟩=some (.int .i64 m)->Calls Tryz.prog 127 #[.string s0] w (af.Y4 s0 w))
   (m:Int) (w:World) (hs:s.size<=65536) (hm:w.cell? ⟨0,0,none⟩=some (.int .i64 m)):
   Calls Tryz.prog 60 #[.string s] w (af.age s w):=by
 have hbk:=World.block_lt_of_cell? _ _ hm
 refine (callsIn_wide (n:=5)).1 ?_
 refine callsIn_of_wp_marks Tryz.func60 rfl trivial ?_ rfl
 simp only[Tryz.ntmps60,List.size_toArray,List.length_cons,List.length_nil,Nat.reduceAdd,Nat.reduceSub,Array.replicate_succ,Array.replicate_zero,List.push_toArray,List.append_toArray,List.nil_append,List.cons_append]
 gi_wp2_with (refine ⟨trivial,?_⟩;gi_at_call 126;refine (callsIn_wide.2 (af.ajH s _)).mono ?_;rintro e w' ⟨rfl,rfl⟩)
 obtain ⟨W0,Vv⟩: ∃W0,W0=(((((w.alloc (.cells #[.slice none 0 0] 32)).alloc (.cells #[.int .i64 0] 3)).alloc (.cells #[.int .i64 0] 48)).alloc (.cells #[.slice none 0 0] 32)).alloc (.cells #[.string s] 9)):=⟨_,rfl⟩
 have hz:W0.heap.size=w.heap.size+1+1+1+1+1:=by rw[Vv];simp
 have i1:Is W0 w.heap.size 32 #[.slice none 0 0]:=by rw[Vv];exact ((((Is.new w 32 _).alloc _).alloc _).alloc _).alloc _
 have i2:Is W0 (w.heap.size+1) 3 #[.int .i64 0]:=by rw[Vv];have:=(((Is.new (w.alloc (.cells #[.slice none 0 0] 32)) 3 #[.int .i64 0]).alloc (.cells #[.int .i64 0] 48)).alloc (.cells #[.slice none 0 0] 32)).alloc (.cells #[.string s] 9);rwa [World.size_alloc] at this
 have i3:Is W0 (w.heap.size+1+1) 48 #[.int .i64 0]:=by rw[Vv];have:=((Is.new ((w.alloc (.cells #[.slice none 0 0] 32)).alloc (.cells #[.int .i64 0] 3)) 48 #[.int .i64 0]).alloc (.cells #[.slice none 0 0] 32)).alloc (.cells #[.string s] 9);rwa [World.size_alloc,World.size_alloc] at this
 have i4:Is W0 (w.heap.size+1+1+1) 32 #[.slice none 0 0]:=by rw[Vv];have:=(Is.new (((w.alloc (.cells #[.slice none 0 0] 32)).alloc (.cells #[.int .i64 0] 3)).alloc (.cells #[.int .i64 0] 48)) 32 #[.slice none 0 0]).alloc (.cells #[.string s] 9);rwa [World.size_alloc,World.size_alloc,World.size_alloc] at this
 have i5:Is W0 (w.heap.size+1+1+1+1) 9 #[.string s]:=by rw[Vv];have:=Is.new ((((w.alloc (.cells #[.slice none 0 0] 32)).alloc (.cells #[.int .i64 0] 3)).alloc (.cells #[.int .i64 0] 48)).alloc (.cells #[.slice none 0 0] 32)) 9 #[.string s];rwa [World.size_alloc,World.size_alloc,World.size_alloc,World.size_alloc] at this
 have rR:Below w.heap.size w W0:=by rw[Vv];exact (((((Below.refl _ w).alloc (Nat.le_refl _) _).alloc (by simp) _).alloc (by simp;omega) _).alloc (by simp;omega) _).alloc (by simp;omega) _
 rw[<-Vv]
 clear Vv
 refine aco (n:=5) rfl (by decide) (gf:=218) (b:=w.heap.size+1+1+1+1) (lb:= #[.pointer (some ⟨w.heap.size+1+1+1+1,0,none⟩)]) rfl trivial (enters_of Tryz.func218 (by kernel_rfl) rfl) (encs:=fun x=> #[.string x]) (xs:=eG s) ?_ (by omega) (fun _=>rfl)
   (af.Vr w) (af.Vt w s) (af.aeB w _ (by omega)) (af.aeC w s _ (by omega)) (af.aeD w) (af.aeE w s)
   ⟨[],.slice none 0 0,rfl,by simp,i1,i2,i3,i4,⟨rfl,.inl ⟨rfl,rfl⟩⟩,by omega,rR,fun _=>rfl⟩
   (fun x=>{ tmps:= #[.string s,undef,.pointer (some ⟨w.heap.size,0,none⟩),.pointer (some ⟨w.heap.size+1,0,none⟩),.pointer (some ⟨w.heap.size+1+1,0,none⟩),.pointer (some ⟨w.heap.size+1+1+1,0,none⟩),.string x,undef,undef,.string s,
     .int .i64 s.size,.bool (decide (65536<(s.size:Int))),.string s,.func (.func 218) #[] #[.pointer (some ⟨w.heap.size+1+1+1+1,0,none⟩)],.string x,undef,undef,undef,undef,undef,undef,undef,undef,undef,undef,undef,undef,undef,undef,undef,undef,undef,undef,undef,undef,undef,undef],defers:=[] })
   ?assign ?body ?done ?stop
 . exact fun l J Jx W hW hJ hJx hJs hJxs hY h0=>af.ajG _ l _ s hs J Jx W _ hJ hJx hJs hY (by decide) (by rw[hW.cell (p:=⟨w.heap.size+1+1+1+1,0,none⟩) (by show w.heap.size+1+1+1+1<W0.heap.size;omega)];exact i5.one) (by rw[hW.frozen (p:=⟨w.heap.size+1+1+1+1,0,none⟩) (by show w.heap.size+1+1+1+1<W0.heap.size;omega)];exact i5.frozen 0) h0
 case assign=>
   intro l x W K hK
   gi_wp2
   exact hK
 case body=>
   rintro l pre x W ⟨rs,v,p1,p2,j1,j2,j3,j4,eJ,eI,hb,_⟩ TE hWz
   obtain ⟨va,vc,rfl⟩:=af.X2 eJ
   obtain ⟨ys,tY⟩:=TE
   have hx:x.size<=65536:=Nat.le_trans (acq s x (by rw[<-tY];simp)) hs
   have hmW:W.cell? ⟨0,0,none⟩=some (.int .i64 m):=(hb.cell (p:=⟨0,0,none⟩) hbk).trans hm
   have HL:=Lib.hid (Vu x (by rw[<-tY];simp) m W hx hmW)
   have z1:w.heap.size<W.heap.size:=by omega
   have z2:w.heap.size+1<W.heap.size:=by omega
   have z3:w.heap.size+1+1<W.heap.size:=by omega
   have z4:w.heap.size+1+1+1<W.heap.size:=by omega
   have abD:=Lib.hid eJ;have HB:=Lib.hid hb;have HP1:=Lib.hid p1;have HYS:=Lib.hid tY
   have J1:=Lib.hid j1;have J2:=Lib.hid j2;have J3:=Lib.hid j3;have J4:=Lib.hid j4
   have HM:=Lib.hid hm;have HH:=Lib.hid Vu;have HI5:=Lib.hid i5
   clear eJ hb p1 tY j1 j2 j3 j4 hmW hm Vu i1 i2 i3 i4 i5 rR
   rcases Th:af.AE x with e0|r
   . have hee:=af.agd Th
     have TG:=Lib.hid Th;clear Th
     gi_wp2_with (refine ⟨trivial,?_⟩;gi_at_call 127;refine (CallsIn.inRound l (callsIn_wide.2 HL.out)).mono ?_;rintro e w1 ⟨he,cJ⟩;rw[show af.l7 (af.Qd x) (af.mY (af.wj x)) (af.lO (af.wj x))= .inl e0 from TG.out] at he;obtain rfl:e= .returned (.tuple #[.agg #[.int .u8 0,.int .i64 0,.string ⟨#[]⟩,.string ⟨#[]⟩,.string ⟨#[]⟩,.int .i64 0],.int .i64 e0]):=he;have K1:=J1.out.below cJ z1;have K2:=J2.out.below cJ z2;have K3:=J3.out.below cJ z3;have K4:=J4.out.below cJ z4;have k1:=K1.one;have k2:=K2.one;have k3:=K3.one;have k4:=K4.one;have g1:=K1.frozen;have g2:=K2.frozen;have g3:=K3.frozen;have g4:=K4.frozen;have kQ:=cJ.size;have y1:=Nat.lt_of_lt_of_le z1 kQ;have y2:=Nat.lt_of_lt_of_le z2 kQ;have y3:=Nat.lt_of_lt_of_le z3 kQ;have y4:=Nat.lt_of_lt_of_le z4 kQ;have L1:=Lib.hid K1;have L2:=Lib.hid K2;have L3:=Lib.hid K3;have L4:=Lib.hid K4;clear K1 K2 K3 K4;have CR:=Lib.hid cJ;have HBB:=Lib.hid (HB.out.trans (cJ.mono (Nat.le_of_lt z1)));clear cJ)
     gi_region
     all_goals gi_wp2
     all_goals
        refine ⟨?_,af.X3 (e:=e0) (k:=rs.length) hee p2 (fun ys hy=>af.ah1 HP1.out p2 TG.out ys hy) ?_ ?_ ?_ ?_ ?_⟩
        . (repeat (first|(with_reducible refine af.ade ?_)|(with_reducible refine af.Mn ?_ _)|(with_reducible refine af.abB ?_ _ _)|(with_reducible exact af.I8 CR.out)))
        . (repeat (first|(with_reducible refine Is.drew ?_)|(with_reducible refine Is.alloc ?_ _)|(with_reducible refine af.sG (a:= .slice none 0 0) ?_)|(with_reducible refine Is.other ?_ (by omega) _ _)|(with_reducible exact L1.out)))
        . (repeat (first|(with_reducible refine Is.drew ?_)|(with_reducible refine Is.alloc ?_ _)|(with_reducible refine af.sG (a:= .int .i64 0) ?_)|(with_reducible refine Is.other ?_ (by omega) _ _)|(with_reducible exact L2.out)))
        . (repeat (first|(with_reducible refine Is.drew ?_)|(with_reducible refine Is.alloc ?_ _)|(with_reducible refine af.sG (a:= .int .i64 0) ?_)|(with_reducible refine Is.other ?_ (by omega) _ _)|(with_reducible exact L3.out)))
        . simp;omega
        . (repeat (first|(with_reducible refine Below.drew ?_)|(with_reducible refine Below.setCell ?_ (by first|(simp;done)|(simp;omega)) _)|(with_reducible refine Below.alloc ?_ (by first|omega|(simp;done)|(simp;omega)) _)|(with_reducible exact HBB.out)))
   . have TG:=Lib.hid Th;clear Th
     by_cases hl:rs.length=64
     .  have hl64:((rs.length:Int)==64)=true:=by rw[hl];rfl
        have HLEN:=Lib.hid hl;clear hl
        gi_wp2_with (refine ⟨trivial,?_⟩;gi_at_call 127;refine (CallsIn.inRound l (callsIn_wide.2 HL.out)).mono ?_;rintro e w1 ⟨he,cJ⟩;rw[show af.l7 (af.Qd x) (af.mY (af.wj x)) (af.lO (af.wj x))= .inr r from TG.out] at he;obtain rfl:e= .returned (.tuple #[.agg #[.int .u8 r.k,.int .i64 r.wt,.string r.a,.string r.b,.string r.t,.int .i64 r.n],.int .i64 0]):=he;have K1:=J1.out.below cJ z1;have K2:=J2.out.below cJ z2;have K3:=J3.out.below cJ z3;have K4:=J4.out.below cJ z4;have k1:=K1.one;have k2:=K2.one;have k3:=K3.one;have k4:=K4.one;have g1:=K1.frozen;have g2:=K2.frozen;have g3:=K3.frozen;have g4:=K4.frozen;have kQ:=cJ.size;have y1:=Nat.lt_of_lt_of_le z1 kQ;have y2:=Nat.lt_of_lt_of_le z2 kQ;have y3:=Nat.lt_of_lt_of_le z3 kQ;have y4:=Nat.lt_of_lt_of_le z4 kQ;have L1:=Lib.hid K1;have L2:=Lib.hid K2;have L3:=Lib.hid K3;have L4:=Lib.hid K4;clear K1 K2 K3 K4;have CR:=Lib.hid cJ;have HBB:=Lib.hid (HB.out.trans (cJ.mono (Nat.le_of_lt z1)));clear cJ)
        gi_region
        all_goals gi_wp2
        all_goals
          refine ⟨?_,af.X3 (e:=7) (k:=rs.length) (by decide) p2 (fun ys hy=>(af.agf HP1.out HLEN.out TG.out ys hy).trans (by rw[HLEN.out])) ?_ ?_ ?_ ?_ ?_⟩
          . (repeat (first|(with_reducible refine af.ade ?_)|(with_reducible refine af.Mn ?_ _)|(with_reducible refine af.abB ?_ _ _)|(with_reducible exact af.I8 CR.out)))
          . (repeat (first|(with_reducible refine Is.drew ?_)|(with_reducible refine Is.alloc ?_ _)|(with_reducible refine af.sG (a:= .slice none 0 0) ?_)|(with_reducible refine Is.other ?_ (by omega) _ _)|(with_reducible exact L1.out)))
          . (repeat (first|(with_reducible refine Is.drew ?_)|(with_reducible refine Is.alloc ?_ _)|(with_reducible refine af.sG (a:= .int .i64 0) ?_)|(with_reducible refine Is.other ?_ (by omega) _ _)|(with_reducible exact L2.out)))
          . (repeat (first|(with_reducible refine Is.drew ?_)|(with_reducible refine Is.alloc ?_ _)|(with_reducible refine af.sG (a:= .int .i64 0) ?_)|(with_reducible refine Is.other ?_ (by omega) _ _)|(with_reducible exact L3.out)))
          . simp;omega
          . (repeat (first|(with_reducible refine Below.drew ?_)|(with_reducible refine Below.setCell ?_ (by first|(simp;done)|(simp;omega)) _)|(with_reducible refine Below.alloc ?_ (by first|omega|(simp;done)|(simp;omega)) _)|(with_reducible exact HBB.out)))
     .  have hl64:((rs.length:Int)==64)=false:=by rw[beq_eq_false_iff_ne];omega
        obtain ⟨i0,z,jG,hz0,WX,hzb,rS⟩:=af.akt
        gi_wp2_with (first|(refine ⟨trivial,?_⟩;gi_at_call 127;refine (CallsIn.inRound l (callsIn_wide.2 HL.out)).mono ?_;rintro e w1 ⟨he,cJ⟩;rw[show af.l7 (af.Qd x) (af.mY (af.wj x)) (af.lO (af.wj x))= .inr r from TG.out] at he;obtain rfl:e= .returned (.tuple #[.agg #[.int .u8 r.k,.int .i64 r.wt,.string r.a,.string r.b,.string r.t,.int .i64 r.n],.int .i64 0]):=he;have K1:=J1.out.below cJ z1;have K2:=J2.out.below cJ z2;have K3:=J3.out.below cJ z3;have K4:=J4.out.below cJ z4;have k1:=K1.one;have k2:=K2.one;have k3:=K3.one;have k4:=K4.one;have g1:=K1.frozen;have g2:=K2.frozen;have g3:=K3.frozen;have g4:=K4.frozen;have kQ:=cJ.size;have y1:=Nat.lt_of_lt_of_le z1 kQ;have y2:=Nat.lt_of_lt_of_le z2 kQ;have y3:=Nat.lt_of_lt_of_le z3 kQ;have y4:=Nat.lt_of_lt_of_le z4 kQ;have L1:=Lib.hid K1;have L2:=Lib.hid K2;have L3:=Lib.hid K3;have L4:=Lib.hid K4;clear K1 K2 K3 K4;have CR:=Lib.hid cJ;have HBB:=Lib.hid (HB.out.trans (cJ.mono (Nat.le_of_lt z1)));clear cJ)|(gi_at_builtin;refine wpListIn_append_own _ rfl _ _ 32 rfl (w.heap.size+5) 40 i0 z 6 72 Tryz.underlying32 jG hz0 WX hzb rS (by decide) _ _ _ rfl (((af.X0 abD.out CR.out).alloc _).alloc _) ⟨w1.heap.size+1,0,none⟩ 1 1 r.cells rfl rfl ?_ ?_ ?_ ?_ ?_ ?_))
        . intro j u hu
          have:=af.agj (w1.alloc (.cells r.cells.toArray 40)) 40 r.cells j u hu
          rw[World.size_alloc] at this
          exact this
        . exact af.agi r
        . unfold maxLen;omega
        . omega
        . have:=CR.out.size;simp;omega
        . intro v' w5 abC AG _
          obtain ⟨g',aN,rfl⟩:=ownsRow_succ abC
          have WQ:=af.agk CR.out eI J4.out abD.out AG
          have k5:=WQ.one
          have g5:=WQ.frozen
          have HM5:=Lib.hid WQ
          have HOWN:=Lib.hid abC
          have alk:=Lib.hid AG
          clear WQ abC AG
          gi_wp2
          exact af.aeF HP1.out (by omega) TG.out HB.out CR.out eI J1.out J2.out J3.out J4.out abD.out HOWN.out alk.out
 case done=>
   rintro D W hD ⟨rs,v,h1,h2,j1,j2,j3,j4,eJ,eI,hb,Qh⟩ hK
   obtain ⟨va,vc,rfl⟩:=af.X2 eJ
   have HNIL:=Lib.hid Qh;clear Qh
   have c1:=j1.one;have c2:=j2.one;have c3:=j3.one;have c4:=j4.one
   have f1:=j1.frozen;have f2:=j2.frozen;have f3:=j3.frozen;have f4:=j4.frozen
   have abD:=Lib.hid eJ;have HB:=Lib.hid hb;have H1:=Lib.hid h1
   have J1:=Lib.hid j1;have J2:=Lib.hid j2;have J3:=Lib.hid j3;have J4:=Lib.hid j4
   have HK:=Lib.hid hK
   clear eJ hb h1 j1 j2 j3 j4 hK hm Vu i1 i2 i3 i4 i5 rR
   gi_wp2
   have hK2:(((W.setCell ⟨w.heap.size,0,none⟩ (.slice va rs.length vc)).setCell ⟨w.heap.size+1,0,none⟩ (.int .i64 0)).setCell ⟨w.heap.size+1+1,0,none⟩ (.int .i64 0)).heap[D]? =some (.deferred (some [])):=
     (KeepsOthers.setCell _ _ _).same D _ ((KeepsOthers.setCell _ _ _).same D _ ((KeepsOthers.setCell _ _ _).same D _ HK.out rfl) rfl) rfl
   have q1:=af.yR (o':= .deferred none) (((af.sG (v:= .slice va rs.length vc) J1.out).other (m:=w.heap.size+1) (by omega) 0 (.int .i64 0)).other (m:=w.heap.size+1+1) (by omega) 0 (.int .i64 0)) hK2 rfl
   have q2:=af.yR (o':= .deferred none) ((af.sG (v:= .int .i64 0) (J2.out.other (m:=w.heap.size) (by omega) 0 (.slice va rs.length vc))).other (m:=w.heap.size+1+1) (by omega) 0 (.int .i64 0)) hK2 rfl
   have q3:=af.yR (o':= .deferred none) (af.sG (v:= .int .i64 0) ((J3.out.other (m:=w.heap.size) (by omega) 0 (.slice va rs.length vc)).other (m:=w.heap.size+1) (by omega) 0 (.int .i64 0))) hK2 rfl
   have r1:=q1.one;have r2:=q2.one;have r3:=q3.one
   refine ⟨by simp,.inl ⟨_,_,rfl,run_takeDeferred hK2,?_⟩⟩
   refine ⟨.tuple #[.slice va rs.length vc,.int .i64 0,.int .i64 0],by simp[results,Tryz.results60,go_sem,r1,r2,r3],af.X4 (k:=0) (rs:=rs) (af.acr hs H1.out h2) rfl ?_ ?_ (fun h=>h.elim (fun h=>absurd rfl h) HNIL.out)⟩
   . refine af.ah2 (base:=w.heap.size+5) ?_ (by omega)
     refine ownsRow_putObj (ownsRow_setCell_below (ownsRow_setCell_below (ownsRow_setCell_below abD.out ?_ _) ?_ _) ?_ _) _ hK2 rfl
     .  show w.heap.size<w.heap.size+5;omega
     .  show w.heap.size+1<w.heap.size+5;omega
     .  show w.heap.size+1+1<w.heap.size+5;omega
   . exact (((HB.out.setCell (p:=⟨w.heap.size,0,none⟩) (Nat.le_refl _) _).setCell (p:=⟨w.heap.size+1,0,none⟩) (by show w.heap.size<=w.heap.size+1;omega) _).setCell (p:=⟨w.heap.size+1+1,0,none⟩) (by show w.heap.size<=w.heap.size+1+1;omega) _).grown (grownBy_putObj' _ D _) (by simp;omega) (fun k e=>by cases e;omega)
 case stop=>
   rintro D pre W hD TE ⟨e,k,h1,h2,h3,h4,j1,j2,j3,eI,hb⟩ hK
   obtain ⟨ys,tY⟩:=TE
   have q1:=af.yR (o':= .deferred none) j1 hK rfl
   have q2:=af.yR (o':= .deferred none) j2 hK rfl
   have q3:=af.yR (o':= .deferred none) j3 hK rfl
   have r1:=q1.one;have r2:=q2.one;have r3:=q3.one
   have HB:=Lib.hid hb;have H4:=Lib.hid (h4 ys tY)
   have HK:=Lib.hid hK
   have R1:=Lib.hid r1;have R2:=Lib.hid r2;have R3:=Lib.hid r3
   clear hb h4 j1 j2 j3 hK hm Vu i1 i2 i3 i4 i5 rR tY q1 q2 q3 r1 r2 r3
   gi_wp2
   refine ⟨by simp,.inl ⟨_,_,rfl,run_takeDeferred HK.out,?_⟩⟩
   refine ⟨.tuple #[.slice none 0 0,.int .i64 k,.int .i64 e],by simp[results,Tryz.results60,go_sem,R1.out,R2.out,R3.out],af.X4 (k:=k) (rs:=[]) (by unfold af.oE;rw[if_neg (by omega),H4.out]) rfl ⟨rfl,.inl ⟨rfl,rfl⟩⟩ ?_⟩
   exact HB.out.grown (grownBy_putObj' _ D _) (by omega) (fun k e=>by cases e;omega)
end
end Go.Proofs
section
set_option maxRecDepth 1000000
namespace Go.Ai
open Go Go.RowKit
theorem abE {P:Program} {tt:TT} {O:dQ} {G:T cL} {C:Cells} {m d f:Nat} {n0:Pos} {fn:Func} {c:Code} (hm:P.follows .mixedOrders=true) (hT:cr P tt) (hG:T8 P tt G)
  (hO:qI P C O) (RT:kg O) (hf:P.funcs[f]? =some fn) (qJ: ¬fn.name= "runtime.NumGoroutine") (hb:fn.body=some c) {b:Bool}
  (h:Qt (R:=Bool) false O G m d f [] { heap:= .e,next:=n0 } (fun v _=>eC v (.bool b))=true) (w:World) (hC: ∀ad v,C ad=some v->w.cell? ad=some v) (ZJ: ∀a v,C a=some v-> ∀o,C ⟨a.block,o,none⟩=none->w.cell? ⟨a.block,o,none⟩=none):
  Calls P f #[] w fun e w'=>e= .returned (.bool b)/\Below w.heap.size w w':=by
 rw[K7 false O G m d] at h
 unfold vQ at h
 split at h<;>first|(cases h;done)|skip
 rename_i x hx
 obtain ⟨v,bk⟩:=x
 have hv:=Be h
 simp only at hv
 subst hv
 have hr:=DZ hm hT hO RT hG m d (fun _=>⟨0,0,0⟩) { heap:= .e,next:=n0 } w f [] (.bool b) bk [] hx (BS hC ZJ) aA.nil
 have bU:(callFunc f ([]:List Value).toArray).run P w= .ok (.enter f #[]) w:=by simp[callFunc,hf,qJ,hb]
 rw[bU] at hr
 refine Calls.mono hr fun e w' he=> ?_
 cases e with
 |returned x=>
  obtain ⟨ρ',h1,_,_,_,hE⟩:=he
  have:=h1.iH;subst this
  exact ⟨rfl,hE.os,hE.tape,hE.output,hE.size,fun k hk=>hE.block k hk fun b x hb=>by rw[T.cX] at hb;cases hb⟩
 |panicked c=>exact he.elim
 |outgrown=>exact he.elim
section
variable {ρ : Pos -> Go.Ai.Loc} {C : Cells} {st : St} {w w' : World}
theorem bA.later (h:bA ρ C st w) (hb:Below w.heap.size w w'):bA ρ C st w' where
 live b x hx:=by
  obtain ⟨h1,h2,h3⟩:=h.live b x hx
  exact ⟨h1,Nat.lt_of_lt_of_le h2 hb.size,h3.of_heap (hb.block _ h2)⟩
 inj:=h.inj
 cZ a v ha:=by
  obtain ⟨h1,h2⟩:=h.cZ a v ha
  exact ⟨(hb.cell (World.block_lt_of_cell? _ _ h1)).trans h1,h2⟩
 whole a v ha o ho:=by
  have jF:a.block<w.heap.size:=World.block_lt_of_cell? _ _ (h.cZ a v ha).1
  exact (hb.cell (p:=⟨a.block,o,none⟩) jF).trans (h.whole a v ha o ho)
theorem ni.later (h:bA ρ C st w) (hb:Below w.heap.size w w'):ni ρ st w ρ st w':=⟨hb.os,hb.tape,hb.output,hb.size,fun k hk _=>hb.block k hk,fun b x hx=> .inl ⟨b,x,hx,rfl⟩⟩
theorem akv (hW:bA ρ C st w) {x0:AB} {base size g:Nat} (hb:Below w.heap.size w w') (hg:w.heap.size<=g) (yp:g<w'.heap.size)
   (hB: ∀ρ' n',(∀b:Pos,b.toNat<st.next.toNat->ρ' b=ρ b)->st.next.toNat<=n'->lR ρ' n' C ⟨g,base,size⟩ w' x0):
   ∃ρ':Pos->Go.Ai.Loc,(∀b:Pos,b.toNat<st.next.toNat->ρ' b=ρ b)/\ρ' st.next=⟨g,base,size⟩/\bA ρ' C (st.aL none none (some x0)) w'/\ni ρ st w ρ' (st.aL none none (some x0)) w':=by
 let ρ':Pos->Go.Ai.Loc:=fun b=>if b=st.next then ⟨g,base,size⟩ else ρ b
 have aS: ∀b:Pos,b.toNat<st.next.toNat->ρ' b=ρ b:=fun b hb=>if_neg (fun e=>by rw[e] at hb;omega)
 have cT:ρ' st.next=⟨g,base,size⟩:=if_pos rfl
 refine ⟨ρ',aS,cT,?_,⟨hb.os,hb.tape,hb.output,hb.size,fun k hk _=>hb.block k hk,fun b x hx=> ?_⟩⟩
 rotate_left
 . by_cases he:b=st.next
   . right;rw[he,cT];exact hg
   . left
     simp only[St.aL,EA,Cu] at hx
     rw[T.bK _ (fun e=>he e.symm)] at hx
     exact ⟨b,x,hx,by rw[aS b (hW.live b x hx).1]⟩
 refine hW.Zh (b0:=st.next) (x0:=x0) (by rw[Pos.ax];omega) (by rw[Pos.ax];omega) (by rw[T.fq]) ?_ aS (by rw[cT];exact hB _ _ aS (by rw[Pos.ax];omega)) ?_ (by rw[cT];exact yp) hb.size (fun k hk _=>hb.block k hk)
 . intro b x hb hx
   simp only[EA,Cu] at hx
   rw[T.bK _ (fun e=>hb e.symm)] at hx
   refine ⟨hx,?_⟩
   rw[cT]
   have:=(hW.live b x hx).2.1
   simp only;omega
 . intro a v ha
   have:=World.block_lt_of_cell? _ _ (hW.cZ a v ha).1
   rw[cT];simp only;omega
end
end Go.Ai
namespace Go.Proofs
open Go Go.Ai Go.RowKit Go.af Go.Proofs.YthiaklapeamjlaaGreatDoor
def af.Mo (t:List Nat):ByteArray:=⟨(t.map UInt8.ofNat).toArray⟩
theorem af.ah3 {t:List Nat} {bs:ByteArray} (h:bs.data.toList.map UInt8.toNat=t):bs=af.Mo t:=by
 unfold af.Mo
 rw[<-h,List.map_map]
 have:(UInt8.ofNat∘UInt8.toNat)=id:=by funext c;simp
 rw[this,List.map_id]
def af.parseLit (t0:List Nat) (er i:Int) (n:Nat) (cs:List AV):List AV->St->Option (AV×St):=fun args st=>
 match args with
 |  [.str t]=>match gK t t0 with
    |true=>match n with
     |0=>some (.tuple [.ah,.int .i64 i,.int .i64 er],st)
     |n+1=>some (.tuple [.slice st.next 0 (n+1) none 6,.int .i64 i,.int .i64 er],st.aL none none (some (.cells cs 0)))
    |false=>none
 |_=>none
theorem af.Qi {ρ:Pos->Go.Ai.Loc} {n:Nat} {C:Cells}: ∀{cs:List AV} {vs:List Value},cs.mapM xE=some vs->(∀v∈cs,∃k i,v= .int k i\/ ∃s,v= .str s/\ ∀c∈s,c<256)->aA ρ n C cs vs
 |[],vs,h,_=>by simp at h;subst h;exact aA.nil
 |v ::cs,vs,h,hv=>by
  simp only[List.mapM_cons,Option.bind_eq_bind,Option.bind_eq_some_iff,Option.pure_def,Option.some.injEq] at h
  obtain ⟨y,hy,zs,hz,rfl⟩:=h
  refine aA.cons ?_ (af.Qi hz fun v hm=>hv v (List.mem_cons_of_mem _ hm))
  obtain ⟨k,i,rfl|⟨s,rfl,hs⟩⟩:=hv v (List.mem_cons_self ..)
  . simp[xE] at hy;subst hy;exact .int _ _
  . simp only[xE,Option.some.injEq] at hy;subst hy
    refine .str _ _ ?_
    show (s.map UInt8.ofNat).toArray.toList.map UInt8.toNat=s
    simp only[List.map_map]
    conv=>rhs;rw[<-List.map_id s]
    refine List.map_congr_left fun c hc=> ?_
    have:=hs c hc
    simp[UInt8.toNat_ofNat]
    omega
theorem af.I9 {C:Cells} {m:Int} (hC:C ⟨0,0,none⟩=some (.int .i64 m)) {t0:List Nat} {er i:Int} {n k:Nat} {cs:List AV} {rs:List af.RR} (eI:t0.length<=65536) (hq:(eG (af.Mo t0)).all af.okL=true) (hp:af.oE (af.Mo t0)=(er,k,rs)) (hi:i=k) (hn:n=rs.length)
  (fh:cs.mapM xE=some (af.cellsOf rs)) (hsc: ∀v∈cs,∃k i,v= .int k i\/ ∃s,v= .str s/\ ∀c∈s,c<256) (hz:n=0->er≠0):xM Tryz.prog C 60 (af.parseLit t0 er i n cs) where
 mono args st v st' h:=by
  unfold af.parseLit at h
  split at h<;>first|(cases h;done)|skip
  split at h<;>first|(cases h;done)|skip
  split at h
  . injection h with h;injection h with h1 h2;subst h2;exact Nat.le_refl _
  . injection h with h;injection h with h1 h2;subst h2;exact St.KL _ _ _ _
 runs ρ st w args v st' bQ h hW hv:=by
  unfold af.parseLit at h
  split at h<;>first|(cases h;done)|skip
  rename_i t
  split at h<;>first|(cases h;done)|skip
  rename_i hbq
  have ht:t=t0:=lS.1 hbq
  subst ht
  obtain ⟨x,xs,rfl,h1,h2⟩:=hv.cons_inv
  have:=h2.su;subst this
  obtain ⟨bs,rfl,hs⟩:=h1.dW
  have kz:=af.ah3 hs
  have hm:=(hW.cZ _ _ hC).1
  have adk:bs.size<=65536:=by
    have:bs.data.toList.length=t.length:=by rw[<-hs];simp
    have h3:bs.size=bs.data.toList.length:=by simp
    omega
  have hc:=af.aku bs (fun x hx m w h=>af.line x (List.all_eq_true.1 hq x (by rw[<-kz];exact hx)) m w (Nat.le_trans h (by decide))) m w adk hm
  have bU:(callFunc 60 ([Value.string bs]:List Value).toArray).run Tryz.prog w= .ok (.enter 60 #[.string bs]) w:=enters_of Tryz.func60 (by kernel_rfl) rfl _ _
  rw[bU]
  refine Calls.mono hc fun e w' RB=> ?_
  obtain ⟨v',he,eJ,hb,Qh⟩:=RB
  rw[kz,hp] at he eJ Qh
  subst he
  subst hi
  simp only at eJ Qh ⊢
  split at h
  . injection h with h;injection h with e1 e2;subst e1;subst e2
    have GN:=Qh (.inl (hz rfl))
    subst GN
    exact ⟨ρ,.tZ (aA.cons .ah (aA.cons (.int _ _) (aA.cons (.int _ _) aA.nil))),fun _ _=>rfl,Nat.le_refl _,hW.later hb,ni.later hW hb⟩
  . rename_i n'
    injection h with h;injection h with e1 e2;subst e1;subst e2
    rcases eJ.2 with ⟨_,h0⟩|⟨g,cap,cur,rfl,hg,hgb,NZ,hcm,hcur,alm⟩
    .   omega
    .   have hgl:=(Array.getElem?_eq_some_iff.1 hgb).1
        have hlen:cs.length=rs.length*6:=by
         have hvr:=af.Qi (ρ:=ρ) (n:=0) (C:=C) fh hsc
         rw[hvr.1,af.WN]
        obtain ⟨ρ',aS,cT,dX,hE⟩:=akv (x0:= .cells cs 0) (base:=0) (size:=cur.size) hW hb hg hgl (fun ρ' n' _ _=>
         uf hgb (by rw[hlen,hcur];exact Nat.mul_le_mul_right _ NZ) (by rw[hlen,alm];exact af.Qi fh hsc) (fun i _=>by simp))
        refine ⟨ρ',.tZ (aA.cons ?_ (aA.cons (.int _ _) (aA.cons (.int _ _) aA.nil))),aS,St.KL _ _ _ _,dX,hE⟩
        have aln:n'+1<=cap:=by omega
        rw[<-hn]
        exact yl (by simp[St.aL,Pos.ax]) cT aln (fun c hc=>by cases hc) (by rw[hcur];exact Nat.le_refl _)
noncomputable def af.P1:List AV->St->Option (AV×St):=af.parseLit [104,97,114,100,32,97,112,97,114,116,32,97,110,110,97,32,98,111,114,105,115,32,50,10,119,101,105,103,104,32,53,32,104,111,110,111,117,114,32,45,10] 0 0 2 [.int .u8 1,.int .i64 0,.str [97,110,110,97],.str [98,111,114,105,115],.str [],.int .i64 2,.int .u8 14,.int .i64 5,.str [],.str [],.str [],.int .i64 0]
noncomputable def af.P2:List AV->St->Option (AV×St):=af.parseLit [119,101,105,103,104,32,48,32,109,105,120,32,45,10] 41 0 0 []
noncomputable def af.P3:List AV->St->Option (AV×St):=af.parseLit [104,97,114,100,32,97,116,32,97,110,110,97,32,45,10] 4 0 0 []
theorem af.alo:af.oE (af.Mo [104,97,114,100,32,97,112,97,114,116,32,97,110,110,97,32,98,111,114,105,115,32,50,10,119,101,105,103,104,32,53,32,104,111,110,111,117,114,32,45,10])=(0,0,[⟨1,0,⟨#[97,110,110,97]⟩,⟨#[98,111,114,105,115]⟩,⟨#[]⟩,2⟩,⟨14,5,⟨#[]⟩,⟨#[]⟩,⟨#[]⟩,0⟩]):=by kernel_rfl
theorem af.alp:af.oE (af.Mo [119,101,105,103,104,32,48,32,109,105,120,32,45,10])=(41,0,[]):=by kernel_rfl
theorem af.alq:af.oE (af.Mo [104,97,114,100,32,97,116,32,97,110,110,97,32,45,10])=(4,0,[]):=by kernel_rfl
theorem af.aeG {k:IntKind} {i:Int}: ∃k' i',(AV.int k i)= .int k' i'\/ ∃s,(AV.int k i)= .str s/\ ∀c∈s,c<256:=⟨k,i,.inl rfl⟩
theorem af.aeH {s:List Nat} (h:s.all (fun c=>decide (c<256))=true): ∃k' i',(AV.str s)= .int k' i'\/ ∃s',(AV.str s)= .str s'/\ ∀c∈s',c<256:=⟨.i64,0,.inr ⟨s,rfl,fun c hc=>by have:=List.all_eq_true.1 h c hc;simpa using this⟩⟩
theorem af.alr {C:Cells} {m:Int} (hC:C ⟨0,0,none⟩=some (.int .i64 m)):xM Tryz.prog C 60 af.P1:=
 af.I9 hC (by decide) (by kernel_rfl) af.alo rfl rfl (by rfl) (by
  intro v hv
  simp only[List.mem_cons,List.not_mem_nil,or_false] at hv
  rcases hv with rfl|rfl|rfl|rfl|rfl|rfl|rfl|rfl|rfl|rfl|rfl|rfl<;>first|exact af.aeG|exact af.aeH (by decide)) (by decide)
theorem af.als {C:Cells} {m:Int} (hC:C ⟨0,0,none⟩=some (.int .i64 m)):xM Tryz.prog C 60 af.P2:=af.I9 hC (by decide) (by kernel_rfl) af.alp rfl rfl rfl (by simp) (by decide)
theorem af.alu {C:Cells} {m:Int} (hC:C ⟨0,0,none⟩=some (.int .i64 m)):xM Tryz.prog C 60 af.P3:=af.I9 hC (by decide) (by kernel_rfl) af.alq rfl rfl rfl (by simp) (by decide)
noncomputable def af.orcA:dQ:=xw [(328,Bh),(22,Um (Lb QV) (Lb QW)),(60,Um af.P1 (Um af.P2 af.P3))]
noncomputable def af.chkA:Bool:=Qt (R:=Bool) false af.orcA gg 100000 60 18 [] { heap:= .e,next:= .o (.i (.o (.i (.o (.i (.o (.i (.o .h)))))))) } fun v _=>eC v (.bool true)
theorem af.agl:af.chkA=true:=by kernel_rfl
theorem af.Qj {C:Cells}:xM Tryz.prog C 328 Bh:=agR (fn:=Tryz.f328) Tryz.func328 (by kernel_rfl) (by kernel_rfl) (by kernel_rfl) (by kernel_rfl)
theorem af.ajI {C:Cells}:xM Tryz.prog C 22 (Lb QV):=by
 have ho:=Bg (P:=Tryz.prog) (C:=C) (l:=[(328,Bh)]) (fun x hx=>by simp at hx;subst hx;exact af.Qj)
 exact ZS (O:=aiq) (G:=gg) (m:=100000) (d:=60) (DZ (by kernel_rfl) QX ho.1 ho.2 QY _ _) (DX ho.2 _ _) akn alb
theorem af.ajJ {C:Cells}:xM Tryz.prog C 22 (Lb QW):=by
 have ho:=Bg (P:=Tryz.prog) (C:=C) (l:=[(328,Bh)]) (fun x hx=>by simp at hx;subst hx;exact af.Qj)
 exact ZS (O:=air) (G:=gg) (m:=100000) (d:=60) (DZ (by kernel_rfl) QX ho.1 ho.2 QY _ _) (DX ho.2 _ _) ako alc
theorem af.agm (m:Int) (w:World) (hm:w.cell? ⟨0,0,none⟩=some (.int .i64 m)):Calls Tryz.prog 18 #[] w fun e w'=>e= .returned (.bool true)/\Below w.heap.size w w':=by
 have hC:(fun ad=>w.cell? ad:Cells) ⟨0,0,none⟩=some (.int .i64 m):=hm
 have ho:=Bg (P:=Tryz.prog) (C:=fun ad=>w.cell? ad) (l:=[(328,Bh),(22,Um (Lb QV) (Lb QW)),(60,Um af.P1 (Um af.P2 af.P3))]) (fun x hx=>by
  simp only[List.mem_cons,List.not_mem_nil,or_false] at hx
  rcases hx with rfl|rfl|rfl
  . exact af.Qj
  . exact ZT af.ajI af.ajJ
  . exact ZT (af.alr hC) (ZT (af.als hC) (af.alu hC)))
 exact abE (by kernel_rfl) QX QY ho.1 ho.2 (fn:=Tryz.f18) (c:=Tryz.f18.body.get rfl) Tryz.func18 (by decide) rfl af.agl w (fun ad v h=>h) fun a v _ o h=>h
end Go.Proofs
end
