/- rule.body at the three shapes that the chapter's examples have. -/
import Derived.Test.YthiaklapeamjlaaGreatDoorCWalkB
set_option linter.all false
set_option linter.unusedSectionVars false
set_option linter.deprecated false
namespace Go.Proofs
section
open Go.RowKit Go.af
set_option maxRecDepth 100000 in
set_option maxHeartbeats 40000000 in
theorem af.ajM (u:Nat->ByteArray) (wt:Int) (B off len:Nat) (w:World) (hB:B<w.heap.size) (hc: ∀i,i<len->w.cell? ⟨B,off+i,none⟩=some (.string (u i))) (h1:1<=len) (h3:len<=maxLen) (hu: ∀i,i<len->(u i).size<=maxLen)
  (WO: -1<=wt/\wt<=999999999) (hs:kindOf (u 0).data.toList≠0/\nY (kindOf (u 0).data.toList)=103/\nZ (kindOf (u 0).data.toList)=true/\n6 (kindOf (u 0).data.toList)=0/\n8 (kindOf (u 0).data.toList)=true):
  Calls Tryz.prog 223 #[.agg #[.int .u8 0,.int .i64 wt,.string ⟨#[]⟩,.string ⟨#[]⟩,.string ⟨#[]⟩,.int .i64 0],.slice (some ⟨B,off,none⟩) len len] w (af.Kh u len wt w):=by
 have HU:=Lib.hid hu;clear hu
 have HS:=Lib.hid hs;clear hs
 unfold maxLen at h3
 go_enter Tryz.func223,Tryz.ntmps223
 go_wp2_with (first|(go_at_call 67;refine (af.kinds _).mono ?_;rintro e w1 ⟨b,rfl,cJ,dD,Ja⟩;have pE:=Lib.hid Ja;have CR:=Lib.hid cJ;clear Ja cJ)|(at_range;refine td _ rfl _ _ rfl 38 101 Tryz.underlying95 b b9 18 rfl dD ?_))
 go_frame
 go_loopw [8] (fun _ wr=>af.Ql w (kindOf (u 0).data.toList) wt (.slice (some ⟨B,off,none⟩) len len) b w1.heap.size wr) (fun _ wr=>wr.rangeLeft b w1.heap.size)
 case atStart=>
  have q1:=(((((Is.new w 40 #[.int .u8 0,.int .i64 wt,.string ⟨#[]⟩,.string ⟨#[]⟩,.string ⟨#[]⟩,.int .i64 0]).alloc _).alloc _).alloc _).below pE.out (by simp;omega)).alloc (.mapIter (some b) 18 #[] 18)
  have q2:=((((Is.new (w.alloc (.cells #[.int .u8 0,.int .i64 wt,.string ⟨#[]⟩,.string ⟨#[]⟩,.string ⟨#[]⟩,.int .i64 0] 40)) 85 #[.slice (some ⟨B,off,none⟩) len len]).alloc _).alloc _).below pE.out (by simp)).alloc (.mapIter (some b) 18 #[] 18)
  have q3:=(((Is.new ((w.alloc (.cells #[.int .u8 0,.int .i64 wt,.string ⟨#[]⟩,.string ⟨#[]⟩,.string ⟨#[]⟩,.int .i64 0] 40)).alloc (.cells #[.slice (some ⟨B,off,none⟩) len len] 85)) 40 #[.int .u8 0,.int .i64 0,.string ⟨#[]⟩,.string ⟨#[]⟩,.string ⟨#[]⟩,.int .i64 0]).alloc _).below pE.out (by simp)).alloc (.mapIter (some b) 18 #[] 18)
  have q4:=((Is.new (((w.alloc (.cells #[.int .u8 0,.int .i64 wt,.string ⟨#[]⟩,.string ⟨#[]⟩,.string ⟨#[]⟩,.int .i64 0] 40)).alloc (.cells #[.slice (some ⟨B,off,none⟩) len len] 85)).alloc (.cells #[.int .u8 0,.int .i64 0,.string ⟨#[]⟩,.string ⟨#[]⟩,.string ⟨#[]⟩,.int .i64 0] 40)) 101
    #[.string ⟨#[]⟩,.int .u8 0,.bool false,.int .u8 0,.bool false,.int .i64 0,.bool false,.nilFunc]).below pE.out (by simp)).alloc (.mapIter (some b) 18 #[] 18)
  rw[World.size_alloc] at q2
  rw[World.size_alloc,World.size_alloc] at q3
  rw[World.size_alloc,World.size_alloc,World.size_alloc] at q4
  have tQ:b<w1.heap.size:=(Array.getElem?_eq_some_iff.1 dD).1
  refine ⟨#[],18,(Go.af.heap_alloc _ _ tQ).trans dD,by show (w1.heap.push _)[w1.heap.size]? =_;simp,Nat.le_refl _,?_,by simp,?_,q2,q3,?_⟩
  . exact ((((((Below.refl _ w).alloc (Nat.le_refl _) _).alloc (by simp) _).alloc (by simp;omega) _).alloc (by simp;omega) _).trans (pE.out.mono (by simp;omega))).alloc (by have:=pE.out.size;simp at this;omega) _
  . exact q1.cast (by rw[af.n9];rfl)
  . exact q4.cast (by rw[af.n9];rfl)
 case round=>
  obtain ⟨seen,c0,m1,m2,m3,m4,m5,i1,i2,i3,i4⟩:=hrel
  have SN:=CR.out
  simp at SN
  have tQ:b<w1.heap.size:=(Array.getElem?_eq_some_iff.1 dD).1
  obtain ⟨a0,a1,a2,a3,a4,a5⟩:=i1.yU
  have a6:=i2.one
  obtain ⟨d0,d1,d2,d3,d4,d5⟩:=i3.yU
  obtain ⟨e0,e1,e2,e3,e4,e5,e6,e7⟩:=i4.eight
  have f1:=i1.frozen
  have f2:=i2.frozen
  have f3:=i3.frozen
  have f4:=i4.frozen
  have M1:=Lib.hid m1
  have M2:=Lib.hid m2
  have M4:=Lib.hid m4
  have I1:=Lib.hid i1
  have I2:=Lib.hid i2
  have I3:=Lib.hid i3
  have I4:=Lib.hid i4
  clear m1 m2 i1 i2 i3 i4 m4
  go_wp2_with (first|(at_next;refine u0 _ rfl _ rfl w1.heap.size b 18 c0 seen b9 18 rfl M2.out M1.out af.Qm m3 af.Ki ?_ ?_))
  . intro  hD
    have hK:=af.Gu hD (kindOf (u 0).data.toList) (oa _)
    rw[hK] at a0 e0 e1 e2 e3 e4 e5 e6 e7
    have HD:=Lib.hid hD;clear hD hK
    have hr: ∀i,i<len->wr.cell? ⟨B,off+i,none⟩=some (.string (u i)):=fun i hi=>(M4.out.cell (p:=⟨B,off+i,none⟩) hB).trans (hc i hi)
    have HR:=Lib.hid hr;clear hr
    have hl:=I4.out.lt
    have NO:w.heap.size<wr.heap.size:=by omega
    have vr:w.heap.size+1<wr.heap.size:=by omega
    have jF:w.heap.size+1+1<wr.heap.size:=by omega
    have Y7:B<wr.heap.size:=by omega
    have HC:=Lib.hid hc;clear hc
    have Y8:=Lib.hid dD;clear dD
    have Ru:=oa (u 0).data.toList
    obtain ⟨K,hK⟩: ∃K,K=kindOf (u 0).data.toList:=⟨_,rfl⟩
    rw[<-hK] at a0 e0 e1 e2 e3 e4 e5 e6 e7 Ru
    have hs:=HS.out
    rw[<-hK] at hs
    obtain ⟨h0,ha,hb,ht,hn⟩:=hs
    have HK:=Lib.hid hK;clear hK
    rw[ha] at e1;rw[hb] at e2;rw[ht] at e3;rw[hn] at e4
    have HA:=Lib.hid ha;have o7:=Lib.hid hb;have HT:=Lib.hid ht;have HN:=Lib.hid hn;clear ha hb ht hn
    have aX: ¬(fe K).toList=[]:=by rw[Lib.toList_data];exact af.Vw K Ru h0
    have eP:(!(fe K).toList.isEmpty)=true:=by simpa using aX
    have Rv:(fe K).toList.isEmpty=false:=by simpa using aX
    have H0:=Lib.hid h0
    clear h0
    by_cases Kj:len=1
    .   subst Kj
        go_wp2
        go_loop [9,46] (fun m i=> ∃j:Nat,j<=4/\i= .int .i64 j/\m= .int .i64 (([true,true,false,true].take j).count true:Nat)) (fun _ i=>4 - (intOf i).toNat)
        case atStart=>exact ⟨0,Nat.zero_le _,rfl,rfl⟩
        case round=>
         obtain ⟨j,hj,rfl,rfl⟩:=hrel
         obtain rfl|rfl|rfl|rfl|rfl:j=0\/j=1\/j=2\/j=3\/j=4:=by omega
         . go_wp2;go_round;(case rel=>exact ⟨1,by omega,rfl,rfl⟩);(case measure=>simp[intOf])
         . go_wp2;go_round;(case rel=>exact ⟨2,by omega,rfl,rfl⟩);(case measure=>simp[intOf])
         . go_wp2;go_round;(case rel=>exact ⟨3,by omega,rfl,rfl⟩);(case measure=>simp[intOf])
         . go_wp2;go_round;(case rel=>exact ⟨4,by omega,rfl,rfl⟩);(case measure=>simp[intOf])
         . go_wp2
           refine bodyPost_ret (v:= .tuple #[.agg #[.int .u8 0,.int .i64 0,.string ⟨#[]⟩,.string ⟨#[]⟩,.string ⟨#[]⟩,.int .i64 0],.int .i64 3]) (by simp[results,Tryz.results223,go_sem, *]) rfl (af.dw HK.out HA.out o7.out HT.out HN.out (by simp[af.gu,af.valOf,af.eM,H0.out]) ?_);(repeat (first|(with_reducible refine Below.setCell ?_ (by first|(simp;done)|(simp;omega)) _)|(with_reducible refine Below.alloc ?_ (by first|(simp;done)|(simp;omega)) _)|(with_reducible refine af.below_drewN ?_ _)|(with_reducible exact M4.out)))
    by_cases hlen:len=4
    .   subst hlen
        have r1:wr.cell? ⟨B,off+1,none⟩=some (.string (u 1)):=HR.out 1 (by omega)
        have g1:=HU.out 1 (by omega)
        have r2:wr.cell? ⟨B,off+1+1,none⟩=some (.string (u 2)):=HR.out 2 (by omega)
        have s2:wr.cell? ⟨B,off+1+1,none⟩=some (.string (u 2)):=(congrArg (fun x=>wr.cell? ⟨B,x,none⟩) (by omega)).trans (HR.out 2 (by omega))
        have g2:=HU.out 2 (by omega)
        have r3:wr.cell? ⟨B,off+1+1+1,none⟩=some (.string (u 3)):=HR.out 3 (by omega)
        have s3:wr.cell? ⟨B,off+1+2,none⟩=some (.string (u 3)):=(congrArg (fun x=>wr.cell? ⟨B,x,none⟩) (by omega)).trans (HR.out 3 (by omega))
        have g3:=HU.out 3 (by omega)
        go_wp2
        go_loop [9,46] (fun m i=> ∃j:Nat,j<=4/\i= .int .i64 j/\m= .int .i64 (([true,true,false,true].take j).count true:Nat)) (fun _ i=>4 - (intOf i).toNat)
        case atStart=>exact ⟨0,Nat.zero_le _,rfl,rfl⟩
        case round=>
         obtain ⟨j,hj,rfl,rfl⟩:=hrel
         obtain rfl|rfl|rfl|rfl|rfl:j=0\/j=1\/j=2\/j=3\/j=4:=by omega
         . go_wp2;go_round;(case rel=>exact ⟨1,by omega,rfl,rfl⟩);(case measure=>simp[intOf])
         . go_wp2;go_round;(case rel=>exact ⟨2,by omega,rfl,rfl⟩);(case measure=>simp[intOf])
         . go_wp2;go_round;(case rel=>exact ⟨3,by omega,rfl,rfl⟩);(case measure=>simp[intOf])
         . go_wp2;go_round;(case rel=>exact ⟨4,by omega,rfl,rfl⟩);(case measure=>simp[intOf])
         . rcases af.tR (j9 (u 3).data.toList) with sH|sH
           rotate_left
           .  go_wp2_with (first|(go_at_call 222;refine (af.DR _ _ g3).mono ?_;rintro e w' ⟨rfl,rfl⟩))
              refine bodyPost_ret (v:= .tuple #[.agg #[.int .u8 0,.int .i64 0,.string ⟨#[]⟩,.string ⟨#[]⟩,.string ⟨#[]⟩,.int .i64 0],.int .i64 3]) (by simp[results,Tryz.results223,go_sem, *]) rfl (af.dw HK.out HA.out o7.out HT.out HN.out (by simp[af.gu,af.valOf,af.eM,H0.out,sH]) ?_);(repeat (first|(with_reducible refine Below.setCell ?_ (by first|(simp;done)|(simp;omega)) _)|(with_reducible refine Below.alloc ?_ (by first|(simp;done)|(simp;omega)) _)|(with_reducible refine af.below_drewN ?_ _)|(with_reducible exact M4.out)))
           by_cases hwl:wt<0
           .  go_wp2_with (first|(go_at_call 222;refine (af.DR _ _ g3).mono ?_;rintro e w' ⟨rfl,rfl⟩)|(go_at_call 281;((with_reducible refine (af.cG (u 1) _ _ g1).mono ?_);rintro e w' ⟨rfl,rfl⟩))|(go_at_call 281;((with_reducible refine (af.cG (u 2) _ _ g2).mono ?_);rintro e w' ⟨rfl,rfl⟩))|go_in)
              refine bodyPost_ret (v:= .tuple #[.agg #[.int .u8 0,.int .i64 0,.string ⟨#[]⟩,.string ⟨#[]⟩,.string ⟨#[]⟩,.int .i64 0],.int .i64 41]) (by simp[results,Tryz.results223,go_sem, *]) rfl (af.dw HK.out HA.out o7.out HT.out HN.out (by simp[af.gu,af.valOf,af.eM,H0.out,sH,hwl]) ?_);(repeat (first|(with_reducible refine Below.setCell ?_ (by first|(simp;done)|(simp;omega)) _)|(with_reducible refine Below.alloc ?_ (by first|(simp;done)|(simp;omega)) _)|(with_reducible refine af.below_drewN ?_ _)|(with_reducible exact M4.out)))
           by_cases hwh:1000<wt
           .  go_wp2_with (first|(go_at_call 222;refine (af.DR _ _ g3).mono ?_;rintro e w' ⟨rfl,rfl⟩)|(go_at_call 281;((with_reducible refine (af.cG (u 1) _ _ g1).mono ?_);rintro e w' ⟨rfl,rfl⟩))|(go_at_call 281;((with_reducible refine (af.cG (u 2) _ _ g2).mono ?_);rintro e w' ⟨rfl,rfl⟩))|go_in)
              refine bodyPost_ret (v:= .tuple #[.agg #[.int .u8 0,.int .i64 0,.string ⟨#[]⟩,.string ⟨#[]⟩,.string ⟨#[]⟩,.int .i64 0],.int .i64 41]) (by simp[results,Tryz.results223,go_sem, *]) rfl (af.dw HK.out HA.out o7.out HT.out HN.out (by simp[af.gu,af.valOf,af.eM,H0.out,sH,hwh]) ?_);(repeat (first|(with_reducible refine Below.setCell ?_ (by first|(simp;done)|(simp;omega)) _)|(with_reducible refine Below.alloc ?_ (by first|(simp;done)|(simp;omega)) _)|(with_reducible refine af.below_drewN ?_ _)|(with_reducible exact M4.out)))
           rcases af.tR (tS (u 1) false) with yV|yV
           .  rcases af.tR (tS (u 2) false) with wm|wm
              . go_wp2_with (first|(go_at_call 222;refine (af.DR _ _ g3).mono ?_;rintro e w' ⟨rfl,rfl⟩)|(go_at_call 281;((with_reducible refine (af.cG (u 1) _ _ g1).mono ?_);rintro e w' ⟨rfl,rfl⟩))|(go_at_call 281;((with_reducible refine (af.cG (u 2) _ _ g2).mono ?_);rintro e w' ⟨rfl,rfl⟩))|go_in)
                refine bodyPost_ret (v:= .tuple #[.agg #[.int .u8 K,.int .i64 wt,.string (Ew (u 1) false),.string (Ew (u 2) false),.string (⟨#[]⟩),.int .i64 (yW (u 3).data.toList)],.int .i64 0]) (by simp[results,Tryz.results223,go_sem, *]) rfl (af.dw HK.out HA.out o7.out HT.out HN.out (by have yX:=af.BB (wt:=wt) (by omega) (by omega);simp[af.gu,af.valOf,af.RR.val,H0.out,sH,yV,wm,if_neg yX]) ?_);(repeat (first|(with_reducible refine Below.setCell ?_ (by first|(simp;done)|(simp;omega)) _)|(with_reducible refine Below.alloc ?_ (by first|(simp;done)|(simp;omega)) _)|(with_reducible refine af.below_drewN ?_ _)|(with_reducible exact M4.out)))
              . go_wp2_with (first|(go_at_call 222;refine (af.DR _ _ g3).mono ?_;rintro e w' ⟨rfl,rfl⟩)|(go_at_call 281;((with_reducible refine (af.cG (u 1) _ _ g1).mono ?_);rintro e w' ⟨rfl,rfl⟩))|(go_at_call 281;((with_reducible refine (af.cG (u 2) _ _ g2).mono ?_);rintro e w' ⟨rfl,rfl⟩))|go_in)
                refine bodyPost_ret (v:= .tuple #[.agg #[.int .u8 0,.int .i64 0,.string ⟨#[]⟩,.string ⟨#[]⟩,.string ⟨#[]⟩,.int .i64 0],.int .i64 4]) (by simp[results,Tryz.results223,go_sem, *]) rfl (af.dw HK.out HA.out o7.out HT.out HN.out (by have yX:=af.BB (wt:=wt) (by omega) (by omega);simp[af.gu,af.valOf,af.eM,H0.out,sH,yV,wm,if_neg yX]) ?_);(repeat (first|(with_reducible refine Below.setCell ?_ (by first|(simp;done)|(simp;omega)) _)|(with_reducible refine Below.alloc ?_ (by first|(simp;done)|(simp;omega)) _)|(with_reducible refine af.below_drewN ?_ _)|(with_reducible exact M4.out)))
           .  rcases af.tR (tS (u 2) false) with wm|wm
              . go_wp2_with (first|(go_at_call 222;refine (af.DR _ _ g3).mono ?_;rintro e w' ⟨rfl,rfl⟩)|(go_at_call 281;((with_reducible refine (af.cG (u 1) _ _ g1).mono ?_);rintro e w' ⟨rfl,rfl⟩))|(go_at_call 281;((with_reducible refine (af.cG (u 2) _ _ g2).mono ?_);rintro e w' ⟨rfl,rfl⟩))|go_in)
                refine bodyPost_ret (v:= .tuple #[.agg #[.int .u8 0,.int .i64 0,.string ⟨#[]⟩,.string ⟨#[]⟩,.string ⟨#[]⟩,.int .i64 0],.int .i64 4]) (by simp[results,Tryz.results223,go_sem, *]) rfl (af.dw HK.out HA.out o7.out HT.out HN.out (by have yX:=af.BB (wt:=wt) (by omega) (by omega);simp[af.gu,af.valOf,af.eM,H0.out,sH,yV,wm,if_neg yX]) ?_);(repeat (first|(with_reducible refine Below.setCell ?_ (by first|(simp;done)|(simp;omega)) _)|(with_reducible refine Below.alloc ?_ (by first|(simp;done)|(simp;omega)) _)|(with_reducible refine af.below_drewN ?_ _)|(with_reducible exact M4.out)))
              . go_wp2_with (first|(go_at_call 222;refine (af.DR _ _ g3).mono ?_;rintro e w' ⟨rfl,rfl⟩)|(go_at_call 281;((with_reducible refine (af.cG (u 1) _ _ g1).mono ?_);rintro e w' ⟨rfl,rfl⟩))|(go_at_call 281;((with_reducible refine (af.cG (u 2) _ _ g2).mono ?_);rintro e w' ⟨rfl,rfl⟩))|go_in)
                refine bodyPost_ret (v:= .tuple #[.agg #[.int .u8 0,.int .i64 0,.string ⟨#[]⟩,.string ⟨#[]⟩,.string ⟨#[]⟩,.int .i64 0],.int .i64 4]) (by simp[results,Tryz.results223,go_sem, *]) rfl (af.dw HK.out HA.out o7.out HT.out HN.out (by have yX:=af.BB (wt:=wt) (by omega) (by omega);simp[af.gu,af.valOf,af.eM,H0.out,sH,yV,wm,if_neg yX]) ?_);(repeat (first|(with_reducible refine Below.setCell ?_ (by first|(simp;done)|(simp;omega)) _)|(with_reducible refine Below.alloc ?_ (by first|(simp;done)|(simp;omega)) _)|(with_reducible refine af.below_drewN ?_ _)|(with_reducible exact M4.out)))
    .   have hd:(((len - 1:Nat):Int) !=3)=true:=by rw[bne_iff_ne];omega
        have hd2:decide (len - 1=3)=false:=by rw[decide_eq_false_iff_not];omega
        go_wp2
        go_loop [9,46] (fun m i=> ∃j:Nat,j<=4/\i= .int .i64 j/\m= .int .i64 (([true,true,false,true].take j).count true:Nat)) (fun _ i=>4 - (intOf i).toNat)
        case atStart=>exact ⟨0,Nat.zero_le _,rfl,rfl⟩
        case round=>
         obtain ⟨j,hj,rfl,rfl⟩:=hrel
         obtain rfl|rfl|rfl|rfl|rfl:j=0\/j=1\/j=2\/j=3\/j=4:=by omega
         . go_wp2;go_round;(case rel=>exact ⟨1,by omega,rfl,rfl⟩);(case measure=>simp[intOf])
         . go_wp2;go_round;(case rel=>exact ⟨2,by omega,rfl,rfl⟩);(case measure=>simp[intOf])
         . go_wp2;go_round;(case rel=>exact ⟨3,by omega,rfl,rfl⟩);(case measure=>simp[intOf])
         . go_wp2;go_round;(case rel=>exact ⟨4,by omega,rfl,rfl⟩);(case measure=>simp[intOf])
         . go_wp2
           refine bodyPost_ret (v:= .tuple #[.agg #[.int .u8 0,.int .i64 0,.string ⟨#[]⟩,.string ⟨#[]⟩,.string ⟨#[]⟩,.int .i64 0],.int .i64 3]) (by simp[results,Tryz.results223,go_sem, *]) rfl (af.dw HK.out HA.out o7.out HT.out HN.out (by simp[af.gu,af.valOf,af.eM,H0.out,hlen]) ?_);(repeat (first|(with_reducible refine Below.setCell ?_ (by first|(simp;done)|(simp;omega)) _)|(with_reducible refine Below.alloc ?_ (by first|(simp;done)|(simp;omega)) _)|(with_reducible refine af.below_drewN ?_ _)|(with_reducible exact M4.out)))
  . intro  e he w2 q1 q2 q3 q4 q5 q6 q7
    obtain ⟨i,hi,rfl,kJ⟩:=af.Kk he
    dsimp only[th,Kl] at q1 q7 ⊢
    obtain ⟨c,Ex⟩: ∃c,c=i+1:=⟨_,rfl⟩
    rw[<-Ex] at q7 ⊢
    have kY:Rw c= .func (.func (131+c)) #[] #[]:=if_neg (by omega)
    rw[kY] at q7 ⊢
    clear kY
    have pF:=Lib.hid Ex;clear Ex
    have Q1:Hid (w2.heap[w1.heap.size]? =some (.mapIter (some b) 18 (seen.push i) 18)):=Lib.hid q1
    have HI:=Lib.hid kJ
    have HO:Hid (w2.os=wr.os/\w2.tape=wr.tape/\w2.output=wr.output/\w2.heap.size=wr.heap.size):=Lib.hid ⟨q2,q3,q4,q5⟩
    have Q6:=Lib.hid q6
    have WQ:w1.heap.size<w2.heap.size:=by omega
    have j1:=I1.out.of_heap (q6 _ (by omega))
    have j2:=I2.out.of_heap (q6 _ (by omega))
    have j3:=I3.out.of_heap (q6 _ (by omega))
    have j4:=I4.out.of_heap (q6 _ (by omega))
    have Hl:=I4.out.lt
    have hl:w.heap.size+1+1+1<w2.heap.size:=by omega
    clear q1 q2 q3 q4 q5 q6 he kJ a0 a1 a2 a3 a4 a5 a6 e0 e1 e2 e3 e4 e5 e6 e7
    obtain ⟨a0,a1,a2,a3,a4,a5⟩:=j1.yU
    have a6:=j2.one
    obtain ⟨e0,e1,e2,e3,e4,e5,e6,e7⟩:=j4.eight
    have f1:=j1.frozen
    have f4:=j4.frozen
    have J1:=Lib.hid j1
    have J2:=Lib.hid j2
    have J3:=Lib.hid j3
    have J4:=Lib.hid j4
    clear j1 j2 j3 j4
    have NP: ∀i,i<len->w2.cell? ⟨B,off+i,none⟩=some (.string (u i)):=fun i hi=>by
        rw[<-hc i hi, <-M4.out.cell (p:=⟨B,off+i,none⟩) hB]
        exact Gv (Q6.out B (by omega)) _
    have NQ:=NP 0 (by omega)
    rw[Nat.add_zero] at NQ
    clear NP
    have HC:=Lib.hid hc;clear hc
    have Y8:=Lib.hid dD;clear dD
    have NO:w.heap.size<w2.heap.size:=by omega
    have vr:w.heap.size+1<w2.heap.size:=by omega
    have jF:w.heap.size+1+1<w2.heap.size:=by omega
    have Y7:B<w2.heap.size:=by omega
    have yY:Hid (w2.heap[b]? =some (.map b9 18)):=Lib.hid (by rw[Q6.out b (by omega)];exact M1.out)
    have yZ:Hid (Below w.heap.size w w2):=Lib.hid (af.DS M4.out HO.out Q6.out (by omega))
    by_cases heq:((fe c).toList==(u 0).toList)=true
    .   have HQ:Hid (kindOf (u 0).data.toList=c):=Lib.hid (af.Km (by have:=pF.out;omega) (by have:=pF.out;omega) heq)
        go_wp2
        go_quiet (fail)
        go_wp2
        go_region
        all_goals
         go_roundw
         case rel=>
           (repeat apply Exists.intro)
           exact ⟨(af.tT HQ.out pF.out yY.out Q1.out yZ.out (by omega) (by omega) (by omega) J1.out J2.out J3.out J4.out).1,rfl⟩
         case measure=>
           rw[af.ic M1.out M2.out]
           exact Nat.lt_of_le_of_lt (Nat.le_of_eq (af.tT HQ.out pF.out yY.out Q1.out yZ.out (by omega) (by omega) (by omega) J1.out J2.out J3.out J4.out).2) (af.ye hi HI.out)
    .   have SP:((fe c).toList==(u 0).toList)=false:=by simpa using heq
        clear heq
        have HQ:Hid (kindOf (u 0).data.toList≠i+1):=Lib.hid (by rw[<-pF.out];exact af.Gw (by have:=pF.out;omega) SP)
        go_wp2
        go_quiet (fail)
        go_wp2
        go_roundw
        case rel=>
         exact (af.qp HQ.out yY.out Q1.out yZ.out (by omega) (by omega) (by omega) J1.out J2.out J3.out J4.out).1
        case measure=>
         rw[af.ic M1.out M2.out]
         exact Nat.lt_of_le_of_lt (Nat.le_of_eq (af.qp HQ.out yY.out Q1.out yZ.out (by omega) (by omega) (by omega) J1.out J2.out J3.out J4.out).2) (af.ye hi HI.out)
end
section
open Go.RowKit Go.af
set_option maxRecDepth 100000 in
set_option maxHeartbeats 40000000 in
theorem af.ajN (u:Nat->ByteArray) (wt:Int) (B off len:Nat) (w:World) (hB:B<w.heap.size) (hc: ∀i,i<len->w.cell? ⟨B,off+i,none⟩=some (.string (u i))) (h1:1<=len) (h3:len<=maxLen) (hu: ∀i,i<len->(u i).size<=maxLen)
  (WO: -1<=wt/\wt<=999999999) (hs:kindOf (u 0).data.toList≠0/\nY (kindOf (u 0).data.toList)=103/\nZ (kindOf (u 0).data.toList)=false/\n6 (kindOf (u 0).data.toList)=116/\n8 (kindOf (u 0).data.toList)=false):
  Calls Tryz.prog 223 #[.agg #[.int .u8 0,.int .i64 wt,.string ⟨#[]⟩,.string ⟨#[]⟩,.string ⟨#[]⟩,.int .i64 0],.slice (some ⟨B,off,none⟩) len len] w (af.Kh u len wt w):=by
 have HU:=Lib.hid hu;clear hu
 have HS:=Lib.hid hs;clear hs
 unfold maxLen at h3
 go_enter Tryz.func223,Tryz.ntmps223
 go_wp2_with (first|(go_at_call 67;refine (af.kinds _).mono ?_;rintro e w1 ⟨b,rfl,cJ,dD,Ja⟩;have pE:=Lib.hid Ja;have CR:=Lib.hid cJ;clear Ja cJ)|(at_range;refine td _ rfl _ _ rfl 38 101 Tryz.underlying95 b b9 18 rfl dD ?_))
 go_frame
 go_loopw [8] (fun _ wr=>af.Ql w (kindOf (u 0).data.toList) wt (.slice (some ⟨B,off,none⟩) len len) b w1.heap.size wr) (fun _ wr=>wr.rangeLeft b w1.heap.size)
 case atStart=>
  have q1:=(((((Is.new w 40 #[.int .u8 0,.int .i64 wt,.string ⟨#[]⟩,.string ⟨#[]⟩,.string ⟨#[]⟩,.int .i64 0]).alloc _).alloc _).alloc _).below pE.out (by simp;omega)).alloc (.mapIter (some b) 18 #[] 18)
  have q2:=((((Is.new (w.alloc (.cells #[.int .u8 0,.int .i64 wt,.string ⟨#[]⟩,.string ⟨#[]⟩,.string ⟨#[]⟩,.int .i64 0] 40)) 85 #[.slice (some ⟨B,off,none⟩) len len]).alloc _).alloc _).below pE.out (by simp)).alloc (.mapIter (some b) 18 #[] 18)
  have q3:=(((Is.new ((w.alloc (.cells #[.int .u8 0,.int .i64 wt,.string ⟨#[]⟩,.string ⟨#[]⟩,.string ⟨#[]⟩,.int .i64 0] 40)).alloc (.cells #[.slice (some ⟨B,off,none⟩) len len] 85)) 40 #[.int .u8 0,.int .i64 0,.string ⟨#[]⟩,.string ⟨#[]⟩,.string ⟨#[]⟩,.int .i64 0]).alloc _).below pE.out (by simp)).alloc (.mapIter (some b) 18 #[] 18)
  have q4:=((Is.new (((w.alloc (.cells #[.int .u8 0,.int .i64 wt,.string ⟨#[]⟩,.string ⟨#[]⟩,.string ⟨#[]⟩,.int .i64 0] 40)).alloc (.cells #[.slice (some ⟨B,off,none⟩) len len] 85)).alloc (.cells #[.int .u8 0,.int .i64 0,.string ⟨#[]⟩,.string ⟨#[]⟩,.string ⟨#[]⟩,.int .i64 0] 40)) 101
    #[.string ⟨#[]⟩,.int .u8 0,.bool false,.int .u8 0,.bool false,.int .i64 0,.bool false,.nilFunc]).below pE.out (by simp)).alloc (.mapIter (some b) 18 #[] 18)
  rw[World.size_alloc] at q2
  rw[World.size_alloc,World.size_alloc] at q3
  rw[World.size_alloc,World.size_alloc,World.size_alloc] at q4
  have tQ:b<w1.heap.size:=(Array.getElem?_eq_some_iff.1 dD).1
  refine ⟨#[],18,(Go.af.heap_alloc _ _ tQ).trans dD,by show (w1.heap.push _)[w1.heap.size]? =_;simp,Nat.le_refl _,?_,by simp,?_,q2,q3,?_⟩
  . exact ((((((Below.refl _ w).alloc (Nat.le_refl _) _).alloc (by simp) _).alloc (by simp;omega) _).alloc (by simp;omega) _).trans (pE.out.mono (by simp;omega))).alloc (by have:=pE.out.size;simp at this;omega) _
  . exact q1.cast (by rw[af.n9];rfl)
  . exact q4.cast (by rw[af.n9];rfl)
 case round=>
  obtain ⟨seen,c0,m1,m2,m3,m4,m5,i1,i2,i3,i4⟩:=hrel
  have SN:=CR.out
  simp at SN
  have tQ:b<w1.heap.size:=(Array.getElem?_eq_some_iff.1 dD).1
  obtain ⟨a0,a1,a2,a3,a4,a5⟩:=i1.yU
  have a6:=i2.one
  obtain ⟨d0,d1,d2,d3,d4,d5⟩:=i3.yU
  obtain ⟨e0,e1,e2,e3,e4,e5,e6,e7⟩:=i4.eight
  have f1:=i1.frozen
  have f2:=i2.frozen
  have f3:=i3.frozen
  have f4:=i4.frozen
  have M1:=Lib.hid m1
  have M2:=Lib.hid m2
  have M4:=Lib.hid m4
  have I1:=Lib.hid i1
  have I2:=Lib.hid i2
  have I3:=Lib.hid i3
  have I4:=Lib.hid i4
  clear m1 m2 i1 i2 i3 i4 m4
  go_wp2_with (first|(at_next;refine u0 _ rfl _ rfl w1.heap.size b 18 c0 seen b9 18 rfl M2.out M1.out af.Qm m3 af.Ki ?_ ?_))
  . intro  hD
    have hK:=af.Gu hD (kindOf (u 0).data.toList) (oa _)
    rw[hK] at a0 e0 e1 e2 e3 e4 e5 e6 e7
    have HD:=Lib.hid hD;clear hD hK
    have hr: ∀i,i<len->wr.cell? ⟨B,off+i,none⟩=some (.string (u i)):=fun i hi=>(M4.out.cell (p:=⟨B,off+i,none⟩) hB).trans (hc i hi)
    have HR:=Lib.hid hr;clear hr
    have hl:=I4.out.lt
    have NO:w.heap.size<wr.heap.size:=by omega
    have vr:w.heap.size+1<wr.heap.size:=by omega
    have jF:w.heap.size+1+1<wr.heap.size:=by omega
    have Y7:B<wr.heap.size:=by omega
    have HC:=Lib.hid hc;clear hc
    have Y8:=Lib.hid dD;clear dD
    have Ru:=oa (u 0).data.toList
    obtain ⟨K,hK⟩: ∃K,K=kindOf (u 0).data.toList:=⟨_,rfl⟩
    rw[<-hK] at a0 e0 e1 e2 e3 e4 e5 e6 e7 Ru
    have hs:=HS.out
    rw[<-hK] at hs
    obtain ⟨h0,ha,hb,ht,hn⟩:=hs
    have HK:=Lib.hid hK;clear hK
    rw[ha] at e1;rw[hb] at e2;rw[ht] at e3;rw[hn] at e4
    have HA:=Lib.hid ha;have o7:=Lib.hid hb;have HT:=Lib.hid ht;have HN:=Lib.hid hn;clear ha hb ht hn
    have aX: ¬(fe K).toList=[]:=by rw[Lib.toList_data];exact af.Vw K Ru h0
    have eP:(!(fe K).toList.isEmpty)=true:=by simpa using aX
    have Rv:(fe K).toList.isEmpty=false:=by simpa using aX
    have H0:=Lib.hid h0
    clear h0
    by_cases Kj:len=1
    .   subst Kj
        go_wp2
        go_loop [9,46] (fun m i=> ∃j:Nat,j<=4/\i= .int .i64 j/\m= .int .i64 (([true,false,true,false].take j).count true:Nat)) (fun _ i=>4 - (intOf i).toNat)
        case atStart=>exact ⟨0,Nat.zero_le _,rfl,rfl⟩
        case round=>
         obtain ⟨j,hj,rfl,rfl⟩:=hrel
         obtain rfl|rfl|rfl|rfl|rfl:j=0\/j=1\/j=2\/j=3\/j=4:=by omega
         . go_wp2;go_round;(case rel=>exact ⟨1,by omega,rfl,rfl⟩);(case measure=>simp[intOf])
         . go_wp2;go_round;(case rel=>exact ⟨2,by omega,rfl,rfl⟩);(case measure=>simp[intOf])
         . go_wp2;go_round;(case rel=>exact ⟨3,by omega,rfl,rfl⟩);(case measure=>simp[intOf])
         . go_wp2;go_round;(case rel=>exact ⟨4,by omega,rfl,rfl⟩);(case measure=>simp[intOf])
         . go_wp2
           refine bodyPost_ret (v:= .tuple #[.agg #[.int .u8 0,.int .i64 0,.string ⟨#[]⟩,.string ⟨#[]⟩,.string ⟨#[]⟩,.int .i64 0],.int .i64 3]) (by simp[results,Tryz.results223,go_sem, *]) rfl (af.dw HK.out HA.out o7.out HT.out HN.out (by simp[af.gu,af.valOf,af.eM,H0.out]) ?_);(repeat (first|(with_reducible refine Below.setCell ?_ (by first|(simp;done)|(simp;omega)) _)|(with_reducible refine Below.alloc ?_ (by first|(simp;done)|(simp;omega)) _)|(with_reducible refine af.below_drewN ?_ _)|(with_reducible exact M4.out)))
    by_cases hlen:len=3
    .   subst hlen
        have r1:wr.cell? ⟨B,off+1,none⟩=some (.string (u 1)):=HR.out 1 (by omega)
        have g1:=HU.out 1 (by omega)
        have r2:wr.cell? ⟨B,off+1+1,none⟩=some (.string (u 2)):=HR.out 2 (by omega)
        have s2:wr.cell? ⟨B,off+1+1,none⟩=some (.string (u 2)):=(congrArg (fun x=>wr.cell? ⟨B,x,none⟩) (by omega)).trans (HR.out 2 (by omega))
        have g2:=HU.out 2 (by omega)
        go_wp2
        go_loop [9,46] (fun m i=> ∃j:Nat,j<=4/\i= .int .i64 j/\m= .int .i64 (([true,false,true,false].take j).count true:Nat)) (fun _ i=>4 - (intOf i).toNat)
        case atStart=>exact ⟨0,Nat.zero_le _,rfl,rfl⟩
        case round=>
         obtain ⟨j,hj,rfl,rfl⟩:=hrel
         obtain rfl|rfl|rfl|rfl|rfl:j=0\/j=1\/j=2\/j=3\/j=4:=by omega
         . go_wp2;go_round;(case rel=>exact ⟨1,by omega,rfl,rfl⟩);(case measure=>simp[intOf])
         . go_wp2;go_round;(case rel=>exact ⟨2,by omega,rfl,rfl⟩);(case measure=>simp[intOf])
         . go_wp2;go_round;(case rel=>exact ⟨3,by omega,rfl,rfl⟩);(case measure=>simp[intOf])
         . go_wp2;go_round;(case rel=>exact ⟨4,by omega,rfl,rfl⟩);(case measure=>simp[intOf])
         . by_cases hwl:wt<0
           .  go_wp2_with (first|(go_at_call 281;((with_reducible refine (af.cG (u 1) _ _ g1).mono ?_);rintro e w' ⟨rfl,rfl⟩))|(go_at_call 281;((with_reducible refine (af.cG (u 2) _ _ g2).mono ?_);rintro e w' ⟨rfl,rfl⟩))|go_in)
              refine bodyPost_ret (v:= .tuple #[.agg #[.int .u8 0,.int .i64 0,.string ⟨#[]⟩,.string ⟨#[]⟩,.string ⟨#[]⟩,.int .i64 0],.int .i64 41]) (by simp[results,Tryz.results223,go_sem, *]) rfl (af.dw HK.out HA.out o7.out HT.out HN.out (by simp[af.gu,af.valOf,af.eM,H0.out,H0.out,hwl]) ?_);(repeat (first|(with_reducible refine Below.setCell ?_ (by first|(simp;done)|(simp;omega)) _)|(with_reducible refine Below.alloc ?_ (by first|(simp;done)|(simp;omega)) _)|(with_reducible refine af.below_drewN ?_ _)|(with_reducible exact M4.out)))
           by_cases hwh:1000<wt
           .  go_wp2_with (first|(go_at_call 281;((with_reducible refine (af.cG (u 1) _ _ g1).mono ?_);rintro e w' ⟨rfl,rfl⟩))|(go_at_call 281;((with_reducible refine (af.cG (u 2) _ _ g2).mono ?_);rintro e w' ⟨rfl,rfl⟩))|go_in)
              refine bodyPost_ret (v:= .tuple #[.agg #[.int .u8 0,.int .i64 0,.string ⟨#[]⟩,.string ⟨#[]⟩,.string ⟨#[]⟩,.int .i64 0],.int .i64 41]) (by simp[results,Tryz.results223,go_sem, *]) rfl (af.dw HK.out HA.out o7.out HT.out HN.out (by simp[af.gu,af.valOf,af.eM,H0.out,H0.out,hwh]) ?_);(repeat (first|(with_reducible refine Below.setCell ?_ (by first|(simp;done)|(simp;omega)) _)|(with_reducible refine Below.alloc ?_ (by first|(simp;done)|(simp;omega)) _)|(with_reducible refine af.below_drewN ?_ _)|(with_reducible exact M4.out)))
           rcases af.tR (tS (u 1) false) with yV|yV
           .  rcases af.tR (tS (u 2) false) with wm|wm
              . go_wp2_with (first|(go_at_call 281;((with_reducible refine (af.cG (u 1) _ _ g1).mono ?_);rintro e w' ⟨rfl,rfl⟩))|(go_at_call 281;((with_reducible refine (af.cG (u 2) _ _ g2).mono ?_);rintro e w' ⟨rfl,rfl⟩))|go_in)
                refine bodyPost_ret (v:= .tuple #[.agg #[.int .u8 K,.int .i64 wt,.string (Ew (u 1) false),.string (⟨#[]⟩),.string (Ew (u 2) false),.int .i64 (0)],.int .i64 0]) (by simp[results,Tryz.results223,go_sem, *]) rfl (af.dw HK.out HA.out o7.out HT.out HN.out (by have yX:=af.BB (wt:=wt) (by omega) (by omega);simp[af.gu,af.valOf,af.RR.val,H0.out,H0.out,yV,wm,if_neg yX]) ?_);(repeat (first|(with_reducible refine Below.setCell ?_ (by first|(simp;done)|(simp;omega)) _)|(with_reducible refine Below.alloc ?_ (by first|(simp;done)|(simp;omega)) _)|(with_reducible refine af.below_drewN ?_ _)|(with_reducible exact M4.out)))
              . go_wp2_with (first|(go_at_call 281;((with_reducible refine (af.cG (u 1) _ _ g1).mono ?_);rintro e w' ⟨rfl,rfl⟩))|(go_at_call 281;((with_reducible refine (af.cG (u 2) _ _ g2).mono ?_);rintro e w' ⟨rfl,rfl⟩))|go_in)
                refine bodyPost_ret (v:= .tuple #[.agg #[.int .u8 0,.int .i64 0,.string ⟨#[]⟩,.string ⟨#[]⟩,.string ⟨#[]⟩,.int .i64 0],.int .i64 4]) (by simp[results,Tryz.results223,go_sem, *]) rfl (af.dw HK.out HA.out o7.out HT.out HN.out (by have yX:=af.BB (wt:=wt) (by omega) (by omega);simp[af.gu,af.valOf,af.eM,H0.out,H0.out,yV,wm,if_neg yX]) ?_);(repeat (first|(with_reducible refine Below.setCell ?_ (by first|(simp;done)|(simp;omega)) _)|(with_reducible refine Below.alloc ?_ (by first|(simp;done)|(simp;omega)) _)|(with_reducible refine af.below_drewN ?_ _)|(with_reducible exact M4.out)))
           .  rcases af.tR (tS (u 2) false) with wm|wm
              . go_wp2_with (first|(go_at_call 281;((with_reducible refine (af.cG (u 1) _ _ g1).mono ?_);rintro e w' ⟨rfl,rfl⟩))|(go_at_call 281;((with_reducible refine (af.cG (u 2) _ _ g2).mono ?_);rintro e w' ⟨rfl,rfl⟩))|go_in)
                refine bodyPost_ret (v:= .tuple #[.agg #[.int .u8 0,.int .i64 0,.string ⟨#[]⟩,.string ⟨#[]⟩,.string ⟨#[]⟩,.int .i64 0],.int .i64 4]) (by simp[results,Tryz.results223,go_sem, *]) rfl (af.dw HK.out HA.out o7.out HT.out HN.out (by have yX:=af.BB (wt:=wt) (by omega) (by omega);simp[af.gu,af.valOf,af.eM,H0.out,H0.out,yV,wm,if_neg yX]) ?_);(repeat (first|(with_reducible refine Below.setCell ?_ (by first|(simp;done)|(simp;omega)) _)|(with_reducible refine Below.alloc ?_ (by first|(simp;done)|(simp;omega)) _)|(with_reducible refine af.below_drewN ?_ _)|(with_reducible exact M4.out)))
              . go_wp2_with (first|(go_at_call 281;((with_reducible refine (af.cG (u 1) _ _ g1).mono ?_);rintro e w' ⟨rfl,rfl⟩))|(go_at_call 281;((with_reducible refine (af.cG (u 2) _ _ g2).mono ?_);rintro e w' ⟨rfl,rfl⟩))|go_in)
                refine bodyPost_ret (v:= .tuple #[.agg #[.int .u8 0,.int .i64 0,.string ⟨#[]⟩,.string ⟨#[]⟩,.string ⟨#[]⟩,.int .i64 0],.int .i64 4]) (by simp[results,Tryz.results223,go_sem, *]) rfl (af.dw HK.out HA.out o7.out HT.out HN.out (by have yX:=af.BB (wt:=wt) (by omega) (by omega);simp[af.gu,af.valOf,af.eM,H0.out,H0.out,yV,wm,if_neg yX]) ?_);(repeat (first|(with_reducible refine Below.setCell ?_ (by first|(simp;done)|(simp;omega)) _)|(with_reducible refine Below.alloc ?_ (by first|(simp;done)|(simp;omega)) _)|(with_reducible refine af.below_drewN ?_ _)|(with_reducible exact M4.out)))
    .   have hd:(((len - 1:Nat):Int) !=2)=true:=by rw[bne_iff_ne];omega
        have hd2:decide (len - 1=2)=false:=by rw[decide_eq_false_iff_not];omega
        go_wp2
        go_loop [9,46] (fun m i=> ∃j:Nat,j<=4/\i= .int .i64 j/\m= .int .i64 (([true,false,true,false].take j).count true:Nat)) (fun _ i=>4 - (intOf i).toNat)
        case atStart=>exact ⟨0,Nat.zero_le _,rfl,rfl⟩
        case round=>
         obtain ⟨j,hj,rfl,rfl⟩:=hrel
         obtain rfl|rfl|rfl|rfl|rfl:j=0\/j=1\/j=2\/j=3\/j=4:=by omega
         . go_wp2;go_round;(case rel=>exact ⟨1,by omega,rfl,rfl⟩);(case measure=>simp[intOf])
         . go_wp2;go_round;(case rel=>exact ⟨2,by omega,rfl,rfl⟩);(case measure=>simp[intOf])
         . go_wp2;go_round;(case rel=>exact ⟨3,by omega,rfl,rfl⟩);(case measure=>simp[intOf])
         . go_wp2;go_round;(case rel=>exact ⟨4,by omega,rfl,rfl⟩);(case measure=>simp[intOf])
         . go_wp2
           refine bodyPost_ret (v:= .tuple #[.agg #[.int .u8 0,.int .i64 0,.string ⟨#[]⟩,.string ⟨#[]⟩,.string ⟨#[]⟩,.int .i64 0],.int .i64 3]) (by simp[results,Tryz.results223,go_sem, *]) rfl (af.dw HK.out HA.out o7.out HT.out HN.out (by simp[af.gu,af.valOf,af.eM,H0.out,hlen]) ?_);(repeat (first|(with_reducible refine Below.setCell ?_ (by first|(simp;done)|(simp;omega)) _)|(with_reducible refine Below.alloc ?_ (by first|(simp;done)|(simp;omega)) _)|(with_reducible refine af.below_drewN ?_ _)|(with_reducible exact M4.out)))
  . intro  e he w2 q1 q2 q3 q4 q5 q6 q7
    obtain ⟨i,hi,rfl,kJ⟩:=af.Kk he
    dsimp only[th,Kl] at q1 q7 ⊢
    obtain ⟨c,Ex⟩: ∃c,c=i+1:=⟨_,rfl⟩
    rw[<-Ex] at q7 ⊢
    have kY:Rw c= .func (.func (131+c)) #[] #[]:=if_neg (by omega)
    rw[kY] at q7 ⊢
    clear kY
    have pF:=Lib.hid Ex;clear Ex
    have Q1:Hid (w2.heap[w1.heap.size]? =some (.mapIter (some b) 18 (seen.push i) 18)):=Lib.hid q1
    have HI:=Lib.hid kJ
    have HO:Hid (w2.os=wr.os/\w2.tape=wr.tape/\w2.output=wr.output/\w2.heap.size=wr.heap.size):=Lib.hid ⟨q2,q3,q4,q5⟩
    have Q6:=Lib.hid q6
    have WQ:w1.heap.size<w2.heap.size:=by omega
    have j1:=I1.out.of_heap (q6 _ (by omega))
    have j2:=I2.out.of_heap (q6 _ (by omega))
    have j3:=I3.out.of_heap (q6 _ (by omega))
    have j4:=I4.out.of_heap (q6 _ (by omega))
    have Hl:=I4.out.lt
    have hl:w.heap.size+1+1+1<w2.heap.size:=by omega
    clear q1 q2 q3 q4 q5 q6 he kJ a0 a1 a2 a3 a4 a5 a6 e0 e1 e2 e3 e4 e5 e6 e7
    obtain ⟨a0,a1,a2,a3,a4,a5⟩:=j1.yU
    have a6:=j2.one
    obtain ⟨e0,e1,e2,e3,e4,e5,e6,e7⟩:=j4.eight
    have f1:=j1.frozen
    have f4:=j4.frozen
    have J1:=Lib.hid j1
    have J2:=Lib.hid j2
    have J3:=Lib.hid j3
    have J4:=Lib.hid j4
    clear j1 j2 j3 j4
    have NP: ∀i,i<len->w2.cell? ⟨B,off+i,none⟩=some (.string (u i)):=fun i hi=>by
        rw[<-hc i hi, <-M4.out.cell (p:=⟨B,off+i,none⟩) hB]
        exact Gv (Q6.out B (by omega)) _
    have NQ:=NP 0 (by omega)
    rw[Nat.add_zero] at NQ
    clear NP
    have HC:=Lib.hid hc;clear hc
    have Y8:=Lib.hid dD;clear dD
    have NO:w.heap.size<w2.heap.size:=by omega
    have vr:w.heap.size+1<w2.heap.size:=by omega
    have jF:w.heap.size+1+1<w2.heap.size:=by omega
    have Y7:B<w2.heap.size:=by omega
    have yY:Hid (w2.heap[b]? =some (.map b9 18)):=Lib.hid (by rw[Q6.out b (by omega)];exact M1.out)
    have yZ:Hid (Below w.heap.size w w2):=Lib.hid (af.DS M4.out HO.out Q6.out (by omega))
    by_cases heq:((fe c).toList==(u 0).toList)=true
    .   have HQ:Hid (kindOf (u 0).data.toList=c):=Lib.hid (af.Km (by have:=pF.out;omega) (by have:=pF.out;omega) heq)
        go_wp2
        go_quiet (fail)
        go_wp2
        go_region
        all_goals
         go_roundw
         case rel=>
           (repeat apply Exists.intro)
           exact ⟨(af.tT HQ.out pF.out yY.out Q1.out yZ.out (by omega) (by omega) (by omega) J1.out J2.out J3.out J4.out).1,rfl⟩
         case measure=>
           rw[af.ic M1.out M2.out]
           exact Nat.lt_of_le_of_lt (Nat.le_of_eq (af.tT HQ.out pF.out yY.out Q1.out yZ.out (by omega) (by omega) (by omega) J1.out J2.out J3.out J4.out).2) (af.ye hi HI.out)
    .   have SP:((fe c).toList==(u 0).toList)=false:=by simpa using heq
        clear heq
        have HQ:Hid (kindOf (u 0).data.toList≠i+1):=Lib.hid (by rw[<-pF.out];exact af.Gw (by have:=pF.out;omega) SP)
        go_wp2
        go_quiet (fail)
        go_wp2
        go_roundw
        case rel=>
         exact (af.qp HQ.out yY.out Q1.out yZ.out (by omega) (by omega) (by omega) J1.out J2.out J3.out J4.out).1
        case measure=>
         rw[af.ic M1.out M2.out]
         exact Nat.lt_of_le_of_lt (Nat.le_of_eq (af.qp HQ.out yY.out Q1.out yZ.out (by omega) (by omega) (by omega) J1.out J2.out J3.out J4.out).2) (af.ye hi HI.out)
end
section
open Go.RowKit Go.af
set_option maxRecDepth 100000 in
set_option maxHeartbeats 40000000 in
theorem af.ajO (u:Nat->ByteArray) (wt:Int) (B off len:Nat) (w:World) (hB:B<w.heap.size) (hc: ∀i,i<len->w.cell? ⟨B,off+i,none⟩=some (.string (u i))) (h1:1<=len) (h3:len<=maxLen) (hu: ∀i,i<len->(u i).size<=maxLen)
  (WO: -1<=wt/\wt<=999999999) (hs:kindOf (u 0).data.toList≠0/\nY (kindOf (u 0).data.toList)=0/\nZ (kindOf (u 0).data.toList)=false/\n6 (kindOf (u 0).data.toList)=101/\n8 (kindOf (u 0).data.toList)=false):
  Calls Tryz.prog 223 #[.agg #[.int .u8 0,.int .i64 wt,.string ⟨#[]⟩,.string ⟨#[]⟩,.string ⟨#[]⟩,.int .i64 0],.slice (some ⟨B,off,none⟩) len len] w (af.Kh u len wt w):=by
 have HU:=Lib.hid hu;clear hu
 have HS:=Lib.hid hs;clear hs
 unfold maxLen at h3
 go_enter Tryz.func223,Tryz.ntmps223
 go_wp2_with (first|(go_at_call 67;refine (af.kinds _).mono ?_;rintro e w1 ⟨b,rfl,cJ,dD,Ja⟩;have pE:=Lib.hid Ja;have CR:=Lib.hid cJ;clear Ja cJ)|(at_range;refine td _ rfl _ _ rfl 38 101 Tryz.underlying95 b b9 18 rfl dD ?_))
 go_frame
 go_loopw [8] (fun _ wr=>af.Ql w (kindOf (u 0).data.toList) wt (.slice (some ⟨B,off,none⟩) len len) b w1.heap.size wr) (fun _ wr=>wr.rangeLeft b w1.heap.size)
 case atStart=>
  have q1:=(((((Is.new w 40 #[.int .u8 0,.int .i64 wt,.string ⟨#[]⟩,.string ⟨#[]⟩,.string ⟨#[]⟩,.int .i64 0]).alloc _).alloc _).alloc _).below pE.out (by simp;omega)).alloc (.mapIter (some b) 18 #[] 18)
  have q2:=((((Is.new (w.alloc (.cells #[.int .u8 0,.int .i64 wt,.string ⟨#[]⟩,.string ⟨#[]⟩,.string ⟨#[]⟩,.int .i64 0] 40)) 85 #[.slice (some ⟨B,off,none⟩) len len]).alloc _).alloc _).below pE.out (by simp)).alloc (.mapIter (some b) 18 #[] 18)
  have q3:=(((Is.new ((w.alloc (.cells #[.int .u8 0,.int .i64 wt,.string ⟨#[]⟩,.string ⟨#[]⟩,.string ⟨#[]⟩,.int .i64 0] 40)).alloc (.cells #[.slice (some ⟨B,off,none⟩) len len] 85)) 40 #[.int .u8 0,.int .i64 0,.string ⟨#[]⟩,.string ⟨#[]⟩,.string ⟨#[]⟩,.int .i64 0]).alloc _).below pE.out (by simp)).alloc (.mapIter (some b) 18 #[] 18)
  have q4:=((Is.new (((w.alloc (.cells #[.int .u8 0,.int .i64 wt,.string ⟨#[]⟩,.string ⟨#[]⟩,.string ⟨#[]⟩,.int .i64 0] 40)).alloc (.cells #[.slice (some ⟨B,off,none⟩) len len] 85)).alloc (.cells #[.int .u8 0,.int .i64 0,.string ⟨#[]⟩,.string ⟨#[]⟩,.string ⟨#[]⟩,.int .i64 0] 40)) 101
    #[.string ⟨#[]⟩,.int .u8 0,.bool false,.int .u8 0,.bool false,.int .i64 0,.bool false,.nilFunc]).below pE.out (by simp)).alloc (.mapIter (some b) 18 #[] 18)
  rw[World.size_alloc] at q2
  rw[World.size_alloc,World.size_alloc] at q3
  rw[World.size_alloc,World.size_alloc,World.size_alloc] at q4
  have tQ:b<w1.heap.size:=(Array.getElem?_eq_some_iff.1 dD).1
  refine ⟨#[],18,(Go.af.heap_alloc _ _ tQ).trans dD,by show (w1.heap.push _)[w1.heap.size]? =_;simp,Nat.le_refl _,?_,by simp,?_,q2,q3,?_⟩
  . exact ((((((Below.refl _ w).alloc (Nat.le_refl _) _).alloc (by simp) _).alloc (by simp;omega) _).alloc (by simp;omega) _).trans (pE.out.mono (by simp;omega))).alloc (by have:=pE.out.size;simp at this;omega) _
  . exact q1.cast (by rw[af.n9];rfl)
  . exact q4.cast (by rw[af.n9];rfl)
 case round=>
  obtain ⟨seen,c0,m1,m2,m3,m4,m5,i1,i2,i3,i4⟩:=hrel
  have SN:=CR.out
  simp at SN
  have tQ:b<w1.heap.size:=(Array.getElem?_eq_some_iff.1 dD).1
  obtain ⟨a0,a1,a2,a3,a4,a5⟩:=i1.yU
  have a6:=i2.one
  obtain ⟨d0,d1,d2,d3,d4,d5⟩:=i3.yU
  obtain ⟨e0,e1,e2,e3,e4,e5,e6,e7⟩:=i4.eight
  have f1:=i1.frozen
  have f2:=i2.frozen
  have f3:=i3.frozen
  have f4:=i4.frozen
  have M1:=Lib.hid m1
  have M2:=Lib.hid m2
  have M4:=Lib.hid m4
  have I1:=Lib.hid i1
  have I2:=Lib.hid i2
  have I3:=Lib.hid i3
  have I4:=Lib.hid i4
  clear m1 m2 i1 i2 i3 i4 m4
  go_wp2_with (first|(at_next;refine u0 _ rfl _ rfl w1.heap.size b 18 c0 seen b9 18 rfl M2.out M1.out af.Qm m3 af.Ki ?_ ?_))
  . intro  hD
    have hK:=af.Gu hD (kindOf (u 0).data.toList) (oa _)
    rw[hK] at a0 e0 e1 e2 e3 e4 e5 e6 e7
    have HD:=Lib.hid hD;clear hD hK
    have hr: ∀i,i<len->wr.cell? ⟨B,off+i,none⟩=some (.string (u i)):=fun i hi=>(M4.out.cell (p:=⟨B,off+i,none⟩) hB).trans (hc i hi)
    have HR:=Lib.hid hr;clear hr
    have hl:=I4.out.lt
    have NO:w.heap.size<wr.heap.size:=by omega
    have vr:w.heap.size+1<wr.heap.size:=by omega
    have jF:w.heap.size+1+1<wr.heap.size:=by omega
    have Y7:B<wr.heap.size:=by omega
    have HC:=Lib.hid hc;clear hc
    have Y8:=Lib.hid dD;clear dD
    have Ru:=oa (u 0).data.toList
    obtain ⟨K,hK⟩: ∃K,K=kindOf (u 0).data.toList:=⟨_,rfl⟩
    rw[<-hK] at a0 e0 e1 e2 e3 e4 e5 e6 e7 Ru
    have hs:=HS.out
    rw[<-hK] at hs
    obtain ⟨h0,ha,hb,ht,hn⟩:=hs
    have HK:=Lib.hid hK;clear hK
    rw[ha] at e1;rw[hb] at e2;rw[ht] at e3;rw[hn] at e4
    have HA:=Lib.hid ha;have o7:=Lib.hid hb;have HT:=Lib.hid ht;have HN:=Lib.hid hn;clear ha hb ht hn
    have aX: ¬(fe K).toList=[]:=by rw[Lib.toList_data];exact af.Vw K Ru h0
    have eP:(!(fe K).toList.isEmpty)=true:=by simpa using aX
    have Rv:(fe K).toList.isEmpty=false:=by simpa using aX
    have H0:=Lib.hid h0
    clear h0
    by_cases Kj:len=1
    .   subst Kj
        go_wp2
        go_loop [9,46] (fun m i=> ∃j:Nat,j<=4/\i= .int .i64 j/\m= .int .i64 (([false,false,true,false].take j).count true:Nat)) (fun _ i=>4 - (intOf i).toNat)
        case atStart=>exact ⟨0,Nat.zero_le _,rfl,rfl⟩
        case round=>
         obtain ⟨j,hj,rfl,rfl⟩:=hrel
         obtain rfl|rfl|rfl|rfl|rfl:j=0\/j=1\/j=2\/j=3\/j=4:=by omega
         . go_wp2;go_round;(case rel=>exact ⟨1,by omega,rfl,rfl⟩);(case measure=>simp[intOf])
         . go_wp2;go_round;(case rel=>exact ⟨2,by omega,rfl,rfl⟩);(case measure=>simp[intOf])
         . go_wp2;go_round;(case rel=>exact ⟨3,by omega,rfl,rfl⟩);(case measure=>simp[intOf])
         . go_wp2;go_round;(case rel=>exact ⟨4,by omega,rfl,rfl⟩);(case measure=>simp[intOf])
         . go_wp2
           refine bodyPost_ret (v:= .tuple #[.agg #[.int .u8 0,.int .i64 0,.string ⟨#[]⟩,.string ⟨#[]⟩,.string ⟨#[]⟩,.int .i64 0],.int .i64 3]) (by simp[results,Tryz.results223,go_sem, *]) rfl (af.dw HK.out HA.out o7.out HT.out HN.out (by simp[af.gu,af.valOf,af.eM,H0.out]) ?_);(repeat (first|(with_reducible refine Below.setCell ?_ (by first|(simp;done)|(simp;omega)) _)|(with_reducible refine Below.alloc ?_ (by first|(simp;done)|(simp;omega)) _)|(with_reducible refine af.below_drewN ?_ _)|(with_reducible exact M4.out)))
    by_cases hlen:len=2
    .   subst hlen
        have r1:wr.cell? ⟨B,off+1,none⟩=some (.string (u 1)):=HR.out 1 (by omega)
        have g1:=HU.out 1 (by omega)
        go_wp2
        go_loop [9,46] (fun m i=> ∃j:Nat,j<=4/\i= .int .i64 j/\m= .int .i64 (([false,false,true,false].take j).count true:Nat)) (fun _ i=>4 - (intOf i).toNat)
        case atStart=>exact ⟨0,Nat.zero_le _,rfl,rfl⟩
        case round=>
         obtain ⟨j,hj,rfl,rfl⟩:=hrel
         obtain rfl|rfl|rfl|rfl|rfl:j=0\/j=1\/j=2\/j=3\/j=4:=by omega
         . go_wp2;go_round;(case rel=>exact ⟨1,by omega,rfl,rfl⟩);(case measure=>simp[intOf])
         . go_wp2;go_round;(case rel=>exact ⟨2,by omega,rfl,rfl⟩);(case measure=>simp[intOf])
         . go_wp2;go_round;(case rel=>exact ⟨3,by omega,rfl,rfl⟩);(case measure=>simp[intOf])
         . go_wp2;go_round;(case rel=>exact ⟨4,by omega,rfl,rfl⟩);(case measure=>simp[intOf])
         . by_cases hwl:wt<0
           .  go_wp2_with (first|(go_at_call 281;((with_reducible refine (af.cG (u 1) _ _ g1).mono ?_);rintro e w' ⟨rfl,rfl⟩))|go_in)
              refine bodyPost_ret (v:= .tuple #[.agg #[.int .u8 0,.int .i64 0,.string ⟨#[]⟩,.string ⟨#[]⟩,.string ⟨#[]⟩,.int .i64 0],.int .i64 41]) (by simp[results,Tryz.results223,go_sem, *]) rfl (af.dw HK.out HA.out o7.out HT.out HN.out (by simp[af.gu,af.valOf,af.eM,H0.out,H0.out,hwl]) ?_);(repeat (first|(with_reducible refine Below.setCell ?_ (by first|(simp;done)|(simp;omega)) _)|(with_reducible refine Below.alloc ?_ (by first|(simp;done)|(simp;omega)) _)|(with_reducible refine af.below_drewN ?_ _)|(with_reducible exact M4.out)))
           by_cases hwh:1000<wt
           .  go_wp2_with (first|(go_at_call 281;((with_reducible refine (af.cG (u 1) _ _ g1).mono ?_);rintro e w' ⟨rfl,rfl⟩))|go_in)
              refine bodyPost_ret (v:= .tuple #[.agg #[.int .u8 0,.int .i64 0,.string ⟨#[]⟩,.string ⟨#[]⟩,.string ⟨#[]⟩,.int .i64 0],.int .i64 41]) (by simp[results,Tryz.results223,go_sem, *]) rfl (af.dw HK.out HA.out o7.out HT.out HN.out (by simp[af.gu,af.valOf,af.eM,H0.out,H0.out,hwh]) ?_);(repeat (first|(with_reducible refine Below.setCell ?_ (by first|(simp;done)|(simp;omega)) _)|(with_reducible refine Below.alloc ?_ (by first|(simp;done)|(simp;omega)) _)|(with_reducible refine af.below_drewN ?_ _)|(with_reducible exact M4.out)))
           rcases af.tR (tS (u 1) true) with yV|yV
           .  go_wp2_with (first|(go_at_call 281;((with_reducible refine (af.cG (u 1) _ _ g1).mono ?_);rintro e w' ⟨rfl,rfl⟩))|go_in)
              refine bodyPost_ret (v:= .tuple #[.agg #[.int .u8 K,.int .i64 wt,.string (⟨#[]⟩),.string (⟨#[]⟩),.string (Ew (u 1) true),.int .i64 (0)],.int .i64 0]) (by simp[results,Tryz.results223,go_sem, *]) rfl (af.dw HK.out HA.out o7.out HT.out HN.out (by have yX:=af.BB (wt:=wt) (by omega) (by omega);simp[af.gu,af.valOf,af.RR.val,H0.out,H0.out,yV,if_neg yX]) ?_);(repeat (first|(with_reducible refine Below.setCell ?_ (by first|(simp;done)|(simp;omega)) _)|(with_reducible refine Below.alloc ?_ (by first|(simp;done)|(simp;omega)) _)|(with_reducible refine af.below_drewN ?_ _)|(with_reducible exact M4.out)))
           .  go_wp2_with (first|(go_at_call 281;((with_reducible refine (af.cG (u 1) _ _ g1).mono ?_);rintro e w' ⟨rfl,rfl⟩))|go_in)
              refine bodyPost_ret (v:= .tuple #[.agg #[.int .u8 0,.int .i64 0,.string ⟨#[]⟩,.string ⟨#[]⟩,.string ⟨#[]⟩,.int .i64 0],.int .i64 4]) (by simp[results,Tryz.results223,go_sem, *]) rfl (af.dw HK.out HA.out o7.out HT.out HN.out (by have yX:=af.BB (wt:=wt) (by omega) (by omega);simp[af.gu,af.valOf,af.eM,H0.out,H0.out,yV,if_neg yX]) ?_);(repeat (first|(with_reducible refine Below.setCell ?_ (by first|(simp;done)|(simp;omega)) _)|(with_reducible refine Below.alloc ?_ (by first|(simp;done)|(simp;omega)) _)|(with_reducible refine af.below_drewN ?_ _)|(with_reducible exact M4.out)))
    .   have hd:(((len - 1:Nat):Int) !=1)=true:=by rw[bne_iff_ne];omega
        have hd2:decide (len - 1=1)=false:=by rw[decide_eq_false_iff_not];omega
        go_wp2
        go_loop [9,46] (fun m i=> ∃j:Nat,j<=4/\i= .int .i64 j/\m= .int .i64 (([false,false,true,false].take j).count true:Nat)) (fun _ i=>4 - (intOf i).toNat)
        case atStart=>exact ⟨0,Nat.zero_le _,rfl,rfl⟩
        case round=>
         obtain ⟨j,hj,rfl,rfl⟩:=hrel
         obtain rfl|rfl|rfl|rfl|rfl:j=0\/j=1\/j=2\/j=3\/j=4:=by omega
         . go_wp2;go_round;(case rel=>exact ⟨1,by omega,rfl,rfl⟩);(case measure=>simp[intOf])
         . go_wp2;go_round;(case rel=>exact ⟨2,by omega,rfl,rfl⟩);(case measure=>simp[intOf])
         . go_wp2;go_round;(case rel=>exact ⟨3,by omega,rfl,rfl⟩);(case measure=>simp[intOf])
         . go_wp2;go_round;(case rel=>exact ⟨4,by omega,rfl,rfl⟩);(case measure=>simp[intOf])
         . go_wp2
           refine bodyPost_ret (v:= .tuple #[.agg #[.int .u8 0,.int .i64 0,.string ⟨#[]⟩,.string ⟨#[]⟩,.string ⟨#[]⟩,.int .i64 0],.int .i64 3]) (by simp[results,Tryz.results223,go_sem, *]) rfl (af.dw HK.out HA.out o7.out HT.out HN.out (by simp[af.gu,af.valOf,af.eM,H0.out,hlen]) ?_);(repeat (first|(with_reducible refine Below.setCell ?_ (by first|(simp;done)|(simp;omega)) _)|(with_reducible refine Below.alloc ?_ (by first|(simp;done)|(simp;omega)) _)|(with_reducible refine af.below_drewN ?_ _)|(with_reducible exact M4.out)))
  . intro  e he w2 q1 q2 q3 q4 q5 q6 q7
    obtain ⟨i,hi,rfl,kJ⟩:=af.Kk he
    dsimp only[th,Kl] at q1 q7 ⊢
    obtain ⟨c,Ex⟩: ∃c,c=i+1:=⟨_,rfl⟩
    rw[<-Ex] at q7 ⊢
    have kY:Rw c= .func (.func (131+c)) #[] #[]:=if_neg (by omega)
    rw[kY] at q7 ⊢
    clear kY
    have pF:=Lib.hid Ex;clear Ex
    have Q1:Hid (w2.heap[w1.heap.size]? =some (.mapIter (some b) 18 (seen.push i) 18)):=Lib.hid q1
    have HI:=Lib.hid kJ
    have HO:Hid (w2.os=wr.os/\w2.tape=wr.tape/\w2.output=wr.output/\w2.heap.size=wr.heap.size):=Lib.hid ⟨q2,q3,q4,q5⟩
    have Q6:=Lib.hid q6
    have WQ:w1.heap.size<w2.heap.size:=by omega
    have j1:=I1.out.of_heap (q6 _ (by omega))
    have j2:=I2.out.of_heap (q6 _ (by omega))
    have j3:=I3.out.of_heap (q6 _ (by omega))
    have j4:=I4.out.of_heap (q6 _ (by omega))
    have Hl:=I4.out.lt
    have hl:w.heap.size+1+1+1<w2.heap.size:=by omega
    clear q1 q2 q3 q4 q5 q6 he kJ a0 a1 a2 a3 a4 a5 a6 e0 e1 e2 e3 e4 e5 e6 e7
    obtain ⟨a0,a1,a2,a3,a4,a5⟩:=j1.yU
    have a6:=j2.one
    obtain ⟨e0,e1,e2,e3,e4,e5,e6,e7⟩:=j4.eight
    have f1:=j1.frozen
    have f4:=j4.frozen
    have J1:=Lib.hid j1
    have J2:=Lib.hid j2
    have J3:=Lib.hid j3
    have J4:=Lib.hid j4
    clear j1 j2 j3 j4
    have NP: ∀i,i<len->w2.cell? ⟨B,off+i,none⟩=some (.string (u i)):=fun i hi=>by
        rw[<-hc i hi, <-M4.out.cell (p:=⟨B,off+i,none⟩) hB]
        exact Gv (Q6.out B (by omega)) _
    have NQ:=NP 0 (by omega)
    rw[Nat.add_zero] at NQ
    clear NP
    have HC:=Lib.hid hc;clear hc
    have Y8:=Lib.hid dD;clear dD
    have NO:w.heap.size<w2.heap.size:=by omega
    have vr:w.heap.size+1<w2.heap.size:=by omega
    have jF:w.heap.size+1+1<w2.heap.size:=by omega
    have Y7:B<w2.heap.size:=by omega
    have yY:Hid (w2.heap[b]? =some (.map b9 18)):=Lib.hid (by rw[Q6.out b (by omega)];exact M1.out)
    have yZ:Hid (Below w.heap.size w w2):=Lib.hid (af.DS M4.out HO.out Q6.out (by omega))
    by_cases heq:((fe c).toList==(u 0).toList)=true
    .   have HQ:Hid (kindOf (u 0).data.toList=c):=Lib.hid (af.Km (by have:=pF.out;omega) (by have:=pF.out;omega) heq)
        go_wp2
        go_quiet (fail)
        go_wp2
        go_region
        all_goals
         go_roundw
         case rel=>
           (repeat apply Exists.intro)
           exact ⟨(af.tT HQ.out pF.out yY.out Q1.out yZ.out (by omega) (by omega) (by omega) J1.out J2.out J3.out J4.out).1,rfl⟩
         case measure=>
           rw[af.ic M1.out M2.out]
           exact Nat.lt_of_le_of_lt (Nat.le_of_eq (af.tT HQ.out pF.out yY.out Q1.out yZ.out (by omega) (by omega) (by omega) J1.out J2.out J3.out J4.out).2) (af.ye hi HI.out)
    .   have SP:((fe c).toList==(u 0).toList)=false:=by simpa using heq
        clear heq
        have HQ:Hid (kindOf (u 0).data.toList≠i+1):=Lib.hid (by rw[<-pF.out];exact af.Gw (by have:=pF.out;omega) SP)
        go_wp2
        go_quiet (fail)
        go_wp2
        go_roundw
        case rel=>
         exact (af.qp HQ.out yY.out Q1.out yZ.out (by omega) (by omega) (by omega) J1.out J2.out J3.out J4.out).1
        case measure=>
         rw[af.ic M1.out M2.out]
         exact Nat.lt_of_le_of_lt (Nat.le_of_eq (af.qp HQ.out yY.out Q1.out yZ.out (by omega) (by omega) (by omega) J1.out J2.out J3.out J4.out).2) (af.ye hi HI.out)
end
end Go.Proofs
