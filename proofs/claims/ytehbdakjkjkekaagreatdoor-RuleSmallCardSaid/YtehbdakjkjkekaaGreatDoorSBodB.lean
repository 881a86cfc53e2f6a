/- rule.body at its last four shapes. -/
import Derived.Test.YtehbdakjkjkekaaGreatDoorSWalkB
set_option linter.all false
set_option linter.unusedSectionVars false
set_option linter.deprecated false
section
namespace Go.Proofs
open Go.RowKit Go.ag
set_option maxRecDepth 100000 in
set_option maxHeartbeats 40000000 in
theorem ag.afG (u:Nat->ByteArray) (wt:Int) (B off len:Nat) (w:World) (hB:B<w.heap.size) (hc: ∀i,i<len->w.cell? ⟨B,off+i,none⟩=some (.string (u i))) (h1:1<=len) (h3:len<=maxLen) (hu: ∀i,i<len->(u i).size<=maxLen)
  (td: -1<=wt/\wt<=999999999) (hs:kindOf (u 0).data.toList≠0/\mZ (kindOf (u 0).data.toList)=0/\nc (kindOf (u 0).data.toList)=false/\ng (kindOf (u 0).data.toList)=101/\nh (kindOf (u 0).data.toList)=false):
  Calls Tryz.prog 104 #[.agg #[.int .u8 0,.int .i64 wt,.string ⟨#[]⟩,.string ⟨#[]⟩,.string ⟨#[]⟩,.int .i64 0],.slice (some ⟨B,off,none⟩) len len] w (ag.vp u len wt w):=by
 have HU:=Lib.hid hu;clear hu
 have HS:=Lib.hid hs;clear hs
 unfold maxLen at h3
 go_enter Tryz.func104,Tryz.ntmps104
 go_wp2_with (first|(go_at_call 32;refine (ag.kinds _).mono ?_;rintro e w1 ⟨b,rfl,cW,cE,n6⟩;have eR:=Lib.hid n6;have qD:=Lib.hid cW;clear n6 cW)|(at_range;refine ig _ rfl _ _ rfl 44 85 Tryz.underlying58 b bD 18 rfl cE ?_))
 go_frame
 go_loopw [8] (fun _ wr=>ag.wG w (kindOf (u 0).data.toList) wt (.slice (some ⟨B,off,none⟩) len len) b w1.heap.size wr) (fun _ wr=>wr.rangeLeft b w1.heap.size)
 case atStart=>
  have q1:=(((((Is.new w 46 #[.int .u8 0,.int .i64 wt,.string ⟨#[]⟩,.string ⟨#[]⟩,.string ⟨#[]⟩,.int .i64 0]).alloc _).alloc _).alloc _).below eR.out (by simp;omega)).alloc (.mapIter (some b) 18 #[] 18)
  have q2:=((((Is.new (w.alloc (.cells #[.int .u8 0,.int .i64 wt,.string ⟨#[]⟩,.string ⟨#[]⟩,.string ⟨#[]⟩,.int .i64 0] 46)) 48 #[.slice (some ⟨B,off,none⟩) len len]).alloc _).alloc _).below eR.out (by simp)).alloc (.mapIter (some b) 18 #[] 18)
  have q3:=(((Is.new ((w.alloc (.cells #[.int .u8 0,.int .i64 wt,.string ⟨#[]⟩,.string ⟨#[]⟩,.string ⟨#[]⟩,.int .i64 0] 46)).alloc (.cells #[.slice (some ⟨B,off,none⟩) len len] 48)) 46 #[.int .u8 0,.int .i64 0,.string ⟨#[]⟩,.string ⟨#[]⟩,.string ⟨#[]⟩,.int .i64 0]).alloc _).below eR.out (by simp)).alloc (.mapIter (some b) 18 #[] 18)
  have q4:=((Is.new (((w.alloc (.cells #[.int .u8 0,.int .i64 wt,.string ⟨#[]⟩,.string ⟨#[]⟩,.string ⟨#[]⟩,.int .i64 0] 46)).alloc (.cells #[.slice (some ⟨B,off,none⟩) len len] 48)).alloc (.cells #[.int .u8 0,.int .i64 0,.string ⟨#[]⟩,.string ⟨#[]⟩,.string ⟨#[]⟩,.int .i64 0] 46)) 85
    #[.string ⟨#[]⟩,.int .u8 0,.bool false,.int .u8 0,.bool false,.int .i64 0,.bool false,.nilFunc]).below eR.out (by simp)).alloc (.mapIter (some b) 18 #[] 18)
  rw[World.size_alloc] at q2
  rw[World.size_alloc,World.size_alloc] at q3
  rw[World.size_alloc,World.size_alloc,World.size_alloc] at q4
  have kS:b<w1.heap.size:=(Array.getElem?_eq_some_iff.1 cE).1
  refine ⟨#[],18,(Go.ag.heap_alloc _ _ kS).trans cE,by show (w1.heap.push _)[w1.heap.size]? =_;simp,Nat.le_refl _,?_,by simp,?_,q2,q3,?_⟩
  . exact ((((((Below.refl _ w).alloc (Nat.le_refl _) _).alloc (by simp) _).alloc (by simp;omega) _).alloc (by simp;omega) _).trans (eR.out.mono (by simp;omega))).alloc (by have:=eR.out.size;simp at this;omega) _
  . exact q1.cast (by rw[ag.eL];rfl)
  . exact q4.cast (by rw[ag.eL];rfl)
 case round=>
  obtain ⟨seen,c0,m1,m2,m3,m4,m5,i1,i2,i3,i4⟩:=hrel
  have th:=qD.out
  simp at th
  have kS:b<w1.heap.size:=(Array.getElem?_eq_some_iff.1 cE).1
  obtain ⟨a0,a1,a2,a3,a4,a5⟩:=i1.mF
  have a6:=i2.one
  obtain ⟨d0,d1,d2,d3,d4,d5⟩:=i3.mF
  obtain ⟨e0,e1,e2,e3,e4,e5,e6,e7⟩:=i4.eight
  have f1:=i1.frozen
  have f2:=i2.frozen
  have f3:=i3.frozen
  have f4:=i4.frozen
  have M1:=Lib.hid m1
  have M2:=Lib.hid m2
  have M4:=Lib.hid m4
  have I1:=Lib.hid i1
  have I2:=Lib.hid i2
  have I3:=Lib.hid i3
  have I4:=Lib.hid i4
  clear m1 m2 i1 i2 i3 i4 m4
  go_wp2_with (first|(at_next;refine iW _ rfl _ rfl w1.heap.size b 18 c0 seen bD 18 rfl M2.out M1.out ag.ur m3 ag.qT ?_ ?_))
  . intro  hD
    have hK:=ag.oY hD (kindOf (u 0).data.toList) (eS _)
    rw[hK] at a0 e0 e1 e2 e3 e4 e5 e6 e7
    have HD:=Lib.hid hD;clear hD hK
    have hr: ∀i,i<len->wr.cell? ⟨B,off+i,none⟩=some (.string (u i)):=fun i hi=>(M4.out.cell (p:=⟨B,off+i,none⟩) hB).trans (hc i hi)
    have HR:=Lib.hid hr;clear hr
    have hl:=I4.out.lt
    have rH:w.heap.size<wr.heap.size:=by omega
    have oH:w.heap.size+1<wr.heap.size:=by omega
    have mb:w.heap.size+1+1<wr.heap.size:=by omega
    have zc:B<wr.heap.size:=by omega
    have HC:=Lib.hid hc;clear hc
    have ze:=Lib.hid cE;clear cE
    have rI:=eS (u 0).data.toList
    obtain ⟨K,hK⟩: ∃K,K=kindOf (u 0).data.toList:=⟨_,rfl⟩
    rw[<-hK] at a0 e0 e1 e2 e3 e4 e5 e6 e7 rI
    have hs:=HS.out
    rw[<-hK] at hs
    obtain ⟨h0,ha,hb,ht,hn⟩:=hs
    have HK:=Lib.hid hK;clear hK
    rw[ha] at e1;rw[hb] at e2;rw[ht] at e3;rw[hn] at e4
    have HA:=Lib.hid ha;have dQ:=Lib.hid hb;have HT:=Lib.hid ht;have HN:=Lib.hid hn;clear ha hb ht hn
    have cH: ¬(cF K).toList=[]:=by rw[Lib.toList_data];exact ag.vY K rI h0
    have gm:(!(cF K).toList.isEmpty)=true:=by simpa using cH
    have zf:(cF K).toList.isEmpty=false:=by simpa using cH
    have H0:=Lib.hid h0
    clear h0
    by_cases oZ:len=1
    .   subst oZ
        go_wp2
        go_loop [9,46] (fun m i=> ∃j:Nat,j<=4/\i= .int .i64 j/\m= .int .i64 (([false,false,true,false].take j).count true:Nat)) (fun _ i=>4 - (intOf i).toNat)
        case atStart=>exact ⟨0,Nat.zero_le _,rfl,rfl⟩
        case round=>
         obtain ⟨j,hj,rfl,rfl⟩:=hrel
         obtain rfl|rfl|rfl|rfl|rfl:j=0\/j=1\/j=2\/j=3\/j=4:=by omega
         . go_wp2;go_round;(case rel=>exact ⟨1,by omega,rfl,rfl⟩);(case measure=>simp[intOf])
         . go_wp2;go_round;(case rel=>exact ⟨2,by omega,rfl,rfl⟩);(case measure=>simp[intOf])
         . go_wp2;go_round;(case rel=>exact ⟨3,by omega,rfl,rfl⟩);(case measure=>simp[intOf])
         . go_wp2;go_round;(case rel=>exact ⟨4,by omega,rfl,rfl⟩);(case measure=>simp[intOf])
         . go_wp2
           refine bodyPost_ret (v:= .tuple #[.agg #[.int .u8 0,.int .i64 0,.string ⟨#[]⟩,.string ⟨#[]⟩,.string ⟨#[]⟩,.int .i64 0],.int .i64 3]) (by simp[results,Tryz.results104,go_sem, *]) rfl (ag.aK HK.out HA.out dQ.out HT.out HN.out (by simp[ag.bB,ag.valOf,ag.bE,H0.out]) ?_);(repeat (first|(with_reducible refine Below.setCell ?_ (by first|(simp;done)|(simp;omega)) _)|(with_reducible refine Below.alloc ?_ (by first|(simp;done)|(simp;omega)) _)|(with_reducible refine ag.below_drewN ?_ _)|(with_reducible exact M4.out)))
    by_cases hlen:len=2
    .   subst hlen
        have r1:wr.cell? ⟨B,off+1,none⟩=some (.string (u 1)):=HR.out 1 (by omega)
        have g1:=HU.out 1 (by omega)
        go_wp2
        go_loop [9,46] (fun m i=> ∃j:Nat,j<=4/\i= .int .i64 j/\m= .int .i64 (([false,false,true,false].take j).count true:Nat)) (fun _ i=>4 - (intOf i).toNat)
        case atStart=>exact ⟨0,Nat.zero_le _,rfl,rfl⟩
        case round=>
         obtain ⟨j,hj,rfl,rfl⟩:=hrel
         obtain rfl|rfl|rfl|rfl|rfl:j=0\/j=1\/j=2\/j=3\/j=4:=by omega
         . go_wp2;go_round;(case rel=>exact ⟨1,by omega,rfl,rfl⟩);(case measure=>simp[intOf])
         . go_wp2;go_round;(case rel=>exact ⟨2,by omega,rfl,rfl⟩);(case measure=>simp[intOf])
         . go_wp2;go_round;(case rel=>exact ⟨3,by omega,rfl,rfl⟩);(case measure=>simp[intOf])
         . go_wp2;go_round;(case rel=>exact ⟨4,by omega,rfl,rfl⟩);(case measure=>simp[intOf])
         . by_cases zg:wt<0
           .  go_wp2_with (first|(go_at_call 174;((with_reducible refine (ag.aH (u 1) _ _ g1).mono ?_);rintro e w' ⟨rfl,rfl⟩))|go_in)
              refine bodyPost_ret (v:= .tuple #[.agg #[.int .u8 0,.int .i64 0,.string ⟨#[]⟩,.string ⟨#[]⟩,.string ⟨#[]⟩,.int .i64 0],.int .i64 41]) (by simp[results,Tryz.results104,go_sem, *]) rfl (ag.aK HK.out HA.out dQ.out HT.out HN.out (by simp[ag.bB,ag.valOf,ag.bE,H0.out,H0.out,zg]) ?_);(repeat (first|(with_reducible refine Below.setCell ?_ (by first|(simp;done)|(simp;omega)) _)|(with_reducible refine Below.alloc ?_ (by first|(simp;done)|(simp;omega)) _)|(with_reducible refine ag.below_drewN ?_ _)|(with_reducible exact M4.out)))
           by_cases Bb:1000<wt
           .  go_wp2_with (first|(go_at_call 174;((with_reducible refine (ag.aH (u 1) _ _ g1).mono ?_);rintro e w' ⟨rfl,rfl⟩))|go_in)
              refine bodyPost_ret (v:= .tuple #[.agg #[.int .u8 0,.int .i64 0,.string ⟨#[]⟩,.string ⟨#[]⟩,.string ⟨#[]⟩,.int .i64 0],.int .i64 41]) (by simp[results,Tryz.results104,go_sem, *]) rfl (ag.aK HK.out HA.out dQ.out HT.out HN.out (by simp[ag.bB,ag.valOf,ag.bE,H0.out,H0.out,Bb]) ?_);(repeat (first|(with_reducible refine Below.setCell ?_ (by first|(simp;done)|(simp;omega)) _)|(with_reducible refine Below.alloc ?_ (by first|(simp;done)|(simp;omega)) _)|(with_reducible refine ag.below_drewN ?_ _)|(with_reducible exact M4.out)))
           rcases ag.ij (iG (u 1) true) with jV|jV
           .  go_wp2_with (first|(go_at_call 174;((with_reducible refine (ag.aH (u 1) _ _ g1).mono ?_);rintro e w' ⟨rfl,rfl⟩))|go_in)
              refine bodyPost_ret (v:= .tuple #[.agg #[.int .u8 K,.int .i64 wt,.string (⟨#[]⟩),.string (⟨#[]⟩),.string (oI (u 1) true),.int .i64 (0)],.int .i64 0]) (by simp[results,Tryz.results104,go_sem, *]) rfl (ag.aK HK.out HA.out dQ.out HT.out HN.out (by have gI:=ag.ju (wt:=wt) (by omega) (by omega);simp[ag.bB,ag.valOf,ag.RR.val,H0.out,H0.out,jV,if_neg gI]) ?_);(repeat (first|(with_reducible refine Below.setCell ?_ (by first|(simp;done)|(simp;omega)) _)|(with_reducible refine Below.alloc ?_ (by first|(simp;done)|(simp;omega)) _)|(with_reducible refine ag.below_drewN ?_ _)|(with_reducible exact M4.out)))
           .  go_wp2_with (first|(go_at_call 174;((with_reducible refine (ag.aH (u 1) _ _ g1).mono ?_);rintro e w' ⟨rfl,rfl⟩))|go_in)
              refine bodyPost_ret (v:= .tuple #[.agg #[.int .u8 0,.int .i64 0,.string ⟨#[]⟩,.string ⟨#[]⟩,.string ⟨#[]⟩,.int .i64 0],.int .i64 4]) (by simp[results,Tryz.results104,go_sem, *]) rfl (ag.aK HK.out HA.out dQ.out HT.out HN.out (by have gI:=ag.ju (wt:=wt) (by omega) (by omega);simp[ag.bB,ag.valOf,ag.bE,H0.out,H0.out,jV,if_neg gI]) ?_);(repeat (first|(with_reducible refine Below.setCell ?_ (by first|(simp;done)|(simp;omega)) _)|(with_reducible refine Below.alloc ?_ (by first|(simp;done)|(simp;omega)) _)|(with_reducible refine ag.below_drewN ?_ _)|(with_reducible exact M4.out)))
    .   have hd:(((len - 1:Nat):Int) !=1)=true:=by rw[bne_iff_ne];omega
        have Lw:decide (len - 1=1)=false:=by rw[decide_eq_false_iff_not];omega
        go_wp2
        go_loop [9,46] (fun m i=> ∃j:Nat,j<=4/\i= .int .i64 j/\m= .int .i64 (([false,false,true,false].take j).count true:Nat)) (fun _ i=>4 - (intOf i).toNat)
        case atStart=>exact ⟨0,Nat.zero_le _,rfl,rfl⟩
        case round=>
         obtain ⟨j,hj,rfl,rfl⟩:=hrel
         obtain rfl|rfl|rfl|rfl|rfl:j=0\/j=1\/j=2\/j=3\/j=4:=by omega
         . go_wp2;go_round;(case rel=>exact ⟨1,by omega,rfl,rfl⟩);(case measure=>simp[intOf])
         . go_wp2;go_round;(case rel=>exact ⟨2,by omega,rfl,rfl⟩);(case measure=>simp[intOf])
         . go_wp2;go_round;(case rel=>exact ⟨3,by omega,rfl,rfl⟩);(case measure=>simp[intOf])
         . go_wp2;go_round;(case rel=>exact ⟨4,by omega,rfl,rfl⟩);(case measure=>simp[intOf])
         . go_wp2
           refine bodyPost_ret (v:= .tuple #[.agg #[.int .u8 0,.int .i64 0,.string ⟨#[]⟩,.string ⟨#[]⟩,.string ⟨#[]⟩,.int .i64 0],.int .i64 3]) (by simp[results,Tryz.results104,go_sem, *]) rfl (ag.aK HK.out HA.out dQ.out HT.out HN.out (by simp[ag.bB,ag.valOf,ag.bE,H0.out,hlen]) ?_);(repeat (first|(with_reducible refine Below.setCell ?_ (by first|(simp;done)|(simp;omega)) _)|(with_reducible refine Below.alloc ?_ (by first|(simp;done)|(simp;omega)) _)|(with_reducible refine ag.below_drewN ?_ _)|(with_reducible exact M4.out)))
  . intro  e he w2 q1 q2 q3 q4 q5 q6 q7
    obtain ⟨i,hi,rfl,qh⟩:=ag.qU he
    dsimp only[nD,vq] at q1 q7 ⊢
    obtain ⟨c,mg⟩: ∃c,c=i+1:=⟨_,rfl⟩
    rw[<-mg] at q7 ⊢
    have jM:Bc c= .func (.func (80+c)) #[] #[]:=if_neg (by omega)
    rw[jM] at q7 ⊢
    clear jM
    have eT:=Lib.hid mg;clear mg
    have Q1:Hid (w2.heap[w1.heap.size]? =some (.mapIter (some b) 18 (seen.push i) 18)):=Lib.hid q1
    have HI:=Lib.hid qh
    have HO:Hid (w2.os=wr.os/\w2.tape=wr.tape/\w2.output=wr.output/\w2.heap.size=wr.heap.size):=Lib.hid ⟨q2,q3,q4,q5⟩
    have Q6:=Lib.hid q6
    have D8:w1.heap.size<w2.heap.size:=by omega
    have j1:=I1.out.of_heap (q6 _ (by omega))
    have j2:=I2.out.of_heap (q6 _ (by omega))
    have j3:=I3.out.of_heap (q6 _ (by omega))
    have j4:=I4.out.of_heap (q6 _ (by omega))
    have Hl:=I4.out.lt
    have hl:w.heap.size+1+1+1<w2.heap.size:=by omega
    clear q1 q2 q3 q4 q5 q6 he qh a0 a1 a2 a3 a4 a5 a6 e0 e1 e2 e3 e4 e5 e6 e7
    obtain ⟨a0,a1,a2,a3,a4,a5⟩:=j1.mF
    have a6:=j2.one
    obtain ⟨e0,e1,e2,e3,e4,e5,e6,e7⟩:=j4.eight
    have f1:=j1.frozen
    have f4:=j4.frozen
    have J1:=Lib.hid j1
    have J2:=Lib.hid j2
    have J3:=Lib.hid j3
    have J4:=Lib.hid j4
    clear j1 j2 j3 j4
    have qE: ∀i,i<len->w2.cell? ⟨B,off+i,none⟩=some (.string (u i)):=fun i hi=>by
        rw[<-hc i hi, <-M4.out.cell (p:=⟨B,off+i,none⟩) hB]
        exact o3 (Q6.out B (by omega)) _
    have sL:=qE 0 (by omega)
    rw[Nat.add_zero] at sL
    clear qE
    have HC:=Lib.hid hc;clear hc
    have ze:=Lib.hid cE;clear cE
    have rH:w.heap.size<w2.heap.size:=by omega
    have oH:w.heap.size+1<w2.heap.size:=by omega
    have mb:w.heap.size+1+1<w2.heap.size:=by omega
    have zc:B<w2.heap.size:=by omega
    have jv:Hid (w2.heap[b]? =some (.map bD 18)):=Lib.hid (by rw[Q6.out b (by omega)];exact M1.out)
    have jw:Hid (Below w.heap.size w w2):=Lib.hid (ag.nE M4.out HO.out Q6.out (by omega))
    by_cases heq:((cF c).toList==(u 0).toList)=true
    .   have HQ:Hid (kindOf (u 0).data.toList=c):=Lib.hid (ag.qV (by have:=eT.out;omega) (by have:=eT.out;omega) heq)
        go_wp2
        go_quiet (fail)
        go_wp2
        go_region
        all_goals
         go_roundw
         case rel=>
           (repeat apply Exists.intro)
           exact ⟨(ag.gZ HQ.out eT.out jv.out Q1.out jw.out (by omega) (by omega) (by omega) J1.out J2.out J3.out J4.out).1,rfl⟩
         case measure=>
           rw[ag.cZ M1.out M2.out]
           exact Nat.lt_of_le_of_lt (Nat.le_of_eq (ag.gZ HQ.out eT.out jv.out Q1.out jw.out (by omega) (by omega) (by omega) J1.out J2.out J3.out J4.out).2) (ag.jA hi HI.out)
    .   have tj:((cF c).toList==(u 0).toList)=false:=by simpa using heq
        clear heq
        have HQ:Hid (kindOf (u 0).data.toList≠i+1):=Lib.hid (by rw[<-eT.out];exact ag.o4 (by have:=eT.out;omega) tj)
        go_wp2
        go_quiet (fail)
        go_wp2
        go_roundw
        case rel=>
         exact (ag.fI HQ.out jv.out Q1.out jw.out (by omega) (by omega) (by omega) J1.out J2.out J3.out J4.out).1
        case measure=>
         rw[ag.cZ M1.out M2.out]
         exact Nat.lt_of_le_of_lt (Nat.le_of_eq (ag.fI HQ.out jv.out Q1.out jw.out (by omega) (by omega) (by omega) J1.out J2.out J3.out J4.out).2) (ag.jA hi HI.out)
end Go.Proofs
end
section
namespace Go.Proofs
open Go.RowKit Go.ag
set_option maxRecDepth 100000 in
set_option maxHeartbeats 40000000 in
theorem ag.afH (u:Nat->ByteArray) (wt:Int) (B off len:Nat) (w:World) (hB:B<w.heap.size) (hc: ∀i,i<len->w.cell? ⟨B,off+i,none⟩=some (.string (u i))) (h1:1<=len) (h3:len<=maxLen) (hu: ∀i,i<len->(u i).size<=maxLen)
  (td: -1<=wt/\wt<=999999999) (hs:kindOf (u 0).data.toList≠0/\mZ (kindOf (u 0).data.toList)=101/\nc (kindOf (u 0).data.toList)=false/\ng (kindOf (u 0).data.toList)=0/\nh (kindOf (u 0).data.toList)=false):
  Calls Tryz.prog 104 #[.agg #[.int .u8 0,.int .i64 wt,.string ⟨#[]⟩,.string ⟨#[]⟩,.string ⟨#[]⟩,.int .i64 0],.slice (some ⟨B,off,none⟩) len len] w (ag.vp u len wt w):=by
 have HU:=Lib.hid hu;clear hu
 have HS:=Lib.hid hs;clear hs
 unfold maxLen at h3
 go_enter Tryz.func104,Tryz.ntmps104
 go_wp2_with (first|(go_at_call 32;refine (ag.kinds _).mono ?_;rintro e w1 ⟨b,rfl,cW,cE,n6⟩;have eR:=Lib.hid n6;have qD:=Lib.hid cW;clear n6 cW)|(at_range;refine ig _ rfl _ _ rfl 44 85 Tryz.underlying58 b bD 18 rfl cE ?_))
 go_frame
 go_loopw [8] (fun _ wr=>ag.wG w (kindOf (u 0).data.toList) wt (.slice (some ⟨B,off,none⟩) len len) b w1.heap.size wr) (fun _ wr=>wr.rangeLeft b w1.heap.size)
 case atStart=>
  have q1:=(((((Is.new w 46 #[.int .u8 0,.int .i64 wt,.string ⟨#[]⟩,.string ⟨#[]⟩,.string ⟨#[]⟩,.int .i64 0]).alloc _).alloc _).alloc _).below eR.out (by simp;omega)).alloc (.mapIter (some b) 18 #[] 18)
  have q2:=((((Is.new (w.alloc (.cells #[.int .u8 0,.int .i64 wt,.string ⟨#[]⟩,.string ⟨#[]⟩,.string ⟨#[]⟩,.int .i64 0] 46)) 48 #[.slice (some ⟨B,off,none⟩) len len]).alloc _).alloc _).below eR.out (by simp)).alloc (.mapIter (some b) 18 #[] 18)
  have q3:=(((Is.new ((w.alloc (.cells #[.int .u8 0,.int .i64 wt,.string ⟨#[]⟩,.string ⟨#[]⟩,.string ⟨#[]⟩,.int .i64 0] 46)).alloc (.cells #[.slice (some ⟨B,off,none⟩) len len] 48)) 46 #[.int .u8 0,.int .i64 0,.string ⟨#[]⟩,.string ⟨#[]⟩,.string ⟨#[]⟩,.int .i64 0]).alloc _).below eR.out (by simp)).alloc (.mapIter (some b) 18 #[] 18)
  have q4:=((Is.new (((w.alloc (.cells #[.int .u8 0,.int .i64 wt,.string ⟨#[]⟩,.string ⟨#[]⟩,.string ⟨#[]⟩,.int .i64 0] 46)).alloc (.cells #[.slice (some ⟨B,off,none⟩) len len] 48)).alloc (.cells #[.int .u8 0,.int .i64 0,.string ⟨#[]⟩,.string ⟨#[]⟩,.string ⟨#[]⟩,.int .i64 0] 46)) 85
    #[.string ⟨#[]⟩,.int .u8 0,.bool false,.int .u8 0,.bool false,.int .i64 0,.bool false,.nilFunc]).below eR.out (by simp)).alloc (.mapIter (some b) 18 #[] 18)
  rw[World.size_alloc] at q2
  rw[World.size_alloc,World.size_alloc] at q3
  rw[World.size_alloc,World.size_alloc,World.size_alloc] at q4
  have kS:b<w1.heap.size:=(Array.getElem?_eq_some_iff.1 cE).1
  refine ⟨#[],18,(Go.ag.heap_alloc _ _ kS).trans cE,by show (w1.heap.push _)[w1.heap.size]? =_;simp,Nat.le_refl _,?_,by simp,?_,q2,q3,?_⟩
  . exact ((((((Below.refl _ w).alloc (Nat.le_refl _) _).alloc (by simp) _).alloc (by simp;omega) _).alloc (by simp;omega) _).trans (eR.out.mono (by simp;omega))).alloc (by have:=eR.out.size;simp at this;omega) _
  . exact q1.cast (by rw[ag.eL];rfl)
  . exact q4.cast (by rw[ag.eL];rfl)
 case round=>
  obtain ⟨seen,c0,m1,m2,m3,m4,m5,i1,i2,i3,i4⟩:=hrel
  have th:=qD.out
  simp at th
  have kS:b<w1.heap.size:=(Array.getElem?_eq_some_iff.1 cE).1
  obtain ⟨a0,a1,a2,a3,a4,a5⟩:=i1.mF
  have a6:=i2.one
  obtain ⟨d0,d1,d2,d3,d4,d5⟩:=i3.mF
  obtain ⟨e0,e1,e2,e3,e4,e5,e6,e7⟩:=i4.eight
  have f1:=i1.frozen
  have f2:=i2.frozen
  have f3:=i3.frozen
  have f4:=i4.frozen
  have M1:=Lib.hid m1
  have M2:=Lib.hid m2
  have M4:=Lib.hid m4
  have I1:=Lib.hid i1
  have I2:=Lib.hid i2
  have I3:=Lib.hid i3
  have I4:=Lib.hid i4
  clear m1 m2 i1 i2 i3 i4 m4
  go_wp2_with (first|(at_next;refine iW _ rfl _ rfl w1.heap.size b 18 c0 seen bD 18 rfl M2.out M1.out ag.ur m3 ag.qT ?_ ?_))
  . intro  hD
    have hK:=ag.oY hD (kindOf (u 0).data.toList) (eS _)
    rw[hK] at a0 e0 e1 e2 e3 e4 e5 e6 e7
    have HD:=Lib.hid hD;clear hD hK
    have hr: ∀i,i<len->wr.cell? ⟨B,off+i,none⟩=some (.string (u i)):=fun i hi=>(M4.out.cell (p:=⟨B,off+i,none⟩) hB).trans (hc i hi)
    have HR:=Lib.hid hr;clear hr
    have hl:=I4.out.lt
    have rH:w.heap.size<wr.heap.size:=by omega
    have oH:w.heap.size+1<wr.heap.size:=by omega
    have mb:w.heap.size+1+1<wr.heap.size:=by omega
    have zc:B<wr.heap.size:=by omega
    have HC:=Lib.hid hc;clear hc
    have ze:=Lib.hid cE;clear cE
    have rI:=eS (u 0).data.toList
    obtain ⟨K,hK⟩: ∃K,K=kindOf (u 0).data.toList:=⟨_,rfl⟩
    rw[<-hK] at a0 e0 e1 e2 e3 e4 e5 e6 e7 rI
    have hs:=HS.out
    rw[<-hK] at hs
    obtain ⟨h0,ha,hb,ht,hn⟩:=hs
    have HK:=Lib.hid hK;clear hK
    rw[ha] at e1;rw[hb] at e2;rw[ht] at e3;rw[hn] at e4
    have HA:=Lib.hid ha;have dQ:=Lib.hid hb;have HT:=Lib.hid ht;have HN:=Lib.hid hn;clear ha hb ht hn
    have cH: ¬(cF K).toList=[]:=by rw[Lib.toList_data];exact ag.vY K rI h0
    have gm:(!(cF K).toList.isEmpty)=true:=by simpa using cH
    have zf:(cF K).toList.isEmpty=false:=by simpa using cH
    have H0:=Lib.hid h0
    clear h0
    by_cases oZ:len=1
    .   subst oZ
        go_wp2
        go_loop [9,46] (fun m i=> ∃j:Nat,j<=4/\i= .int .i64 j/\m= .int .i64 (([true,false,false,false].take j).count true:Nat)) (fun _ i=>4 - (intOf i).toNat)
        case atStart=>exact ⟨0,Nat.zero_le _,rfl,rfl⟩
        case round=>
         obtain ⟨j,hj,rfl,rfl⟩:=hrel
         obtain rfl|rfl|rfl|rfl|rfl:j=0\/j=1\/j=2\/j=3\/j=4:=by omega
         . go_wp2;go_round;(case rel=>exact ⟨1,by omega,rfl,rfl⟩);(case measure=>simp[intOf])
         . go_wp2;go_round;(case rel=>exact ⟨2,by omega,rfl,rfl⟩);(case measure=>simp[intOf])
         . go_wp2;go_round;(case rel=>exact ⟨3,by omega,rfl,rfl⟩);(case measure=>simp[intOf])
         . go_wp2;go_round;(case rel=>exact ⟨4,by omega,rfl,rfl⟩);(case measure=>simp[intOf])
         . go_wp2
           refine bodyPost_ret (v:= .tuple #[.agg #[.int .u8 0,.int .i64 0,.string ⟨#[]⟩,.string ⟨#[]⟩,.string ⟨#[]⟩,.int .i64 0],.int .i64 3]) (by simp[results,Tryz.results104,go_sem, *]) rfl (ag.aK HK.out HA.out dQ.out HT.out HN.out (by simp[ag.bB,ag.valOf,ag.bE,H0.out]) ?_);(repeat (first|(with_reducible refine Below.setCell ?_ (by first|(simp;done)|(simp;omega)) _)|(with_reducible refine Below.alloc ?_ (by first|(simp;done)|(simp;omega)) _)|(with_reducible refine ag.below_drewN ?_ _)|(with_reducible exact M4.out)))
    by_cases hlen:len=2
    .   subst hlen
        have r1:wr.cell? ⟨B,off+1,none⟩=some (.string (u 1)):=HR.out 1 (by omega)
        have g1:=HU.out 1 (by omega)
        go_wp2
        go_loop [9,46] (fun m i=> ∃j:Nat,j<=4/\i= .int .i64 j/\m= .int .i64 (([true,false,false,false].take j).count true:Nat)) (fun _ i=>4 - (intOf i).toNat)
        case atStart=>exact ⟨0,Nat.zero_le _,rfl,rfl⟩
        case round=>
         obtain ⟨j,hj,rfl,rfl⟩:=hrel
         obtain rfl|rfl|rfl|rfl|rfl:j=0\/j=1\/j=2\/j=3\/j=4:=by omega
         . go_wp2;go_round;(case rel=>exact ⟨1,by omega,rfl,rfl⟩);(case measure=>simp[intOf])
         . go_wp2;go_round;(case rel=>exact ⟨2,by omega,rfl,rfl⟩);(case measure=>simp[intOf])
         . go_wp2;go_round;(case rel=>exact ⟨3,by omega,rfl,rfl⟩);(case measure=>simp[intOf])
         . go_wp2;go_round;(case rel=>exact ⟨4,by omega,rfl,rfl⟩);(case measure=>simp[intOf])
         . by_cases zg:wt<0
           .  go_wp2_with (first|(go_at_call 174;((with_reducible refine (ag.aH (u 1) _ _ g1).mono ?_);rintro e w' ⟨rfl,rfl⟩))|go_in)
              refine bodyPost_ret (v:= .tuple #[.agg #[.int .u8 0,.int .i64 0,.string ⟨#[]⟩,.string ⟨#[]⟩,.string ⟨#[]⟩,.int .i64 0],.int .i64 41]) (by simp[results,Tryz.results104,go_sem, *]) rfl (ag.aK HK.out HA.out dQ.out HT.out HN.out (by simp[ag.bB,ag.valOf,ag.bE,H0.out,H0.out,zg]) ?_);(repeat (first|(with_reducible refine Below.setCell ?_ (by first|(simp;done)|(simp;omega)) _)|(with_reducible refine Below.alloc ?_ (by first|(simp;done)|(simp;omega)) _)|(with_reducible refine ag.below_drewN ?_ _)|(with_reducible exact M4.out)))
           by_cases Bb:1000<wt
           .  go_wp2_with (first|(go_at_call 174;((with_reducible refine (ag.aH (u 1) _ _ g1).mono ?_);rintro e w' ⟨rfl,rfl⟩))|go_in)
              refine bodyPost_ret (v:= .tuple #[.agg #[.int .u8 0,.int .i64 0,.string ⟨#[]⟩,.string ⟨#[]⟩,.string ⟨#[]⟩,.int .i64 0],.int .i64 41]) (by simp[results,Tryz.results104,go_sem, *]) rfl (ag.aK HK.out HA.out dQ.out HT.out HN.out (by simp[ag.bB,ag.valOf,ag.bE,H0.out,H0.out,Bb]) ?_);(repeat (first|(with_reducible refine Below.setCell ?_ (by first|(simp;done)|(simp;omega)) _)|(with_reducible refine Below.alloc ?_ (by first|(simp;done)|(simp;omega)) _)|(with_reducible refine ag.below_drewN ?_ _)|(with_reducible exact M4.out)))
           rcases ag.ij (iG (u 1) true) with jV|jV
           .  go_wp2_with (first|(go_at_call 174;((with_reducible refine (ag.aH (u 1) _ _ g1).mono ?_);rintro e w' ⟨rfl,rfl⟩))|go_in)
              refine bodyPost_ret (v:= .tuple #[.agg #[.int .u8 K,.int .i64 wt,.string (oI (u 1) true),.string (⟨#[]⟩),.string (⟨#[]⟩),.int .i64 (0)],.int .i64 0]) (by simp[results,Tryz.results104,go_sem, *]) rfl (ag.aK HK.out HA.out dQ.out HT.out HN.out (by have gI:=ag.ju (wt:=wt) (by omega) (by omega);simp[ag.bB,ag.valOf,ag.RR.val,H0.out,H0.out,jV,if_neg gI]) ?_);(repeat (first|(with_reducible refine Below.setCell ?_ (by first|(simp;done)|(simp;omega)) _)|(with_reducible refine Below.alloc ?_ (by first|(simp;done)|(simp;omega)) _)|(with_reducible refine ag.below_drewN ?_ _)|(with_reducible exact M4.out)))
           .  go_wp2_with (first|(go_at_call 174;((with_reducible refine (ag.aH (u 1) _ _ g1).mono ?_);rintro e w' ⟨rfl,rfl⟩))|go_in)
              refine bodyPost_ret (v:= .tuple #[.agg #[.int .u8 0,.int .i64 0,.string ⟨#[]⟩,.string ⟨#[]⟩,.string ⟨#[]⟩,.int .i64 0],.int .i64 4]) (by simp[results,Tryz.results104,go_sem, *]) rfl (ag.aK HK.out HA.out dQ.out HT.out HN.out (by have gI:=ag.ju (wt:=wt) (by omega) (by omega);simp[ag.bB,ag.valOf,ag.bE,H0.out,H0.out,jV,if_neg gI]) ?_);(repeat (first|(with_reducible refine Below.setCell ?_ (by first|(simp;done)|(simp;omega)) _)|(with_reducible refine Below.alloc ?_ (by first|(simp;done)|(simp;omega)) _)|(with_reducible refine ag.below_drewN ?_ _)|(with_reducible exact M4.out)))
    .   have hd:(((len - 1:Nat):Int) !=1)=true:=by rw[bne_iff_ne];omega
        have Lw:decide (len - 1=1)=false:=by rw[decide_eq_false_iff_not];omega
        go_wp2
        go_loop [9,46] (fun m i=> ∃j:Nat,j<=4/\i= .int .i64 j/\m= .int .i64 (([true,false,false,false].take j).count true:Nat)) (fun _ i=>4 - (intOf i).toNat)
        case atStart=>exact ⟨0,Nat.zero_le _,rfl,rfl⟩
        case round=>
         obtain ⟨j,hj,rfl,rfl⟩:=hrel
         obtain rfl|rfl|rfl|rfl|rfl:j=0\/j=1\/j=2\/j=3\/j=4:=by omega
         . go_wp2;go_round;(case rel=>exact ⟨1,by omega,rfl,rfl⟩);(case measure=>simp[intOf])
         . go_wp2;go_round;(case rel=>exact ⟨2,by omega,rfl,rfl⟩);(case measure=>simp[intOf])
         . go_wp2;go_round;(case rel=>exact ⟨3,by omega,rfl,rfl⟩);(case measure=>simp[intOf])
         . go_wp2;go_round;(case rel=>exact ⟨4,by omega,rfl,rfl⟩);(case measure=>simp[intOf])
         . go_wp2
           refine bodyPost_ret (v:= .tuple #[.agg #[.int .u8 0,.int .i64 0,.string ⟨#[]⟩,.string ⟨#[]⟩,.string ⟨#[]⟩,.int .i64 0],.int .i64 3]) (by simp[results,Tryz.results104,go_sem, *]) rfl (ag.aK HK.out HA.out dQ.out HT.out HN.out (by simp[ag.bB,ag.valOf,ag.bE,H0.out,hlen]) ?_);(repeat (first|(with_reducible refine Below.setCell ?_ (by first|(simp;done)|(simp;omega)) _)|(with_reducible refine Below.alloc ?_ (by first|(simp;done)|(simp;omega)) _)|(with_reducible refine ag.below_drewN ?_ _)|(with_reducible exact M4.out)))
  . intro  e he w2 q1 q2 q3 q4 q5 q6 q7
    obtain ⟨i,hi,rfl,qh⟩:=ag.qU he
    dsimp only[nD,vq] at q1 q7 ⊢
    obtain ⟨c,mg⟩: ∃c,c=i+1:=⟨_,rfl⟩
    rw[<-mg] at q7 ⊢
    have jM:Bc c= .func (.func (80+c)) #[] #[]:=if_neg (by omega)
    rw[jM] at q7 ⊢
    clear jM
    have eT:=Lib.hid mg;clear mg
    have Q1:Hid (w2.heap[w1.heap.size]? =some (.mapIter (some b) 18 (seen.push i) 18)):=Lib.hid q1
    have HI:=Lib.hid qh
    have HO:Hid (w2.os=wr.os/\w2.tape=wr.tape/\w2.output=wr.output/\w2.heap.size=wr.heap.size):=Lib.hid ⟨q2,q3,q4,q5⟩
    have Q6:=Lib.hid q6
    have D8:w1.heap.size<w2.heap.size:=by omega
    have j1:=I1.out.of_heap (q6 _ (by omega))
    have j2:=I2.out.of_heap (q6 _ (by omega))
    have j3:=I3.out.of_heap (q6 _ (by omega))
    have j4:=I4.out.of_heap (q6 _ (by omega))
    have Hl:=I4.out.lt
    have hl:w.heap.size+1+1+1<w2.heap.size:=by omega
    clear q1 q2 q3 q4 q5 q6 he qh a0 a1 a2 a3 a4 a5 a6 e0 e1 e2 e3 e4 e5 e6 e7
    obtain ⟨a0,a1,a2,a3,a4,a5⟩:=j1.mF
    have a6:=j2.one
    obtain ⟨e0,e1,e2,e3,e4,e5,e6,e7⟩:=j4.eight
    have f1:=j1.frozen
    have f4:=j4.frozen
    have J1:=Lib.hid j1
    have J2:=Lib.hid j2
    have J3:=Lib.hid j3
    have J4:=Lib.hid j4
    clear j1 j2 j3 j4
    have qE: ∀i,i<len->w2.cell? ⟨B,off+i,none⟩=some (.string (u i)):=fun i hi=>by
        rw[<-hc i hi, <-M4.out.cell (p:=⟨B,off+i,none⟩) hB]
        exact o3 (Q6.out B (by omega)) _
    have sL:=qE 0 (by omega)
    rw[Nat.add_zero] at sL
    clear qE
    have HC:=Lib.hid hc;clear hc
    have ze:=Lib.hid cE;clear cE
    have rH:w.heap.size<w2.heap.size:=by omega
    have oH:w.heap.size+1<w2.heap.size:=by omega
    have mb:w.heap.size+1+1<w2.heap.size:=by omega
    have zc:B<w2.heap.size:=by omega
    have jv:Hid (w2.heap[b]? =some (.map bD 18)):=Lib.hid (by rw[Q6.out b (by omega)];exact M1.out)
    have jw:Hid (Below w.heap.size w w2):=Lib.hid (ag.nE M4.out HO.out Q6.out (by omega))
    by_cases heq:((cF c).toList==(u 0).toList)=true
    .   have HQ:Hid (kindOf (u 0).data.toList=c):=Lib.hid (ag.qV (by have:=eT.out;omega) (by have:=eT.out;omega) heq)
        go_wp2
        go_quiet (fail)
        go_wp2
        go_region
        all_goals
         go_roundw
         case rel=>
           (repeat apply Exists.intro)
           exact ⟨(ag.gZ HQ.out eT.out jv.out Q1.out jw.out (by omega) (by omega) (by omega) J1.out J2.out J3.out J4.out).1,rfl⟩
         case measure=>
           rw[ag.cZ M1.out M2.out]
           exact Nat.lt_of_le_of_lt (Nat.le_of_eq (ag.gZ HQ.out eT.out jv.out Q1.out jw.out (by omega) (by omega) (by omega) J1.out J2.out J3.out J4.out).2) (ag.jA hi HI.out)
    .   have tj:((cF c).toList==(u 0).toList)=false:=by simpa using heq
        clear heq
        have HQ:Hid (kindOf (u 0).data.toList≠i+1):=Lib.hid (by rw[<-eT.out];exact ag.o4 (by have:=eT.out;omega) tj)
        go_wp2
        go_quiet (fail)
        go_wp2
        go_roundw
        case rel=>
         exact (ag.fI HQ.out jv.out Q1.out jw.out (by omega) (by omega) (by omega) J1.out J2.out J3.out J4.out).1
        case measure=>
         rw[ag.cZ M1.out M2.out]
         exact Nat.lt_of_le_of_lt (Nat.le_of_eq (ag.fI HQ.out jv.out Q1.out jw.out (by omega) (by omega) (by omega) J1.out J2.out J3.out J4.out).2) (ag.jA hi HI.out)
end Go.Proofs
end
section
namespace Go.Proofs
open Go.RowKit Go.ag
set_option maxRecDepth 100000 in
set_option maxHeartbeats 40000000 in
theorem ag.afI (u:Nat->ByteArray) (wt:Int) (B off len:Nat) (w:World) (hB:B<w.heap.size) (hc: ∀i,i<len->w.cell? ⟨B,off+i,none⟩=some (.string (u i))) (h1:1<=len) (h3:len<=maxLen) (hu: ∀i,i<len->(u i).size<=maxLen)
  (td: -1<=wt/\wt<=999999999) (hs:kindOf (u 0).data.toList≠0/\mZ (kindOf (u 0).data.toList)=0/\nc (kindOf (u 0).data.toList)=false/\ng (kindOf (u 0).data.toList)=101/\nh (kindOf (u 0).data.toList)=true):
  Calls Tryz.prog 104 #[.agg #[.int .u8 0,.int .i64 wt,.string ⟨#[]⟩,.string ⟨#[]⟩,.string ⟨#[]⟩,.int .i64 0],.slice (some ⟨B,off,none⟩) len len] w (ag.vp u len wt w):=by
 have HU:=Lib.hid hu;clear hu
 have HS:=Lib.hid hs;clear hs
 unfold maxLen at h3
 go_enter Tryz.func104,Tryz.ntmps104
 go_wp2_with (first|(go_at_call 32;refine (ag.kinds _).mono ?_;rintro e w1 ⟨b,rfl,cW,cE,n6⟩;have eR:=Lib.hid n6;have qD:=Lib.hid cW;clear n6 cW)|(at_range;refine ig _ rfl _ _ rfl 44 85 Tryz.underlying58 b bD 18 rfl cE ?_))
 go_frame
 go_loopw [8] (fun _ wr=>ag.wG w (kindOf (u 0).data.toList) wt (.slice (some ⟨B,off,none⟩) len len) b w1.heap.size wr) (fun _ wr=>wr.rangeLeft b w1.heap.size)
 case atStart=>
  have q1:=(((((Is.new w 46 #[.int .u8 0,.int .i64 wt,.string ⟨#[]⟩,.string ⟨#[]⟩,.string ⟨#[]⟩,.int .i64 0]).alloc _).alloc _).alloc _).below eR.out (by simp;omega)).alloc (.mapIter (some b) 18 #[] 18)
  have q2:=((((Is.new (w.alloc (.cells #[.int .u8 0,.int .i64 wt,.string ⟨#[]⟩,.string ⟨#[]⟩,.string ⟨#[]⟩,.int .i64 0] 46)) 48 #[.slice (some ⟨B,off,none⟩) len len]).alloc _).alloc _).below eR.out (by simp)).alloc (.mapIter (some b) 18 #[] 18)
  have q3:=(((Is.new ((w.alloc (.cells #[.int .u8 0,.int .i64 wt,.string ⟨#[]⟩,.string ⟨#[]⟩,.string ⟨#[]⟩,.int .i64 0] 46)).alloc (.cells #[.slice (some ⟨B,off,none⟩) len len] 48)) 46 #[.int .u8 0,.int .i64 0,.string ⟨#[]⟩,.string ⟨#[]⟩,.string ⟨#[]⟩,.int .i64 0]).alloc _).below eR.out (by simp)).alloc (.mapIter (some b) 18 #[] 18)
  have q4:=((Is.new (((w.alloc (.cells #[.int .u8 0,.int .i64 wt,.string ⟨#[]⟩,.string ⟨#[]⟩,.string ⟨#[]⟩,.int .i64 0] 46)).alloc (.cells #[.slice (some ⟨B,off,none⟩) len len] 48)).alloc (.cells #[.int .u8 0,.int .i64 0,.string ⟨#[]⟩,.string ⟨#[]⟩,.string ⟨#[]⟩,.int .i64 0] 46)) 85
    #[.string ⟨#[]⟩,.int .u8 0,.bool false,.int .u8 0,.bool false,.int .i64 0,.bool false,.nilFunc]).below eR.out (by simp)).alloc (.mapIter (some b) 18 #[] 18)
  rw[World.size_alloc] at q2
  rw[World.size_alloc,World.size_alloc] at q3
  rw[World.size_alloc,World.size_alloc,World.size_alloc] at q4
  have kS:b<w1.heap.size:=(Array.getElem?_eq_some_iff.1 cE).1
  refine ⟨#[],18,(Go.ag.heap_alloc _ _ kS).trans cE,by show (w1.heap.push _)[w1.heap.size]? =_;simp,Nat.le_refl _,?_,by simp,?_,q2,q3,?_⟩
  . exact ((((((Below.refl _ w).alloc (Nat.le_refl _) _).alloc (by simp) _).alloc (by simp;omega) _).alloc (by simp;omega) _).trans (eR.out.mono (by simp;omega))).alloc (by have:=eR.out.size;simp at this;omega) _
  . exact q1.cast (by rw[ag.eL];rfl)
  . exact q4.cast (by rw[ag.eL];rfl)
 case round=>
  obtain ⟨seen,c0,m1,m2,m3,m4,m5,i1,i2,i3,i4⟩:=hrel
  have th:=qD.out
  simp at th
  have kS:b<w1.heap.size:=(Array.getElem?_eq_some_iff.1 cE).1
  obtain ⟨a0,a1,a2,a3,a4,a5⟩:=i1.mF
  have a6:=i2.one
  obtain ⟨d0,d1,d2,d3,d4,d5⟩:=i3.mF
  obtain ⟨e0,e1,e2,e3,e4,e5,e6,e7⟩:=i4.eight
  have f1:=i1.frozen
  have f2:=i2.frozen
  have f3:=i3.frozen
  have f4:=i4.frozen
  have M1:=Lib.hid m1
  have M2:=Lib.hid m2
  have M4:=Lib.hid m4
  have I1:=Lib.hid i1
  have I2:=Lib.hid i2
  have I3:=Lib.hid i3
  have I4:=Lib.hid i4
  clear m1 m2 i1 i2 i3 i4 m4
  go_wp2_with (first|(at_next;refine iW _ rfl _ rfl w1.heap.size b 18 c0 seen bD 18 rfl M2.out M1.out ag.ur m3 ag.qT ?_ ?_))
  . intro  hD
    have hK:=ag.oY hD (kindOf (u 0).data.toList) (eS _)
    rw[hK] at a0 e0 e1 e2 e3 e4 e5 e6 e7
    have HD:=Lib.hid hD;clear hD hK
    have hr: ∀i,i<len->wr.cell? ⟨B,off+i,none⟩=some (.string (u i)):=fun i hi=>(M4.out.cell (p:=⟨B,off+i,none⟩) hB).trans (hc i hi)
    have HR:=Lib.hid hr;clear hr
    have hl:=I4.out.lt
    have rH:w.heap.size<wr.heap.size:=by omega
    have oH:w.heap.size+1<wr.heap.size:=by omega
    have mb:w.heap.size+1+1<wr.heap.size:=by omega
    have zc:B<wr.heap.size:=by omega
    have HC:=Lib.hid hc;clear hc
    have ze:=Lib.hid cE;clear cE
    have rI:=eS (u 0).data.toList
    obtain ⟨K,hK⟩: ∃K,K=kindOf (u 0).data.toList:=⟨_,rfl⟩
    rw[<-hK] at a0 e0 e1 e2 e3 e4 e5 e6 e7 rI
    have hs:=HS.out
    rw[<-hK] at hs
    obtain ⟨h0,ha,hb,ht,hn⟩:=hs
    have HK:=Lib.hid hK;clear hK
    rw[ha] at e1;rw[hb] at e2;rw[ht] at e3;rw[hn] at e4
    have HA:=Lib.hid ha;have dQ:=Lib.hid hb;have HT:=Lib.hid ht;have HN:=Lib.hid hn;clear ha hb ht hn
    have cH: ¬(cF K).toList=[]:=by rw[Lib.toList_data];exact ag.vY K rI h0
    have gm:(!(cF K).toList.isEmpty)=true:=by simpa using cH
    have zf:(cF K).toList.isEmpty=false:=by simpa using cH
    have H0:=Lib.hid h0
    clear h0
    by_cases oZ:len=1
    .   subst oZ
        go_wp2
        go_loop [9,46] (fun m i=> ∃j:Nat,j<=4/\i= .int .i64 j/\m= .int .i64 (([false,false,true,true].take j).count true:Nat)) (fun _ i=>4 - (intOf i).toNat)
        case atStart=>exact ⟨0,Nat.zero_le _,rfl,rfl⟩
        case round=>
         obtain ⟨j,hj,rfl,rfl⟩:=hrel
         obtain rfl|rfl|rfl|rfl|rfl:j=0\/j=1\/j=2\/j=3\/j=4:=by omega
         . go_wp2;go_round;(case rel=>exact ⟨1,by omega,rfl,rfl⟩);(case measure=>simp[intOf])
         . go_wp2;go_round;(case rel=>exact ⟨2,by omega,rfl,rfl⟩);(case measure=>simp[intOf])
         . go_wp2;go_round;(case rel=>exact ⟨3,by omega,rfl,rfl⟩);(case measure=>simp[intOf])
         . go_wp2;go_round;(case rel=>exact ⟨4,by omega,rfl,rfl⟩);(case measure=>simp[intOf])
         . go_wp2
           refine bodyPost_ret (v:= .tuple #[.agg #[.int .u8 0,.int .i64 0,.string ⟨#[]⟩,.string ⟨#[]⟩,.string ⟨#[]⟩,.int .i64 0],.int .i64 3]) (by simp[results,Tryz.results104,go_sem, *]) rfl (ag.aK HK.out HA.out dQ.out HT.out HN.out (by simp[ag.bB,ag.valOf,ag.bE,H0.out]) ?_);(repeat (first|(with_reducible refine Below.setCell ?_ (by first|(simp;done)|(simp;omega)) _)|(with_reducible refine Below.alloc ?_ (by first|(simp;done)|(simp;omega)) _)|(with_reducible refine ag.below_drewN ?_ _)|(with_reducible exact M4.out)))
    by_cases hlen:len=3
    .   subst hlen
        have r1:wr.cell? ⟨B,off+1,none⟩=some (.string (u 1)):=HR.out 1 (by omega)
        have g1:=HU.out 1 (by omega)
        have r2:wr.cell? ⟨B,off+1+1,none⟩=some (.string (u 2)):=HR.out 2 (by omega)
        have s2:wr.cell? ⟨B,off+1+1,none⟩=some (.string (u 2)):=(congrArg (fun x=>wr.cell? ⟨B,x,none⟩) (by omega)).trans (HR.out 2 (by omega))
        have g2:=HU.out 2 (by omega)
        go_wp2
        go_loop [9,46] (fun m i=> ∃j:Nat,j<=4/\i= .int .i64 j/\m= .int .i64 (([false,false,true,true].take j).count true:Nat)) (fun _ i=>4 - (intOf i).toNat)
        case atStart=>exact ⟨0,Nat.zero_le _,rfl,rfl⟩
        case round=>
         obtain ⟨j,hj,rfl,rfl⟩:=hrel
         obtain rfl|rfl|rfl|rfl|rfl:j=0\/j=1\/j=2\/j=3\/j=4:=by omega
         . go_wp2;go_round;(case rel=>exact ⟨1,by omega,rfl,rfl⟩);(case measure=>simp[intOf])
         . go_wp2;go_round;(case rel=>exact ⟨2,by omega,rfl,rfl⟩);(case measure=>simp[intOf])
         . go_wp2;go_round;(case rel=>exact ⟨3,by omega,rfl,rfl⟩);(case measure=>simp[intOf])
         . go_wp2;go_round;(case rel=>exact ⟨4,by omega,rfl,rfl⟩);(case measure=>simp[intOf])
         . rcases ag.ij (jt (u 2).data.toList) with gy|gy
           rotate_left
           .  go_wp2_with (first|(go_at_call 103;refine (ag.lW _ _ g2).mono ?_;rintro e w' ⟨rfl,rfl⟩))
              refine bodyPost_ret (v:= .tuple #[.agg #[.int .u8 0,.int .i64 0,.string ⟨#[]⟩,.string ⟨#[]⟩,.string ⟨#[]⟩,.int .i64 0],.int .i64 3]) (by simp[results,Tryz.results104,go_sem, *]) rfl (ag.aK HK.out HA.out dQ.out HT.out HN.out (by simp[ag.bB,ag.valOf,ag.bE,H0.out,gy]) ?_);(repeat (first|(with_reducible refine Below.setCell ?_ (by first|(simp;done)|(simp;omega)) _)|(with_reducible refine Below.alloc ?_ (by first|(simp;done)|(simp;omega)) _)|(with_reducible refine ag.below_drewN ?_ _)|(with_reducible exact M4.out)))
           by_cases zg:wt<0
           .  go_wp2_with (first|(go_at_call 103;refine (ag.lW _ _ g2).mono ?_;rintro e w' ⟨rfl,rfl⟩)|(go_at_call 174;((with_reducible refine (ag.aH (u 1) _ _ g1).mono ?_);rintro e w' ⟨rfl,rfl⟩))|go_in)
              refine bodyPost_ret (v:= .tuple #[.agg #[.int .u8 0,.int .i64 0,.string ⟨#[]⟩,.string ⟨#[]⟩,.string ⟨#[]⟩,.int .i64 0],.int .i64 41]) (by simp[results,Tryz.results104,go_sem, *]) rfl (ag.aK HK.out HA.out dQ.out HT.out HN.out (by simp[ag.bB,ag.valOf,ag.bE,H0.out,gy,zg]) ?_);(repeat (first|(with_reducible refine Below.setCell ?_ (by first|(simp;done)|(simp;omega)) _)|(with_reducible refine Below.alloc ?_ (by first|(simp;done)|(simp;omega)) _)|(with_reducible refine ag.below_drewN ?_ _)|(with_reducible exact M4.out)))
           by_cases Bb:1000<wt
           .  go_wp2_with (first|(go_at_call 103;refine (ag.lW _ _ g2).mono ?_;rintro e w' ⟨rfl,rfl⟩)|(go_at_call 174;((with_reducible refine (ag.aH (u 1) _ _ g1).mono ?_);rintro e w' ⟨rfl,rfl⟩))|go_in)
              refine bodyPost_ret (v:= .tuple #[.agg #[.int .u8 0,.int .i64 0,.string ⟨#[]⟩,.string ⟨#[]⟩,.string ⟨#[]⟩,.int .i64 0],.int .i64 41]) (by simp[results,Tryz.results104,go_sem, *]) rfl (ag.aK HK.out HA.out dQ.out HT.out HN.out (by simp[ag.bB,ag.valOf,ag.bE,H0.out,gy,Bb]) ?_);(repeat (first|(with_reducible refine Below.setCell ?_ (by first|(simp;done)|(simp;omega)) _)|(with_reducible refine Below.alloc ?_ (by first|(simp;done)|(simp;omega)) _)|(with_reducible refine ag.below_drewN ?_ _)|(with_reducible exact M4.out)))
           rcases ag.ij (iG (u 1) true) with jV|jV
           .  go_wp2_with (first|(go_at_call 103;refine (ag.lW _ _ g2).mono ?_;rintro e w' ⟨rfl,rfl⟩)|(go_at_call 174;((with_reducible refine (ag.aH (u 1) _ _ g1).mono ?_);rintro e w' ⟨rfl,rfl⟩))|go_in)
              refine bodyPost_ret (v:= .tuple #[.agg #[.int .u8 K,.int .i64 wt,.string (⟨#[]⟩),.string (⟨#[]⟩),.string (oI (u 1) true),.int .i64 (sx (u 2).data.toList)],.int .i64 0]) (by simp[results,Tryz.results104,go_sem, *]) rfl (ag.aK HK.out HA.out dQ.out HT.out HN.out (by have gI:=ag.ju (wt:=wt) (by omega) (by omega);simp[ag.bB,ag.valOf,ag.RR.val,H0.out,gy,jV,if_neg gI]) ?_);(repeat (first|(with_reducible refine Below.setCell ?_ (by first|(simp;done)|(simp;omega)) _)|(with_reducible refine Below.alloc ?_ (by first|(simp;done)|(simp;omega)) _)|(with_reducible refine ag.below_drewN ?_ _)|(with_reducible exact M4.out)))
           .  go_wp2_with (first|(go_at_call 103;refine (ag.lW _ _ g2).mono ?_;rintro e w' ⟨rfl,rfl⟩)|(go_at_call 174;((with_reducible refine (ag.aH (u 1) _ _ g1).mono ?_);rintro e w' ⟨rfl,rfl⟩))|go_in)
              refine bodyPost_ret (v:= .tuple #[.agg #[.int .u8 0,.int .i64 0,.string ⟨#[]⟩,.string ⟨#[]⟩,.string ⟨#[]⟩,.int .i64 0],.int .i64 4]) (by simp[results,Tryz.results104,go_sem, *]) rfl (ag.aK HK.out HA.out dQ.out HT.out HN.out (by have gI:=ag.ju (wt:=wt) (by omega) (by omega);simp[ag.bB,ag.valOf,ag.bE,H0.out,gy,jV,if_neg gI]) ?_);(repeat (first|(with_reducible refine Below.setCell ?_ (by first|(simp;done)|(simp;omega)) _)|(with_reducible refine Below.alloc ?_ (by first|(simp;done)|(simp;omega)) _)|(with_reducible refine ag.below_drewN ?_ _)|(with_reducible exact M4.out)))
    .   have hd:(((len - 1:Nat):Int) !=2)=true:=by rw[bne_iff_ne];omega
        have Lw:decide (len - 1=2)=false:=by rw[decide_eq_false_iff_not];omega
        go_wp2
        go_loop [9,46] (fun m i=> ∃j:Nat,j<=4/\i= .int .i64 j/\m= .int .i64 (([false,false,true,true].take j).count true:Nat)) (fun _ i=>4 - (intOf i).toNat)
        case atStart=>exact ⟨0,Nat.zero_le _,rfl,rfl⟩
        case round=>
         obtain ⟨j,hj,rfl,rfl⟩:=hrel
         obtain rfl|rfl|rfl|rfl|rfl:j=0\/j=1\/j=2\/j=3\/j=4:=by omega
         . go_wp2;go_round;(case rel=>exact ⟨1,by omega,rfl,rfl⟩);(case measure=>simp[intOf])
         . go_wp2;go_round;(case rel=>exact ⟨2,by omega,rfl,rfl⟩);(case measure=>simp[intOf])
         . go_wp2;go_round;(case rel=>exact ⟨3,by omega,rfl,rfl⟩);(case measure=>simp[intOf])
         . go_wp2;go_round;(case rel=>exact ⟨4,by omega,rfl,rfl⟩);(case measure=>simp[intOf])
         . go_wp2
           refine bodyPost_ret (v:= .tuple #[.agg #[.int .u8 0,.int .i64 0,.string ⟨#[]⟩,.string ⟨#[]⟩,.string ⟨#[]⟩,.int .i64 0],.int .i64 3]) (by simp[results,Tryz.results104,go_sem, *]) rfl (ag.aK HK.out HA.out dQ.out HT.out HN.out (by simp[ag.bB,ag.valOf,ag.bE,H0.out,hlen]) ?_);(repeat (first|(with_reducible refine Below.setCell ?_ (by first|(simp;done)|(simp;omega)) _)|(with_reducible refine Below.alloc ?_ (by first|(simp;done)|(simp;omega)) _)|(with_reducible refine ag.below_drewN ?_ _)|(with_reducible exact M4.out)))
  . intro  e he w2 q1 q2 q3 q4 q5 q6 q7
    obtain ⟨i,hi,rfl,qh⟩:=ag.qU he
    dsimp only[nD,vq] at q1 q7 ⊢
    obtain ⟨c,mg⟩: ∃c,c=i+1:=⟨_,rfl⟩
    rw[<-mg] at q7 ⊢
    have jM:Bc c= .func (.func (80+c)) #[] #[]:=if_neg (by omega)
    rw[jM] at q7 ⊢
    clear jM
    have eT:=Lib.hid mg;clear mg
    have Q1:Hid (w2.heap[w1.heap.size]? =some (.mapIter (some b) 18 (seen.push i) 18)):=Lib.hid q1
    have HI:=Lib.hid qh
    have HO:Hid (w2.os=wr.os/\w2.tape=wr.tape/\w2.output=wr.output/\w2.heap.size=wr.heap.size):=Lib.hid ⟨q2,q3,q4,q5⟩
    have Q6:=Lib.hid q6
    have D8:w1.heap.size<w2.heap.size:=by omega
    have j1:=I1.out.of_heap (q6 _ (by omega))
    have j2:=I2.out.of_heap (q6 _ (by omega))
    have j3:=I3.out.of_heap (q6 _ (by omega))
    have j4:=I4.out.of_heap (q6 _ (by omega))
    have Hl:=I4.out.lt
    have hl:w.heap.size+1+1+1<w2.heap.size:=by omega
    clear q1 q2 q3 q4 q5 q6 he qh a0 a1 a2 a3 a4 a5 a6 e0 e1 e2 e3 e4 e5 e6 e7
    obtain ⟨a0,a1,a2,a3,a4,a5⟩:=j1.mF
    have a6:=j2.one
    obtain ⟨e0,e1,e2,e3,e4,e5,e6,e7⟩:=j4.eight
    have f1:=j1.frozen
    have f4:=j4.frozen
    have J1:=Lib.hid j1
    have J2:=Lib.hid j2
    have J3:=Lib.hid j3
    have J4:=Lib.hid j4
    clear j1 j2 j3 j4
    have qE: ∀i,i<len->w2.cell? ⟨B,off+i,none⟩=some (.string (u i)):=fun i hi=>by
        rw[<-hc i hi, <-M4.out.cell (p:=⟨B,off+i,none⟩) hB]
        exact o3 (Q6.out B (by omega)) _
    have sL:=qE 0 (by omega)
    rw[Nat.add_zero] at sL
    clear qE
    have HC:=Lib.hid hc;clear hc
    have ze:=Lib.hid cE;clear cE
    have rH:w.heap.size<w2.heap.size:=by omega
    have oH:w.heap.size+1<w2.heap.size:=by omega
    have mb:w.heap.size+1+1<w2.heap.size:=by omega
    have zc:B<w2.heap.size:=by omega
    have jv:Hid (w2.heap[b]? =some (.map bD 18)):=Lib.hid (by rw[Q6.out b (by omega)];exact M1.out)
    have jw:Hid (Below w.heap.size w w2):=Lib.hid (ag.nE M4.out HO.out Q6.out (by omega))
    by_cases heq:((cF c).toList==(u 0).toList)=true
    .   have HQ:Hid (kindOf (u 0).data.toList=c):=Lib.hid (ag.qV (by have:=eT.out;omega) (by have:=eT.out;omega) heq)
        go_wp2
        go_quiet (fail)
        go_wp2
        go_region
        all_goals
         go_roundw
         case rel=>
           (repeat apply Exists.intro)
           exact ⟨(ag.gZ HQ.out eT.out jv.out Q1.out jw.out (by omega) (by omega) (by omega) J1.out J2.out J3.out J4.out).1,rfl⟩
         case measure=>
           rw[ag.cZ M1.out M2.out]
           exact Nat.lt_of_le_of_lt (Nat.le_of_eq (ag.gZ HQ.out eT.out jv.out Q1.out jw.out (by omega) (by omega) (by omega) J1.out J2.out J3.out J4.out).2) (ag.jA hi HI.out)
    .   have tj:((cF c).toList==(u 0).toList)=false:=by simpa using heq
        clear heq
        have HQ:Hid (kindOf (u 0).data.toList≠i+1):=Lib.hid (by rw[<-eT.out];exact ag.o4 (by have:=eT.out;omega) tj)
        go_wp2
        go_quiet (fail)
        go_wp2
        go_roundw
        case rel=>
         exact (ag.fI HQ.out jv.out Q1.out jw.out (by omega) (by omega) (by omega) J1.out J2.out J3.out J4.out).1
        case measure=>
         rw[ag.cZ M1.out M2.out]
         exact Nat.lt_of_le_of_lt (Nat.le_of_eq (ag.fI HQ.out jv.out Q1.out jw.out (by omega) (by omega) (by omega) J1.out J2.out J3.out J4.out).2) (ag.jA hi HI.out)
end Go.Proofs
end
section
namespace Go.Proofs
open Go.RowKit Go.ag
set_option maxRecDepth 100000 in
set_option maxHeartbeats 40000000 in
theorem ag.afJ (u:Nat->ByteArray) (wt:Int) (B off len:Nat) (w:World) (hB:B<w.heap.size) (hc: ∀i,i<len->w.cell? ⟨B,off+i,none⟩=some (.string (u i))) (h1:1<=len) (h3:len<=maxLen) (hu: ∀i,i<len->(u i).size<=maxLen)
  (td: -1<=wt/\wt<=999999999) (hs:kindOf (u 0).data.toList≠0/\mZ (kindOf (u 0).data.toList)=100/\nc (kindOf (u 0).data.toList)=false/\ng (kindOf (u 0).data.toList)=116/\nh (kindOf (u 0).data.toList)=false):
  Calls Tryz.prog 104 #[.agg #[.int .u8 0,.int .i64 wt,.string ⟨#[]⟩,.string ⟨#[]⟩,.string ⟨#[]⟩,.int .i64 0],.slice (some ⟨B,off,none⟩) len len] w (ag.vp u len wt w):=by
 have HU:=Lib.hid hu;clear hu
 have HS:=Lib.hid hs;clear hs
 unfold maxLen at h3
 go_enter Tryz.func104,Tryz.ntmps104
 go_wp2_with (first|(go_at_call 32;refine (ag.kinds _).mono ?_;rintro e w1 ⟨b,rfl,cW,cE,n6⟩;have eR:=Lib.hid n6;have qD:=Lib.hid cW;clear n6 cW)|(at_range;refine ig _ rfl _ _ rfl 44 85 Tryz.underlying58 b bD 18 rfl cE ?_))
 go_frame
 go_loopw [8] (fun _ wr=>ag.wG w (kindOf (u 0).data.toList) wt (.slice (some ⟨B,off,none⟩) len len) b w1.heap.size wr) (fun _ wr=>wr.rangeLeft b w1.heap.size)
 case atStart=>
  have q1:=(((((Is.new w 46 #[.int .u8 0,.int .i64 wt,.string ⟨#[]⟩,.string ⟨#[]⟩,.string ⟨#[]⟩,.int .i64 0]).alloc _).alloc _).alloc _).below eR.out (by simp;omega)).alloc (.mapIter (some b) 18 #[] 18)
  have q2:=((((Is.new (w.alloc (.cells #[.int .u8 0,.int .i64 wt,.string ⟨#[]⟩,.string ⟨#[]⟩,.string ⟨#[]⟩,.int .i64 0] 46)) 48 #[.slice (some ⟨B,off,none⟩) len len]).alloc _).alloc _).below eR.out (by simp)).alloc (.mapIter (some b) 18 #[] 18)
  have q3:=(((Is.new ((w.alloc (.cells #[.int .u8 0,.int .i64 wt,.string ⟨#[]⟩,.string ⟨#[]⟩,.string ⟨#[]⟩,.int .i64 0] 46)).alloc (.cells #[.slice (some ⟨B,off,none⟩) len len] 48)) 46 #[.int .u8 0,.int .i64 0,.string ⟨#[]⟩,.string ⟨#[]⟩,.string ⟨#[]⟩,.int .i64 0]).alloc _).below eR.out (by simp)).alloc (.mapIter (some b) 18 #[] 18)
  have q4:=((Is.new (((w.alloc (.cells #[.int .u8 0,.int .i64 wt,.string ⟨#[]⟩,.string ⟨#[]⟩,.string ⟨#[]⟩,.int .i64 0] 46)).alloc (.cells #[.slice (some ⟨B,off,none⟩) len len] 48)).alloc (.cells #[.int .u8 0,.int .i64 0,.string ⟨#[]⟩,.string ⟨#[]⟩,.string ⟨#[]⟩,.int .i64 0] 46)) 85
    #[.string ⟨#[]⟩,.int .u8 0,.bool false,.int .u8 0,.bool false,.int .i64 0,.bool false,.nilFunc]).below eR.out (by simp)).alloc (.mapIter (some b) 18 #[] 18)
  rw[World.size_alloc] at q2
  rw[World.size_alloc,World.size_alloc] at q3
  rw[World.size_alloc,World.size_alloc,World.size_alloc] at q4
  have kS:b<w1.heap.size:=(Array.getElem?_eq_some_iff.1 cE).1
  refine ⟨#[],18,(Go.ag.heap_alloc _ _ kS).trans cE,by show (w1.heap.push _)[w1.heap.size]? =_;simp,Nat.le_refl _,?_,by simp,?_,q2,q3,?_⟩
  . exact ((((((Below.refl _ w).alloc (Nat.le_refl _) _).alloc (by simp) _).alloc (by simp;omega) _).alloc (by simp;omega) _).trans (eR.out.mono (by simp;omega))).alloc (by have:=eR.out.size;simp at this;omega) _
  . exact q1.cast (by rw[ag.eL];rfl)
  . exact q4.cast (by rw[ag.eL];rfl)
 case round=>
  obtain ⟨seen,c0,m1,m2,m3,m4,m5,i1,i2,i3,i4⟩:=hrel
  have th:=qD.out
  simp at th
  have kS:b<w1.heap.size:=(Array.getElem?_eq_some_iff.1 cE).1
  obtain ⟨a0,a1,a2,a3,a4,a5⟩:=i1.mF
  have a6:=i2.one
  obtain ⟨d0,d1,d2,d3,d4,d5⟩:=i3.mF
  obtain ⟨e0,e1,e2,e3,e4,e5,e6,e7⟩:=i4.eight
  have f1:=i1.frozen
  have f2:=i2.frozen
  have f3:=i3.frozen
  have f4:=i4.frozen
  have M1:=Lib.hid m1
  have M2:=Lib.hid m2
  have M4:=Lib.hid m4
  have I1:=Lib.hid i1
  have I2:=Lib.hid i2
  have I3:=Lib.hid i3
  have I4:=Lib.hid i4
  clear m1 m2 i1 i2 i3 i4 m4
  go_wp2_with (first|(at_next;refine iW _ rfl _ rfl w1.heap.size b 18 c0 seen bD 18 rfl M2.out M1.out ag.ur m3 ag.qT ?_ ?_))
  . intro  hD
    have hK:=ag.oY hD (kindOf (u 0).data.toList) (eS _)
    rw[hK] at a0 e0 e1 e2 e3 e4 e5 e6 e7
    have HD:=Lib.hid hD;clear hD hK
    have hr: ∀i,i<len->wr.cell? ⟨B,off+i,none⟩=some (.string (u i)):=fun i hi=>(M4.out.cell (p:=⟨B,off+i,none⟩) hB).trans (hc i hi)
    have HR:=Lib.hid hr;clear hr
    have hl:=I4.out.lt
    have rH:w.heap.size<wr.heap.size:=by omega
    have oH:w.heap.size+1<wr.heap.size:=by omega
    have mb:w.heap.size+1+1<wr.heap.size:=by omega
    have zc:B<wr.heap.size:=by omega
    have HC:=Lib.hid hc;clear hc
    have ze:=Lib.hid cE;clear cE
    have rI:=eS (u 0).data.toList
    obtain ⟨K,hK⟩: ∃K,K=kindOf (u 0).data.toList:=⟨_,rfl⟩
    rw[<-hK] at a0 e0 e1 e2 e3 e4 e5 e6 e7 rI
    have hs:=HS.out
    rw[<-hK] at hs
    obtain ⟨h0,ha,hb,ht,hn⟩:=hs
    have HK:=Lib.hid hK;clear hK
    rw[ha] at e1;rw[hb] at e2;rw[ht] at e3;rw[hn] at e4
    have HA:=Lib.hid ha;have dQ:=Lib.hid hb;have HT:=Lib.hid ht;have HN:=Lib.hid hn;clear ha hb ht hn
    have cH: ¬(cF K).toList=[]:=by rw[Lib.toList_data];exact ag.vY K rI h0
    have gm:(!(cF K).toList.isEmpty)=true:=by simpa using cH
    have zf:(cF K).toList.isEmpty=false:=by simpa using cH
    have H0:=Lib.hid h0
    clear h0
    by_cases oZ:len=1
    .   subst oZ
        go_wp2
        go_loop [9,46] (fun m i=> ∃j:Nat,j<=4/\i= .int .i64 j/\m= .int .i64 (([true,false,true,false].take j).count true:Nat)) (fun _ i=>4 - (intOf i).toNat)
        case atStart=>exact ⟨0,Nat.zero_le _,rfl,rfl⟩
        case round=>
         obtain ⟨j,hj,rfl,rfl⟩:=hrel
         obtain rfl|rfl|rfl|rfl|rfl:j=0\/j=1\/j=2\/j=3\/j=4:=by omega
         . go_wp2;go_round;(case rel=>exact ⟨1,by omega,rfl,rfl⟩);(case measure=>simp[intOf])
         . go_wp2;go_round;(case rel=>exact ⟨2,by omega,rfl,rfl⟩);(case measure=>simp[intOf])
         . go_wp2;go_round;(case rel=>exact ⟨3,by omega,rfl,rfl⟩);(case measure=>simp[intOf])
         . go_wp2;go_round;(case rel=>exact ⟨4,by omega,rfl,rfl⟩);(case measure=>simp[intOf])
         . go_wp2
           refine bodyPost_ret (v:= .tuple #[.agg #[.int .u8 0,.int .i64 0,.string ⟨#[]⟩,.string ⟨#[]⟩,.string ⟨#[]⟩,.int .i64 0],.int .i64 3]) (by simp[results,Tryz.results104,go_sem, *]) rfl (ag.aK HK.out HA.out dQ.out HT.out HN.out (by simp[ag.bB,ag.valOf,ag.bE,H0.out]) ?_);(repeat (first|(with_reducible refine Below.setCell ?_ (by first|(simp;done)|(simp;omega)) _)|(with_reducible refine Below.alloc ?_ (by first|(simp;done)|(simp;omega)) _)|(with_reducible refine ag.below_drewN ?_ _)|(with_reducible exact M4.out)))
    by_cases hlen:len=3
    .   subst hlen
        have r1:wr.cell? ⟨B,off+1,none⟩=some (.string (u 1)):=HR.out 1 (by omega)
        have g1:=HU.out 1 (by omega)
        have r2:wr.cell? ⟨B,off+1+1,none⟩=some (.string (u 2)):=HR.out 2 (by omega)
        have s2:wr.cell? ⟨B,off+1+1,none⟩=some (.string (u 2)):=(congrArg (fun x=>wr.cell? ⟨B,x,none⟩) (by omega)).trans (HR.out 2 (by omega))
        have g2:=HU.out 2 (by omega)
        go_wp2
        go_loop [9,46] (fun m i=> ∃j:Nat,j<=4/\i= .int .i64 j/\m= .int .i64 (([true,false,true,false].take j).count true:Nat)) (fun _ i=>4 - (intOf i).toNat)
        case atStart=>exact ⟨0,Nat.zero_le _,rfl,rfl⟩
        case round=>
         obtain ⟨j,hj,rfl,rfl⟩:=hrel
         obtain rfl|rfl|rfl|rfl|rfl:j=0\/j=1\/j=2\/j=3\/j=4:=by omega
         . go_wp2;go_round;(case rel=>exact ⟨1,by omega,rfl,rfl⟩);(case measure=>simp[intOf])
         . go_wp2;go_round;(case rel=>exact ⟨2,by omega,rfl,rfl⟩);(case measure=>simp[intOf])
         . go_wp2;go_round;(case rel=>exact ⟨3,by omega,rfl,rfl⟩);(case measure=>simp[intOf])
         . go_wp2;go_round;(case rel=>exact ⟨4,by omega,rfl,rfl⟩);(case measure=>simp[intOf])
         . by_cases zg:wt<0
           .  go_wp2_with (first|(go_at_call 174;((with_reducible refine (ag.aH (u 1) _ _ g1).mono ?_);rintro e w' ⟨rfl,rfl⟩))|(go_at_call 174;((with_reducible refine (ag.aH (u 2) _ _ g2).mono ?_);rintro e w' ⟨rfl,rfl⟩))|go_in)
              refine bodyPost_ret (v:= .tuple #[.agg #[.int .u8 0,.int .i64 0,.string ⟨#[]⟩,.string ⟨#[]⟩,.string ⟨#[]⟩,.int .i64 0],.int .i64 41]) (by simp[results,Tryz.results104,go_sem, *]) rfl (ag.aK HK.out HA.out dQ.out HT.out HN.out (by simp[ag.bB,ag.valOf,ag.bE,H0.out,H0.out,zg]) ?_);(repeat (first|(with_reducible refine Below.setCell ?_ (by first|(simp;done)|(simp;omega)) _)|(with_reducible refine Below.alloc ?_ (by first|(simp;done)|(simp;omega)) _)|(with_reducible refine ag.below_drewN ?_ _)|(with_reducible exact M4.out)))
           by_cases Bb:1000<wt
           .  go_wp2_with (first|(go_at_call 174;((with_reducible refine (ag.aH (u 1) _ _ g1).mono ?_);rintro e w' ⟨rfl,rfl⟩))|(go_at_call 174;((with_reducible refine (ag.aH (u 2) _ _ g2).mono ?_);rintro e w' ⟨rfl,rfl⟩))|go_in)
              refine bodyPost_ret (v:= .tuple #[.agg #[.int .u8 0,.int .i64 0,.string ⟨#[]⟩,.string ⟨#[]⟩,.string ⟨#[]⟩,.int .i64 0],.int .i64 41]) (by simp[results,Tryz.results104,go_sem, *]) rfl (ag.aK HK.out HA.out dQ.out HT.out HN.out (by simp[ag.bB,ag.valOf,ag.bE,H0.out,H0.out,Bb]) ?_);(repeat (first|(with_reducible refine Below.setCell ?_ (by first|(simp;done)|(simp;omega)) _)|(with_reducible refine Below.alloc ?_ (by first|(simp;done)|(simp;omega)) _)|(with_reducible refine ag.below_drewN ?_ _)|(with_reducible exact M4.out)))
           rcases ag.ij (iG (u 1) false) with jV|jV
           .  rcases ag.ij (iG (u 2) false) with kz|kz
              . go_wp2_with (first|(go_at_call 174;((with_reducible refine (ag.aH (u 1) _ _ g1).mono ?_);rintro e w' ⟨rfl,rfl⟩))|(go_at_call 174;((with_reducible refine (ag.aH (u 2) _ _ g2).mono ?_);rintro e w' ⟨rfl,rfl⟩))|go_in)
                refine bodyPost_ret (v:= .tuple #[.agg #[.int .u8 K,.int .i64 wt,.string (oI (u 1) false),.string (⟨#[]⟩),.string (oI (u 2) false),.int .i64 (0)],.int .i64 0]) (by simp[results,Tryz.results104,go_sem, *]) rfl (ag.aK HK.out HA.out dQ.out HT.out HN.out (by have gI:=ag.ju (wt:=wt) (by omega) (by omega);simp[ag.bB,ag.valOf,ag.RR.val,H0.out,H0.out,jV,kz,if_neg gI]) ?_);(repeat (first|(with_reducible refine Below.setCell ?_ (by first|(simp;done)|(simp;omega)) _)|(with_reducible refine Below.alloc ?_ (by first|(simp;done)|(simp;omega)) _)|(with_reducible refine ag.below_drewN ?_ _)|(with_reducible exact M4.out)))
              . go_wp2_with (first|(go_at_call 174;((with_reducible refine (ag.aH (u 1) _ _ g1).mono ?_);rintro e w' ⟨rfl,rfl⟩))|(go_at_call 174;((with_reducible refine (ag.aH (u 2) _ _ g2).mono ?_);rintro e w' ⟨rfl,rfl⟩))|go_in)
                refine bodyPost_ret (v:= .tuple #[.agg #[.int .u8 0,.int .i64 0,.string ⟨#[]⟩,.string ⟨#[]⟩,.string ⟨#[]⟩,.int .i64 0],.int .i64 4]) (by simp[results,Tryz.results104,go_sem, *]) rfl (ag.aK HK.out HA.out dQ.out HT.out HN.out (by have gI:=ag.ju (wt:=wt) (by omega) (by omega);simp[ag.bB,ag.valOf,ag.bE,H0.out,H0.out,jV,kz,if_neg gI]) ?_);(repeat (first|(with_reducible refine Below.setCell ?_ (by first|(simp;done)|(simp;omega)) _)|(with_reducible refine Below.alloc ?_ (by first|(simp;done)|(simp;omega)) _)|(with_reducible refine ag.below_drewN ?_ _)|(with_reducible exact M4.out)))
           .  rcases ag.ij (iG (u 2) false) with kz|kz
              . go_wp2_with (first|(go_at_call 174;((with_reducible refine (ag.aH (u 1) _ _ g1).mono ?_);rintro e w' ⟨rfl,rfl⟩))|(go_at_call 174;((with_reducible refine (ag.aH (u 2) _ _ g2).mono ?_);rintro e w' ⟨rfl,rfl⟩))|go_in)
                refine bodyPost_ret (v:= .tuple #[.agg #[.int .u8 0,.int .i64 0,.string ⟨#[]⟩,.string ⟨#[]⟩,.string ⟨#[]⟩,.int .i64 0],.int .i64 4]) (by simp[results,Tryz.results104,go_sem, *]) rfl (ag.aK HK.out HA.out dQ.out HT.out HN.out (by have gI:=ag.ju (wt:=wt) (by omega) (by omega);simp[ag.bB,ag.valOf,ag.bE,H0.out,H0.out,jV,kz,if_neg gI]) ?_);(repeat (first|(with_reducible refine Below.setCell ?_ (by first|(simp;done)|(simp;omega)) _)|(with_reducible refine Below.alloc ?_ (by first|(simp;done)|(simp;omega)) _)|(with_reducible refine ag.below_drewN ?_ _)|(with_reducible exact M4.out)))
              . go_wp2_with (first|(go_at_call 174;((with_reducible refine (ag.aH (u 1) _ _ g1).mono ?_);rintro e w' ⟨rfl,rfl⟩))|(go_at_call 174;((with_reducible refine (ag.aH (u 2) _ _ g2).mono ?_);rintro e w' ⟨rfl,rfl⟩))|go_in)
                refine bodyPost_ret (v:= .tuple #[.agg #[.int .u8 0,.int .i64 0,.string ⟨#[]⟩,.string ⟨#[]⟩,.string ⟨#[]⟩,.int .i64 0],.int .i64 4]) (by simp[results,Tryz.results104,go_sem, *]) rfl (ag.aK HK.out HA.out dQ.out HT.out HN.out (by have gI:=ag.ju (wt:=wt) (by omega) (by omega);simp[ag.bB,ag.valOf,ag.bE,H0.out,H0.out,jV,kz,if_neg gI]) ?_);(repeat (first|(with_reducible refine Below.setCell ?_ (by first|(simp;done)|(simp;omega)) _)|(with_reducible refine Below.alloc ?_ (by first|(simp;done)|(simp;omega)) _)|(with_reducible refine ag.below_drewN ?_ _)|(with_reducible exact M4.out)))
    .   have hd:(((len - 1:Nat):Int) !=2)=true:=by rw[bne_iff_ne];omega
        have Lw:decide (len - 1=2)=false:=by rw[decide_eq_false_iff_not];omega
        go_wp2
        go_loop [9,46] (fun m i=> ∃j:Nat,j<=4/\i= .int .i64 j/\m= .int .i64 (([true,false,true,false].take j).count true:Nat)) (fun _ i=>4 - (intOf i).toNat)
        case atStart=>exact ⟨0,Nat.zero_le _,rfl,rfl⟩
        case round=>
         obtain ⟨j,hj,rfl,rfl⟩:=hrel
         obtain rfl|rfl|rfl|rfl|rfl:j=0\/j=1\/j=2\/j=3\/j=4:=by omega
         . go_wp2;go_round;(case rel=>exact ⟨1,by omega,rfl,rfl⟩);(case measure=>simp[intOf])
         . go_wp2;go_round;(case rel=>exact ⟨2,by omega,rfl,rfl⟩);(case measure=>simp[intOf])
         . go_wp2;go_round;(case rel=>exact ⟨3,by omega,rfl,rfl⟩);(case measure=>simp[intOf])
         . go_wp2;go_round;(case rel=>exact ⟨4,by omega,rfl,rfl⟩);(case measure=>simp[intOf])
         . go_wp2
           refine bodyPost_ret (v:= .tuple #[.agg #[.int .u8 0,.int .i64 0,.string ⟨#[]⟩,.string ⟨#[]⟩,.string ⟨#[]⟩,.int .i64 0],.int .i64 3]) (by simp[results,Tryz.results104,go_sem, *]) rfl (ag.aK HK.out HA.out dQ.out HT.out HN.out (by simp[ag.bB,ag.valOf,ag.bE,H0.out,hlen]) ?_);(repeat (first|(with_reducible refine Below.setCell ?_ (by first|(simp;done)|(simp;omega)) _)|(with_reducible refine Below.alloc ?_ (by first|(simp;done)|(simp;omega)) _)|(with_reducible refine ag.below_drewN ?_ _)|(with_reducible exact M4.out)))
  . intro  e he w2 q1 q2 q3 q4 q5 q6 q7
    obtain ⟨i,hi,rfl,qh⟩:=ag.qU he
    dsimp only[nD,vq] at q1 q7 ⊢
    obtain ⟨c,mg⟩: ∃c,c=i+1:=⟨_,rfl⟩
    rw[<-mg] at q7 ⊢
    have jM:Bc c= .func (.func (80+c)) #[] #[]:=if_neg (by omega)
    rw[jM] at q7 ⊢
    clear jM
    have eT:=Lib.hid mg;clear mg
    have Q1:Hid (w2.heap[w1.heap.size]? =some (.mapIter (some b) 18 (seen.push i) 18)):=Lib.hid q1
    have HI:=Lib.hid qh
    have HO:Hid (w2.os=wr.os/\w2.tape=wr.tape/\w2.output=wr.output/\w2.heap.size=wr.heap.size):=Lib.hid ⟨q2,q3,q4,q5⟩
    have Q6:=Lib.hid q6
    have D8:w1.heap.size<w2.heap.size:=by omega
    have j1:=I1.out.of_heap (q6 _ (by omega))
    have j2:=I2.out.of_heap (q6 _ (by omega))
    have j3:=I3.out.of_heap (q6 _ (by omega))
    have j4:=I4.out.of_heap (q6 _ (by omega))
    have Hl:=I4.out.lt
    have hl:w.heap.size+1+1+1<w2.heap.size:=by omega
    clear q1 q2 q3 q4 q5 q6 he qh a0 a1 a2 a3 a4 a5 a6 e0 e1 e2 e3 e4 e5 e6 e7
    obtain ⟨a0,a1,a2,a3,a4,a5⟩:=j1.mF
    have a6:=j2.one
    obtain ⟨e0,e1,e2,e3,e4,e5,e6,e7⟩:=j4.eight
    have f1:=j1.frozen
    have f4:=j4.frozen
    have J1:=Lib.hid j1
    have J2:=Lib.hid j2
    have J3:=Lib.hid j3
    have J4:=Lib.hid j4
    clear j1 j2 j3 j4
    have qE: ∀i,i<len->w2.cell? ⟨B,off+i,none⟩=some (.string (u i)):=fun i hi=>by
        rw[<-hc i hi, <-M4.out.cell (p:=⟨B,off+i,none⟩) hB]
        exact o3 (Q6.out B (by omega)) _
    have sL:=qE 0 (by omega)
    rw[Nat.add_zero] at sL
    clear qE
    have HC:=Lib.hid hc;clear hc
    have ze:=Lib.hid cE;clear cE
    have rH:w.heap.size<w2.heap.size:=by omega
    have oH:w.heap.size+1<w2.heap.size:=by omega
    have mb:w.heap.size+1+1<w2.heap.size:=by omega
    have zc:B<w2.heap.size:=by omega
    have jv:Hid (w2.heap[b]? =some (.map bD 18)):=Lib.hid (by rw[Q6.out b (by omega)];exact M1.out)
    have jw:Hid (Below w.heap.size w w2):=Lib.hid (ag.nE M4.out HO.out Q6.out (by omega))
    by_cases heq:((cF c).toList==(u 0).toList)=true
    .   have HQ:Hid (kindOf (u 0).data.toList=c):=Lib.hid (ag.qV (by have:=eT.out;omega) (by have:=eT.out;omega) heq)
        go_wp2
        go_quiet (fail)
        go_wp2
        go_region
        all_goals
         go_roundw
         case rel=>
           (repeat apply Exists.intro)
           exact ⟨(ag.gZ HQ.out eT.out jv.out Q1.out jw.out (by omega) (by omega) (by omega) J1.out J2.out J3.out J4.out).1,rfl⟩
         case measure=>
           rw[ag.cZ M1.out M2.out]
           exact Nat.lt_of_le_of_lt (Nat.le_of_eq (ag.gZ HQ.out eT.out jv.out Q1.out jw.out (by omega) (by omega) (by omega) J1.out J2.out J3.out J4.out).2) (ag.jA hi HI.out)
    .   have tj:((cF c).toList==(u 0).toList)=false:=by simpa using heq
        clear heq
        have HQ:Hid (kindOf (u 0).data.toList≠i+1):=Lib.hid (by rw[<-eT.out];exact ag.o4 (by have:=eT.out;omega) tj)
        go_wp2
        go_quiet (fail)
        go_wp2
        go_roundw
        case rel=>
         exact (ag.fI HQ.out jv.out Q1.out jw.out (by omega) (by omega) (by omega) J1.out J2.out J3.out J4.out).1
        case measure=>
         rw[ag.cZ M1.out M2.out]
         exact Nat.lt_of_le_of_lt (Nat.le_of_eq (ag.fI HQ.out jv.out Q1.out jw.out (by omega) (by omega) (by omega) J1.out J2.out J3.out J4.out).2) (ag.jA hi HI.out)
end Go.Proofs
end
