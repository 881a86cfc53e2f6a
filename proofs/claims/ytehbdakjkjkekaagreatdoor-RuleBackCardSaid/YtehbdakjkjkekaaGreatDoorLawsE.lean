/- What the statements' own package makes of numbers: rules, a problem; what it does with lists; the law. -/
import Derived.Test.YtehbdakjkjkekaaGreatDoorLawsD
import Derived.Test.YtehbdakjkjkekaaGreatDoorLawsA
import Derived.Test.YtehbdakjkjkekaaGreatDoorLawsC
import Derived.Test.YtehbdakjkjkekaaGreatDoorEvalE
import Derived.Test.YtehbdakjkjkekaaGreatDoorRows
set_option linter.all false
set_option linter.unusedSectionVars false
set_option linter.deprecated false
section
set_option maxRecDepth 100000
namespace Go.Proofs.YtehbdakjkjkekaaGreatDoor
open Go Go.Ai Go.Proofs
def j7 (gs:List bX) (i:Nat):List Nat:=match gs[i]? with|some g=>g.name|none=>[]
def uH (gs:List bX) (i:Nat):List Nat:=match gs[i]? with|some g=>g.tP|none=>[]
def rq (ts:List dN) (i:Nat):List Nat:=match ts[i]? with|some t=>t.name|none=>[]
def sg (ts:List dN) (i:Nat):Int:=match ts[i]? with|some t=>iM t.sh t.a t.b|none=>0
def Cb (ts:List dN) (gs:List bX) (k wt a b t n z:Nat):Rl×Bool:=
 if k=1\/k=2\/k=3\/k=4\/k=5 then (⟨k,wt,j7 gs a,j7 gs b,[],if k=4 then ((n+1:Nat):Int) else if k=1 then (n:Int) else 0⟩,decide (a≠b))
 else if k=6\/k=7 then (⟨k,wt,j7 gs a,[],rq ts t,if k=7 then ((z / 13:Nat):Int) % sg ts t else 0⟩,true)
 else if k=10 then (⟨k,wt,if z % 3=0 then j7 gs a else [],[],[],0⟩,true)
 else if k=17 then (⟨k,wt,uH gs a,[],rq ts t,0⟩,decide (uH gs a≠[]))
 else (⟨k,wt,[],[],if 0<z % 3 then rq ts t else [],if k=15\/k=16 then (n:Int) else 0⟩,true)
def D3 (y:Nat):Nat:=if 1<y % 5 then 1+y % 7 else 0
def fI (ts:List dN) (gs:List bX) (x:Nat):Rl×Bool:=
 if gs.length=0\/ts.length=0 then (⟨((1+x % 18:Nat):Int),(D3 (x / 18):Int),[],[],[],0⟩,false)
 else Cb ts gs (1+x % 18) (D3 (x / 18)) (x / 18 / 5 % gs.length) (x / 18 / 5 / gs.length % gs.length) (x / 18 / 5 / 7 % ts.length) (x / 18 / 5 / 11 % 4) (x / 18 / 5)
def gL (r:Rl):Prop:= ∃m:Nat,r.k=(m:Int)/\1<=m/\m<=18/\qw (kd m) r
theorem PB (i:Nat):jF (dr i)=true:=by
 unfold jF dr
 have h1:i / 26 % 26<26:=Nat.mod_lt _ (by omega)
 have h2:i % 26<26:=Nat.mod_lt _ (by omega)
 simp
 omega
theorem ZE (i:Nat):jF (fq i)=true:=by
 unfold jF fq
 have h2:i % 26<26:=Nat.mod_lt _ (by omega)
 simp
 omega
theorem VX {ts:List dN} {gs:List bX} (hg: ∀g∈gs,jF g.name=true/\(g.tP=[]\/jF g.tP=true)) (ht: ∀t∈ts,jF t.name=true/\0<iM t.sh t.a t.b/\iM t.sh t.a t.b<=1000) (x:Nat) (h:(fI ts gs x).2=true):gL (fI ts gs x).1:=by
 unfold fI at h ⊢
 by_cases h0:gs.length=0\/ts.length=0
 . rw[if_pos h0] at h;cases h
 rw[if_neg h0] at h ⊢
 have hw:(D3 (x / 18))<=7:=by unfold D3;split<;>omega
 have ha:x / 18 / 5 % gs.length<gs.length:=Nat.mod_lt _ (by omega)
 have hb:x / 18 / 5 / gs.length % gs.length<gs.length:=Nat.mod_lt _ (by omega)
 have b7:x / 18 / 5 / 7 % ts.length<ts.length:=Nat.mod_lt _ (by omega)
 have hn:x / 18 / 5 / 11 % 4<4:=Nat.mod_lt _ (by omega)
 have k1:1<=1+x % 18:=by omega
 have k2:1+x % 18<=18:=by omega
 generalize 1+x % 18=k at*
 generalize D3 (x / 18)=w at*
 generalize x / 18 / 5=z at*
 generalize z % gs.length=a at*
 generalize z / gs.length % gs.length=b at*
 generalize z / 7 % ts.length=t at*
 generalize z / 11 % 4=n at*
 have g1:jF (j7 gs a)=true:=by unfold j7;rw[List.getElem?_eq_getElem ha];exact (hg _ (List.getElem_mem ha)).1
 have g2:jF (j7 gs b)=true:=by unfold j7;rw[List.getElem?_eq_getElem hb];exact (hg _ (List.getElem_mem hb)).1
 have g3:uH gs a=[]\/jF (uH gs a)=true:=by unfold uH;rw[List.getElem?_eq_getElem ha];exact (hg _ (List.getElem_mem ha)).2
 have g4:jF (rq ts t)=true:=by unfold rq;rw[List.getElem?_eq_getElem b7];exact (ht _ (List.getElem_mem b7)).1
 have g5:0<sg ts t/\sg ts t<=1000:=by unfold sg;rw[List.getElem?_eq_getElem b7];exact (ht _ (List.getElem_mem b7)).2
 have g6:0<=((z / 13:Nat):Int) % sg ts t/\((z / 13:Nat):Int) % sg ts t<=999999999:=⟨Int.emod_nonneg _ (by omega),by have:=Int.emod_lt_of_pos ((z / 13:Nat):Int) g5.1;omega⟩
 clear hg ht ha hb b7 h0 g5
 refine ⟨k,?_,k1,k2,?_⟩
 . unfold Cb;repeat' split
   all_goals rfl
 rcases ri k1 k2 with rfl|rfl|rfl|rfl|rfl|rfl|rfl|rfl|rfl|rfl|rfl|rfl|rfl|rfl|rfl|rfl|rfl|rfl
 all_goals
   unfold Cb at h ⊢
   unfold qw fW
   simp[kd] at h ⊢
   first
   |omega
   |(refine ⟨by omega,?_⟩;grind)
   |grind
theorem gL.other {r:Rl} (h:gL r) {w n:Int} (hw:0<=w/\w<=1000) (hn:n=r.n\/((r.k=1\/r.k=4\/r.k=7\/r.k=15\/r.k=16)/\0<=n/\n<=999999999)):gL { r with wt:=w,n:=n }:=by
 obtain ⟨m,hm,h1,h2,_,h4,h5,h6⟩:=h
 refine ⟨m,hm,h1,h2,hw,?_,fun hf=> ?_,h6⟩
 . rcases hn with rfl|⟨_,hn⟩
   . exact h4
   . exact hn
 . rcases hn with rfl|⟨hk,_⟩
   . exact h5 hf
   . exfalso
     rw[hm] at hk
     have:m=1\/m=4\/m=7\/m=15\/m=16:=by omega
     rcases this with rfl|rfl|rfl|rfl|rfl<;>simp[kd] at hf
theorem gL.range {r:Rl} (h:gL r):(0<=r.k/\r.k<256)/\pK r=true:=by
 obtain ⟨m,hm,h1,h2,h3⟩:=h
 exact ⟨by omega,(o6 hm h1 h2).2 h3⟩
end Go.Proofs.YtehbdakjkjkekaaGreatDoor
end
section
set_option maxRecDepth 100000
namespace Go.Proofs.YtehbdakjkjkekaaGreatDoor
open Go Go.Ai Go.Proofs
theorem gL.fok {r:Rl} (h:gL r):uB r=true:=(Gt h.range.1).trans h.range.2
theorem IC: ∀(rs:List Rl) (acc:List Nat),(∀r∈rs,gL r)->kW rs acc=acc++(rs.map dR).flatten
 |[],acc,_=>by simp[kW]
 |r::rs,acc,h=>by
  unfold kW
  rw[if_pos (h r (by simp)).fok,IC rs _ fun q hq=>h q (List.mem_cons_of_mem _ hq)]
  simp
theorem KC {rs:List Rl} (h: ∀r∈rs,gL r) (hl:rs.length<=64):fmtS rs=(rs.map dR).flatten:=by
 unfold fmtS
 rw[if_neg (by omega),IC rs [] h,List.nil_append]
theorem D4 {r:Rl} (h:gL r): ∃w,dR r=w++[10]/\ ∀x∈w,x<256/\x≠10:=by
 obtain ⟨m,hm,h1,h2,hk⟩:=h
 refine ⟨e8 [32] (fj (kd r.k.toNat) r),rfl,fun x hx=> ?_⟩
 have e:r.k.toNat=m:=by omega
 rw[e] at hx
 exact Gu (B7 h1 h2 hk) x hx
theorem FQ: ∀{rs:List Rl},(∀r∈rs,gL r)->(rs.map dR).flatten.count 10=rs.length
 |[],_=>rfl
 |r::rs,h=>by
  obtain ⟨w,e,hw⟩:=D4 (h r (by simp))
  have ih:=FQ fun q hq=>h q (List.mem_cons_of_mem _ hq)
  have h0:w.count 10=0:=List.count_eq_zero.2 fun hx=>(hw 10 hx).2 rfl
  rw[List.map_cons,List.flatten_cons,List.count_append,ih,e,List.count_append,h0]
  simp
  omega
theorem ID: ∀{rs:List Rl},(∀r∈rs,gL r)->(rs.map dR).flatten=[]\/ ∃u,(rs.map dR).flatten=u++[10]
 |[],_=> .inl rfl
 |r::rs,h=>by
  obtain ⟨w,e,hw⟩:=D4 (h r (by simp))
  rw[List.map_cons,List.flatten_cons,e]
  rcases ID fun q hq=>h q (List.mem_cons_of_mem _ hq) with h0|⟨u,h0⟩
  . rw[h0];exact .inr ⟨w,by simp⟩
  . rw[h0];exact .inr ⟨w++[10]++u,by simp⟩
theorem Ox {rs:List Rl} (h: ∀r∈rs,gL r):(rs.map dR).flatten.length<=rs.length*1000:=
 DY rs fun r hr=>M9 (h r hr).range.1 (h r hr).range.2
theorem D5 {a:Int} {s:List Nat} (h:fW a s):s.length<=12/\ ∀x∈s,x<256:=by
 refine ⟨M8 h,?_⟩
 unfold fW at h
 split at h
 . rw[h];simp
 . split at h
   . rcases h with h|h
     . rw[h];simp
     . exact fun x hx=>by have:=(fR h).2.2 x hx;omega
   . exact fun x hx=>by have:=(fR h).2.2 x hx;omega
theorem gL.near {r:Rl} (h:gL r):r.VR:=by
 obtain ⟨m,hm,h1,h2,hw,hn,_,ha,hb,ht⟩:=h
 obtain ⟨a1,a2⟩:=D5 ha
 obtain ⟨t1,t2⟩:=D5 ht
 have b12:r.b.length<=12/\ ∀x∈r.b,x<256:=by
   split at hb
   . exact ⟨(fR hb).2.1,fun x hx=>by have:=(fR hb).2.2 x hx;omega⟩
   . rw[hb];simp
 refine ⟨by omega,by omega,by omega,by omega,fun x hx=> ?_⟩
 rcases List.mem_append.1 hx with hx|hx
 . exact a2 x hx
 . rcases List.mem_append.1 hx with hx|hx
   . exact b12.2 x hx
   . exact t2 x hx
theorem Ti {rs:List Rl} (h: ∀r∈rs,gL r) (h0:rs≠[]) (hl:rs.length<=64):fmtS rs≠[]:=by
 rw[KC h hl]
 cases rs with
 |nil=>exact absurd rfl h0
 |cons r rs=>
  obtain ⟨w,e,_⟩:=D4 (h r (by simp))
  rw[List.map_cons,List.flatten_cons,e]
  simp
end Go.Proofs.YtehbdakjkjkekaaGreatDoor
end
section
set_option maxRecDepth 100000
namespace Go.Proofs.YtehbdakjkjkekaaGreatDoor
open Go Go.Ai Go.Proofs
variable {c : ak}
theorem D6 {cs row:List AV} {o n:Nat} (hl:row.length=n) (h0:0<n) (h: ∀(j:Nat) (u:AV),row[j]? =some u->cs[o+j]? =some u):cut cs o n=some row:=by
 have h1:=h (n - 1) row[n - 1] (List.getElem?_eq_getElem (by omega))
 have h2:=(List.getElem?_eq_some_iff.1 h1).1
 unfold cut
 have:Nat.ble (o+n) cs.length=true:=by rw[Nat.ble_eq];omega
 rw[this]
 simp only
 congr 1
 refine List.ext_getElem? fun i=> ?_
 rw[List.getElem?_take]
 split
 . rename_i hi
   rw[List.getElem?_drop,h i _ (List.getElem?_eq_getElem (by omega)),List.getElem?_eq_getElem (by omega)]
 . rw[List.getElem?_eq_none (by omega)]
theorem TS.row {s0 s:St} {V:AV} {ts:List dN} {rows:List (List AV)} (h:TS s0 s V ts rows) {i:Nat} (hi:i<ts.length):
   ∃b off cap cs v,V= .slice b off rows.length cap 7/\s.heap.get b=some (.cells cs 0)/\cut cs (off+i*7) 7=some (ts[i].bD v)/\cs[off+i*7]? =some (.str ts[i].name):=by
 have hr:i<rows.length:=by rw[h.len];exact hi
 obtain ⟨b,off,cap,cs,e,g1,g2⟩:=IA h.out.own h.out.row hr
 obtain ⟨v,e1,_,_⟩:=h.j5 i ts[i] rows[i] (List.getElem?_eq_getElem hi) (List.getElem?_eq_getElem hr)
 refine ⟨b,off,cap,cs,v,e,g1,?_,?_⟩
 . rw[<-e1];exact D6 (h.out.row _ (List.getElem_mem hr)) (by omega) g2
 . have:=g2 0 (.str ts[i].name) (by rw[e1];rfl)
   rwa [Nat.add_zero] at this
theorem GS.row {s0 s:St} {V:AV} {gs:List bX} {rows:List (List AV)} (h:GS s0 s V gs rows) {i:Nat} (hi:i<gs.length):
   ∃b off cap cs v,V= .slice b off rows.length cap 9/\s.heap.get b=some (.cells cs 0)/\cut cs (off+i*9) 9=some (gs[i].bD v)/\cs[off+i*9]? =some (.str gs[i].name)/\cs[off+i*9+5]? =some (.str gs[i].tP):=by
 have hr:i<rows.length:=by rw[h.len];exact hi
 obtain ⟨b,off,cap,cs,e,g1,g2⟩:=IA h.out.own h.out.row hr
 obtain ⟨v,e1,_,_⟩:=h.j5 i gs[i] rows[i] (List.getElem?_eq_getElem hi) (List.getElem?_eq_getElem hr)
 refine ⟨b,off,cap,cs,v,e,g1,?_,?_,?_⟩
 . rw[<-e1];exact D6 (h.out.row _ (List.getElem_mem hr)) (by omega) g2
 . have:=g2 0 (.str gs[i].name) (by rw[e1];rfl)
   rwa [Nat.add_zero] at this
 . exact g2 5 (.str gs[i].tP) (by rw[e1];rfl)
theorem QS.Yi {R:Type} {es:Nat} {s:St} {v:AV} {rows:List (List AV)} (h:QS es s v rows) (K:AV->Option R):aJ (.lenB .l) [v] K=K (.int .i64 (rows.length:Int)):=by
 rcases h with ⟨rfl,rfl⟩|⟨b,off,cap,cs,rfl,_⟩|⟨b,off,rfl,rfl⟩<;>exact iY K (fun H n=>rfl)
abbrev dV (k w:Int) (a b t:List Nat) (n:Int):List AV:=[.int .u8 k,.int .i64 w,.str a,.str b,.str t,.int .i64 n]
theorem ZF (k w n w':Int) (a b t:List Nat) (s:St) (K:AV->St->Option (AV×St)):ag c (.store 1) [.ptr s.next 1,.int .i64 w'] (ay s (.cells (dV k w a b t n) 0)) K=K .undef (ay s (.cells (dV k w' a b t n) 0)):=iu s _ 1 (.int .i64 w') (by simp) rfl rfl K
theorem PC (k w n:Int) (a b t u:List Nat) (s:St) (K:AV->St->Option (AV×St)):ag c (.store 1) [.ptr s.next 2,.str u] (ay s (.cells (dV k w a b t n) 0)) K=K .undef (ay s (.cells (dV k w u b t n) 0)):=iu s _ 2 (.str u) (by simp) rfl rfl K
theorem ZG (k w n:Int) (a b t u:List Nat) (s:St) (K:AV->St->Option (AV×St)):ag c (.store 1) [.ptr s.next 3,.str u] (ay s (.cells (dV k w a b t n) 0)) K=K .undef (ay s (.cells (dV k w a u t n) 0)):=iu s _ 3 (.str u) (by simp) rfl rfl K
theorem PD (k w n:Int) (a b t u:List Nat) (s:St) (K:AV->St->Option (AV×St)):ag c (.store 1) [.ptr s.next 4,.str u] (ay s (.cells (dV k w a b t n) 0)) K=K .undef (ay s (.cells (dV k w a b u n) 0)):=iu s _ 4 (.str u) (by simp) rfl rfl K
theorem vY (k w n n':Int) (a b t:List Nat) (s:St) (K:AV->St->Option (AV×St)):ag c (.store 1) [.ptr s.next 5,.int .i64 n'] (ay s (.cells (dV k w a b t n) 0)) K=K .undef (ay s (.cells (dV k w a b t n') 0)):=iu s _ 5 (.int .i64 n') (by simp) rfl rfl K
theorem adv {ts:List dN} (h: ∀t∈ts,0<iM t.sh t.a t.b/\iM t.sh t.a t.b<=1000) {t:Nat} (ht:t<ts.length):sg ts t=iM ts[t].sh ts[t].a ts[t].b/\0<sg ts t/\sg ts t<=1000:=by
 have e:sg ts t=iM ts[t].sh ts[t].a ts[t].b:=by unfold sg;rw[List.getElem?_eq_getElem ht]
 rw[e]
 exact ⟨rfl,h _ (List.getElem_mem ht)⟩
set_option maxHeartbeats 4000000 in
theorem VY (hc:dS   c) {s0 s:St} {V1 V2 V3 V4 V5:AV} {ts:List dN} {gs:List bX} {r1 r2:List (List AV)} (hT:TS s0 s V1 ts r1) (hG:GS s0 s V2 gs r2) (lt:ts.length<=1000) (lg:gs.length<=1000)
   (hz: ∀t∈ts,0<iM t.sh t.a t.b/\iM t.sh t.a t.b<=1000) (ha: ∀t∈ts,(0<=t.a/\t.a<=1000000)/\0<=t.b/\t.b<=1000000) (x:Nat) (hx:x<4294967296):
   c 50 [.agg [V1,V2,V3,V4,V5],.int .i64 (x:Int)] s=some (.tuple [.agg (fI ts gs x).1.cells,.bool (fI ts gs x).2],s):=by
 have hw:=hT.out.aS.wf
 have plain: ∀(r:Rl) (b:Bool),Plain (.tuple [.agg r.cells,.bool b]):=fun r b=>Plain.tuple fun v hv=>by
   simp only[List.mem_cons,List.not_mem_nil,or_false] at hv
   rcases hv with rfl|rfl
   . exact Plain.agg fun v hv=>by
        simp only[Rl.cells,List.mem_cons,List.not_mem_nil,or_false] at hv
        rcases hv with rfl|rfl|rfl|rfl|rfl|rfl<;>first|exact Plain.int _ _|exact Plain.str _
   . exact Plain.bool _
 suffices key: ∃s',jG c 1 (.agg [V1,V2,V3,V4,V5]) (.int .i64 (x:Int)) s=some (.tuple [.agg (fI ts gs x).1.cells,.bool (fI ts gs x).2],s')/\dz s s' by
   obtain ⟨s',k1,k2⟩:=key
   rw[zf hc 1 (r:=(.tuple [.agg (fI ts gs x).1.cells,.bool (fI ts gs x).2],s')) k1,mY (plain _ _) k2]
 have fK:Wf (ay s (.cells [V1,V2,V3,V4,V5] 0)):=fX hw
 have g1:=Grew.ay hw (.cells [V1,V2,V3,V4,V5] 0)
 have mJ:Wf (ay (ay s (.cells [V1,V2,V3,V4,V5] 0)) (.cells (dV 0 0 [] [] [] 0) 0)):=fX fK
 have g2:=Grew.ay fK (.cells (dV 0 0 [] [] [] 0) 0)
 have g12:=g1.trans g2
 obtain ⟨s2,Kh⟩: ∃s2,s2=ay (ay s (.cells [V1,V2,V3,V4,V5] 0)) (.cells (dV 0 0 [] [] [] 0) 0):=⟨_,rfl⟩
 obtain ⟨p4,hp4⟩: ∃p4,p4=(ay s (.cells [V1,V2,V3,V4,V5] 0)).next:=⟨_,rfl⟩
 have VZ:Wf s2:=by rw[Kh];exact mJ
 have Q5:Grew s s2:=by rw[Kh];exact g12
 have b2:s2.heap.get s.next=some (.cells [V1,V2,V3,V4,V5] 0):=by rw[Kh];exact g2.get (bh _ _)
 have b4:s2.heap.get p4=some (.cells (dV 0 0 [] [] [] 0) 0):=by rw[Kh,hp4];exact bh _ _
 have n4:s.next.toNat<p4.toNat:=by rw[hp4,dx,Pos.az];omega
 have n6:p4.toNat<s2.next.toNat:=VZ _ _ b4
 have gS: ∀b:AB,Grew s2 (ay s2 b):=fun b=>Grew.ay VZ b
 have hP: ∀b:AB,(ay s2 b).heap.get s.next=some (.cells [V1,V2,V3,V4,V5] 0):=fun b=>(gS b).get b2
 have hX: ∀b:AB,(ay s2 b).heap.get p4=some (.cells (dV 0 0 [] [] [] 0) 0):=fun b=>(gS b).get b4
 have fin: ∀(k w n:Int) (a b t:List Nat) (K:AV->St->Option (AV×St)),ag c (.store 6) [.ptr p4 0,.agg (dV k w a b t n)] (ay s2 (.cells (dV k w a b t n) 0)) K=K .undef (ew (ay s2 (.cells (dV k w a b t n) 0)) p4 (.cells (dV k w a b t n) 0)):=fun k w n a b t K=>by
   rw[eM c K _ 6 p4 0 (.agg (dV k w a b t n)) _ (hX _) rfl (by simp) rfl]
   rfl
 have kp: ∀(k w n:Int) (a b t:List Nat),dz s (ew (ay s2 (.cells (dV k w a b t n) 0)) p4 (.cells (dV k w a b t n) 0)):=fun k w n a b t q y hq=>by
   have:=hw _ _ hq
   rw[bV (fun e=>by subst e;omega)]
   exact (Q5.trans (gS _)).get hq
 have cu: ∀(k w n:Int) (a b t:List Nat),cut (dV k w a b t n) 0 6=some (dV k w a b t n):=fun k w n a b t=>ig rfl
 obtain ⟨Q,hQ⟩: ∃Q:Option (AV×St)->Prop,Q=fun o=> ∃s',o=some (.tuple [.agg (fI ts gs x).1.cells,.bool (fI ts gs x).2],s')/\dz s s':=⟨_,rfl⟩
 have tS: ∀(k w n:Int) (a b t:List Nat) (bb:Bool),(⟨k,w,a,b,t,n⟩:Rl)=(fI ts gs x).1->bb=(fI ts gs x).2->Q (some (.tuple [.agg (dV k w a b t n),.bool bb],ew (ay s2 (.cells (dV k w a b t n) 0)) p4 (.cells (dV k w a b t n) 0))):=fun k w n a b t bb h1 h2=>by
   rw[hQ]
   exact ⟨_,by rw[<-h1, <-h2];rfl,kp _ _ _ _ _ _⟩
 have yA:Q (jG c 1 (.agg [V1,V2,V3,V4,V5]) (.int .i64 (x:Int)) s)-> ∃s',jG c 1 (.agg [V1,V2,V3,V4,V5]) (.int .i64 (x:Int)) s=some (.tuple [.agg (fI ts gs x).1.cells,.bool (fI ts gs x).2],s')/\dz s s':=fun h=>by rw[hQ] at h;exact h
 apply yA
 clear yA
 obtain ⟨r,hr⟩: ∃r:Nat,r=x % 18:=⟨_,rfl⟩
 obtain ⟨k,hk⟩: ∃k:Nat,k=1+x % 18:=⟨_,rfl⟩
 obtain ⟨y,hy⟩: ∃y:Nat,y=x / 18:=⟨_,rfl⟩
 obtain ⟨y5,hy5⟩: ∃y5:Nat,y5=y % 5:=⟨_,rfl⟩
 obtain ⟨y7,hy7⟩: ∃y7:Nat,y7=y % 7:=⟨_,rfl⟩
 obtain ⟨z,hz5⟩: ∃z:Nat,z=y / 5:=⟨_,rfl⟩
 obtain ⟨w,lF⟩: ∃w:Nat,w=D3 y:=⟨_,rfl⟩
 have E1:(x:Int) % 18=(r:Int):=by omega
 have W1:aW .i64 (1+(r:Int))=(k:Int):=(wrap64 (by omega) (by omega)).trans (by omega)
 have W8:aW .u8 (k:Int)=(k:Int):=ua (by omega) (by omega)
 have E2:(x:Int) / 18=(y:Int):=by omega
 have E3:(y:Int) % 5=(y5:Int):=by omega
 have E4:(y:Int) % 7=(y7:Int):=by omega
 have W2:aW .i64 (1+(y7:Int))=1+(y7:Int):=wrap64 (by omega) (by omega)
 have E5:(y:Int) / 5=(z:Int):=by omega
 obtain ⟨g,hg⟩: ∃g,g=gs.length:=⟨_,rfl⟩
 obtain ⟨T,hTl⟩: ∃T,T=ts.length:=⟨_,rfl⟩
 have pl2: ∀(K:AV->Option (AV×St)),aJ (.lenB .l) [V2] K=K (.int .i64 (g:Int)):=fun K=>by rw[hg, <-hG.len];exact QS.Yi hG.out.own K
 have pl1: ∀(K:AV->Option (AV×St)),aJ (.lenB .l) [V1] K=K (.int .i64 (T:Int)):=fun K=>by rw[hTl, <-hT.len];exact QS.Yi hT.out.own K
 have Yj: ∀(l:List AV) (K:AV->Option (AV×St)),ei (.load none) [.ptr s.next (0+1)] (ay s2 (.cells l 0)).heap (fun _=>true) K=K V2:=fun l K=>by rw[oa,hP];rfl
 have rd0: ∀(l:List AV) (K:AV->Option (AV×St)),ei (.load none) [.ptr s.next (0+0)] (ay s2 (.cells l 0)).heap (fun _=>true) K=K V1:=fun l K=>by rw[oa,hP];rfl
 have FK: ∀(k':Int) (s':St) (K:AV->St->Option (AV×St)),ag c (.build [.int .u8 0,.int .i64 0,.str [],.str [],.str [],.int .i64 0] [(0,1)]) [.int .u8 k'] s' K=K (.agg (dV k' 0 [] [] [] 0)) s':=fun k' s' K=>rfl
 have sto0: ∀(k':Int) (K:AV->St->Option (AV×St)),ag c (.store 6) [.ptr s2.next 0,.agg (dV k' 0 [] [] [] 0)] (ay s2 (.cells (dV 0 0 [] [] [] 0) 0)) K=K .undef (ay s2 (.cells (dV k' 0 [] [] [] 0) 0)):=fun k' K=>bY c K s2 6 (.agg (dV k' 0 [] [] [] 0)) (dV 0 0 [] [] [] 0) rfl rfl rfl
 rw[jG]
 rw[Jl,iJ,show AV.cells (.agg [V1,V2,V3,V4,V5])=[V1,V2,V3,V4,V5] from rfl, <-Kh, <-hp4,aT,aT,bL (by omega) (by omega),E1,Pb,W1,Vq,W8,FK,iJ,sto0,aT,eZ (by omega) (by omega) (by omega),E2,aT]
 refine ja (P:=fun j=>Q (j [.int .i64 (y:Int),.ptr s.next 0,.ptr p4 0,.ptr s2.next 0] (ay s2 (.cells (dV k w [] [] [] 0) 0)))) ?_ ?_
 . rw[  aM, aM, aM, aM,mX,aT,eZ (by omega) (by omega) (by omega),E5,aT,aY,Yj,pl2,aY,rd0,pl1,eF,eF,aT,fu,aT]
   by_cases hg0:g=0
   . rw[decide_eq_true (show (g:Int)=0 by omega),SH,SH,Qy,pH]
     have hR:fI ts gs x=(⟨(k:Int),(w:Int),[],[],[],0⟩,false):=by
        unfold fI;rw[if_pos (.inl (by omega)), <-hk, <-hy, <-lF]
     have:=tS k w 0 [] [] [] false (by rw[hR]) (by rw[hR])
     simp[cu,fin]
     exact this
   rw[decide_eq_false (show ¬(g:Int)=0 by omega),qZ,aT,qZ,fu,QA]
   by_cases hT0:T=0
   . rw[decide_eq_true (show (T:Int)=0 by omega),pH]
     have hR:fI ts gs x=(⟨(k:Int),(w:Int),[],[],[],0⟩,false):=by
        unfold fI;rw[if_pos (.inr (by omega)), <-hk, <-hy, <-lF]
     have:=tS k w 0 [] [] [] false (by rw[hR]) (by rw[hR])
     simp[cu,fin]
     exact this
   rw[decide_eq_false (show ¬(T:Int)=0 by omega),qu]
   obtain ⟨a,ea⟩: ∃a:Nat,a=z % g:=⟨_,rfl⟩
   obtain ⟨zg,ezg⟩: ∃zg:Nat,zg=z / g:=⟨_,rfl⟩
   obtain ⟨b,eb⟩: ∃b:Nat,b=zg % g:=⟨_,rfl⟩
   obtain ⟨z7,ez7⟩: ∃z7:Nat,z7=z / 7:=⟨_,rfl⟩
   obtain ⟨t,et⟩: ∃t:Nat,t=z7 % T:=⟨_,rfl⟩
   obtain ⟨Tj,ez11⟩: ∃Tj:Nat,Tj=z / 11:=⟨_,rfl⟩
   obtain ⟨n,en⟩: ∃n:Nat,n=Tj % 4:=⟨_,rfl⟩
   have hR:fI ts gs x=Cb ts gs k w a b t n z:=by
     unfold fI
     rw[if_neg (by omega), <-hk, <-hy, <-lF, <-hz5, <-hg, <-hTl, <-ea, <-ezg, <-eb, <-ez7, <-et, <-ez11, <-en]
   have Ea:(z:Int) % (g:Int)=(a:Int):=by rw[ea];exact (Int.natCast_emod _ _).symm
   have Ezg:(z:Int) / (g:Int)=(zg:Int):=by rw[ezg];exact (Int.natCast_ediv _ _).symm
   have Eb:(zg:Int) % (g:Int)=(b:Int):=by rw[eb];exact (Int.natCast_emod _ _).symm
   have Ez7:(z:Int) / 7=(z7:Int):=by omega
   have Et:(z7:Int) % (T:Int)=(t:Int):=by rw[et];exact (Int.natCast_emod _ _).symm
   have Ez11:(z:Int) / 11=(Tj:Int):=by omega
   have En:(Tj:Int) % 4=(n:Int):=by omega
   have za:a<g:=by rw[ea];exact Nat.mod_lt _ (by omega)
   have zb:b<g:=by rw[eb];exact Nat.mod_lt _ (by omega)
   have zt:t<T:=by rw[et];exact Nat.mod_lt _ (by omega)
   have gp:0<(g:Int):=by omega
   have Tp:0<(T:Int):=by omega
   rw[eF,eF,BW (by omega) gp,Ea,eF,eF,MI (by omega) (by omega) gp,Ezg,eF,BW (by omega) gp,Eb,eF,MI (by omega) (by omega) (by omega),Ez7,eF,BW (by omega) Tp,Et,eF,eF,eF,
     aT,eZ (by omega) (by omega) (by omega),Ez11,bL (by omega) (by omega),En,aT]
   clear Ea Ezg Eb Ez7 Et Ez11 En ea ezg eb ez7 et ez11
   have vk:1<=k:=by omega
   have jC:k<=18:=by omega
   obtain ⟨bA,oA,P8,csA,vA,eA,hA,_,nA,dA⟩:=hG.row (i:=a) (by omega)
   obtain ⟨bB,oB,capB,csB,vB,eB,hB,_,nB,_⟩:=hG.row (i:=b) (by omega)
   obtain ⟨bT,oT,capT,csT,vT,eT,hTb,cT,nT⟩:=hT.row (i:=t) (by omega)
   have gA:gs[a].name=j7 gs a/\gs[a].tP=uH gs a:=by unfold j7 uH;rw[List.getElem?_eq_getElem (by omega)];exact ⟨rfl,rfl⟩
   have gB:gs[b].name=j7 gs b:=by unfold j7;rw[List.getElem?_eq_getElem (by omega)]
   have gT:ts[t].name=rq ts t:=by unfold rq;rw[List.getElem?_eq_getElem (by omega)]
   rw[gA.1] at nA
   rw[gA.2] at dA
   rw[gB] at nB
   rw[gT] at nT
   have Q7: ∀l:List AV,(ay s2 (.cells l 0)).heap.get bA=some (.cells csA 0):=fun l=>(gS _).get (Q5.get hA)
   have Yk: ∀l:List AV,(ay s2 (.cells l 0)).heap.get bB=some (.cells csB 0):=fun l=>(gS _).get (Q5.get hB)
   have heapT: ∀l:List AV,(ay s2 (.cells l 0)).heap.get bT=some (.cells csT 0):=fun l=>(gS _).get (Q5.get hTb)
   have ixA: ∀(K:AV->Option (AV×St)),aJ (.idxA 9 none) [V2,.int .i64 (a:Int)] K=K (.ptr bA (oA+a*9)):=fun K=>by rw[eA];exact uG K (by rw[hG.len];omega)
   have ixB: ∀(K:AV->Option (AV×St)),aJ (.idxA 9 none) [V2,.int .i64 (b:Int)] K=K (.ptr bB (oB+b*9)):=fun K=>by rw[eB];exact uG K (by rw[hG.len];omega)
   have ixT: ∀(K:AV->Option (AV×St)),aJ (.idxA 7 none) [V1,.int .i64 (t:Int)] K=K (.ptr bT (oT+t*7)):=fun K=>by rw[eT];exact uG K (by rw[hT.len];omega)
   have sxA: ∀(K:AV->St->Option (AV×St)) (s':St),ag c (.idxA 9 none) [V2,.int .i64 (a:Int)] s' K=K (.ptr bA (oA+a*9)) s':=fun K s'=>by rw[eA];exact tO c K s' (by rw[hG.len];omega)
   have sxT: ∀(K:AV->St->Option (AV×St)) (s':St),ag c (.idxA 7 none) [V1,.int .i64 (t:Int)] s' K=K (.ptr bT (oT+t*7)) s':=fun K s'=>by rw[eT];exact tO c K s' (by rw[hT.len];omega)
   have cA:=fun (l l':List AV) (K:AV->Option (AV×St))=>tM K (o:=1) (v:=V2) (h:=(ay s2 (.cells l 0)).heap) (h2:=(ay s2 (.cells l' 0)).heap) (p:=s.next) (by rw[hP];rfl) (by rw[hP];rfl) hG.out.own.beq
   have cP:=fun (l l':List AV) (K:AV->Option (AV×St))=>tM K (o:=0) (v:=V1) (h:=(ay s2 (.cells l 0)).heap) (h2:=(ay s2 (.cells l' 0)).heap) (p:=s.next) (by rw[hP];rfl) (by rw[hP];rfl) hT.out.own.beq
   have sb: ∀u:List Nat,ki (.str u) (.str u)=true:=fun u=>by simp[ki,qU,kH,fU.2 rfl]
   clear eA eB eT
   generalize oA+a*9=qA at*
   generalize oB+b*9=qB at*
   generalize oT+t*7=qT at*
   have cB:=fun (l l':List AV) (K:AV->Option (AV×St))=>tM K (o:=qB+0) (v:= .str (j7 gs b)) (h:=(ay s2 (.cells l 0)).heap) (h2:=(ay s2 (.cells l' 0)).heap) (p:=bB) (by rw[Yk];exact nB) (by rw[Yk];exact nB) (sb _)
   have cTn:=fun (l l':List AV) (K:AV->Option (AV×St))=>tM K (o:=qT+0) (v:= .str (rq ts t)) (h:=(ay s2 (.cells l 0)).heap) (h2:=(ay s2 (.cells l' 0)).heap) (p:=bT) (by rw[heapT];exact nT) (by rw[heapT];exact nT) (sb _)
   have rdA: ∀(l:List AV) (K:AV->Option (AV×St)),ei (.load none) [.ptr bA (qA+0)] (ay s2 (.cells l 0)).heap (fun _=>true) K=K (.str (j7 gs a)):=fun l K=>by rw[oa,Q7,Nat.add_zero,show (cellsOf (some (.cells csA 0))).bind (fun cs=>cs[qA]?)=some (.str (j7 gs a)) from nA];rfl
   have su2: ∀(k w n:Int) (a b t u:List Nat) (K:AV->St->Option (AV×St)),ag c (.store 1) [.ptr s2.next (0+2),.str u] (ay s2 (.cells (dV k w a b t n) 0)) K=K .undef (ay s2 (.cells (dV k w u b t n) 0)):=fun k w n a b t u K=>PC k w n a b t u s2 K
   have su3: ∀(k w n:Int) (a b t u:List Nat) (K:AV->St->Option (AV×St)),ag c (.store 1) [.ptr s2.next (0+3),.str u] (ay s2 (.cells (dV k w a b t n) 0)) K=K .undef (ay s2 (.cells (dV k w a u t n) 0)):=fun k w n a b t u K=>ZG k w n a b t u s2 K
   have su4: ∀(k w n:Int) (a b t u:List Nat) (K:AV->St->Option (AV×St)),ag c (.store 1) [.ptr s2.next (0+4),.str u] (ay s2 (.cells (dV k w a b t n) 0)) K=K .undef (ay s2 (.cells (dV k w a b u n) 0)):=fun k w n a b t u K=>PD k w n a b t u s2 K
   have KD: ∀(k w n:Int) (a b t:List Nat) (K:AV->St->Option (AV×St)),ag c (.load none) [.ptr s2.next (0+0)] (ay s2 (.cells (dV k w a b t n) 0)) K=K (.int .u8 k) (ay s2 (.cells (dV k w a b t n) 0)):=fun k w n a b t K=>by rw[BU,bh];rfl
   refine ja (P:=fun j=> ¬(k=1\/k=2\/k=3\/k=4\/k=5\/k=6\/k=7\/k=10\/k=17)->Q (j [.int .i64 (z:Int),.ptr s.next 0,.ptr p4 0,.ptr s2.next 0,.int .i64 (t:Int)] (ay s2 (.cells (dV k w [] [] [] (if k=15\/k=16 then (n:Int) else 0)) 0)))) ?_ ?_
   . intro Fj
     obtain ⟨z3,e3⟩: ∃z3:Nat,z3=z % 3:=⟨_,rfl⟩
     have E6:(z:Int) % 3=(z3:Int):=by omega
     have hf:=hR
     unfold Cb at hf
     rw[if_neg (by omega),if_neg (by omega),if_neg (by omega),if_neg (by omega), <-e3] at hf
     obtain ⟨n',O0⟩: ∃n':Int,n'=(if k=15\/k=16 then (n:Int) else 0):=⟨_,rfl⟩
     rw[<-O0] at hf ⊢
     by_cases h3:0<z3
     .  have hd:decide (0<z3)=true:=decide_eq_true h3
        rw[if_pos h3] at hf
        have:=tS k w n' [] [] (rq ts t) true (by rw[hf]) (by rw[hf])
        simp (disch:=omega) [-cX,cI,List.getElem?_cons_zero,bL,E6,hd,hP,sxT,heapT,nT,PD,cu,fin,eO]
        exact this
     .  have hd:decide (0<z3)=false:=decide_eq_false h3
        rw[if_neg h3] at hf
        have:=tS k w n' [] [] [] true (by rw[hf]) (by rw[hf])
        simp (disch:=omega) [-cX,cI,bL,E6,hd,cu,fin,eO]
        exact this
   . intro  PE Nk
     rw[gG,KD]
     refine ja (P:=fun j=>Q (j [.int .i64 (z:Int),.ptr s.next 0,.ptr p4 0,.ptr s2.next 0,.int .i64 (a:Int),.int .i64 (b:Int),.int .i64 (t:Int),.int .i64 (n:Int),.int .u8 (k:Int),.bool (decide (k=1\/k=2\/k=3\/k=4\/k=5))] (ay s2 (.cells (dV k w [] [] [] 0) 0)))) ?_ ?_
     .  rw[ aM, aM, aM,aM,aM,aM,aM,aM,aM,aM,mX]
        by_cases h5:k=1\/k=2\/k=3\/k=4\/k=5
        . rw[ decide_eq_true h5,pH]
          have hf:=hR
          unfold Cb at hf
          rw[if_pos h5] at hf
          have fF:Q (some (.tuple [.agg (dV k w (j7 gs a) (j7 gs b) [] (if k=4 then (n:Int)+1 else if k=1 then (n:Int) else 0)),.bool (!decide ((a:Int)=(b:Int)))],ew (ay s2 (.cells (dV k w (j7 gs a) (j7 gs b) [] (if k=4 then (n:Int)+1 else if k=1 then (n:Int) else 0)) 0)) p4 (.cells (dV k w (j7 gs a) (j7 gs b) [] (if k=4 then (n:Int)+1 else if k=1 then (n:Int) else 0)) 0))):=
            tS k w _ (j7 gs a) (j7 gs b) [] _ (by rw[hf];rfl) (by rw[hf];simp;omega)
          have wn:aW .i64 ((n:Int)+1)=(n:Int)+1:=wrap64 (by omega) (by omega)
          clear tS Nk
          rw[aY,Yj,eF,ixA,aY,rdA,aY,su2,aY,cA,eF,ixB,aY,cB,aY,su3]
          refine ja (P:=fun j=>Q (j [.ptr p4 0,.ptr s2.next 0,.int .i64 (a:Int),.int .i64 (b:Int)] (ay s2 (.cells (dV k w (j7 gs a) (j7 gs b) [] (if k=1\/k=4 then (n:Int) else 0)) 0)))) ?_ ?_
          . rw[ aM,aM,aM,aM,mX]
            refine ja (P:=fun j=>Q (j [.ptr p4 0,.ptr s2.next 0,.int .i64 (a:Int),.int .i64 (b:Int)] (ay s2 (.cells (dV k w (j7 gs a) (j7 gs b) [] (if k=4 then (n:Int)+1 else if k=1 then (n:Int) else 0)) 0)))) ?_ ?_
            . generalize (if k=4 then (n:Int)+1 else if k=1 then (n:Int) else 0)=n6 at*
              simp[cu,fin,eO]
              exact fF
            . intro j hj
              by_cases h4:k=4
              . have hd:decide ((k:Int)=4)=true:=decide_eq_true (by omega)
                rw[if_pos h4] at hj
                rw[if_pos (.inr h4),gG,KD,fu,hd,pH]
                simp[wn,vY]
                exact hj
              . have hd:decide ((k:Int)=4)=false:=decide_eq_false (by omega)
                rw[if_neg h4] at hj
                rw[show (if k=1\/k=4 then (n:Int) else 0)=(if k=1 then (n:Int) else 0) by by_cases h1:k=1<;>simp[h1,h4],gG,KD,fu,hd,qu]
                exact hj
          . intro j hj
            rw[gG,KD,fu,aT]
            by_cases h1:k=1
            . rw[if_pos (.inl h1)] at hj
              rw[decide_eq_true (show (k:Int)=1 by omega)]
              simp[vY]
              exact hj
            . rw[decide_eq_false (show ¬(k:Int)=1 by omega)]
              by_cases h4:k=4
              . rw[if_pos (.inr h4)] at hj
                have hd:decide ((k:Int)=4)=true:=decide_eq_true (by omega)
                rw[qZ,gG,qZ,KD,qZ,fu,hd]
                simp[vY]
                exact hj
              . rw[if_neg (by omega)] at hj
                have hd:decide ((k:Int)=4)=false:=decide_eq_false (by omega)
                rw[qZ,gG,qZ,KD,qZ,fu,hd]
                simp
                exact hj
        . rw[ decide_eq_false h5,qu]
          refine ja (P:=fun j=>Q (j [.int .i64 (z:Int),.ptr s.next 0,.ptr p4 0,.ptr s2.next 0,.int .i64 (a:Int),.int .i64 (t:Int),.int .i64 (n:Int),.int .u8 (k:Int),.bool (decide (k=6\/k=7))] (ay s2 (.cells (dV k w [] [] [] 0) 0)))) ?_ ?_
          . rw[ aM, aM,aM,aM,aM,aM,aM,aM,aM,mX]
            by_cases Tk:k=6\/k=7
            . rw[ decide_eq_true Tk,pH]
              have hf:=hR
              unfold Cb at hf
              rw[if_neg h5,if_pos Tk] at hf
              obtain ⟨sz1,sz2,sz3⟩:=adv hz (t:=t) (by omega)
              obtain ⟨ha1,ha2⟩:=ha _ (List.getElem_mem (show t<ts.length by omega))
              obtain ⟨IE,e13⟩: ∃IE:Nat,IE=z / 13:=⟨_,rfl⟩
              have E13:(z:Int) / 13=(IE:Int):=by omega
              rw[<-e13] at hf
              have SZ: ∀l:List AV,c 48 [.agg (ts[t].bD vT)] (ay s2 (.cells l 0))=some (.int .i64 (sg ts t),ay s2 (.cells l 0)):=fun l=>by rw[sz1];exact B9 hc rfl rfl rfl ha1 ha2 _ (fX VZ)
              have fF:Q (some (.tuple [.agg (dV k w (j7 gs a) [] (rq ts t) (if k=7 then (IE:Int) % sg ts t else 0)),.bool true],ew (ay s2 (.cells (dV k w (j7 gs a) [] (rq ts t) (if k=7 then (IE:Int) % sg ts t else 0)) 0)) p4 (.cells (dV k w (j7 gs a) [] (rq ts t) (if k=7 then (IE:Int) % sg ts t else 0)) 0))):=
                tS k w _ (j7 gs a) [] (rq ts t) _ (by rw[hf]) (by rw[hf])
              clear tS Nk
              rw[aY,Yj,eF,ixA,aY,rdA,aY,su2,aY,cP,eF,ixT,aY,cTn,aY,su4]
              refine ja (P:=fun j=>Q (j [.ptr p4 0,.ptr s2.next 0] (ay s2 (.cells (dV k w (j7 gs a) [] (rq ts t) (if k=7 then (IE:Int) % sg ts t else 0)) 0)))) ?_ ?_
              . generalize (if k=7 then (IE:Int) % sg ts t else 0)=n6 at*
                simp[cu,fin,eO]
                exact fF
              . intro j hj
                by_cases h7:k=7
                . have hd:decide ((k:Int)=7)=true:=decide_eq_true (by omega)
                  rw[if_pos h7] at hj
                  have q:=fun (K:AV->St->Option (AV×St)) (s':St)=>bL (c:=c) (k:= .i64) (a:=(IE:Int)) (b:=sg ts t) (by omega) sz2 s' K
                  generalize sg ts t=Z at*
                  rw[gG,KD,fu,hd,pH,aT,eZ (by omega) (by omega) (by omega),E13]
                  simp[-cX,q,hP,sxT,heapT,cT,SZ,vY]
                  exact hj
                . have hd:decide ((k:Int)=7)=false:=decide_eq_false (by omega)
                  rw[if_neg h7] at hj
                  rw[gG,KD,fu,hd,qu]
                  exact hj
            . rw[ decide_eq_false Tk,qu,fu,aT]
              by_cases FN:k=10
              . have hf:=hR
                unfold Cb at hf
                rw[if_neg h5,if_neg Tk,if_pos FN] at hf
                obtain ⟨z3,e3⟩: ∃z3:Nat,z3=z % 3:=⟨_,rfl⟩
                have E6:(z:Int) % 3=(z3:Int):=by omega
                rw[<-e3] at hf
                rw[decide_eq_true (show (k:Int)=10 by omega),pH]
                by_cases h3:z3=0
                . have hd:decide ((z3:Int)=0)=true:=decide_eq_true (by omega)
                  rw[if_pos h3] at hf
                  have fF:=tS k w 0 (j7 gs a) [] [] true (by rw[hf]) (by rw[hf])
                  rw[DJ,aT,bL (by omega) (by omega),E6,fu,hd,pH]
                  simp[hP,sxA,Q7,nA,PC,cu,fin,eO]
                  exact fF
                . have hd:decide ((z3:Int)=0)=false:=decide_eq_false (by omega)
                  rw[if_neg h3] at hf
                  have fF:=tS k w 0 [] [] [] true (by rw[hf]) (by rw[hf])
                  rw[DJ,aT,bL (by omega) (by omega),E6,fu,hd,qu]
                  simp[cu,fin,eO]
                  exact fF
              . rw[ decide_eq_false (show ¬(k:Int)=10 by omega),qu,fu,aT]
                by_cases h17:k=17
                . have hf:=hR
                  unfold Cb at hf
                  rw[if_neg h5,if_neg Tk,if_neg FN,if_pos h17] at hf
                  rw[decide_eq_true (show (k:Int)=17 by omega),pH]
                  have fF:=tS k w 0 (uH gs a) [] (rq ts t) (!decide (uH gs a=[])) (by rw[hf]) (by rw[hf];simp)
                  have n46:p4≠s2.next:=fun e=>by subst e;omega
                  have cD:=fun (K:AV->Option (AV×St))=>tM K (o:=0+2) (v:= .str (uH gs a)) (h:=(ew (ay s2 (.cells (dV k w (uH gs a) [] (rq ts t) 0) 0)) p4 (.cells (dV k w (uH gs a) [] (rq ts t) 0) 0)).heap) (h2:=(ay s2 (.cells (dV k w (uH gs a) [] (rq ts t) 0) 0)).heap) (p:=s2.next) (by rw[bV n46,bh];rfl) (by rw[bh];rfl) (sb _)
                  have rdD: ∀(l:List AV) (K:AV->Option (AV×St)),ei (.load none) [.ptr bA (qA+5)] (ay s2 (.cells l 0)).heap (fun _=>true) K=K (.str (uH gs a)):=fun l K=>by rw[oa,Q7,show (cellsOf (some (.cells csA 0))).bind (fun cs=>cs[qA+5]?)=some (.str (uH gs a)) from dA];rfl
                  have rdR: ∀(K:AV->Option (AV×St)),ei (.load (some 6)) [.ptr s2.next 0] (ay s2 (.cells (dV k w (uH gs a) [] (rq ts t) 0) 0)).heap (fun _=>true) K=K (.agg (dV k w (uH gs a) [] (rq ts t) 0)):=fun K=>by rw[Ol,bh];rfl
                  rw[aY,Yj,eF,ixA,aY,rdD,aY,su2,aY,cP,eF,ixT,aY,cTn,aY,su4,rdR,fin,aY,cD,Vn,eF,MB,eO]
                  exact fF
                . rw[ decide_eq_false (show ¬(k:Int)=17 by omega),qu]
                  have hj:=Nk (by omega)
                  clear Nk tS
                  by_cases Yl:k=15
                  . have hd:decide ((k:Int)=15)=true:=decide_eq_true (by omega)
                    rw[if_pos (.inl Yl)] at hj
                    rw[DJ,fu,aT,hd,pH]
                    simp[vY]
                    exact hj
                  . have hd:decide ((k:Int)=15)=false:=decide_eq_false (by omega)
                    by_cases Ym:k=16
                    . have xS:decide ((k:Int)=16)=true:=decide_eq_true (by omega)
                      rw[if_pos (.inr Ym)] at hj
                      rw[DJ,fu,aT,hd,qu,fu,aT,xS]
                      simp[vY]
                      exact hj
                    . have xS:decide ((k:Int)=16)=false:=decide_eq_false (by omega)
                      rw[if_neg (by omega)] at hj
                      rw[DJ,fu,aT,hd,qu,fu,aT,xS]
                      simp
                      exact hj
          . intro j hj
            by_cases h6:k=6
            . rw[decide_eq_true (.inl h6)] at hj
              rw[fu,aT,decide_eq_true (show (k:Int)=6 by omega),pH]
              exact hj
            . rw[fu,aT,decide_eq_false (show ¬(k:Int)=6 by omega),qu,fu,aT]
              rw[show decide ((k:Int)=7)=decide (k=6\/k=7) by rw[decide_eq_decide];omega]
              exact hj
     .  intro j hj
        clear tS Nk hR
        rcases ri vk jC with rfl|rfl|rfl|rfl|rfl|rfl|rfl|rfl|rfl|rfl|rfl|rfl|rfl|rfl|rfl|rfl|rfl|rfl
        all_goals
          simp at hj ⊢
          exact hj
 . intro j hj
   by_cases h1:1<y5
   . have e:((w:Nat):Int)=1+(y7:Int):=by rw[lF];unfold D3;rw[if_pos (by omega)];omega
     rw[e] at hj
     have hd:decide ((1:Int)<(y5:Int))=true:=decide_eq_true (by omega)
     simp (disch:=omega) [-cX,bL,E3,E4,hd,W2,ZF]
     exact hj
   . have e:((w:Nat):Int)=0:=by rw[lF];unfold D3;rw[if_neg (by omega)];rfl
     rw[e] at hj
     have hd:decide ((1:Int)<(y5:Int))=false:=decide_eq_false (by omega)
     simp (disch:=omega) [-cX,bL,E3,hd]
     exact hj
end Go.Proofs.YtehbdakjkjkekaaGreatDoor
end
section
set_option maxRecDepth 100000
namespace Go.Proofs.YtehbdakjkjkekaaGreatDoor
open Go Go.Ai Go.Proofs
variable {c : ak}
structure KX (p:Pos) (sA s:St):Prop where
 wf:Wf s
 next:sA.next.toNat<=s.next.toNat
 keep: ∀(b:Pos) (x:AB),b≠p->sA.heap.get b=some x->s.heap.get b=some x
theorem KX.refl {p:Pos} {s:St} (hw:Wf s):KX p s s:=⟨hw,Nat.le_refl _,fun _ _ _ h=>h⟩
theorem KX.trans {p:Pos} {a b d:St} (h:KX p a b) (g:KX p b d):KX p a d:=⟨g.wf,Nat.le_trans h.next g.next,fun q x hq hx=>g.keep q x hq (h.keep q x hq hx)⟩
theorem KX.aS {p:Pos} {a b d:St} (h:KX p a b) (g:Grew b d):KX p a d:=⟨g.wf,Nat.le_trans h.next g.next,fun q x hq hx=>g.get (h.keep q x hq hx)⟩
theorem KX.store {p:Pos} {a b:St} (h:KX p a b) (hp:p.toNat<b.next.toNat) (x:AB):KX p a (ew b p x):=
 ⟨Il h.wf hp,h.next,fun q y hq hy=>by rw[bV (fun e=>hq e.symm)];exact h.keep q y hq hy⟩
theorem Grew.kx {p:Pos} {a b:St} (g:Grew a b):KX p a b:=⟨g.wf,g.next,fun _ _ _ hx=>g.get hx⟩
def TS.Since (n:Nat) (V:AV) (rows:List (List AV)):Prop:=(∀b,aF V=some b->n<=b.toNat)/\ ∀(i:Nat) (r:List AV) (v:AV) (b:Pos),rows[i]? =some r->r[4]? =some v->aF v=some b->n<=b.toNat
def GS.Since (n:Nat) (V:AV) (rows:List (List AV)):Prop:=(∀b,aF V=some b->n<=b.toNat)/\ ∀(i:Nat) (r:List AV) (v:AV) (b:Pos),rows[i]? =some r->r[8]? =some v->aF v=some b->n<=b.toNat
theorem Cc {st s:St} {p:Pos} (h0:Wf st) (h:Grew st s) (hp:st.next.toNat<=p.toNat) (Fo:p.toNat<s.next.toNat) (b:AB):Grew st (ew s p b):=
 ⟨Il h.wf Fo,fun q x hq=>by have:=h0 _ _ hq;rw[bV (fun e=>by rw[e] at hp;omega)];exact h.get hq,by rw[tL];exact h.next⟩
theorem TS.kx {st sA s:St} {p:Pos} {V:AV} {ts:List dN} {rows:List (List AV)} (h:TS st sA V ts rows) (k:KX p sA s) (g:Grew st s) (hs:TS.Since (p.toNat+1) V rows):TS st s V ts rows:=
 h.r7 g fun b x _ hb hx=>k.keep b x (fun e=>by
  subst e
  rcases hb with hb|⟨i,r,v,h1,h2,h3⟩
  . have:=hs.1 _ hb;omega
  . have:=hs.2 i r v _ h1 h2 h3;omega) hx
theorem GS.kx {st sA s:St} {p:Pos} {V:AV} {ts:List bX} {rows:List (List AV)} (h:GS st sA V ts rows) (k:KX p sA s) (g:Grew st s) (hs:GS.Since (p.toNat+1) V rows):GS st s V ts rows:=
 h.r7 g fun b x _ hb hx=>k.keep b x (fun e=>by
  subst e
  rcases hb with hb|⟨i,r,v,h1,h2,h3⟩
  . have:=hs.1 _ hb;omega
  . have:=hs.2 i r v _ h1 h2 h3;omega) hx
theorem Mk.kx {es:Nat} {st sA s:St} {p:Pos} {V:AV} {rows:List (List AV)} (h:Mk es st sA V rows) (k:KX p sA s) (g:Grew st s) (hs: ∀b,aF V=some b->p.toNat+1<=b.toNat):Mk es st s V rows:=
 Mk.r7 h g fun b x hb hx=>k.keep b x (fun e=>by subst e;have:=hs _ hb;omega) hx
theorem TS.push {st s:St} {V:AV} {ts:List dN} {rows:List (List AV)} (h:TS st s V ts rows) {t:dN} {v:AV} (M:Mk 1 st s v (t.Iq.map tQ)) (hv: ∀b,aF v=some b->aF V≠some b) (hlen:ts.length<=1000):
   ∃s5 V5,(∀(K:AV->St->Option (AV×St)),ag c (.buildSlice 7 1 [.str [],.int .u8 0,.int .i64 0,.int .i64 0,.ai,.int .i64 0,.int .i64 0] [0]) [.agg (t.bD v)] s (fun y q=>ag c (.append 7 80) [V,y] q K)=K V5 s5)/\
    TS st s5 V5 (ts++[t]) (rows++[t.bD v])/\(∀(p:Pos) (b:AB),aF V≠some p->s.heap.get p=some b->s5.heap.get p=some b)/\ ∀b,aF V5=some b->s.next.toNat<=b.toNat:=by
 have hl:=h.len
 have hw:=h.out.aS.wf
 obtain ⟨s5,V5,a1,a2,a3,a4⟩:=h.out.push (c:=c) (R:=AV×St) (bytes:=80) (z:=[.str [],.int .u8 0,.int .i64 0,.int .i64 0,.ai,.int .i64 0,.int .i64 0]) (x:= .agg (t.bD v)) rfl rfl (t.VJ M.cells.2) (by decide) (by omega) (by omega)
 have small: ∀(u:AV) (rw:List (List AV)),Mk 1 st s u rw->(∀b,aF u=some b->aF V≠some b)->Mk 1 st s5 u rw/\ ∀b,aF u=some b->aF V5≠some b:=fun u rw hu bO=>
   ⟨Mk.r7 hu a2.aS fun b y hb hy=>a3 b y (bO b hb) hy,fun b hb e=>by
    have p1:=a4 b e
    have p2:=hu.own.lt hw hb
    omega⟩
 refine ⟨s5,V5,a1,⟨a2,by simp[hl],fun i t' r hi hr=> ?_⟩,a3,a4⟩
 by_cases CL:i<ts.length
 . rw[List.getElem?_append_left (by rw[hl];exact CL)] at hr
   rw[List.getElem?_append_left CL] at hi
   obtain ⟨u,e1,e2,e3⟩:=h.j5 i t' r hi hr
   obtain ⟨f1,f2⟩:=small u _ e2 e3
   exact ⟨u,e1,f1,f2⟩
 . have u9:=(List.getElem?_eq_some_iff.1 hi).1
   simp at u9
   obtain rfl:i=ts.length:=by omega
   rw[List.getElem?_append_right (by rw[hl];exact Nat.le_refl _)] at hr
   rw[List.getElem?_append_right (Nat.le_refl _)] at hi
   simp[hl] at hr hi
   subst hi;subst hr
   obtain ⟨f1,f2⟩:=small v _ M hv
   exact ⟨v,rfl,f1,f2⟩
end Go.Proofs.YtehbdakjkjkekaaGreatDoor
end
section
set_option maxRecDepth 100000
namespace Go.Proofs.YtehbdakjkjkekaaGreatDoor
open Go Go.Ai Go.Proofs
variable {c : ak}
def kT (i x:Nat):dN:=⟨fq i,((jN x:Nat):Int),((tA x:Nat):Int),((tB x:Nat):Int),true,(tR x (tN x)).map fun (k:Nat)=>(k:Int),((x:Nat):Int),255 - ((x:Nat):Int)⟩
def pX (xs:List Nat) (k:Nat):List dN:=(List.range k).map fun i=>kT i (xs.getD i 0)
theorem Tl (xs:List Nat) (k:Nat) (h:k<xs.length):pX xs (k+1)=pX xs k++[kT k xs[k]]:=by
 unfold pX
 rw[List.range_succ,List.map_append]
 simp[List.getD_eq_getElem?_getD,h]
theorem Nl (xs:List Nat) (k:Nat):(pX xs k).length=k:=by simp[pX]
def iB (xs:List Nat):Nat->Nat
 |0=>0
 |k+1=>iB xs k+tN (xs.getD k 0)
theorem KE (xs:List Nat): ∀k,iB xs k<=k*16
 |0=>Nat.le_refl _
 |k+1=>by have:=KE xs k;have:=Lm (xs.getD k 0);unfold iB;omega
theorem Q8 (i x:Nat) (v:AV):(kT i x).bD v=eG (fq i) (jN x:Nat) (tA x:Nat) (tB x:Nat) x v:=rfl
theorem V0 (i x:Nat):(kT i x).Iq.map tQ=(tR x (tN x)).map Js:=by unfold kT;rw[List.map_map];rfl
theorem QS.owner {es:Nat} {s:St} {v:AV} {rows:List (List AV)} (h:QS es s v rows) (h0:rows≠[]): ∃b,aF v=some b:=by
 rcases h with ⟨_,e⟩|⟨b,off,cap,cs,rfl,_⟩|⟨b,off,_,e⟩
 . exact absurd e h0
 . refine ⟨b,?_⟩
   have:rows.length≠0:=fun e=>h0 (List.eq_nil_of_length_eq_zero e)
   simp only[aF]
   rw[if_neg (fun e=>this e.2)]
 . exact absurd e h0
structure LL (st sA s:St) (p3:Pos) (es:Nat) (V:AV) (rows:List (List AV)) (W:AV->List AV):Prop where
 out:Mk es st s V rows
 kx:KX p3 sA s
 h3:s.heap.get p3=some (.cells (W V) 0)
 since: ∀b,aF V=some b->sA.next.toNat<=b.toNat
theorem LL.aS {st sA s s':St} {p3:Pos} {es:Nat} {V:AV} {rows:List (List AV)} {W:AV->List AV} (h:LL st sA s p3 es V rows W) (g:Grew s s'):LL st sA s' p3 es V rows W:=
 ⟨h.out.grow g,h.kx.aS g,g.get h.h3,h.since⟩
theorem LL.push {st sA s:St} {p3:Pos} {es bytes i:Nat} {V:AV} {rows:List (List AV)} {W:AV->List AV} (h:LL st sA s p3 es V rows W) (hA:Wf sA) (FR:p3.toNat<sA.next.toNat) (iR:st.next.toNat<=p3.toNat) (hi: ∀A B,(W A).set i B=W B) (u9: ∀A,i<(W A).length)
   {z:List AV} {x:AV} (hz:z.length=es) (hx:x.cells.length=es) (h1:aX x.cells=true) (fE:es≠0) (hb:(2*(rows.length+1)+768)*bytes<=281474976710656) (hn:rows.length<=4000000):
   ∃s5 s6 V5,(∀(K:AV->St->Option (AV×St)),ag c (.buildSlice es 1 z [0]) [x] s (fun y q=>ag c (.append es bytes) [V,y] q K)=K V5 s5)/\(∀(K:AV->St->Option (AV×St)),ag c (.store 1) [.ptr p3 i,V5] s5 K=K .undef s6)/\
    LL st sA s6 p3 es V5 (rows++[x.cells]) W/\(∀(p:Pos) (b:AB),p≠p3->aF V≠some p->s.heap.get p=some b->s6.heap.get p=some b)/\(∀b,aF V5=some b->s.next.toNat<=b.toNat)/\s.next.toNat<=s6.next.toNat/\s5.heap.get p3=some (.cells (W V) 0):=by
 have hw:=h.out.aS.wf
 obtain ⟨s5,V5,a1,a2,a3,a4⟩:=h.out.push (c:=c) (R:=AV×St) (bytes:=bytes) hz hx h1 fE hb hn
 have nV:aF V≠some p3:=fun e=>by have:=h.since _ e;omega
 have y3:=a3 p3 _ nV h.h3
 have n5:aF V5≠some p3:=fun e=>by have:=a4 _ e;have:=hw _ _ h.h3;omega
 have l3:=a2.aS.wf p3 _ y3
 obtain ⟨vc,v1⟩:=a2.cells
 obtain ⟨b,Tm⟩:=QS.owner a2.own (by simp)
 have nx:s.next.toNat<=s5.next.toNat:=by have:=a4 b Tm;have:=a2.own.lt a2.aS.wf Tm;omega
 refine ⟨s5,ew s5 p3 (.cells (W V5) 0),V5,a1,fun K=> ?_,⟨a2.store iR l3 n5,?_,eO _ _ _,fun b hb=> ?_⟩,fun p b hp hv hg=> ?_,a4,nx,y3⟩
 . rw[eM c K s5 1 p3 i V5 (W V) y3 (by rw[vc];rfl) (by have:=u9 V;omega) (by rw[vc];exact v1),vc]
   rw[pJ _ _ (u9 V),hi]
 . refine KX.store ⟨a2.aS.wf,Nat.le_trans h.kx.next nx,fun q y hq hy=> ?_⟩ l3 _
   refine a3 q y (fun e=> ?_) (h.kx.keep q y hq hy)
   have:=h.since _ e
   have:=hA _ _ hy
   omega
 . have:=a4 b hb
   have:=h.kx.next
   omega
 . rw[bV (fun e=>hp e.symm)]
   exact a3 p b hv hg
structure TL (st sA s:St) (p3:Pos) (V:AV) (ts:List dN) (rows:List (List AV)) (W:AV->List AV):Prop where
 tab:TS st s V ts rows
 kx:KX p3 sA s
 h3:s.heap.get p3=some (.cells (W V) 0)
 since:TS.Since sA.next.toNat V rows
theorem TL.push {st sA s:St} {p3:Pos} {i:Nat} {V:AV} {ts:List dN} {rows:List (List AV)} {W:AV->List AV} (h:TL st sA s p3 V ts rows W) (hA:Wf sA) (FR:p3.toNat<sA.next.toNat) (iR:st.next.toNat<=p3.toNat) (hi: ∀A B,(W A).set i B=W B) (u9: ∀A,i<(W A).length)
   {t:dN} {v:AV} (M:Mk 1 st s v (t.Iq.map tQ)) (hv: ∀b,aF v=some b->aF V≠some b) (Dq: ∀b,aF v=some b->sA.next.toNat<=b.toNat) (hlen:ts.length<=1000):
   ∃ s5 s6 V5,(∀(K:AV->St->Option (AV×St)),ag c (.buildSlice 7 1 [.str [],.int .u8 0,.int .i64 0,.int .i64 0,.ai,.int .i64 0,.int .i64 0] [0]) [.agg (t.bD v)] s (fun y q=>ag c (.append 7 80) [V,y] q K)=K V5 s5)/\
     (∀(K:AV->St->Option (AV×St)),ag c (.store 1) [.ptr p3 i,V5] s5 K=K .undef s6)/\TL st sA s6 p3 V5 (ts++[t]) (rows++[t.bD v]) W/\(∀(p:Pos) (b:AB),p≠p3->aF V≠some p->s.heap.get p=some b->s6.heap.get p=some b)/\s5.heap.get p3=some (.cells (W V) 0):=by
 have hw:=h.tab.out.aS.wf
 obtain ⟨s5,V5,a1,a2,a3,a4⟩:=h.tab.push (c:=c) M hv hlen
 have nV:aF V≠some p3:=fun e=>by have:=h.since.1 _ e;omega
 have y3:=a3 p3 _ nV h.h3
 have l3:=a2.out.aS.wf p3 _ y3
 obtain ⟨vc,v1⟩:=a2.out.cells
 obtain ⟨b,Tm⟩:=QS.owner a2.out.own (by simp)
 have nx:s.next.toNat<=s5.next.toNat:=by have:=a4 b Tm;have:=a2.out.own.lt a2.out.aS.wf Tm;omega
 have sn:TS.Since sA.next.toNat V5 (rows++[t.bD v]):=by
   refine ⟨fun b hb=>by have:=a4 b hb;have:=h.kx.next;omega,fun j r u b hr h4 hb=> ?_⟩
   by_cases hj:j<rows.length
   . rw[List.getElem?_append_left hj] at hr
     exact h.since.2 j r u b hr h4 hb
   . have XG:=(List.getElem?_eq_some_iff.1 hr).1
     simp at XG
     obtain rfl:j=rows.length:=by omega
     rw[List.getElem?_append_right (Nat.le_refl _)] at hr
     simp at hr
     subst hr
     have:v=u:=by simpa [dN.bD] using h4
     subst this
     exact Dq b hb
 have k5:KX p3 sA s5:=⟨a2.out.aS.wf,Nat.le_trans h.kx.next nx,fun q y hq hy=>a3 q y (fun e=>by
   have:=h.since.1 _ e
   have:=hA _ _ hy
   omega) (h.kx.keep q y hq hy)⟩
 have kS:KX p3 s5 (ew s5 p3 (.cells (W V5) 0)):=(KX.refl a2.out.aS.wf).store l3 _
 have sn3:TS.Since (p3.toNat+1) V5 (rows++[t.bD v]):=⟨fun b hb=>by have:=sn.1 b hb;omega,fun j r u b h1 h2 h3=>by have:=sn.2 j r u b h1 h2 h3;omega⟩
 refine ⟨s5,ew s5 p3 (.cells (W V5) 0),V5,a1,fun K=> ?_,⟨a2.kx kS (Cc h.tab.out.lZ a2.out.aS iR l3 _) sn3,k5.store l3 _,eO _ _ _,sn⟩,fun p b hp hv hg=> ?_,y3⟩
 . rw[eM c K s5 1 p3 i V5 (W V) y3 (by rw[vc];rfl) (by have:=u9 V;omega) (by rw[vc];exact v1),vc]
   rw[pJ _ _ (u9 V),hi]
 . rw[bV (fun e=>hp e.symm)]
   exact a3 p b hv hg
end Go.Proofs.YtehbdakjkjkekaaGreatDoor
end
section
set_option maxRecDepth 100000
namespace Go.Proofs.YtehbdakjkjkekaaGreatDoor
open Go Go.Ai Go.Proofs
variable {c : ak}
def cq (zt zg zy zr:Bool) (xt xg xy xr:List Nat):List AV:=[bP .u8 zt xt,bP .u16 zg xg,bP .u8 zy xy,bP .u32 zr xr]
theorem qN {R:Type} (k:IntKind) (z:Bool) (l:List Nat) (K:AV->St->Option R) (s:St):ag c (.lenB .l) [bP k z l] s K=K (.int .i64 (l.length:Int)) s:=by unfold bP;rw[BT];simp
theorem E8 {R:Type} (k k':IntKind) (z:Bool) (l:List Nat) {i:Nat} (h:i<l.length) (K:AV->St->Option R) (s:St):ag c (.idxA 1 none) [bP k z l,.int k' (i:Int)] s (fun v s'=>ag c (.load none) [v] s' K)=K (.int k (l[i]:Int)) s:=by
 unfold bP;simp[h]
theorem afR {a b d:Nat} (h:d=a+b) (hl:a+b<=1000000):aW .i64 ((a:Int)+(b:Int))=(d:Int):=(wrap64 (by omega) (by omega)).trans (by omega)
theorem Tn (hc:dS c) {xt:List Nat} (hx: ∀x∈xt,x<256) {zt zg zy zr:Bool} {xg xy xr:List Nat} {st sA s:St} {p1 p3:Pos} {V x2:AV} {rows:List (List AV)} (hA:Wf sA) (IF:sA.heap.get p1=some (.cells (cq zt zg zy zr xt xg xy xr) 0)) (IG:p1≠p3) (FR:p3.toNat<sA.next.toNat) (iR:st.next.toNat<=p3.toNat)
  {k:Nat} (hk:k<xt.length) (sP:k<3) (h:TL st sA s p3 V (pX xt k) rows (fun V=>[V,.ai,.ai,.ai,.ai])):
  ∃s' V' Ca,TL st sA s' p3 V' (pX xt (k+1)) Ca (fun V=>[V,.ai,.ai,.ai,.ai])/\ ∀(F:Nat) (k2:List AV->St->Option (AV×St)) (f:Nat),
   c9 c F k2 (f+1) [.ptr p1 0,x2,.ptr p3 0,.int .i64 (iB xt k:Int),.int .i64 (k:Int)] s=c9 c F k2 f [.ptr p1 0,x2,.ptr p3 0,.int .i64 (iB xt (k+1):Int),.int .i64 ((k+1:Nat):Int)] s':=by
 have wR:=hx _ (List.getElem_mem hk)
 have d1:decide ((k:Int)<(xt.length:Int))=true:=decide_eq_true (by omega)
 have d2:decide ((k:Int)<3)=true:=decide_eq_true (by omega)
 have w2:aW .i64 ((k:Int)+1)=((k+1:Nat):Int):=wrap64 (by omega) (by omega)
 have w3:aW .i64 (xt[k]:Int)=(xt[k]:Int):=wrap64 (by omega) (by omega)
 have hw:=h.tab.out.aS.wf
 have h1:=h.kx.keep p1 _ IG IF
 obtain ⟨v,s1,C,M⟩:=VV hc k xt[k] (by omega) wR s hw
 have g1:=M.aS
 have gn:=Grew.ay g1.wf (.cells ((kT k xt[k]).bD v) 0)
 have hM:Mk 1 st (ay s1 (.cells ((kT k xt[k]).bD v) 0)) v ((kT k xt[k]).Iq.map tQ):=by rw[V0];exact (M.back h.tab.out.lZ h.tab.out.aS).grow gn
 have T1:TL st sA (ay s1 (.cells ((kT k xt[k]).bD v) 0)) p3 V (pX xt k) rows (fun V=>[V,.ai,.ai,.ai,.ai]):=
  ⟨h.tab.r7 (h.tab.out.aS.trans (g1.trans gn)) fun b x _ _ hb=>gn.get (g1.get hb),h.kx.aS (g1.trans gn),gn.get (g1.get h.h3),h.since⟩
 obtain ⟨s5,s6,V5,a1,a2,a3,a4,a5⟩:=T1.push (c:=c) (i:=0) hA FR iR (fun A B=>rfl) (fun A=>by simp) hM (fun b hb e=>by
  have p1:=M.new b hb
  have p2:=h.tab.out.own.lt hw e
  omega) (fun b hb=>by have:=M.new b hb;have:=h.kx.next;omega) (by rw[Nl];omega)
 have p6:s6.heap.get s1.next=some (.cells ((kT k xt[k]).bD v) 0):=a4 s1.next _ (fun e=>by have:=h.kx.next;have:=g1.next;rw[<-e] at FR;omega) (fun e=>by
  have p2:=h.tab.out.own.lt hw e
  have:=g1.next
  omega) (bh _ _)
 have e:=Tl xt k hk
 rw[<-e] at a3
 refine ⟨s6,V5,_,a3,fun F k2 f=> ?_⟩
 have hs:=B9 hc (l:=(kT k xt[k]).bD v) (sh:=((jN xt[k]:Nat):Int)) (a:=((tA xt[k]:Nat):Int)) (b:=((tB xt[k]:Nat):Int)) rfl rfl rfl (by have:=Lj xt[k];omega) (by have:=Ll xt[k];omega) s6 a3.tab.out.aS.wf
 rw[Jt] at hs
 have hS:iB xt (k+1)=iB xt k+tN xt[k]:=by
  rw[iB]
  simp[List.getD_eq_getElem?_getD,hk]
 have w1:aW .i64 ((iB xt k:Int)+(tN xt[k]:Int))=((iB xt (k+1):Nat):Int):=afR hS (by have:=KE xt k;have:=Lm xt[k];exact Nat.le_trans (Nat.add_le_add ‹_› ‹_›) (by omega))
 have lI:=fun (K:AV->St->Option (AV×St)) (s:St)=>qN (c:=c) .u8 zt xt K s
 have aI:=fun (K:AV->St->Option (AV×St)) (s:St)=>E8 (c:=c) .u8 .i64 zt xt hk K s
 have c0:(cq zt zg zy zr xt xg xy xr)[0]? =some (bP .u8 zt xt):=rfl
 have cu:cut ((kT k xt[k]).bD v) 0 7=some ((kT k xt[k]).bD v):=ig rfl
 rw[<-Q8] at C
 have z6: ∀(K:AV->St->Option (AV×St)),ag c (.store 7) [.ptr s1.next 0,.agg ((kT k xt[k]).bD v)] (ay s1 (.cells [.str [],.int .u8 0,.int .i64 0,.int .i64 0,.ai,.int .i64 0,.int .i64 0] 0)) K=K .undef (ay s1 (.cells ((kT k xt[k]).bD v) 0)):=fun K=>bY c K s1 7 (.agg ((kT k xt[k]).bD v)) [.str [],.int .u8 0,.int .i64 0,.int .i64 0,.ai,.int .i64 0,.int .i64 0] rfl rfl ((kT k xt[k]).VJ M.cells.2)
 have PG:=T1.h3
 have g6:=bh s1 (.cells ((kT k xt[k]).bD v) 0)
 generalize (kT k xt[k]).bD v=tc at*
 generalize iB xt (k+1)=S1 at*
 clear hS e T1 a3 a4 hM M h
 rw[c9]
 simp (disch:=omega) [-aR,List.getElem?_cons_zero,h1,lI,aI,c0,hk,sP,d1,d2,w3,C,z6,PG,g6,cu,a1,a2,a5,p6,hs,w1,w2]
theorem To (hc:dS c) {xt:List Nat} (hx: ∀x∈xt,x<256) (hl:xt.length<=9223372036854775807) {zt zg zy zr:Bool} {xg xy xr:List Nat} {st sA:St} {p1 p3:Pos} {x2:AV} (hA:Wf sA) (IF:sA.heap.get p1=some (.cells (cq zt zg zy zr xt xg xy xr) 0)) (IG:p1≠p3) (FR:p3.toNat<sA.next.toNat) (iR:st.next.toNat<=p3.toNat):
  ∀(m k:Nat) (s:St) (V:AV) (rows:List (List AV)),k+m=min xt.length 3->TL st sA s p3 V (pX xt k) rows (fun V=>[V,.ai,.ai,.ai,.ai])->
  ∃ s' V' Ca,TL st sA s' p3 V' (pX xt (min xt.length 3)) Ca (fun V=>[V,.ai,.ai,.ai,.ai])/\ ∀(F:Nat) (k2:List AV->St->Option (AV×St)) (f:Nat),m<f->
    c9 c F k2 f [.ptr p1 0,x2,.ptr p3 0,.int .i64 (iB xt k:Int),.int .i64 (k:Int)] s=k2 [.ptr p1 0,x2,.ptr p3 0,.int .i64 (iB xt (min xt.length 3):Int)] s':=by
 intro m
 induction m with
 |zero=>
  intro k s V rows hk h
  obtain rfl:k=min xt.length 3:=by omega
  refine ⟨s,V,rows,h,fun F k2 f hf=> ?_⟩
  obtain ⟨f,rfl⟩: ∃g,f=g+1:=⟨f - 1,by omega⟩
  have h1:=h.kx.keep p1 _ IG IF
  have c0:(cq zt zg zy zr xt xg xy xr)[0]? =some (bP .u8 zt xt):=rfl
  have lI:=fun (K:AV->St->Option (AV×St)) (s:St)=>qN (c:=c) .u8 zt xt K s
  generalize iB xt (min xt.length 3)=S at*
  rw[c9]
  by_cases h3:xt.length<=3
  . have e:min xt.length 3=xt.length:=by omega
    rw[e]
    simp[h1,c0,lI]
  . have e:min xt.length 3=3:=by omega
    have hd:decide ((3:Int)<(xt.length:Int))=true:=decide_eq_true (by omega)
    rw[e]
    simp[h1,c0,lI,hd]
 |succ m ih=>
  intro k s V rows hk h
  obtain ⟨s1,V1,r1,h1,e1⟩:=Tn (x2:=x2) hc hx hA IF IG FR iR (k:=k) (by omega) (by omega) h
  obtain ⟨s2,V2,r2,h2,e2⟩:=ih (k+1) s1 V1 r1 (by omega) h1
  refine ⟨s2,V2,r2,h2,fun F k2 f hf=> ?_⟩
  obtain ⟨f,rfl⟩: ∃g,f=g+1:=⟨f - 1,by omega⟩
  rw[e1 F k2 f,e2 F k2 f (by omega)]
end Go.Proofs.YtehbdakjkjkekaaGreatDoor
end
section
set_option maxRecDepth 100000
namespace Go.Proofs.YtehbdakjkjkekaaGreatDoor
open Go Go.Ai Go.Proofs
variable {c : ak}
theorem II {k:Nat} (h:k<=1000000):aW .i64 ((k:Int)+1)=((k+1:Nat):Int):=wrap64 (by omega) (by omega)
theorem IJ {x:Nat} (h:x<=4294967296):aW .i64 (x:Int)=(x:Int):=wrap64 (by omega) (by omega)
def u0 (xg:List Nat) (k:Nat):List Int:=(List.range k).map fun i=>((xg.getD i 0 / 3 % 4:Nat):Int)
theorem Tq (xg:List Nat) (k:Nat) (h:k<xg.length):u0 xg (k+1)=u0 xg k++[((xg[k] / 3 % 4:Nat):Int)]:=by
 unfold u0
 rw[List.range_succ,List.map_append]
 simp[List.getD_eq_getElem?_getD,h]
theorem Nn (xg:List Nat) (k:Nat):(u0 xg k).length=k:=by simp[u0]
theorem Q9 {xg:List Nat} (hx: ∀x∈xg,x<65536) {zt zg zy zr:Bool} {xt xy xr:List Nat} {st sA:St} {p1 p3:Pos} {x2 V1 V2 V3:AV} {n:Nat} (hn:n<=xg.length) (S0:n<=1000) (hA:Wf sA) (IF:sA.heap.get p1=some (.cells (cq zt zg zy zr xt xg xy xr) 0)) (IG:p1≠p3) (FR:p3.toNat<sA.next.toNat) (iR:st.next.toNat<=p3.toNat)
  (l2: ∀(K:AV->St->Option (AV×St)) (s':St),ag c (.lenB .l) [V2] s' K=K (.int .i64 (n:Int)) s'):
  ∀(m k:Nat) (s:St) (V:AV),k+m=n->LL st sA s p3 1 V ((u0 xg k).map tQ) (fun A=>[V1,V2,V3,A,.ai])->
  ∃s' V',LL st sA s' p3 1 V' ((u0 xg n).map tQ) (fun A=>[V1,V2,V3,A,.ai])/\ ∀(F:Nat) (k4:List AV->St->Option (AV×St)) (f:Nat),m<f->
   fc c F k4 f [.ptr p1 0,x2,.ptr p3 0,.int .i64 (k:Int)] s=k4 [.ptr p1 0,x2,.ptr p3 0] s':=by
 intro m
 induction m with
 |zero=>
  intro k s V hk h
  obtain rfl:k=n:=by omega
  refine ⟨s,V,h,fun F k4 f hf=> ?_⟩
  obtain ⟨f,rfl⟩: ∃g,f=g+1:=⟨f - 1,by omega⟩
  rw[fc]
  simp[h.h3,l2]
 |succ m ih=>
  intro k s V hk h
  have hkn:k<n:=by omega
  have IK:k<xg.length:=by omega
  have wR:=hx _ (List.getElem_mem IK)
  obtain ⟨v,hv⟩: ∃v:Nat,v=xg[k] / 3 % 4:=⟨_,rfl⟩
  have E:(xg[k]:Int) / 3 % 4=(v:Int):=by omega
  have h1:=h.kx.keep p1 _ IG IF
  obtain ⟨s5,s6,V5,a1,a2,a3,a4,a5,a6,a7⟩:=h.push (c:=c) (bytes:=8) (i:=3) (z:=[.int .i64 0]) (x:= .int .i64 (v:Int)) hA FR iR (fun A B=>rfl) (fun A=>by simp) rfl rfl rfl (by decide) (by rw[List.length_map,Nn];omega) (by rw[List.length_map,Nn];omega)
  have e:(u0 xg k).map tQ++[(.int .i64 (v:Int):AV).cells]=(u0 xg (k+1)).map tQ:=by rw[Tq xg k IK,List.map_append,hv];rfl
  rw[e] at a3
  obtain ⟨s7,V7,b1,b2⟩:=ih (k+1) s6 V5 (by omega) a3
  refine ⟨s7,V7,b1,fun F k4 f hf=> ?_⟩
  obtain ⟨f,rfl⟩: ∃g,f=g+1:=⟨f - 1,by omega⟩
  have b3:=b2 F k4 f (by omega)
  have aI:=fun (K:AV->St->Option (AV×St)) (s:St)=>E8 (c:=c) .u16 .i64 zg xg IK K s
  have c1:(cq zt zg zy zr xt xg xy xr)[1]? =some (bP .u16 zg xg):=rfl
  have PG:=h.h3
  clear b2 ih a3 a4 a5 a6 e hv
  have k6:k<=1000000:=by omega
  have x6:xg[k]<=4294967296:=by omega
  have w2:=II k6
  have w3:=IJ x6
  rw[<-b3,fc]
  simp (disch:=omega) [-aR,-cX,-iZ,bL,eZ,List.getElem?_cons_zero,List.getElem?_cons_succ,h1,PG,l2,aI,c1,hkn,w3,E,a1,a2,a7,w2]
def si (ts:List dN) (gs:List bX) (xr:List Nat):Nat->List Rl
 |0=>[]
 |k+1=>si ts gs xr k++(if (fI ts gs (xr.getD k 0)).2=true then [(fI ts gs (xr.getD k 0)).1] else [])
theorem Gy (ts:List dN) (gs:List bX) (xr:List Nat): ∀k,(si ts gs xr k).length<=k
 |0=>Nat.le_refl _
 |k+1=>by have:=Gy ts gs xr k;unfold si;rw[List.length_append];split<;>simp<;>omega
theorem V6 {R:Type} (k k':IntKind) (z:Bool) (l:List Nat) {i:Nat} (h:i<l.length) (K:AV->Option R) (t:T AB):aJ (.idxA 1 none) [bP k z l,.int k' (i:Int)] (fun v=>ei (.load none) [v] t (fun _=>true) K)=K (.int k (l[i]:Int)):=by
 unfold bP;simp[h]
theorem V8 {R:Type} (s:St) (K:AV->AB->Option R):CQ (.alloc [.int .u8 0,.int .i64 0,.str [],.str [],.str [],.int .i64 0]) [] s K=K (.ptr s.next 0) (.cells [.int .u8 0,.int .i64 0,.str [],.str [],.str [],.int .i64 0] 0):=rfl
theorem Ra (hc:dS c) {xr:List Nat} (hx: ∀x∈xr,x<4294967296) (hl:xr.length<=9223372036854775807) {zt zg zy zr:Bool} {xt xg xy:List Nat} {st sA:St} {p1 p3:Pos} {x2 V1 V2 V3 V4:AV} (hA:Wf sA) (IF:sA.heap.get p1=some (.cells (cq zt zg zy zr xt xg xy xr) 0)) (IG:p1≠p3) (FR:p3.toNat<sA.next.toNat) (iR:st.next.toNat<=p3.toNat)
  {ts:List dN} {gs:List bX} {r1 r2:List (List AV)} (hT:TS st sA V1 ts r1) (sT:TS.Since (p3.toNat+1) V1 r1) (hG:GS st sA V2 gs r2) (sG:GS.Since (p3.toNat+1) V2 r2) (lt:ts.length<=1000) (lg:gs.length<=1000)
  (hz: ∀t∈ts,0<iM t.sh t.a t.b/\iM t.sh t.a t.b<=1000) (ha: ∀t∈ts,(0<=t.a/\t.a<=1000000)/\0<=t.b/\t.b<=1000000):
  ∀(m k:Nat) (s:St) (V:AV),k+m=min xr.length 12->LL st sA s p3 6 V ((si ts gs xr k).map Rl.cells) (fun A=>[V1,V2,V3,V4,A])->
  ∃ s' V',LL st sA s' p3 6 V' ((si ts gs xr (min xr.length 12)).map Rl.cells) (fun A=>[V1,V2,V3,V4,A])/\ ∀(F:Nat) (k6:List AV->St->Option (AV×St)) (f:Nat),m<f->
    dW c F k6 f [.ptr p1 0,x2,.ptr p3 0,.int .i64 (k:Int)] s=k6 [x2,.ptr p3 0] s':=by
 have c3:(cq zt zg zy zr xt xg xy xr)[3]? =some (bP .u32 zr xr):=rfl
 have lI:=fun (K:AV->St->Option (AV×St)) (s:St)=>qN (c:=c) .u32 zr xr K s
 intro m
 induction m with
 |zero=>
  intro k s V hk h
  obtain rfl:k=min xr.length 12:=by omega
  refine ⟨s,V,h,fun F k6 f hf=> ?_⟩
  obtain ⟨f,rfl⟩: ∃g,f=g+1:=⟨f - 1,by omega⟩
  have h1:=h.kx.keep p1 _ IG IF
  rw[dW]
  by_cases h3:xr.length<=12
  . have e:min xr.length 12=xr.length:=by omega
    rw[e]
    simp[h1,c3,lI]
  . have e:min xr.length 12=12:=by omega
    have hd:decide ((12:Int)<(xr.length:Int))=true:=decide_eq_true (by omega)
    rw[e]
    simp[h1,c3,lI,hd]
 |succ m ih=>
  intro k s V hk h
  have IK:k<xr.length:=by omega
  have hk12:k<12:=by omega
  have wR:=hx _ (List.getElem_mem IK)
  have kM:k<=1000000:=by omega
  have d12:decide ((k:Int)<12)=true:=decide_eq_true (by omega)
  have nw:=fun (K:AV->AB->Option (AV×St))=>V8 s K
  have xM:xr[k]<=4294967296:=by omega
  have h1:=h.kx.keep p1 _ IG IF
  have gr:=h.out.aS
  have A:=VY hc (V3:=V3) (V4:=V4) (V5:=V) (hT.kx h.kx gr sT) (hG.kx h.kx gr sG) lt lg hz ha xr[k] wR
  have gn:=Grew.ay gr.wf (.cells (fI ts gs xr[k]).1.cells 0)
  have hS:si ts gs xr (k+1)=si ts gs xr k++(if (fI ts gs xr[k]).2=true then [(fI ts gs xr[k]).1] else []):=by
    rw[si]
    simp[List.getD_eq_getElem?_getD,IK]
  have z6: ∀(K:AV->St->Option (AV×St)),ag c (.store 6) [.ptr s.next 0,.agg (fI ts gs xr[k]).1.cells] (ay s (.cells [.int .u8 0,.int .i64 0,.str [],.str [],.str [],.int .i64 0] 0)) K=K .undef (ay s (.cells (fI ts gs xr[k]).1.cells 0)):=fun K=>bY c K s 6 (.agg (fI ts gs xr[k]).1.cells) [.int .u8 0,.int .i64 0,.str [],.str [],.str [],.int .i64 0] rfl rfl rfl
  have aP:=fun (K:AV->Option (AV×St)) (t:T AB)=>V6 .u32 .i64 zr xr IK K t
  have hg:=h.aS gn
  have PG:=h.h3
  have h3g:=hg.h3
  have ll:=Gy ts gs xr k
  have cu5: ∀A B D E G:AV,cut [A,B,D,E,G] 0 5=some [A,B,D,E,G]:=fun A B D E G=>ig rfl
  have gx:=bh s (.cells (fI ts gs xr[k]).1.cells 0)
  by_cases hb:(fI ts gs xr[k]).2=true
  . rw[hb] at A
    rw[if_pos hb] at hS
    obtain ⟨s5,s6,V5,a1,a2,a3,a4,a5,a6,a7⟩:=hg.push (c:=c) (bytes:=72) (i:=4) (z:=[.int .u8 0,.int .i64 0,.str [],.str [],.str [],.int .i64 0]) (x:= .agg (fI ts gs xr[k]).1.cells) hA FR iR (fun A B=>rfl) (fun A=>by simp) rfl rfl rfl (by decide) (by rw[List.length_map];omega) (by rw[List.length_map];omega)
    have e:(si ts gs xr k).map Rl.cells++[(.agg (fI ts gs xr[k]).1.cells:AV).cells]=(si ts gs xr (k+1)).map Rl.cells:=by rw[hS,List.map_append];rfl
    rw[e] at a3
    obtain ⟨s7,V7,b1,b2⟩:=ih (k+1) s6 V5 (by omega) a3
    refine ⟨s7,V7,b1,fun F k6 f hf=> ?_⟩
    obtain ⟨f,rfl⟩: ∃g,f=g+1:=⟨f - 1,by omega⟩
    have b3:=b2 F k6 f (by omega)
    generalize (fI ts gs xr[k]).1=R at*
    clear b2 ih a3 a4 a5 a6 e hS hb ll hg h
    have w2:=II kM
    have w3:=IJ xM
    rw[<-b3,dW]
    simp (disch:=omega) [-aR,cI,List.getElem?_cons_zero,List.getElem?_cons_succ,h1,PG,h3g,lI,aP,c3,IK,d12,nw,w3,A,z6,cu5,gx,a1,a2,a7,w2]
  . have dX:(fI ts gs xr[k]).2=false:=by simpa using hb
    rw[dX] at A
    rw[if_neg hb,List.append_nil] at hS
    rw[<-hS] at hg
    obtain ⟨s7,V7,b1,b2⟩:=ih (k+1) _ V (by omega) hg
    refine ⟨s7,V7,b1,fun F k6 f hf=> ?_⟩
    obtain ⟨f,rfl⟩: ∃g,f=g+1:=⟨f - 1,by omega⟩
    have b3:=b2 F k6 f (by omega)
    generalize (fI ts gs xr[k]).1=R at*
    clear b2 ih hS hb dX ll hg h
    have w2:=II kM
    have w3:=IJ xM
    rw[<-b3,dW]
    simp (disch:=omega) [-aR,cI,List.getElem?_cons_zero,List.getElem?_cons_succ,h1,PG,h3g,lI,aP,c3,IK,d12,nw,w3,A,z6,cu5,gx,w2]
end Go.Proofs.YtehbdakjkjkekaaGreatDoor
end
section
set_option maxRecDepth 100000
namespace Go.Proofs.YtehbdakjkjkekaaGreatDoor
open Go Go.Ai Go.Proofs
variable {c : ak}
def wT (xt:List Nat):List dN:=pX xt (min xt.length 3)
def IL (xt xg:List Nat):List Nat:=xg.take (min xg.length (iB xt (min xt.length 3)))
def ng (xt xg:List Nat):List bX:=yy (IL xt xg)
def adw (xt xg xy:List Nat):List Ty:=Yh (IL xt xg) xy
def Aa (xt xg xy:List Nat):List Int:=if 0<xy.length % 4 then u0 xg (ng xt xg).length else []
def wU (xt xg xr:List Nat):List Rl:=si (wT xt) (ng xt xg) xr (min xr.length 12)
def IM (xt xg xy xr:List Nat):sO:=⟨true,wT xt,true,ng xt xg,true,adw xt xg xy,true,Aa xt xg xy,true,wU xt xg xr⟩
theorem adx (x:Nat):0<tN x:=by
 have:0<tA x:=by unfold tA;split<;>(try split)<;>(try split)<;>omega
 unfold tN;split<;>(try split)<;>omega
theorem Gz {xs:List Nat} {k:Nat} {t:dN} (h:t∈pX xs k): ∃i x,t=kT i x:=by
 unfold pX at h
 simp only[List.mem_map] at h
 obtain ⟨i,_,rfl⟩:=h
 exact ⟨_,_,rfl⟩
theorem KF {xs:List Nat} {k:Nat}: ∀t∈pX xs k,0<iM t.sh t.a t.b/\iM t.sh t.a t.b<=1000:=fun t h=>by
 obtain ⟨i,x,rfl⟩:=Gz h
 have e:iM (kT i x).sh (kT i x).a (kT i x).b=((tN x:Nat):Int):=Jt x
 have h1:=adx x
 have h2:=Lm x
 rw[e]
 omega
theorem V9 {xs:List Nat} {k:Nat}: ∀t∈pX xs k,(0<=t.a/\t.a<=1000000)/\0<=t.b/\t.b<=1000000:=fun t h=>by
 obtain ⟨i,x,rfl⟩:=Gz h
 have h1:=Lj x
 have h2:=Ll x
 show (0<=((tA x:Nat):Int)/\((tA x:Nat):Int)<=1000000)/\0<=((tB x:Nat):Int)/\((tB x:Nat):Int)<=1000000
 omega
theorem RS.gs {st sL sR:St} {V W:AV} {gs:List bX} {rows:List (List AV)} {ys:List Ty} (h:RS sL sR V W gs rows ys) (h0:Wf st) (g:Grew st sL):GS st sR V gs rows/\GS.Since sL.next.toNat V rows:=
 ⟨⟨h.out.back h0 g,h.len,fun i t r hi hr=>by
   obtain ⟨v,e1,e2,e3⟩:=h.j5 i t r hi hr
   exact ⟨v,e1,e2.back h0 g,fun b hb=>(e3 b hb).1⟩⟩,h.out.new,fun i r v b hr h8 hb=>by
   have hi:i<gs.length:=by rw[<-h.len];exact (List.getElem?_eq_some_iff.1 hr).1
   obtain ⟨u,e1,e2,_⟩:=h.j5 i gs[i] r (List.getElem?_eq_getElem hi) hr
   have:u=v:=by rw[e1] at h8;exact Option.some.inj h8
   subst this
   exact e2.new b hb⟩
theorem TS.Since.le {n m:Nat} {V:AV} {rows:List (List AV)} (h:TS.Since n V rows) (hm:m<=n):TS.Since m V rows:=⟨fun b hb=>Nat.le_trans hm (h.1 b hb),fun i r v b h1 h2 h3=>Nat.le_trans hm (h.2 i r v b h1 h2 h3)⟩
theorem GS.Since.le {n m:Nat} {V:AV} {rows:List (List AV)} (h:GS.Since n V rows) (hm:m<=n):GS.Since m V rows:=⟨fun b hb=>Nat.le_trans hm (h.1 b hb),fun i r v b h1 h2 h3=>Nat.le_trans hm (h.2 i r v b h1 h2 h3)⟩
theorem PS.tidy {s s':St} {V1 V2 V3 V4 V5:AV} {p:sO} {r1 r2:List (List AV)} (h1:TS s s' V1 p.ts r1) (h2:GS s s' V2 p.gs r2) (h3:Mk 3 s s' V3 (p.ys.map Ty.cells)) (h4:Mk 1 s s' V4 (p.cs.map tQ)) (h5:Mk 6 s s' V5 (p.rs.map Rl.cells)):
   ∃ij,Go.Ai.tidy s (.agg [V1,V2,V3,V4,V5],s')=(.agg [V1,V2,V3,V4,V5],ij)/\PS s ij [V1,V2,V3,V4,V5] p:=by
 obtain ⟨ij,e,g,k⟩:=Mk.VD (s:=s) (s':=s') (l:=[V1,V2,V3,V4,V5]) (fun u hu=>by
   simp only[List.mem_cons,List.not_mem_nil,or_false] at hu
   rcases hu with rfl|rfl|rfl|rfl|rfl
   . exact h1.out.inst
   . exact h2.out.inst
   . exact h3.inst
   . exact h4.inst
   . exact h5.inst) h1.out.lZ h1.out.aS
 obtain ⟨a1,b1⟩:=k 7 V1 r1 (by simp) h1.out
 obtain ⟨a2,b2⟩:=k 9 V2 r2 (by simp) h2.out
 obtain ⟨a3,_⟩:=k 3 V3 _ (by simp) h3
 obtain ⟨a4,_⟩:=k 1 V4 _ (by simp) h4
 obtain ⟨a5,_⟩:=k 6 V5 _ (by simp) h5
 refine ⟨ij,e,g,V1,V2,V3,V4,V5,r1,r2,rfl,⟨a1,h1.len,fun i t r hi hr=> ?_⟩,⟨a2,h2.len,fun i t r hi hr=> ?_⟩,a3,a4,a5⟩
 . rcases b1 with rfl|rfl
   . exact h1.j5 i t r hi hr
   . simp at hr
 . rcases b2 with rfl|rfl
   . exact h2.j5 i t r hi hr
   . simp at hr
theorem Tr {R:Type} (k k':IntKind) (z:Bool) (l:List Nat) {i:Nat} (h:i<=l.length) (K:AV->Option R):aJ (.sliceL 1 false true false) [bP k z l,.int k' (i:Int)] K=K (bP k (z&&l.isEmpty) (l.take i)):=by
 unfold bP
 rw[SJ,List.length_map,if_pos h]
 simp only[List.isEmpty_map,List.map_take]
 rfl
theorem Ts {R:Type} (k:IntKind) (z:Bool) (l:List Nat) (K:AV->Option R):aJ (.lenB .l) [bP k z l] K=K (.int .i64 (l.length:Int)):=by unfold bP;rw[Vp];simp
theorem Wa {R:Type} (s:St) (K:AV->AB->Option R):CQ (.alloc [.ai,.ai]) [] s K=K (.ptr s.next 0) (.cells [.ai,.ai] 0):=rfl
set_option maxHeartbeats 4000000 in
theorem ZH (hc:dS c) {xt xg xy xr:List Nat} (ht: ∀x∈xt,x<256) (hg: ∀x∈xg,x<65536) (hy: ∀x∈xy,x<256) (hr: ∀x∈xr,x<4294967296) (lt:xt.length<=9223372036854775807) (lg:xg.length<=9223372036854775807) (lr:xr.length<=9223372036854775807) (ly:xy.length<=9223372036854775807)
  (zt zg zy zr:Bool) (st:St) (hw:Wf st): ∃Vs s',c 12 [.agg (cq zt zg zy zr xt xg xy xr)] st=some (.agg Vs,s')/\PS st s' Vs (IM xt xg xy xr):=by
 have w1:Wf (ay st (.cells (cq zt zg zy zr xt xg xy xr) 0)):=fX hw
 have w2:Wf (ay (ay st (.cells (cq zt zg zy zr xt xg xy xr) 0)) (.cells [.ai,.ai,.ai,.ai,.ai] 0)):=fX w1
 have g1:=Grew.ay hw (.cells (cq zt zg zy zr xt xg xy xr) 0)
 have g2:=Grew.ay w1 (.cells [.ai,.ai,.ai,.ai,.ai] 0)
 have g3:=Grew.ay w2 (.cells [.ai,.ai,.ai,.ai,.ai] 0)
 obtain ⟨p1,OS⟩: ∃p1,p1=st.next:=⟨_,rfl⟩
 obtain ⟨p2,Fo⟩: ∃p2,p2=(ay st (.cells (cq zt zg zy zr xt xg xy xr) 0)).next:=⟨_,rfl⟩
 obtain ⟨p3,Yn⟩: ∃p3,p3=(ay (ay st (.cells (cq zt zg zy zr xt xg xy xr) 0)) (.cells [.ai,.ai,.ai,.ai,.ai] 0)).next:=⟨_,rfl⟩
 obtain ⟨s3,PI⟩: ∃s3,s3=ay (ay (ay st (.cells (cq zt zg zy zr xt xg xy xr) 0)) (.cells [.ai,.ai,.ai,.ai,.ai] 0)) (.cells [.ai,.ai,.ai,.ai,.ai] 0):=⟨_,rfl⟩
 have n1:st.next.toNat=p1.toNat:=by rw[OS]
 have n2:p2.toNat=p1.toNat+1:=by rw[Fo,dx,Pos.az,OS]
 have n3:p3.toNat=p2.toNat+1:=by rw[Yn,dx,Pos.az,Fo]
 have n4:s3.next.toNat=p3.toNat+1:=by rw[PI,dx,Pos.az,Yn]
 have G3:Grew st s3:=by rw[PI];exact (g1.trans g2).trans g3
 have H1:s3.heap.get p1=some (.cells (cq zt zg zy zr xt xg xy xr) 0):=by rw[PI,OS];exact g3.get (g2.get (bh _ _))
 have H2:s3.heap.get p2=some (.cells [.ai,.ai,.ai,.ai,.ai] 0):=by rw[PI,Fo];exact g3.get (bh _ _)
 have H3:s3.heap.get p3=some (.cells [.ai,.ai,.ai,.ai,.ai] 0):=by rw[PI,Yn];exact bh _ _
 have d13:p1≠p3:=fun e=>by subst e;omega
 have d23:p2≠p3:=fun e=>by subst e;omega
 have W3:=G3.wf
 obtain ⟨sL,V1,r1,T1,e1⟩:=To (c:=c) (x2:= .ptr p2 0) hc ht lt (zt:=zt) (zg:=zg) (zy:=zy) (zr:=zr) (xg:=xg) (xy:=xy) (xr:=xr) W3 H1 d13 (by omega) (by omega) (st:=st) (min xt.length 3) 0 s3 .ai [] (by omega)
  ⟨⟨Mk.start hw G3,rfl,fun i t r hi _=>by simp[pX] at hi⟩,KX.refl W3,H3,⟨fun b e=>(nomatch e),fun i r v b hr _ _=>by simp at hr⟩⟩
 have GL:=T1.tab.out.aS
 have WL:=GL.wf
 have lN:=T1.kx.next
 have L1:=T1.kx.keep p1 _ d13 H1
 have L2:=T1.kx.keep p2 _ d23 H2
 have L3:=T1.h3
 have mlen:(wT xt).length<=3:=by unfold wT;rw[Nl];omega
 obtain ⟨m,hm⟩: ∃m:Nat,m=min xg.length (iB xt (min xt.length 3)):=⟨_,rfl⟩
 have hmx:xg.take m=IL xt xg:=by rw[hm];rfl
 obtain ⟨V2,V3,sR,r2,cR,R⟩:=ZD hc (xs:=IL xt xg) (bK:=xy) (fun x hx=>hg x (List.mem_of_mem_take hx)) (by have:=List.length_take_le m xg;rw[hmx] at this;omega) hy (zg&&xg.isEmpty) zy sL WL
 have GR:=GL.trans R.aS
 have WR:=GR.wf
 obtain ⟨GSR,SR⟩:=R.gs hw GL
 have rN:=R.aS.next
 have gx:=Grew.ay WR (.cells [V2,V3] 0)
 obtain ⟨sX,Yo⟩: ∃sX,sX=ay sR (.cells [V2,V3] 0):=⟨_,rfl⟩
 have WX:Wf sX:=by rw[Yo];exact gx.wf
 have GX:Grew sR sX:=by rw[Yo];exact gx
 have X1:=GX.get (R.aS.get L1)
 have X2:=GX.get (R.aS.get L2)
 have X3:=GX.get (R.aS.get L3)
 have X8:sX.heap.get sR.next=some (.cells [V2,V3] 0):=by rw[Yo];exact bh _ _
 have n8:sR.next≠p3:=fun e=>by have:sR.next.toNat=p3.toNat:=by rw[e]
                               omega
 have lX:=WX _ _ X3
 obtain ⟨vc2,v2⟩:=R.out.cells
 obtain ⟨vc3,v3⟩:=R.ty.cells
 have u6: ∀(K:AV->St->Option (AV×St)),ag c (.store 1) [.ptr p3 (0+1),V2] sX K=K .undef (ew sX p3 (.cells [V1,V2,.ai,.ai,.ai] 0)):=fun K=>by
  rw[eM c K sX 1 p3 (0+1) V2 [V1,.ai,.ai,.ai,.ai] X3 (by rw[vc2];rfl) (by simp) (by rw[vc2];exact v2),vc2];rfl
 have st3: ∀(K:AV->St->Option (AV×St)),ag c (.store 1) [.ptr p3 (0+2),V3] (ew sX p3 (.cells [V1,V2,.ai,.ai,.ai] 0)) K=K .undef (ew sX p3 (.cells [V1,V2,V3,.ai,.ai] 0)):=fun K=>by
  rw[eM c K _ 1 p3 (0+2) V3 [V1,V2,.ai,.ai,.ai] (eO _ _ _) (by rw[vc3];rfl) (by simp) (by rw[vc3];exact v3),vc3,Zd];rfl
 obtain ⟨sB,Yp⟩: ∃sB,sB=ew sX p3 (.cells [V1,V2,V3,.ai,.ai] 0):=⟨_,rfl⟩
 have Yq:KX p3 sX sB:=by rw[Yp];exact (KX.refl WX).store lX _
 have WB:=Yq.wf
 have GB:Grew st sB:=by rw[Yp];exact Cc hw (GR.trans GX) (by omega) lX _
 have kRB:KX p3 sR sB:=((KX.refl WR).aS GX).trans Yq
 have kLB:KX p3 sL sB:=((KX.refl WL).aS R.aS).trans kRB
 have B1:=Yq.keep p1 _ d13 X1
 have B2:=Yq.keep p2 _ d23 X2
 have B3:sB.heap.get p3=some (.cells [V1,V2,V3,.ai,.ai] 0):=by rw[Yp];exact eO _ _ _
 have lB:=WB _ _ B3
 have Tt:TS.Since (p3.toNat+1) V1 r1:=T1.since.le (by omega)
 have Tu:GS.Since (p3.toNat+1) V2 r2:=SR.le (by omega)
 have TB:=T1.tab.kx kLB GB Tt
 have GSB:=GSR.kx kRB GB Tu
 have Yr: ∀b,aF V3=some b->p3.toNat+1<=b.toNat:=fun b hb=>by have:=R.ty.new b hb;omega
 have YB:=Mk.kx (R.ty.back hw GL) kRB GB Yr
 have IB:(ng xt xg).length<=12:=KB _
 have hgn:(ng xt xg).length<=xg.length:=by
  unfold ng yy
  rw[Gx, <-hmx,List.length_take]
  omega
 have l2: ∀(K:AV->St->Option (AV×St)) (s':St),ag c (.lenB .l) [V2] s' K=K (.int .i64 ((ng xt xg).length:Int)) s':=fun K s'=>by rw[QS.lenB R.out.own,R.len];rfl
 have C0:LL st sB sB p3 1 .ai ((u0 xg 0).map tQ) (fun A=>[V1,V2,V3,A,.ai]):=⟨Mk.start hw GB,KX.refl WB,B3,fun b e=>(nomatch e)⟩
 obtain ⟨sC1,V41,C1,e2⟩:=Q9 (c:=c) (x2:= .ptr p2 0) hg (zt:=zt) (zg:=zg) (zy:=zy) (zr:=zr) (xt:=xt) (xy:=xy) (xr:=xr) (st:=st) (V1:=V1) (V3:=V3) hgn (by omega) WB B1 d13 lB (by omega) l2 (ng xt xg).length 0 sB .ai (by omega) C0
 have ld2: ∀(K:AV->St->Option (AV×St)),ag c (.load none) [.ptr p1 (0+2)] sB K=K (bP .u8 zy xy) sB:=fun K=>by rw[BU,B1];rfl
 have key: ∃Vs s',iG c 400 (.agg (cq zt zg zy zr xt xg xy xr)) st=some (.agg Vs,s')/\ ∃ij,Go.Ai.tidy st (.agg Vs,s')=(.agg Vs,ij)/\PS st ij Vs (IM xt xg xy xr):=by
  obtain ⟨Q,hQ⟩: ∃Q:Option (AV×St)->Prop,Q=fun o=> ∃Vs s',o=some (.agg Vs,s')/\ ∃ij,Go.Ai.tidy st (.agg Vs,s')=(.agg Vs,ij)/\PS st ij Vs (IM xt xg xy xr):=⟨_,rfl⟩
  have yA:Q (iG c 400 (.agg (cq zt zg zy zr xt xg xy xr)) st)-> ∃Vs s',iG c 400 (.agg (cq zt zg zy zr xt xg xy xr)) st=some (.agg Vs,s')/\ ∃ij,Go.Ai.tidy st (.agg Vs,s')=(.agg Vs,ij)/\PS st ij Vs (IM xt xg xy xr):=fun h=>by rw[hQ] at h;exact h
  apply yA
  clear yA
  have PA: ∀(k2:List AV->St->Option (AV×St)),c9 c 400 k2 400 [.ptr p1 0,.ptr p2 0,.ptr p3 0,.int .i64 0,.int .i64 0] s3=k2 [.ptr p1 0,.ptr p2 0,.ptr p3 0,.int .i64 (iB xt (min xt.length 3):Int)] sL:=fun k2=>e1 400 k2 400 (by omega)
  have e2': ∀(k4:List AV->St->Option (AV×St)),fc c 400 k4 400 [.ptr p1 0,.ptr p2 0,.ptr p3 0,.int .i64 0] sB=k4 [.ptr p1 0,.ptr p2 0,.ptr p3 0] sC1:=fun k4=>e2 400 k4 400 (by omega)
  have ra1: ∀(K:AV->Option (AV×St)),ei (.load none) [.ptr p1 (0+1)] sL.heap (fun _=>true) K=K (bP .u16 zg xg):=fun K=>by rw[oa,L1];rfl
  have ra2: ∀(K:AV->Option (AV×St)),ei (.load none) [.ptr p1 (0+2)] sL.heap (fun _=>true) K=K (bP .u8 zy xy):=fun K=>by rw[oa,L1];rfl
  have rb0: ∀(K:AV->Option (AV×St)),ei (.load none) [.ptr sR.next (0+0)] sX.heap (fun _=>true) K=K V2:=fun K=>by rw[oa,X8];rfl
  have rb1:=fun (K:AV->Option (AV×St))=>tM K (p:=sR.next) (o:=0+1) (h:=(ew sX p3 (.cells [V1,V2,.ai,.ai,.ai] 0)).heap) (h2:=sX.heap) (v:=V3) (by rw[bV (fun e=>n8 e.symm),X8];rfl) (by rw[X8];rfl) R.ty.own.beq
  have pm: ∀(K:AV->Option (AV×St)),aJ .minB [.int .i64 (xg.length:Int),.int .i64 (iB xt (min xt.length 3):Int)] K=K (.int .i64 (m:Int)):=fun K=>by
    rw[iY K (fun H n=>Pe H n _ _ _ _),hm]
    congr 2
    generalize iB xt (min xt.length 3)=a
    omega
  have z6: ∀(K:AV->St->Option (AV×St)),ag c (.store 2) [.ptr sR.next 0,.agg [V2,V3]] (ay sR (.cells [.ai,.ai] 0)) K=K .undef sX:=fun K=>by
    rw[Yo]
    exact bY c K sR 2 (.agg [V2,V3]) [.ai,.ai] rfl rfl (by
        have a2:V2.one=true:=r6 v2
        have a3:V3.one=true:=r6 v3
        show aX [V2,V3]=true
        simp only[aX,a2,a3])
  rw[iG,Jl,show AV.cells (.agg (cq zt zg zy zr xt xg xy xr))=cq zt zg zy zr xt xg xy xr from rfl,iJ,iJ, <-PI, <-Yn, <-Fo, <-OS,aT,aT,PA,
    aM,aM,aM,aM,mX,aY,ra1,aY,ra1,Ts,eF,pm,Tr _ _ _ _ (by omega),aY,ra2,hmx,yq,cR,DI,Wa,z6,aY,rb0,aY,u6,aY,rb1,aY,st3, <-Yp]
  refine ja (P:=fun j=> ∀sC V4,LL st sB sC p3 1 V4 ((Aa xt xg xy).map tQ) (fun A=>[V1,V2,V3,A,.ai])->Q (j [.ptr p1 0,.ptr p2 0,.ptr p3 0] sC)) ?_ ?_
  . intro sC V4 hC
    have GC:=hC.out.aS
    have WC:=GC.wf
    have nC:=hC.kx.next
    have C1':=hC.kx.keep p1 _ d13 B1
    have C2':=hC.kx.keep p2 _ d23 B2
    have TC:=TB.kx hC.kx GC Tt
    have GSC:=GSB.kx hC.kx GC Tu
    have YC:=Mk.kx YB hC.kx GC Yr
    obtain ⟨sD,V5,D1,e3⟩:=Ra (c:=c) (x2:= .ptr p2 0) hc hr lr (zt:=zt) (zg:=zg) (zy:=zy) (zr:=zr) (xt:=xt) (xg:=xg) (xy:=xy) (V3:=V3) (V4:=V4) WC C1' d13 (by omega) (by omega) TC Tt GSC Tu (show (wT xt).length<=1000 by omega) (show (ng xt xg).length<=1000 by omega) KF V9 (min xr.length 12) 0 sC .ai (by omega)
        ⟨Mk.start hw GC,KX.refl WC,hC.h3,fun b e=>(nomatch e)⟩
    have e3': ∀(k6:List AV->St->Option (AV×St)),dW c 400 k6 400 [.ptr p1 0,.ptr p2 0,.ptr p3 0,.int .i64 0] sC=k6 [.ptr p2 0,.ptr p3 0] sD:=fun k6=>e3 400 k6 400 (by omega)
    have GD:=D1.out.aS
    have WD:=GD.wf
    have D2':=D1.kx.keep p2 _ d23 C2'
    have s4V: ∀b,aF V4=some b->p3.toNat+1<=b.toNat:=fun b hb=>by have:=hC.since b hb;omega
    have s5V: ∀b,aF V5=some b->p3.toNat+1<=b.toNat:=fun b hb=>by have:=D1.since b hb;omega
    have TD:=TC.kx D1.kx GD Tt
    have GSD:=GSC.kx D1.kx GD Tu
    have YD:=Mk.kx YC D1.kx GD Yr
    have CD:=Mk.kx hC.out D1.kx GD s4V
    have lD:=WD _ _ D2'
    have ld5: ∀(K:AV->St->Option (AV×St)),ag c (.load (some 5)) [.ptr p3 0] sD K=K (.agg [V1,V2,V3,V4,V5]) sD:=fun K=>by rw[FH,D1.h3];rfl
    have one5:aX [V1,V2,V3,V4,V5]=true:=by
        have a1:V1.one=true:=r6 TD.out.cells.2
        have a2:V2.one=true:=r6 v2
        have a3:V3.one=true:=r6 v3
        have a4:V4.one=true:=r6 CD.cells.2
        have a5:V5.one=true:=r6 D1.out.cells.2
        simp only[aX,a1,a2,a3,a4,a5,Bool.and_self]
    have sto5: ∀(K:AV->St->Option (AV×St)),ag c (.store 5) [.ptr p2 0,.agg [V1,V2,V3,V4,V5]] sD K=K .undef (ew sD p2 (.cells [V1,V2,V3,V4,V5] 0)):=fun K=>by
        rw[eM c K _ 5 p2 0 (.agg [V1,V2,V3,V4,V5]) _ D2' rfl (by simp) one5];rfl
    have kE:KX p2 sD (ew sD p2 (.cells [V1,V2,V3,V4,V5] 0)):=(KX.refl WD).store lD _
    have GE:=Cc hw GD (show st.next.toNat<=p2.toNat by omega) lD (.cells [V1,V2,V3,V4,V5] 0)
    obtain ⟨ij,t1,t2⟩:=PS.tidy (p:=IM xt xg xy xr) (TD.kx kE GE (Tt.le (by omega))) (GSD.kx kE GE (Tu.le (by omega))) (Mk.kx YD kE GE fun b hb=>by have:=Yr b hb;omega) (Mk.kx CD kE GE fun b hb=>by have:=s4V b hb;omega) (Mk.kx D1.out kE GE fun b hb=>by have:=s5V b hb;omega)
    have QF:Q (some (.agg [V1,V2,V3,V4,V5],ew sD p2 (.cells [V1,V2,V3,V4,V5] 0))):=by rw[hQ];exact ⟨_,_,rfl,ij,t1,t2⟩
    rw[aM,aM,aM,mX,aT,e3',aM,aM,mX,ld5,sto5,MB,eO]
    exact QF
  . intro j hj
    rw[gG,ld2,qN,bL (by omega) (by omega),Y6]
    by_cases h4:0<xy.length % 4
    .   rw[decide_eq_true (show (0:Int)<(xy.length:Int) % 4 by omega),pH,aT,e2',aM,aM,aM,mX]
        refine hj sC1 V41 ?_
        have:Aa xt xg xy=u0 xg (ng xt xg).length:=by unfold Aa;rw[if_pos h4]
        rw[this]
        exact C1
    .   rw[decide_eq_false (show ¬(0:Int)<(xy.length:Int) % 4 by omega),qu]
        refine hj sB .ai ?_
        have:Aa xt xg xy=[]:=by unfold Aa;rw[if_neg h4]
        rw[this]
        exact C0
 obtain ⟨Vs,s',k1,ij,k2,k3⟩:=key
 refine ⟨Vs,ij,?_,k3⟩
 rw[Ab hc 400 (r:=(.agg Vs,s')) k1,k2]
end Go.Proofs.YtehbdakjkjkekaaGreatDoor
end
section
set_option maxRecDepth 100000
namespace Go.Proofs.YtehbdakjkjkekaaGreatDoor
open Go Go.Ai Go.Proofs
variable {c : ak}
theorem QS.rowAt {es:Nat} {s:St} {V:AV} {rows:List (List AV)} (h:QS es s V rows) (hr: ∀r∈rows,r.length=es) (he:0<es) {i:Nat} (hi:i<rows.length):
   ∃b o,(∀(K:AV->St->Option (AV×St)) (k:IntKind) (s1:St),ag c (.idxA es none) [V,.int k (i:Int)] s1 K=K (.ptr b o) s1)/\(∀(K:AV->Option (AV×St)) (k:IntKind),aJ (.idxA es none) [V,.int k (i:Int)] K=K (.ptr b o))/\
    ((cellsOf (s.heap.get b)).bind fun cs=>cut cs o es)=some rows[i]/\(∀(j:Nat) (u:AV),rows[i][j]? =some u->((cellsOf (s.heap.get b)).bind fun cs=>cs[o+j]?)=some u)/\aF V=some b:=by
 obtain ⟨b,off,cap,cs,rfl,g1,g2⟩:=IA h hr hi
 refine ⟨b,off+i*es,fun K k s1=>tO c K s1 hi,fun K k=>uG K hi,?_,fun j u hj=> ?_,?_⟩
 . rw[g1];exact D6 (hr _ (List.getElem_mem hi)) he g2
 . rw[g1];exact g2 j u hj
 . simp only[aF];rw[if_neg (by omega)]
theorem Mk.setc {es:Nat} {s0 s:St} {v:AV} {rows:List (List AV)} (h:Mk es s0 s v rows) {i j:Nat} (hi:i<rows.length) (hj:j<es) {u:AV} (hu:u.cells=[u]) (h1:u.one=true):
   ∃b o s',(∀(K:AV->St->Option (AV×St)) (k:IntKind) (s1:St),ag c (.idxA es none) [v,.int k (i:Int)] s1 K=K (.ptr b o) s1)/\(∀(K:AV->St->Option (AV×St)),ag c (.store 1) [.ptr b (o+j),u] s K=K .undef s')/\Mk es s0 s' v (rows.set i (rows[i].set j u)):=by
 obtain ⟨b,o,cs,a1,_,a3,a4,a5,_,a7,a8⟩:=QS.set (c:=c) (R:=AV×St) h.own h.row (by omega) hi
 have Gb:=h.new b a3
 have aZ:=h.aS.wf b _ a4
 have Tv:=h.tight b a3
 have gN:cs=rows.flatten:=by rw[a4] at Tv;injection Tv with e;injection e
 refine ⟨b,o,ew s b (.cells (aO cs (o+j) [u]) 0),a1,fun K=> ?_,h.lZ,Cc h.lZ h.aS Gb aZ _,a7 j u _ hj (eO _ _ _),h.new,fun r hr=> ?_,h.cap,fun b' dX=> ?_⟩
 . rw[eM c K s 1 b (o+j) u cs a4 (by rw[hu];rfl) (by omega) (by rw[hu];simp only[aX,h1]),hu]
 . rcases List.mem_or_eq_of_mem_set hr with hr|rfl
   . exact h.row r hr
   . rw[List.length_set];exact h.row _ (List.getElem_mem hi)
 . have:b'=b:=by rw[a3] at dX;exact (Option.some.inj dX).symm
   subst this
   rw[eO,a8 j u hj gN]
theorem C9 {rs:List Rl} (hl:rs.length<=1000) {V:AV} {s0:St} (h:QS 6 s0 V (rs.map Rl.cells)) (F:Nat) (k2): ∀(m k f:Nat) (s:St) (W:AV),m<f->k+m=rs.length->Mk 6 s0 s W ((rs.take k).map Rl.cells)->
  ∃s' W',Mk 6 s0 s' W' (rs.map Rl.cells)/\dL c F k2 f [V,W,.int .i64 (k:Int)] s=k2 [W'] s':=by
 have lI:=fun (K:AV->St->Option (AV×St)) (s:St)=>QS.lenB (c:=c) h K s
 rw[List.length_map] at lI
 intro m
 induction m with
 |zero=>
  intro k f s W hf h1 hW
  obtain ⟨f,rfl⟩: ∃g,f=g+1:=⟨f - 1,by omega⟩
  obtain rfl:k=rs.length:=by omega
  rw[List.take_length] at hW
  refine ⟨s,W,hW,?_⟩
  rw[dL]
  simp[lI]
 |succ m ih=>
  intro k f s W hf h1 hW
  obtain ⟨f,rfl⟩: ∃g,f=g+1:=⟨f - 1,by omega⟩
  have hk:k<rs.length:=by omega
  have jC:k<(rs.map Rl.cells).length:=by rw[List.length_map];exact hk
  have kM:k<=1000000:=by omega
  have hs:QS 6 s V (rs.map Rl.cells):=h.mono fun b x _ hx=>hW.aS.get hx
  obtain ⟨b,o,a1,_,a3,_,_⟩:=QS.rowAt (c:=c) hs (fun r hr=>by simp only[List.mem_map] at hr;obtain ⟨t,_,rfl⟩:=hr;rfl) (by omega) jC
  rw[List.getElem_map] at a3
  obtain ⟨s5,W5,b1,b2,_,_⟩:=hW.push (c:=c) (R:=AV×St) (bytes:=72) (z:=[.int .u8 0,.int .i64 0,.str [],.str [],.str [],.int .i64 0]) (x:= .agg rs[k].cells) rfl rfl rfl (by decide) (by rw[List.length_map,List.length_take];omega) (by rw[List.length_map,List.length_take];omega)
  have e:(rs.take k).map Rl.cells++[(.agg rs[k].cells:AV).cells]=(rs.take (k+1)).map Rl.cells:=by rw[List.take_succ_eq_append_getElem hk,List.map_append];rfl
  rw[e] at b2
  obtain ⟨s',W',c1,c2⟩:=ih (k+1) f s5 W5 (by omega) (by omega) b2
  refine ⟨s',W',c1,?_⟩
  have w2:aW .i64 ((k:Int)+1)=((k+1:Nat):Int):=wrap64 (by omega) (by omega)
  rw[<-c2,dL]
  clear ih c1 c2 e b2
  generalize rs[k]=R at*
  simp (disch:=omega) [-aR,lI,hk,a1,a3,b1,w2]
theorem Jw (hc:dS c) {rs:List Rl} (hl:rs.length<=1000) {V:AV} {s:St} (hw:Wf s) (h:QS 6 s V (rs.map Rl.cells)): ∃W s',c 11 [V] s=some (W,s')/\Mk 6 s s' W (rs.map Rl.cells):=by
 obtain ⟨s',W,h1,h2⟩:=C9 (c:=c) hl h (rs.length+1) (fun vs kG=>au vs fun x3 vs=>bW vs (ag c .move [x3] kG fun cW mM=>ag c .move [cW] mM fun x2 oD=>some (x2,oD))) rs.length 0 (rs.length+1) s .ai (by omega) (by omega) (Mk.start hw (Grew.refl hw))
 obtain ⟨ij,t1,t2⟩:=h1.tidy
 refine ⟨W,ij,?_,t2⟩
 have ON:dL c (rs.length+1) (fun vs kG=>au vs fun x3 vs=>bW vs (ag c .move [x3] kG fun cW mM=>ag c .move [cW] mM fun x2 oD=>some (x2,oD))) (rs.length+1) [V,.ai,.int .i64 0] s=some (W,s'):=by
  rw[show (0:Int)=((0:Nat):Int) from rfl,h2];simp
 rw[wW hc (rs.length+1) (r:=(W,s')),t1]
 rw[oc]
 simp at ON
 simp[ON]
theorem Jy (hc:dS c) (F:Nat) {x0 x1:AV} {s:St} {r:AV×St} (h:od c F x0 x1 s=some r):c 10 [x0,x1] s=some (tidy s r):=hc.of (A:=gI) (by kernel_rfl) (by kernel_rfl) (zh _ F) (by rw[zi];exact h)
theorem Da {rs:List Rl} (hl:rs.length<=1000) {V W:AV} {s:St} (h:QS 6 s V (rs.map Rl.cells)) (h':QS 6 s W (rs.map Rl.cells)) (F:Nat) (k1 k2): ∀(m k f:Nat),m<f->k+m=rs.length->eR c F k1 k2 f [V,W,.int .i64 (k:Int)] s=k2 [] s:=by
 have lI:=fun (K:AV->St->Option (AV×St)) (s:St)=>QS.lenB (c:=c) h K s
 rw[List.length_map] at lI
 have iO: ∀r∈rs.map Rl.cells,r.length=6:=fun r hr=>by simp only[List.mem_map] at hr;obtain ⟨t,_,rfl⟩:=hr;rfl
 intro m
 induction m with
 |zero=>
  intro k f hf h1
  obtain ⟨f,rfl⟩: ∃g,f=g+1:=⟨f - 1,by omega⟩
  obtain rfl:k=rs.length:=by omega
  rw[eR]
  simp[lI]
 |succ m ih=>
  intro k f hf h1
  obtain ⟨f,rfl⟩: ∃g,f=g+1:=⟨f - 1,by omega⟩
  have hk:k<rs.length:=by omega
  have jC:k<(rs.map Rl.cells).length:=by rw[List.length_map];exact hk
  obtain ⟨b,o,_,a2,a3,_,_⟩:=QS.rowAt (c:=c) h iO (by omega) jC
  obtain ⟨b',o',_,a2',a3',_,_⟩:=QS.rowAt (c:=c) h' iO (by omega) jC
  rw[List.getElem_map] at a3 a3'
  have w2:aW .i64 ((k:Int)+1)=((k+1:Nat):Int):=wrap64 (by omega) (by omega)
  rw[<-ih (k+1) f (by omega) (by omega),eR]
  generalize rs[k]=R at*
  simp[lI,hk,a2,a3,a2',a3',Zy,w2]
theorem Jz (hc:dS c) {rs:List Rl} (hl:rs.length<=1000) {V W:AV} {s:St} (h:QS 6 s V (rs.map Rl.cells)) (h':QS 6 s W (rs.map Rl.cells)):c 10 [V,W] s=some (.bool true,s):=by
 have l1:=fun (K:AV->St->Option (AV×St)) (s:St)=>QS.lenB (c:=c) h K s
 have l2:=fun (K:AV->St->Option (AV×St)) (s:St)=>QS.lenB (c:=c) h' K s
 have L:=Da (c:=c) hl h h' (rs.length+1) (fun vs nh=>au vs fun x4 vs=>bW vs (some (x4,nh))) (fun vs kZ=>bW vs (ag c .move [.bool true] kZ fun x4 kG=>some (x4,kG))) rs.length 0 (rs.length+1) (by omega) (by omega)
 rw[Jy hc (rs.length+1) (r:=(.bool true,s)),mY (Plain.bool _) (dz.refl s)]
 rw[od]
 simp at L
 simp[l1,l2,L]
end Go.Proofs.YtehbdakjkjkekaaGreatDoor
end
section
set_option maxRecDepth 100000
namespace Go.Proofs.YtehbdakjkjkekaaGreatDoor
open Go Go.Ai Go.Proofs
variable {c : ak}
theorem Wb {R:Type} {T:List Nat} {a i:Nat} (h1:a<=i) (h2:i<=T.length) (s:St) (K:AV->St->Option R):ag c (.sliceS true true) [.str T,.int .i64 (a:Int),.int .i64 (i:Int)] s K=K (.str ((T.take i).drop a)) s:=
 bQ c K (fun H n=>by
  simp only[aB.run,xT,bounds,mE,Option.getD_some,iq,decide_eq_true h1,decide_eq_true h2]) s
theorem Rb {T:List Nat} (hl:T.length<=1000000) {s0:St}: ∀(m i a:Nat) (s:St) (V:AV) (ws:List (List Nat)),i+m=T.length->a<=i->(i=0->a=0)->(∀(j:Nat),i=j+1->T[j]? =some 10->a=i)->Mk 1 s0 s V (ws.map fY)->ws.length=(T.take i).count 10->
  ∃(s':St) (V':AV) (PJ:List (List Nat)) (a':Nat),Mk 1 s0 s' V' (PJ.map fY)/\PJ.length=T.count 10/\(T.length=0->a'=0)/\(∀(j:Nat),T.length=j+1->T[j]? =some 10->a'=T.length)/\ ∀(F:Nat) (k2:List AV->St->Option (AV×St)) (f:Nat),m<f->ey c F k2 f [.str T,V,.int .i64 (a:Int),.int .i64 (i:Int)] s=k2 [.str T,V',.int .i64 (a':Int)] s':=by
 intro m
 induction m with
 |zero=>
  intro i a s V ws h1 ha h0 hj hV hw
  obtain rfl:i=T.length:=by omega
  rw[List.take_length] at hw
  refine ⟨s,V,ws,a,hV,hw,h0,hj,fun F k2 f hf=> ?_⟩
  obtain ⟨f,rfl⟩: ∃g,f=g+1:=⟨f - 1,by omega⟩
  rw[ey]
  simp
 |succ m ih=>
  intro i a s V ws h1 ha h0 hj hV hw
  have hi:i<T.length:=by omega
  have hle:ws.length<=1000000:=by
    rw[hw]
    have:=List.count_le_length (a:=10) (l:=T.take i)
    rw[List.length_take] at this
    omega
  have ht:(T.take (i+1)).count 10=(T.take i).count 10+(if T[i]=10 then 1 else 0):=by
    rw[List.take_succ_eq_append_getElem hi,List.count_append]
    by_cases h:T[i]=10
    .   rw[if_pos h,h];rfl
    .   rw[if_neg h]
        congr 1
        simp[h]
  have w2:aW .i64 ((i:Int)+1)=((i+1:Nat):Int):=wrap64 (by omega) (by omega)
  by_cases hx:T[i]=10
  . rw[if_pos hx] at ht
    obtain ⟨s5,V5,b1,b2,_,_⟩:=hV.push (c:=c) (R:=AV×St) (bytes:=16) (z:=[.str []]) (x:= .str ((T.take i).drop a)) rfl rfl rfl (by decide) (by rw[List.length_map];omega) (by rw[List.length_map];omega)
    have e:ws.map fY++[(.str ((T.take i).drop a):AV).cells]=(ws++[(T.take i).drop a]).map fY:=by rw[List.map_append];rfl
    rw[e] at b2
    obtain ⟨s',V',PJ,a',c1,c2,c3,c4,c5⟩:=ih (i+1) (i+1) s5 V5 (ws++[(T.take i).drop a]) (by omega) (Nat.le_refl _) (by omega) (fun _ _ _=>rfl) b2 (by rw[ht,List.length_append,hw];rfl)
    refine ⟨s',V',PJ,a',c1,c2,c3,c4,fun F k2 f hf=> ?_⟩
    obtain ⟨f,rfl⟩: ∃g,f=g+1:=⟨f - 1,by omega⟩
    rw[<-c5 F k2 f (by omega),ey]
    have hd:decide ((T[i]:Int)=10)=true:=decide_eq_true (by omega)
    have il:i<=T.length:=by omega
    have sl:=fun (s:St) (K:AV->St->Option (AV×St))=>Wb (c:=c) ha il s K
    clear ih c1 c2 c3 c4 c5 e b2 hV
    simp[-aR,cI,hi,hd,sl,b1,w2]
  . rw[if_neg hx,Nat.add_zero] at ht
    obtain ⟨s',V',PJ,a',c1,c2,c3,c4,c5⟩:=ih (i+1) a s V ws (by omega) (by omega) (by omega) (fun j sN hT=>by
        obtain rfl:j=i:=by omega
        rw[List.getElem?_eq_getElem hi] at hT
        exact absurd (Option.some.inj hT) hx) hV (by rw[ht,hw];rfl)
    refine ⟨s',V',PJ,a',c1,c2,c3,c4,fun F k2 f hf=> ?_⟩
    obtain ⟨f,rfl⟩: ∃g,f=g+1:=⟨f - 1,by omega⟩
    rw[<-c5 F k2 f (by omega),ey]
    have hd:decide ((T[i]:Int)=10)=false:=decide_eq_false (by omega)
    simp[cI,hi,hd,w2]
theorem Wc (hc:dS c) {T:List Nat} (hl:T.length<=1000000) (hend:T=[]\/ ∃u,T=u++[10]) (s:St) (hw:Wf s):
  ∃V s' ws,c 13 [.str T] s=some (.tuple [V,.bool true],s')/\Mk 1 s s' V (List.map fY ws)/\ws.length=T.count 10:=by
 obtain ⟨s',V,ws,a,c1,c2,c3,c4,c5⟩:=Rb (c:=c) hl (s0:=s) T.length 0 0 s .ai [] (by omega) (Nat.le_refl _) (fun _=>rfl) (fun j hj=>by omega) (Mk.start hw (Grew.refl hw)) (by simp)
 have ha:a=T.length:=by
  rcases hend with rfl|⟨u,rfl⟩
  . exact c3 rfl
  . exact c4 u.length (by simp) (by simp)
 obtain ⟨ij,t1,t2⟩:=c1.Zo true
 refine ⟨V,ij,ws,?_,t2,c2⟩
 rw[Cd hc (T.length+1) (r:=(.tuple [V,.bool true],s')),t1]
 rw[qO,aT,aT,aT,aT,aT]
 have c5': ∀(k2:List AV->St->Option (AV×St)),ey c (T.length+1) k2 (T.length+1) [.str T,.ai,.int .i64 0,.int .i64 0] s=k2 [.str T,V,.int .i64 (a:Int)] s':=fun k2=>c5 (T.length+1) k2 (T.length+1) (by omega)
 rw[c5',ha]
 simp
end Go.Proofs.YtehbdakjkjkekaaGreatDoor
end
section
set_option maxRecDepth 100000
namespace Go.Proofs.YtehbdakjkjkekaaGreatDoor
open Go Go.Ai Go.Proofs
variable {c : ak}
theorem Oy (hc:dS c) {s0 s:St} {W:AV} {cur:List Rl} (h:Mk 6 s0 s W (cur.map Rl.cells)) (hl:cur.length<=64) (hs: ∀r∈cur,gL r):c 7 [W] s=some (.str (fmtS cur),s):=by
 refine hc.at (s:=frzC 7) rfl ?_
 obtain ⟨z,hz⟩:=QS.jM (d:=3) h.own h.row
 refine QD ?_ (eo.str _)
 have e:[W].map (jM s 4)=[rf z cur]:=by
  rw[List.map_singleton,hz]
  congr 1
  unfold rf
  rw[List.map_map]
  rfl
 rw[e]
 exact S7 rfl z cur (by omega) (fun _ r hr=>(hs r hr).near.fit) (emptyAt s) (QC s)
theorem Tw (cur:List Rl) (k:Nat) (hk:k<cur.length) (jC:k<(cur.map Rl.cells).length) (w:Int):(cur.map Rl.cells).set k ((cur.map Rl.cells)[k].set 1 (.int .i64 w))=(cur.set k { cur[k] with wt:=w }).map Rl.cells:=by
 rw[List.map_set,List.getElem_map];rfl
theorem Rc (cur:List Rl) (k:Nat) (hk:k<cur.length) (jC:k<(cur.map Rl.cells).length) (w:Int):(cur.map Rl.cells).set k ((cur.map Rl.cells)[k].set 5 (.int .i64 w))=(cur.set k { cur[k] with n:=w }).map Rl.cells:=by
 rw[List.map_set,List.getElem_map];rfl
theorem Tx {ws ns:List Nat} (G5: ∀x∈ws,x<65536) (Fj: ∀x∈ns,x<4294967296) (zw zn:Bool) {s0:St} {W:AV} (F:Nat) (k2) (Q:Option (AV×St)->Prop) (n:Nat) (hn:n<=1000)
  (hQ: ∀s' cur,Mk 6 s0 s' W (List.map Rl.cells cur)->cur.length=n->(∀r∈cur,gL r)->Q (k2 [W] s')): ∀(m k:Nat) (s:St) (cur:List Rl),k+m=n->Mk 6 s0 s W (cur.map Rl.cells)->cur.length=n->(∀r∈cur,gL r)->
  Q (eI c F k2 (m+1) [bP .u16 zw ws,bP .u32 zn ns,W,.int .i64 (k:Int)] s):=by
 intro m
 induction m with
 |zero=>
  intro k s cur hk hM hl hs
  have lI:=fun (K:AV->St->Option (AV×St)) (s:St)=>QS.lenB (c:=c) hM.own K s
  rw[List.length_map] at lI
  obtain rfl:k=cur.length:=by omega
  have:=hQ s cur hM hl hs
  rw[eI]
  simp[lI]
  exact this
 |succ m ih=>
  intro k s cur hk hM hl hs
  have kM:k<=1000000:=by omega
  have XH:(k:Int)<(cur.length:Int):=by omega
  have lI:=fun (K:AV->St->Option (AV×St)) (s:St)=>QS.lenB (c:=c) hM.own K s
  rw[List.length_map] at lI
  rw[eI,aM,aM,aM,aM,mX,aT,aT,lI,Y4,decide_eq_true XH,pH]
  refine ja (P:=fun j=> ∀s' Ce,Mk 6 s0 s' W (List.map Rl.cells Ce)->Ce.length=n->(∀r∈Ce,gL r)->Q (j [bP .u16 zw ws,bP .u32 zn ns,W,.int .i64 (k:Int)] s')) ?_ ?_
  . intro s' Ce Mb OO jA
    have:=ih (k+1) s' Ce (by omega) Mb OO jA
    rw[aM,aM,aM,aM,mX,aT,Pb,II kM,aT]
    exact this
  intro Tz Rd
  refine ja (P:=fun j=> ∀s' Ce,Mk 6 s0 s' W (List.map Rl.cells Ce)->Ce.length=n->(∀r∈Ce,gL r)->Q (j [bP .u16 zw ws,bP .u32 zn ns,W,.int .i64 (k:Int)] s')) ?_ ?_
  . clear   hM hs lI XH hl
    intro s cur hM hl hs
    have vk:k<cur.length:=by omega
    have jC:k<(cur.map Rl.cells).length:=by rw[List.length_map];exact vk
    obtain ⟨b,o,a1,_,_,a4,_⟩:=QS.rowAt (c:=c) hM.own hM.row (by omega) jC
    have a40:=a4 0 (.int .u8 cur[k].k) (by rw[List.getElem_map];rfl)
    rw[aM,aM,aM,aM,mX,aT,aT,a1,gG,BU,a40]
    by_cases hN:k<ns.length
    .   obtain ⟨v,hv⟩: ∃v:Nat,v=ns[k] % 1000000000:=⟨_,rfl⟩
        have hnk:=Fj _ (List.getElem_mem hN)
        have nM:ns[k]<=4294967296:=by omega
        have E:(ns[k]:Int) % 1000000000=(v:Int):=by omega
        obtain ⟨b',o',s',c1,c2,c3⟩:=Mk.setc (c:=c) hM jC (j:=5) (by omega) (u:= .int .i64 (v:Int)) rfl rfl
        rw[Rc cur k vk jC] at c3
        have fin:=fun (bM:cur[k].k=1\/cur[k].k=4\/cur[k].k=7\/cur[k].k=15\/cur[k].k=16)=>Rd s' _ c3 (by rw[List.length_set];exact hl) (fun r hr=>by
          rcases List.mem_or_eq_of_mem_set hr with hr|rfl
          . exact hs r hr
          . have h0:=hs _ (List.getElem_mem vk)
            have hw0:0<=cur[k].wt/\cur[k].wt<=1000:=by obtain ⟨_,_,_,_,h,_⟩:=h0;exact h
            exact h0.other hw0 (.inr ⟨bM,by omega⟩))
        have TA:=Rd s cur hM hl hs
        have aI:=fun (K:AV->St->Option (AV×St)) (s:St)=>E8 (c:=c) .u32 .i64 zn ns hN K s
        have w3:=IJ nM
        have lN:=fun (K:AV->St->Option (AV×St)) (s:St)=>qN (c:=c) .u32 zn ns K s
        have rm:=fun (s:St) (K:AV->St->Option (AV×St))=>bL (c:=c) (k:= .i64) (a:=(ns[k]:Int)) (b:=1000000000) (by omega) (by omega) s K
        generalize cur[k].k=q at*
        clear a4 a40 c3 Rd hs hv
        by_cases h1:q=1
        . subst h1
          have:=fin (by omega)
          simp[-cX,lN,hN,aI,w3,rm,E,c1,c2]
          exact this
        by_cases h4:q=4
        . subst h4
          have:=fin (by omega)
          simp[-cX,lN,hN,aI,w3,rm,E,c1,c2]
          exact this
        by_cases h7:q=7
        . subst h7
          have:=fin (by omega)
          simp[-cX,lN,hN,aI,w3,rm,E,c1,c2]
          exact this
        by_cases Yl:q=15
        . subst Yl
          have:=fin (by omega)
          simp[-cX,lN,hN,aI,w3,rm,E,c1,c2]
          exact this
        by_cases Ym:q=16
        . subst Ym
          have:=fin (by omega)
          simp[-cX,lN,hN,aI,w3,rm,E,c1,c2]
          exact this
        simp[lN,hN,h1,h4,h7,Yl,Ym]
        exact TA
    .   have TA:=Rd s cur hM hl hs
        have lN:=fun (K:AV->St->Option (AV×St)) (s:St)=>qN (c:=c) .u32 zn ns K s
        simp[lN,hN]
        exact TA
  . intro   j14 Wd
    have vk:k<cur.length:=by omega
    have jC:k<(cur.map Rl.cells).length:=by rw[List.length_map];exact vk
    have lW:=fun (K:AV->St->Option (AV×St)) (s:St)=>qN (c:=c) .u16 zw ws K s
    by_cases hN:k<ws.length
    .   obtain ⟨v,hv⟩: ∃v:Nat,v=ws[k] % 1001:=⟨_,rfl⟩
        have hnk:=G5 _ (List.getElem_mem hN)
        have nM:ws[k]<=4294967296:=by omega
        have E:(ws[k]:Int) % 1001=(v:Int):=by omega
        obtain ⟨b',o',s',c1,c2,c3⟩:=Mk.setc (c:=c) hM jC (j:=1) (by omega) (u:= .int .i64 (v:Int)) rfl rfl
        rw[Tw cur k vk jC] at c3
        have fin:=Wd s' _ c3 (by rw[List.length_set];exact hl) (fun r hr=>by
          rcases List.mem_or_eq_of_mem_set hr with hr|rfl
          . exact hs r hr
          . have h0:=hs _ (List.getElem_mem vk)
            exact h0.other (by omega) (.inl rfl))
        have aI:=fun (K:AV->St->Option (AV×St)) (s:St)=>E8 (c:=c) .u16 .i64 zw ws hN K s
        have w3:=IJ nM
        have rm:=fun (s:St) (K:AV->St->Option (AV×St))=>bL (c:=c) (k:= .i64) (a:=(ws[k]:Int)) (b:=1001) (by omega) (by omega) s K
        clear c3 Wd hs hv
        simp[-cX,lW,hN,aI,w3,rm,E,c1,c2]
        exact fin
    .   have TA:=Wd s cur hM hl hs
        simp[lW,hN]
        exact TA
end Go.Proofs.YtehbdakjkjkekaaGreatDoor
end
section
set_option maxRecDepth 100000
namespace Go.Proofs.YtehbdakjkjkekaaGreatDoor
open Go Go.Ai Go.Proofs
variable {c : ak}
theorem Re (hc:dS c) {cur:List Rl} (hl:cur.length<=64) (hs: ∀r∈cur,gL r) (s:St) (hw:Wf s): ∃X s',c 9 [.str (fmtS cur)] s=some (.tuple [X,.int .i64 0,.int .i64 0],s')/\Grew s s'/\QS 6 s' X (cur.map Rl.cells):=by
 have at0:=fun (r:AV×St) (h:uI [.str (fmtS cur)] s=some r)=>hc.at (f:=9) (s:=uI) rfl h
 cases cur with
 |nil=>exact ⟨.ai,s,at0 _ rfl,Grew.refl hw,QS.nil⟩
 |cons r0 Np=>
  have bO:=Ti hs (by simp) hl
  obtain ⟨_,_,hlen,hp,rO⟩:=Nb (fun r hr=>(hs r hr).range.1) bO
  refine ⟨.slice s.next 0 (r0::Np).length none 6,ay s (.cells ((r0::Np).map Rl.cells).flatten 0),at0 _ ?_,Grew.ay hw _,?_⟩
  . unfold uI
    have e:Nat.ble (fmtS (r0::Np)).length maxLen=true:=by rw[Nat.ble_eq];unfold maxLen;omega
    simp only[e,hp,List.map_cons]
    rw[<-List.map_cons (f:=Na),rO]
    simp only[List.length_map,List.length_cons]
    rfl
  . have JQ:(((r0::Np).map Rl.cells).flatten).length=(r0::Np).length*6:=by
        have:=Ki (es:=6) (rows:=(r0::Np).map Rl.cells) (fun r hr=>by simp only[List.mem_map] at hr;obtain ⟨t,_,rfl⟩:=hr;rfl)
        rw[this,List.length_map]
    refine .inr (.inl ⟨s.next,0,none,((r0::Np).map Rl.cells).flatten,by rw[List.length_map],bh _ _,?_,?_,.inl rfl⟩)
    .   rw[JQ,List.length_map];omega
    .   rw[List.drop_zero,List.length_map, <-JQ,List.take_length]
theorem TE (xt xg xr:List Nat): ∀r∈wU xt xg xr,gL r:=by
 have hg: ∀g∈ng xt xg,jF g.name=true/\(g.tP=[]\/jF g.tP=true):=fun g h=>by
  unfold ng yy qM at h
  simp only[List.mem_map] at h
  obtain ⟨i,_,rfl⟩:=h
  refine ⟨PB _,?_⟩
  unfold wQ
  simp only
  split
  . exact .inr (PB _)
  . exact .inl rfl
 have ht: ∀t∈wT xt,jF t.name=true/\0<iM t.sh t.a t.b/\iM t.sh t.a t.b<=1000:=fun t h=>by
  have:=KF t h
  obtain ⟨i,x,rfl⟩:=Gz h
  exact ⟨ZE _,this⟩
 unfold wU
 have key: ∀k,∀r∈si (wT xt) (ng xt xg) xr k,gL r:=by
  intro k
  induction k with
  |zero=>intro r hr;simp[si] at hr
  | succ k ih=>
    intro r hr
    unfold si at hr
    rcases List.mem_append.1 hr with hr|hr
    .   exact ih r hr
    .   split at hr
        . rename_i h
          simp at hr
          subst hr
          exact VX hg ht _ h
        . simp at hr
 exact key _
theorem TF (hc:dS c) (s:St):c 6 [] s=some (.bool true,s):=hc.at (s:=EW) rfl rfl
theorem N6 (hc:dS c) {xt xg xy xr ws ns:List Nat} (ht: ∀x∈xt,x<256) (hg: ∀x∈xg,x<65536) (hy: ∀x∈xy,x<256) (hr: ∀x∈xr,x<4294967296) (G5: ∀x∈ws,x<65536) (Fj: ∀x∈ns,x<4294967296)
  (lt:xt.length<=9223372036854775807) (lg:xg.length<=9223372036854775807) (lr:xr.length<=9223372036854775807) (ly:xy.length<=9223372036854775807) (zt zg zy zr zw zn:Bool) (st:St) (hw:Wf st):
  c 4 [.agg (cq zt zg zy zr xt xg xy xr),bP .u16 zw ws,bP .u32 zn ns] st=some (.bool true,st):=by
 have w1:Wf (ay st (.cells (cq zt zg zy zr xt xg xy xr) 0)):=fX hw
 have g1:=Grew.ay hw (.cells (cq zt zg zy zr xt xg xy xr) 0)
 obtain ⟨Vs,s2,M,P⟩:=ZH hc ht hg hy hr lt lg lr ly zt zg zy zr (ay st (.cells (cq zt zg zy zr xt xg xy xr) 0)) w1
 obtain ⟨V1,V2,V3,V4,V5,r1,r2,rfl,_,_,_,_,h5⟩:=P.all
 have h5:Mk 6 (ay st (.cells (cq zt zg zy zr xt xg xy xr) 0)) s2 V5 ((wU xt xg xr).map Rl.cells):=h5
 have hl:(wU xt xg xr).length<=12:=Nat.le_trans (Gy _ _ _ _) (Nat.min_le_right _ _)
 obtain ⟨W,s3,C,h3⟩:=Jw hc (by omega) P.aS.wf h5.own
 have hs:=TE xt xg xr
 obtain ⟨n,hn⟩: ∃n,n=(wU xt xg xr).length:=⟨_,rfl⟩
 suffices key: ∃s',fM c (n+1) (.agg (cq zt zg zy zr xt xg xy xr)) (bP .u16 zw ws) (bP .u32 zn ns) st=some (.bool true,s')/\dz st s' by
  obtain ⟨s',k1,k2⟩:=key
  rw[vN hc (n+1) (r:=(.bool true,s')) k1,mY (Plain.bool _) k2]
 obtain ⟨Q,hQ⟩: ∃Q:Option (AV×St)->Prop,Q=fun o=> ∃s',o=some (.bool true,s')/\dz st s':=⟨_,rfl⟩
 have yA:Q (fM c (n+1) (.agg (cq zt zg zy zr xt xg xy xr)) (bP .u16 zw ws) (bP .u32 zn ns) st)-> ∃s',fM c (n+1) (.agg (cq zt zg zy zr xt xg xy xr)) (bP .u16 zw ws) (bP .u32 zn ns) st=some (.bool true,s')/\dz st s':=fun h=>by rw[hQ] at h;exact h
 apply yA
 clear yA
 have ld4: ∀(K:AV->St->Option (AV×St)),ag c (.load (some 4)) [.ptr st.next 0] (ay st (.cells (cq zt zg zy zr xt xg xy xr) 0)) K=K (.agg (cq zt zg zy zr xt xg xy xr)) (ay st (.cells (cq zt zg zy zr xt xg xy xr) 0)):=fun K=>by rw[FH,bh];rfl
 have fd4: ∀(K:AV->St->Option (AV×St)) (s:St),ag c (.field 4 none) [.agg [V1,V2,V3,V4,V5]] s K=K V5 s:=fun K s=>rfl
 rw[fM,Jl,show AV.cells (.agg (cq zt zg zy zr xt xg xy xr))=cq zt zg zy zr xt xg xy xr from rfl,aT,ld4,yq,M,DI,fd4,yq,C,DI,aT,aT]
 refine Tx G5 Fj zw zn (s0:=s2) (n+1) _ Q n (by omega) ?_ n 0 s3 (wU xt xg xr) (by omega) h3 hn.symm hs
 intro s' cur hM hlen E9
 have lc:cur.length<=64:=by omega
 have Wf':=hM.aS.wf
 have F:=Oy hc hM lc E9
 obtain ⟨X,s4,Pr,g4,q4⟩:=Re hc lc E9 s' Wf'
 have eT:=KC E9 lc
 have tl:=Ox E9
 rw[<-eT] at tl
 have te:=ID E9
 rw[<-eT] at te
 have tc:=FQ E9
 rw[<-eT] at tc
 obtain ⟨V,s5,vs,L,m5,vl⟩:=Wc hc (T:=fmtS cur) (by omega) te s4 g4.wf
 have q5:QS 6 s5 X (cur.map Rl.cells):=q4.mono fun b x _ hx=>m5.aS.get hx
 have qW:QS 6 s5 W (cur.map Rl.cells):=hM.own.mono fun b x _ hx=>m5.aS.get (g4.get hx)
 have S:=Jz hc (by omega) q5 qW
 have A:=TF hc s5
 have lV:=fun (K:AV->St->Option (AV×St)) (s:St)=>QS.lenB (c:=c) m5.own K s
 have lW:=fun (K:AV->St->Option (AV×St)) (s:St)=>QS.lenB (c:=c) hM.own K s
 rw[List.length_map,vl,tc] at lV
 rw[List.length_map] at lW
 have fin:Q (some (.bool true,s5)):=by
  rw[hQ]
  exact ⟨s5,rfl,(((g1.trans P.aS).trans hM.aS).trans (g4.trans m5.aS)).keeps⟩
 generalize fmtS cur=T at*
 generalize cur.length=N at*
 clear hM q4 m5 q5 qW
 simp[F,Pr,L,S,A,lV,lW]
 exact fin
end Go.Proofs.YtehbdakjkjkekaaGreatDoor
end
section
set_option maxRecDepth 100000
namespace Go.Proofs.YtehbdakjkjkekaaGreatDoor
open Go Go.Ai Go.Proofs Go.RowKit
section
variable {H : Type} {enc : TypeId × Value -> H} {w : World} {base : Nat} {spare : Nat -> Bool} {held : Bool}
theorem wf_u16 {i:Int} (h:(Lit.int .u16 i).wf=true):0<=i/\i<65536:=by
 have e1:IntKind.min .u16=0:=by decide
 have e2:IntKind.max .u16=65535:=by decide
 have h:(decide (IntKind.min _<=i)&&decide (i<=IntKind.max _))=true:=h
 rw[e1,e2,Bool.and_eq_true,decide_eq_true_eq,decide_eq_true_eq] at h
 omega
theorem wf_u32 {i:Int} (h:(Lit.int .u32 i).wf=true):0<=i/\i<4294967296:=by
 have e1:IntKind.min .u32=0:=by decide
 have e2:IntKind.max .u32=4294967295:=by decide
 have h:(decide (IntKind.min _<=i)&&decide (i<=IntKind.max _))=true:=h
 rw[e1,e2,Bool.and_eq_true,decide_eq_true_eq,decide_eq_true_eq] at h
 omega
def uJ (k:IntKind) (n:Nat) (vs:List AV):Prop:= ∃(z:Bool) (l:List Nat),vs=[bP k z l]/\(∀x∈l,x<n)/\l.length<=9223372036854775807
theorem Cf {t e:TypeId} {k:IntKind} {n:Nat} (ht:Tryz.prog.underlying t=some (.slice e)) (he:Tryz.prog.underlying e=some (.int k)) (hc:Tryz.prog.cellsOf e=1) (hk: ∀i,(Lit.int k i).wf=true->0<=i/\i<(n:Int)):
  jL enc Tryz.prog w base spare held t (uJ k n):=by
 refine jL.mono (Om (es:=1) ht hc (by omega) (fun vs h=>by obtain ⟨i,rfl,_⟩:=h;rfl) (SM he)) fun vs h=> ?_
 obtain ⟨z,rs,rfl,h1,h2⟩:=h
 obtain ⟨l,rfl,hl⟩:=Nd (P:=fun x:Nat=>x<n) (cells:=fun x:Nat=>[AV.int k (x:Int)]) rs fun r hr=>by
  obtain ⟨i,rfl,hi⟩:=h1 r hr
  have:=hk i hi
  exact ⟨i.toNat,by rw[show ((i.toNat:Nat):Int)=i by omega],by omega⟩
 refine ⟨z,l,rfl,hl,?_⟩
 rw[List.length_map] at h2
 unfold maxLen at h2
 omega
theorem KG:jL enc Tryz.prog w base spare held 30 (uJ .u8 256):=Cf (e:=5) (by kernel_rfl) (by kernel_rfl) (by kernel_rfl) fun _ h=>wf_u8 h
theorem G6:jL enc Tryz.prog w base spare held 31 (uJ .u16 65536):=Cf (e:=43) (by kernel_rfl) (by kernel_rfl) (by kernel_rfl) fun _ h=>wf_u16 h
theorem G7:jL enc Tryz.prog w base spare held 32 (uJ .u32 4294967296):=Cf (e:=47) (by kernel_rfl) (by kernel_rfl) (by kernel_rfl) fun _ h=>wf_u32 h
structure afS (xt xg xy xr:List Nat):Prop where
 t: ∀x∈xt,x<256
 g: ∀x∈xg,x<65536
 y: ∀x∈xy,x<256
 r: ∀x∈xr,x<4294967296
 lt:xt.length<=9223372036854775807
 lg:xg.length<=9223372036854775807
 ly:xy.length<=9223372036854775807
 lr:xr.length<=9223372036854775807
theorem KP:jL enc Tryz.prog w base spare held 34 fun vs=> ∃zt zg zy zr xt xg xy xr,vs=cq zt zg zy zr xt xg xy xr/\afS xt xg xy xr:=by
 refine jL.mono (MF [30,31,30,32] (Qs:=[uJ .u8 256,uJ .u16 65536,uJ .u8 256,uJ .u32 4294967296]) (by kernel_rfl) (by kernel_rfl) (by kernel_rfl) ⟨KG,G6,KG,G7,trivial⟩) fun vs h=> ?_
 obtain ⟨ps,rfl,m0⟩:=h
 obtain ⟨p0,q0,rfl,⟨z1,l1,rfl,a1,b1⟩,m1⟩:=yu m0
 obtain ⟨p0,q0,rfl,⟨z2,l2,rfl,a2,b2⟩,m2⟩:=yu m1
 obtain ⟨p0,q0,rfl,⟨z3,l3,rfl,a3,b3⟩,m3⟩:=yu m2
 obtain ⟨p0,q0,rfl,⟨z4,l4,rfl,a4,b4⟩,m4⟩:=yu m3
 obtain rfl:=VF m4
 exact ⟨z1,z2,z3,z4,l1,l2,l3,l4,rfl,⟨a1,a2,a3,a4,b1,b2,b3,b4⟩⟩
end
theorem xR.up {C C':Cells} (h:xR C) (h1: ∀ad u,C ad=some u->C' ad=some u) (h2: ∀a v,C a=some v-> ∀o,C ⟨a.block,o,none⟩=none->C' ⟨a.block,o,none⟩=none):xR C':=fun w k1 k2=>
 h w (fun ad v hv=>k1 ad v (h1 ad v hv)) fun a v hv o ho=>k2 a v (h1 a v hv) o (h2 a v hv o ho)
theorem ac7 {W:World} {xs:List (String×DataW Unit)} (h:laidMetH Tryz.prog xs W) (hm:xs.filter (fun x=>x.1== "internal/strconv.uint64pow10")=[("internal/strconv.uint64pow10",Rows.laid_internal_strconv_uint64pow10)]):xR (fun ad=>W.cell? ad):=by
 have hg:Tryz.prog.globalNamed "internal/strconv.uint64pow10" =some 0:=by kernel_rfl
 have hf:=laidMetH.filter (fun x=>x.1== "internal/strconv.uint64pow10") h
 rw[hm] at hf
 have ht:Lib.TabIs Tryz.prog W "internal/strconv.uint64pow10" .u64 Lib.pow10Tab:=
  Lib.tabIs_of_head (rest:=[]) (t:=266) (e:=230) (n:=20) hg (by kernel_rfl) (by kernel_rfl) (by kernel_rfl) (by kernel_rfl) (by kernel_rfl) hf
 intro w h1 h2
 exact VS hg ht (by decide) h1 h2
end Go.Proofs.YtehbdakjkjkekaaGreatDoor
end
