/- What the statements' own package makes of numbers: tables, guests and ties. -/
import Derived.Test.YtehbdakjkjkekaaGreatDoorPlainA
import Derived.Test.YtehbdakjkjkekaaGreatDoorLawsA
import Derived.Test.YtehbdakjkjkekaaGreatDoorEvalE
set_option linter.all false
set_option linter.unusedSectionVars false
set_option linter.deprecated false
section
set_option maxRecDepth 100000
namespace Go.Proofs.YtehbdakjkjkekaaGreatDoor
open Go Go.Ai Go.Proofs
variable {c : ak}
def fq (i:Nat):List Nat:=[116,97+i % 26]
def dr (i:Nat):List Nat:=[97+i / 26 % 26,97+i % 26]
theorem VT (hc:dS c) (i:Nat) (hi:i<1000000) (st:St) (hw:Wf st):c 109 [.int .i64 (i:Int)] st=some (.str (fq i),st):=by
 have hg:=Grew.ay hw (.cells [.int .u8 116,.int .u8 (97+(i:Int) % 26)] 0)
 rw[zX hc 1 (r:=(.str (fq i),ay st (.cells [.int .u8 116,.int .u8 (97+(i:Int) % 26)] 0))),mY (Plain.str _) hg.keeps]
 rw[ve]
 have w1:aW .i64 (97+(i:Int) % 26)=97+(i:Int) % 26:=wrap64 (by omega) (by omega)
 have w2:aW .u8 (97+(i:Int) % 26)=97+(i:Int) % 26:=ua (by omega) (by omega)
 have r1:=fun (s:St) (K:AV->St->Option (AV×St))=>bL (c:=c) (k:= .i64) (a:=(i:Int)) (b:=26) (by omega) (by omega) s K
 have two:=fun (s:St) (K:AV->St->Option (AV×St))=>MK (c:=c) (x:=116) (y:=97+(i:Int) % 26) 116 (97+i % 26) rfl (by omega) (by omega) (by omega) s K
 simp[-aR,r1,q9,w1,w2,two,fq]
theorem pN (hc:dS c) (i:Nat) (hi:i<1000000) (st:St) (hw:Wf st):c 110 [.int .i64 (i:Int)] st=some (.str (dr i),st):=by
 have hg:=Grew.ay hw (.cells [.int .u8 (97+(i:Int) / 26 % 26),.int .u8 (97+(i:Int) % 26)] 0)
 rw[xL hc 1 (r:=(.str (dr i),ay st (.cells [.int .u8 (97+(i:Int) / 26 % 26),.int .u8 (97+(i:Int) % 26)] 0))),mY (Plain.str _) hg.keeps]
 rw[sQ]
 have w1:aW .i64 (97+(i:Int) % 26)=97+(i:Int) % 26:=wrap64 (by omega) (by omega)
 have w2:aW .u8 (97+(i:Int) % 26)=97+(i:Int) % 26:=ua (by omega) (by omega)
 have w3:aW .i64 (97+(i:Int) / 26 % 26)=97+(i:Int) / 26 % 26:=wrap64 (by omega) (by omega)
 have w4:aW .u8 (97+(i:Int) / 26 % 26)=97+(i:Int) / 26 % 26:=ua (by omega) (by omega)
 have r1:=fun (s:St) (K:AV->St->Option (AV×St))=>bL (c:=c) (k:= .i64) (a:=(i:Int)) (b:=26) (by omega) (by omega) s K
 have r2:=fun (s:St) (K:AV->St->Option (AV×St))=>eZ (c:=c) (a:=(i:Int)) (b:=26) (by omega) (by omega) (by omega) s K
 have r3:=fun (s:St) (K:AV->St->Option (AV×St))=>bL (c:=c) (k:= .i64) (a:=(i:Int) / 26) (b:=26) (by omega) (by omega) s K
 have two:=fun (s:St) (K:AV->St->Option (AV×St))=>MK (c:=c) (x:=97+(i:Int) / 26 % 26) (y:=97+(i:Int) % 26) (97+i / 26 % 26) (97+i % 26) (by omega) (by omega) (by omega) (by omega) s K
 simp[-aR,r1,r2,r3,q9,w1,w2,w3,w4,two,dr]
def iM (sh a b:Int):Int:=if sh=2 then 2*a+b else if sh=3 then a+2*b else a
theorem B9 (hc:dS c) {l:List AV} {sh a b:Int} (h1:l[1]? =some (.int .u8 sh)) (h2:l[2]? =some (.int .i64 a)) (h3:l[3]? =some (.int .i64 b)) (ha:0<=a/\a<=1000000) (hb:0<=b/\b<=1000000) (st:St) (hw:Wf st):
   c 48 [.agg l] st=some (.int .i64 (iM sh a b),st):=by
 have hg:=Grew.ay hw (.cells l 0)
 have p1:=bh st (.cells l 0)
 rw[zY hc 1 (r:=(.int .i64 (iM sh a b),ay st (.cells l 0))),mY (Plain.int _ _) hg.keeps]
 rw[vg]
 have w1:aW .i64 (2*a)=2*a:=wrap64 (by omega) (by omega)
 have w2:aW .i64 (2*b)=2*b:=wrap64 (by omega) (by omega)
 have w3:aW .i64 (2*a+b)=2*a+b:=wrap64 (by omega) (by omega)
 have w4:aW .i64 (a+2*b)=a+2*b:=wrap64 (by omega) (by omega)
 unfold iM
 by_cases e2:sh=2
 . subst e2;simp[p1,h1,h2,h3,w1,w3]
 . by_cases e3:sh=3
   . subst e3;simp[p1,h1,h2,h3,w2,w4]
   . have d2:decide (sh=2)=false:=decide_eq_false e2
     have d3:decide (sh=3)=false:=decide_eq_false e3
     simp[p1,h1,h2,h3,e2,e3,d2,d3]
end Go.Proofs.YtehbdakjkjkekaaGreatDoor
end
section
set_option maxRecDepth 100000
namespace Go.Proofs.YtehbdakjkjkekaaGreatDoor
open Go Go.Ai Go.Proofs
variable {c : ak}
def Js (i:Nat):List AV:=[.int .i64 (i:Int)]
def nc:List AV:=[.str [],.int .u8 0,.int .i64 0,.int .i64 0,.ai,.int .i64 0,.int .i64 0]
def eG (nm:List Nat) (sh a b:Int) (x:Nat) (v:AV):List AV:=[.str nm,.int .u8 sh,.int .i64 a,.int .i64 b,v,.int .i64 (x:Int),.int .i64 (255 - (x:Int))]
def Gw (x i:Nat):Bool:=decide (x / 2 ^ i % 2=1)&&decide (0<x % 3)
theorem Zz (x i:Nat):Gw x i=(decide (x / 2 ^ i % 2=1)&&decide (0<x % 3)):=by rw[Gw]
def tR (x k:Nat):List Nat:=(List.range k).filter (Gw x)
theorem Ky (x k:Nat):tR x (k+1)=tR x k++(if Gw x k=true then [k] else []):=by
 unfold tR
 rw[List.range_succ,List.filter_append]
 congr 1
 cases h:Gw x k with
 |true=>simp[h]
 |false=>simp[h]
theorem VU (x k:Nat):(tR x k).length<=k:=by
 have:=List.length_filter_le (Gw x) (List.range k)
 rw[List.length_range] at this
 exact this
structure TI (st s:St) (p4 p5:Pos) (nm:List Nat) (sh a b:Int) (x k:Nat) (v:AV):Prop where
 out:Mk 1 st s v ((tR x k).map Js)
 h4:s.heap.get p4=some (.cells nc 0)
 h5:s.heap.get p5=some (.cells (eG nm sh a b x v) 0)
 n4:aF v≠some p4
 n5:aF v≠some p5
theorem QY (hc:dS c) {nm:List Nat} {sh a b:Int} {x n:Nat} (ha:0<=a/\a<=1000000) (hb:0<=b/\b<=1000000) (hx:x<1000000) (hn:iM sh a b=(n:Int)) (hn64:n<=64) {st:St} {p4 p5:Pos} (h4:st.next.toNat<=p4.toNat) (h5:st.next.toNat<=p5.toNat) (zZ:p4≠p5)
  (F:Nat) (k3): ∀(m k:Nat) (s:St) (v:AV),TI st s p4 p5 nm sh a b x k v->n<=k+m->k<=n->
  ∃s' v',TI st s' p4 p5 nm sh a b x n v'/\cL c F k3 (m+1) [.int .i64 (x:Int),.ptr p4 0,.ptr p5 0,.int .i64 (k:Int)] s=k3 [.ptr p4 0,.ptr p5 0] s':=by
 intro m
 induction m with
 |zero=>
  intro k s v hT h1 h2
  obtain rfl:k=n:=by omega
  refine ⟨s,v,hT,?_⟩
  have S:=B9 hc (l:=eG nm sh a b x v) rfl rfl rfl ha hb s hT.out.aS.wf
  have cu:cut (eG nm sh a b x v) 0 7=some (eG nm sh a b x v):=ig rfl
  rw[hn] at S
  rw[cL]
  simp[hT.h5,cu,S]
 |succ m ih=>
  intro k s v hT h1 h2
  have hw:=hT.out.aS.wf
  have S:=B9 hc (l:=eG nm sh a b x v) rfl rfl rfl ha hb s hw
  have cu:cut (eG nm sh a b x v) 0 7=some (eG nm sh a b x v):=ig rfl
  rw[hn] at S
  clear hn
  by_cases h:k<n
  . have Yf:(0:Int)<=(x:Int):=Int.natCast_nonneg x
    have w:aW .i64 ((k:Int)+1)=((k+1:Nat):Int):=wrap64 (by omega) (by omega)
    have sr:=fun (s:St) (K:AV->St->Option (AV×St))=>MJ (c:=c) (a:=(x:Int)) (i:=k) (Nat.le_trans h2 hn64) s K
    have p0:(0:Int)<=(x:Int) / 2 ^ k:=Int.ediv_nonneg Yf (Int.le_of_lt (Int.pow_pos (by omega)))
    have r1:=fun (s:St) (K:AV->St->Option (AV×St))=>bL (c:=c) (k:= .i64) (a:=(x:Int) / 2 ^ k) (b:=2) p0 (by decide) s K
    have r2:=fun (s:St) (K:AV->St->Option (AV×St))=>bL (c:=c) (k:= .i64) (a:=(x:Int)) (b:=3) Yf (by decide) s K
    have d1:decide ((x:Int) / 2 ^ k % 2=1)=decide (x / 2 ^ k % 2=1):=by
        have:((x:Int) / 2 ^ k % 2=1)↔(x / 2 ^ k % 2=1):=by
         rw[show ((x:Int) / 2 ^ k % 2)=((x / 2 ^ k % 2:Nat):Int) by simp];omega
        exact decide_eq_decide.2 this
    have d2:decide (0<(x:Int) % 3)=decide (0<x % 3):=decide_eq_decide.2 (by omega)
    have c4:(eG nm sh a b x v)[4]? =some v:=rfl
    have hl:decide ((k:Int)<(n:Int))=true:=decide_eq_true (Int.ofNat_lt.2 h)
    have fin:=Zz x k
    cases hq:Gw x k with
    |   true=>
        have hrl:((tR x k).map Js).length<=64:=by rw[List.length_map];have:=VU x k;omega
        obtain ⟨s5,v5,a1,a2,a3,a4⟩:=hT.out.push (c:=c) (R:=AV×St) (bytes:=8) (z:=[.int .i64 0]) (x:= .int .i64 (k:Int)) rfl rfl rfl (by decide) (by omega) (by omega)
        have e:(tR x (k+1)).map Js=(tR x k).map Js++[(.int .i64 (k:Int):AV).cells]:=by rw[Ky,if_pos hq,List.map_append];rfl
        rw[<-e] at a2
        have y4:=a3 p4 _ hT.n4 hT.h4
        have y5:=a3 p5 _ hT.n5 hT.h5
        have l4:=hw p4 _ hT.h4
        have l5:=hw p5 _ hT.h5
        have b4:aF v5≠some p4:=fun e=>by have:=a4 _ e;omega
        have b5:aF v5≠some p5:=fun e=>by have:=a4 _ e;omega
        have Pn:=a2.aS.wf
        have Td:=Pn p5 _ y5
        have M:=a2.store (p:=p5) (b:= .cells (eG nm sh a b x v5) 0) h5 Td b5
        obtain ⟨vc,v1⟩:=a2.cells
        have bu: ∀(K:AV->St->Option (AV×St)),ag c (.store 1) [.ptr p5 4,v5] s5 K=K .undef (ew s5 p5 (.cells (eG nm sh a b x v5) 0)):=fun K=>by
         rw[eM c K s5 1 p5 4 v5 (eG nm sh a b x v) y5 (by rw[vc];rfl) (by simp[eG]) (by rw[vc];exact v1),vc];rfl
        have T5:TI st (ew s5 p5 (.cells (eG nm sh a b x v5) 0)) p4 p5 nm sh a b x (k+1) v5:=⟨M,by rw[bV (fun e=>zZ e.symm)];exact y4,eO _ _ _,b4,b5⟩
        obtain ⟨s',v',b1,b2⟩:=ih (k+1) _ v5 T5 (by omega) (by omega)
        refine ⟨s',v',b1,?_⟩
        rw[<-b2,cL]
        rw[fin,Bool.and_eq_true] at hq
        simp[-aR,hT.h5,cu,S,h,cI,sr,r1,r2,d1,d2,hq.1,hq.2,c4,a1,bu,w]
    |   false=>
        have e:(tR x (k+1))=(tR x k):=by rw[Ky,if_neg (by rw[hq];decide),List.append_nil]
        obtain ⟨s',v',b1,b2⟩:=ih (k+1) s v ⟨by rw[e];exact hT.out,hT.h4,hT.h5,hT.n4,hT.n5⟩ (by omega) (by omega)
        refine ⟨s',v',b1,?_⟩
        rw[<-b2,cL]
        rw[fin] at hq
        cases g1:decide (x / 2 ^ k % 2=1) with
        |false=>simp[-aR,hT.h5,cu,S,h,cI,sr,r1,r2,d1,d2,g1,c4,w]
        |true=>
         rw[g1,Bool.true_and] at hq
         simp[-aR,hT.h5,cu,S,h,cI,sr,r1,r2,d1,d2,g1,hq,c4,w]
  . obtain rfl:k=n:=by omega
    refine ⟨s,v,hT,?_⟩
    rw[cL]
    simp[hT.h5,cu,S]
theorem iu (s:St) (cs:List AV) (o:Nat) (v:AV) (ho:o<cs.length) (h1:v.cells=[v]) (h2:v.one=true) (K:AV->St->Option (AV×St)):ag c (.store 1) [.ptr s.next o,v] (ay s (.cells cs 0)) K=K .undef (ay s (.cells (cs.set o v) 0)):=by
 rw[eM c K (ay s (.cells cs 0)) 1 s.next o v cs (bh _ _) (by rw[h1];rfl) (by omega) (by rw[h1];simp[aX,h2]),h1,pJ _ _ ho,EV]
def jN (x:Nat):Nat:=1+x % 4
def tA (x:Nat):Nat:=if x % 4=0 then 1+x / 4 % 6 else if x % 4=1 then 1+x / 4 % 3 else if x % 4=2 then 1+x / 4 % 2 else 1+x / 4 % 5
def tB (x:Nat):Nat:=if x % 4=0 then 0 else if x % 4=1 then x / 4 / 3 % 3 else if x % 4=2 then 1+x / 4 / 2 % 2 else min (1+x / 4 % 5) (x / 4 / 5 % 4)
def tN (x:Nat):Nat:=if x % 4=1 then 2*tA x+tB x else if x % 4=2 then tA x+2*tB x else tA x
theorem Lj (x:Nat):tA x<=6:=by unfold tA;split<;>(try split)<;>(try split)<;>omega
theorem Ll (x:Nat):tB x<=3:=by unfold tB;split<;>(try split)<;>(try split)<;>omega
theorem Lm (x:Nat):tN x<=16:=by have:=Lj x;have:=Ll x;unfold tN;split<;>(try split)<;>omega
theorem Jt (x:Nat):iM ((jN x:Nat):Int) ((tA x:Nat):Int) ((tB x:Nat):Int)=((tN x:Nat):Int):=by
 unfold iM tN jN
 by_cases h1:x % 4=1
 . rw[if_pos (by omega),if_pos h1];omega
 . by_cases h2:x % 4=2
   . rw[if_neg (by omega),if_pos (by omega),if_neg h1,if_pos h2];omega
   . rw[if_neg (by omega),if_neg (by omega),if_neg h1,if_neg h2]
set_option maxHeartbeats 2000000 in
theorem VV (hc:dS c) (i x:Nat) (hi:i<1000000) (hx:x<256) (st:St) (hw:Wf st): ∃v s',c 47 [.int .i64 (i:Int),.int .i64 (x:Int)] st=some (.agg (eG (fq i) (jN x:Nat) (tA x:Nat) (tB x:Nat) x v),s')/\Mk 1 st s' v ((tR x (tN x)).map Js):=by
 have fK:Wf (ay st (.cells nc 0)):=fX hw
 have g1:=Grew.ay hw (.cells nc 0)
 have W:=VT hc i hi (ay st (.cells nc 0)) fK
 have hA:=Lj x
 have hB:=Ll x
 have hN:=Lm x
 have g2:=Grew.ay fK (.cells (eG (fq i) (jN x:Nat) (tA x:Nat) (tB x:Nat) x .ai) 0)
 have x1:(ay (ay st (.cells nc 0)) (.cells (eG (fq i) (jN x:Nat) (tA x:Nat) (tB x:Nat) x .ai) 0)).heap.get st.next=some (.cells nc 0):=g2.get (bh _ _)
 have x2:(ay (ay st (.cells nc 0)) (.cells (eG (fq i) (jN x:Nat) (tA x:Nat) (tB x:Nat) x .ai) 0)).heap.get (ay st (.cells nc 0)).next=some (.cells (eG (fq i) (jN x:Nat) (tA x:Nat) (tB x:Nat) x .ai) 0):=bh _ _
 have Te:st.next≠(ay st (.cells nc 0)).next:=by rw[dx];exact Pos.Pc _
 have T0:TI st (ay (ay st (.cells nc 0)) (.cells (eG (fq i) (jN x:Nat) (tA x:Nat) (tB x:Nat) x .ai) 0)) st.next (ay st (.cells nc 0)).next (fq i) (jN x:Nat) (tA x:Nat) (tB x:Nat) x 0 .ai:=
   ⟨Mk.start hw (g1.trans g2),x1,x2,fun e=>(nomatch e),fun e=>(nomatch e)⟩
 obtain ⟨s',v,hT,L⟩:=QY hc (n:=tN x) (by omega) (by omega) (by omega) (Jt x) (by omega) (p4:=st.next) (p5:=(ay st (.cells nc 0)).next) (Nat.le_refl _) (by rw[dx,Pos.az];omega) Te (tN x+1)
   (fun vs wP=>au vs fun x4 vs=>au vs fun x5 vs=>bW vs (ag c (.load (some 7)) [x5] wP fun uE uF=>ag c (.store 7) [x4,uE] uF fun _ rj=>yo (some 7) x4 rj fun Tf=>some (Tf,rj))) (tN x) 0 (ay (ay st (.cells nc 0)) (.cells (eG (fq i) (jN x:Nat) (tA x:Nat) (tB x:Nat) x .ai) 0)) .ai T0 (by omega) (by omega)
 have M:=hT.out
 obtain ⟨vc,v1⟩:=M.cells
 have one:aX (eG (fq i) (jN x:Nat) (tA x:Nat) (tB x:Nat) x v)=true:=by
   simp only[aX] at v1
   unfold eG
   simp only[aX,AV.one,v1,Bool.and_self,Bool.and_true] at*
 have hcut:cut (eG (fq i) (jN x:Nat) (tA x:Nat) (tB x:Nat) x v) 0 7=some (eG (fq i) (jN x:Nat) (tA x:Nat) (tB x:Nat) x v):=ig rfl
 have u6: ∀(K:AV->St->Option (AV×St)),ag c (.store 7) [.ptr st.next 0,.agg (eG (fq i) (jN x:Nat) (tA x:Nat) (tB x:Nat) x v)] s' K=K .undef (ew s' st.next (.cells (eG (fq i) (jN x:Nat) (tA x:Nat) (tB x:Nat) x v) 0)):=fun K=>by
   rw[eM c K s' 7 st.next 0 (.agg (eG (fq i) (jN x:Nat) (tA x:Nat) (tB x:Nat) x v)) _ hT.h4 rfl (by simp[nc]) one]
   rfl
 have M2:=M.store (p:=st.next) (b:= .cells (eG (fq i) (jN x:Nat) (tA x:Nat) (tB x:Nat) x v) 0) (Nat.le_refl _) (M.aS.wf _ _ hT.h4) hT.n4
 have mem:v∈eG (fq i) (jN x:Nat) (tA x:Nat) (tB x:Nat) x v:=by simp[eG]
 have low: ∀y∈fq i,y<256:=by intro y hy;simp[fq] at hy;omega
 obtain ⟨ij,t1,_,t3⟩:=M2.Gm mem (fun u hu=>by
   simp only[eG,List.mem_cons,List.not_mem_nil,or_false] at hu
   rcases hu with rfl|rfl|rfl|rfl|rfl|rfl|rfl<;>first|exact ku.str low|exact ku.int _ _|exact M.inst)
 refine ⟨v,ij,?_,t3⟩
 rw[zc hc (tN x+1) (r:=(.agg (eG (fq i) (jN x:Nat) (tA x:Nat) (tB x:Nat) x v),ew s' st.next (.cells (eG (fq i) (jN x:Nat) (tA x:Nat) (tB x:Nat) x v) 0))),t1]
 have L2:cL c (tN x+1) (fun vs wP=>au vs fun x4 vs=>au vs fun x5 vs=>bW vs (ag c (.load (some 7)) [x5] wP fun uE uF=>ag c (.store 7) [x4,uE] uF fun _ rj=>yo (some 7) x4 rj fun Tf=>some (Tf,rj))) (tN x+1) [.int .i64 (x:Int),.ptr st.next 0,.ptr (ay st (.cells nc 0)).next 0,.int .i64 0] (ay (ay st (.cells nc 0)) (.cells (eG (fq i) (jN x:Nat) (tA x:Nat) (tB x:Nat) x .ai) 0))=some (.agg (eG (fq i) (jN x:Nat) (tA x:Nat) (tB x:Nat) x v),ew s' st.next (.cells (eG (fq i) (jN x:Nat) (tA x:Nat) (tB x:Nat) x v) 0)):=by
   rw[show (0:Int)=((0:Nat):Int) from rfl,L]
   simp[hT.h5,hcut,u6]
 generalize hF:tN x+1=F at L2 ⊢
 clear hF L hT M2 u6 T0 x1 x2 g2
 have q1:=fun (s:St) (K:AV->St->Option (AV×St))=>bL (c:=c) (k:= .i64) (a:=(x:Int)) (b:=4) (by omega) (by omega) s K
 have q2:=fun (s:St) (K:AV->St->Option (AV×St))=>eZ (c:=c) (a:=(x:Int)) (b:=4) (by omega) (by omega) (by omega) s K
 have q3:=fun (n:Int) (hn:0<n) (s:St) (K:AV->St->Option (AV×St))=>bL (c:=c) (k:= .i64) (a:=(x:Int) / 4) (b:=n) (by omega) hn s K
 have w1:aW .i64 (1+(x:Int) % 4)=1+(x:Int) % 4:=wrap64 (by omega) (by omega)
 have w2:aW .u8 (1+(x:Int) % 4)=1+(x:Int) % 4:=ua (by omega) (by omega)
 have w3:aW .i64 (255 - (x:Int))=255 - (x:Int):=wrap64 (by omega) (by omega)
 have al: ∀(s:St) (K:AV->St->Option (AV×St)),ag c (.alloc [.str [],.int .u8 0,.int .i64 0,.int .i64 0,.ai,.int .i64 0,.int .i64 0]) [] s K=K (.ptr s.next 0) (ay s (.cells nc 0)):=fun s K=>rfl
 have FK: ∀(nm:List Nat) (sh u y:Int) (s:St) (K:AV->St->Option (AV×St)),ag c (.build [.str [],.int .u8 0,.int .i64 0,.int .i64 0,.ai,.int .i64 0,.int .i64 0] [(0,1),(1,1),(5,1),(6,1)]) [.str nm,.int .u8 sh,.int .i64 u,.int .i64 y] s K=K (.agg [.str nm,.int .u8 sh,.int .i64 0,.int .i64 0,.ai,.int .i64 u,.int .i64 y]) s:=fun nm sh u y s K=>rfl
 have z6: ∀(nm:List Nat) (sh u y:Int) (s:St) (K:AV->St->Option (AV×St)),ag c (.store 7) [.ptr s.next 0,.agg [.str nm,.int .u8 sh,.int .i64 0,.int .i64 0,.ai,.int .i64 u,.int .i64 y]] (ay s (.cells nc 0)) K=K .undef (ay s (.cells [.str nm,.int .u8 sh,.int .i64 0,.int .i64 0,.ai,.int .i64 u,.int .i64 y] 0)):=fun nm sh u y s K=>bY c K s 7 (.agg [.str nm,.int .u8 sh,.int .i64 0,.int .i64 0,.ai,.int .i64 u,.int .i64 y]) nc rfl rfl rfl
 have QZ: ∀(nm:List Nat) (sh p q u y z:Int) (s:St) (K:AV->St->Option (AV×St)),ag c (.store 1) [.ptr s.next 2,.int .i64 z] (ay s (.cells [.str nm,.int .u8 sh,.int .i64 p,.int .i64 q,.ai,.int .i64 u,.int .i64 y] 0)) K=K .undef (ay s (.cells [.str nm,.int .u8 sh,.int .i64 z,.int .i64 q,.ai,.int .i64 u,.int .i64 y] 0)):=fun nm sh p q u y z s K=>iu s _ 2 (.int .i64 z) (by simp) rfl rfl K
 have Q0: ∀(nm:List Nat) (sh p q u y z:Int) (s:St) (K:AV->St->Option (AV×St)),ag c (.store 1) [.ptr s.next 3,.int .i64 z] (ay s (.cells [.str nm,.int .u8 sh,.int .i64 p,.int .i64 q,.ai,.int .i64 u,.int .i64 y] 0)) K=K .undef (ay s (.cells [.str nm,.int .u8 sh,.int .i64 p,.int .i64 z,.ai,.int .i64 u,.int .i64 y] 0)):=fun nm sh p q u y z s K=>iu s _ 3 (.int .i64 z) (by simp) rfl rfl K
 rw[o7]
 simp only[al]
 generalize (ay st (.cells nc 0))=s1 at W fK L2 Te
 have a1:aW .i64 1=1:=rfl
 have h4:x % 4=0\/x % 4=1\/x % 4=2\/x % 4=3:=by omega
 rcases h4 with h|h|h|h
 . have e4:(x:Int) % 4=0:=by omega
   have eS:((jN x:Nat):Int)=1:=by unfold jN;omega
   have eA:((tA x:Nat):Int)=1+(x:Int) / 4 % 6:=by unfold tA;rw[if_pos h];omega
   have eB:((tB x:Nat):Int)=0:=by unfold tB;rw[if_pos h];rfl
   simp only[eG,eS,eA,eB] at L2 ⊢
   simp (disch:=omega) [-aR,-ic,-iZ,-cX,FK,z6,QZ,Q0,W,bL,eZ,e4,q9,wrap64,ua,cI,List.getElem?_cons_zero,L2]
 . have e4:(x:Int) % 4=1:=by omega
   have eS:((jN x:Nat):Int)=2:=by unfold jN;omega
   have eA:((tA x:Nat):Int)=1+(x:Int) / 4 % 3:=by unfold tA;rw[if_neg (by omega),if_pos h];omega
   have eB:((tB x:Nat):Int)=(x:Int) / 4 / 3 % 3:=by unfold tB;rw[if_neg (by omega),if_pos h];omega
   simp only[eG,eS,eA,eB] at L2 ⊢
   simp (disch:=omega) [-aR,-ic,-iZ,-cX,FK,z6,QZ,Q0,W,bL,eZ,e4,q9,wrap64,ua,cI,List.getElem?_cons_zero,L2]
 . have e4:(x:Int) % 4=2:=by omega
   have eS:((jN x:Nat):Int)=3:=by unfold jN;omega
   have eA:((tA x:Nat):Int)=1+(x:Int) / 4 % 2:=by unfold tA;rw[if_neg (by omega),if_neg (by omega),if_pos h];omega
   have eB:((tB x:Nat):Int)=1+(x:Int) / 4 / 2 % 2:=by unfold tB;rw[if_neg (by omega),if_neg (by omega),if_pos h];omega
   simp only[eG,eS,eA,eB] at L2 ⊢
   simp (disch:=omega) [-aR,-ic,-iZ,-cX,FK,z6,QZ,Q0,W,bL,eZ,e4,q9,wrap64,ua,cI,List.getElem?_cons_zero,L2]
 . have e4:(x:Int) % 4=3:=by omega
   have eS:((jN x:Nat):Int)=4:=by unfold jN;omega
   have eA:((tA x:Nat):Int)=1+(x:Int) / 4 % 5:=by unfold tA;rw[if_neg (by omega),if_neg (by omega),if_neg (by omega)];omega
   obtain ⟨mb,hmb⟩: ∃mb:Int,mb=min (1+(x:Int) / 4 % 5) ((x:Int) / 4 / 5 % 4):=⟨_,rfl⟩
   have U6: ∀(s:St) (K:AV->St->Option (AV×St)),ag c .minB [.int .i64 (1+(x:Int) / 4 % 5),.int .i64 ((x:Int) / 4 / 5 % 4)] s K=K (.int .i64 mb) s:=fun s K=>by rw[hmb];exact Pg c K s _ _ _ _
   have eB:((tB x:Nat):Int)=mb:=by rw[hmb];unfold tB;rw[if_neg (by omega),if_neg (by omega),if_neg (by omega)];omega
   clear hmb
   simp only[eG,eS,eA,eB] at L2 ⊢
   simp (disch:=omega) [-aR,-ic,-iZ,-cX,-Pg,U6,FK,z6,QZ,Q0,W,bL,eZ,e4,q9,wrap64,ua,cI,List.getElem?_cons_zero,L2]
end Go.Proofs.YtehbdakjkjkekaaGreatDoor
end
section
set_option maxRecDepth 100000
namespace Go.Proofs.YtehbdakjkjkekaaGreatDoor
open Go Go.Ai Go.Proofs
variable {c : ak}
theorem uG {R:Type} (K:AV->Option R) {b:Pos} {off len es es':Nat} {cap:Option Nat} {k:IntKind} {i:Nat} (h:i<len):aJ (.idxA es none) [.slice b off len cap es',.int k (i:Int)] K=K (.ptr b (off+i*es)):=
 iY K (fun H n=>by
  simp only[aB.run,pz,mE]
  have:Nat.blt i len=true:=by rw[Nat.blt_eq];exact h
  rw[this])
theorem IA {es:Nat} {s:St} {v:AV} {rows:List (List AV)} (h:QS es s v rows) (hr: ∀r∈rows,r.length=es) {i:Nat} (hi:i<rows.length):
   ∃b off cap cs,v= .slice b off rows.length cap es/\s.heap.get b=some (.cells cs 0)/\ ∀j u,rows[i][j]? =some u->cs[off+i*es+j]? =some u:=by
 rcases h with ⟨rfl,rfl⟩|⟨b,off,cap,cs,rfl,g1,g2,g3,g4⟩|⟨b,off,rfl,rfl⟩
 . simp at hi
 rotate_left
 . simp at hi
 . refine ⟨b,off,cap,cs,rfl,g1,fun j u hj=> ?_⟩
   have sN:j<es:=by rw[<-hr _ (List.getElem_mem hi)];exact (List.getElem?_eq_some_iff.1 hj).1
   have:=Go.Ai.BV hr i j rows[i] u (List.getElem?_eq_getElem hi) hj
   rw[<-g3] at this
   have aZ:i*es+j<rows.length*es:=by
    have:(i+1)*es<=rows.length*es:=Nat.mul_le_mul_right _ hi
    rw[Nat.succ_mul] at this;omega
   rw[List.getElem?_take,if_pos aZ,List.getElem?_drop] at this
   rw[<-this];congr 1;omega
theorem Q2 (hc:dS c) {s:St} {V W:AV} {rows:List (List AV)} (h:QS 9 s V rows) (hr: ∀r∈rows,r.length=9) {names:List (List Nat)} (hlen:names.length=rows.length) (hn: ∀(i:Nat) (h1:i<rows.length) (h2:i<names.length),rows[i][0]? =some (.str names[i])) (Yg:rows.length<=1000)
  {q:Pos} (hq:s.heap.get q=some (.cells [V,W] 0)) (x:Nat) (hx:x<1000000) (hw:Wf s) (F:Nat) (k1 k2): ∀(m k f:Nat),m<f->k+m=rows.length->dr x∉names.take k->
  eH c F k1 k2 f [.int .i64 (x:Int),.ptr q 0,.int .i64 (k:Int)] s=if dr x∈names then k1 [.bool true] s else k2 [] s:=by
 intro m
 have N:=pN hc x hx s hw
 have cu: ∀j:Nat,(cellsOf (s.heap.get q)).bind (fun cs=>cs[0]?)=some V:=fun _=>by rw[hq];rfl
 induction m with
 |zero=>
  intro k f hf h1 jz
  obtain ⟨f,rfl⟩: ∃g,f=g+1:=⟨f - 1,by omega⟩
  obtain rfl:k=rows.length:=by omega
  rw[<-hlen,List.take_length] at jz
  rw[if_neg jz,eH]
  have lI:=fun (K:AV->St->Option (AV×St))=>h.lenB (c:=c) K s
  simp[hq,lI]
 |succ m ih=>
  intro k f hf h1 jz
  obtain ⟨f,rfl⟩: ∃g,f=g+1:=⟨f - 1,by omega⟩
  have hk:k<rows.length:=by omega
  have jC:k<names.length:=by omega
  have lI:=fun (K:AV->St->Option (AV×St))=>h.lenB (c:=c) K s
  have w:aW .i64 ((k:Int)+1)=((k+1:Nat):Int):=wrap64 (by omega) (by omega)
  obtain ⟨b,off,cap,cs,e,g1,g2⟩:=IA h hr hk
  have nm:=g2 0 _ (hn k hk jC)
  have hb:=h.beq
  have r1:=fun (K:AV->Option (AV×St))=>MC K (o:=0) (v:=V) (h:=s.heap) (h2:=s.heap) (p:=q) (by rw[hq];rfl) (by rw[hq];rfl) hb
  have r2:=fun (K:AV->Option (AV×St))=>MC K (o:=off+k*9) (v:= .str names[k]) (h:=s.heap) (h2:=s.heap) (p:=b) (by rw[g1];exact nm) (by rw[g1];exact nm) (by simp[ki,qU,kH,fU.2 rfl])
  have ix:=fun (K:AV->Option (AV×St))=>uG K (b:=b) (off:=off) (es:=9) (es':=9) (cap:=cap) (k:= .i64) hk
  rw[<-e] at ix
  by_cases heq:names[k]=dr x
  . have mem:dr x∈names:=by rw[<-heq];exact List.getElem_mem jC
    rw[if_pos mem,eH]
    simp[hq,lI,hk,N,r1,r2,ix,heq]
  . have hno2:dr x∉names.take (k+1):=by
        rw[List.take_succ_eq_append_getElem jC,List.mem_append,List.mem_singleton]
        rintro (h|h)
        . exact jz h
        . exact heq h.symm
    rw[<-ih (k+1) f (by omega) (by omega) hno2,eH]
    have d:decide (names[k]=dr x)=false:=decide_eq_false heq
    simp[hq,lI,hk,N,r1,r2,ix,heq,d,w]
theorem VW (hc:dS c) {s:St} {V W:AV} {rows:List (List AV)} (h:QS 9 s V rows) (hr: ∀r∈rows,r.length=9) {names:List (List Nat)} (hlen:names.length=rows.length) (hn: ∀(i:Nat) (h1:i<rows.length) (h2:i<names.length),rows[i][0]? =some (.str names[i])) (Yg:rows.length<=1000)
   (x:Nat) (hx:x<1000000) (hw:Wf s):c 111 [.agg [V,W],.int .i64 (x:Int)] s=some (.bool (decide (dr x∈names)),s):=by
 have hg:=Grew.ay hw (.cells [V,W] 0)
 have h2:QS 9 (ay s (.cells [V,W] 0)) V rows:=h.mono fun b y _ hy=>hg.get hy
 have L:=Q2 hc h2 hr hlen hn Yg (bh s (.cells [V,W] 0)) x hx (fX hw) (rows.length+1) (fun vs kY=>au vs fun x4 vs=>bW vs (some (x4,kY))) (fun vs kQ=>bW vs (ag c .move [.bool false] kQ fun x4 kR=>some (x4,kR))) rows.length 0 (rows.length+1) (by omega) (by omega) (by simp)
 rw[ze hc (rows.length+1) (r:=(.bool (decide (dr x∈names)),ay s (.cells [V,W] 0))),mY (Plain.bool _) hg.keeps]
 rw[o8]
 by_cases hm:dr x∈names
 . rw[if_pos hm] at L
   simp at L
   simp[L,hm]
 . rw[if_neg hm] at L
   simp at L
   simp[L,hm]
end Go.Proofs.YtehbdakjkjkekaaGreatDoor
end
section
set_option maxRecDepth 100000
namespace Go.Proofs.YtehbdakjkjkekaaGreatDoor
open Go Go.Ai Go.Proofs
variable {c : ak}
def DZ (s:List Nat):List AV:=[.str s]
def Nf (x k:Nat):Bool:=decide (x / 2 ^ (6+2*k) % 4=1)
theorem adt (x k:Nat):Nf x k=decide (x / 2 ^ (6+2*k) % 4=1):=by rw[Nf]
def CT (x k:Nat):List (List Nat):=((List.range k).filter (Nf x)).map dr
theorem Ng (x k:Nat):CT x (k+1)=CT x k++(if Nf x k=true then [dr k] else []):=by
 unfold CT
 rw[List.range_succ,List.filter_append,List.map_append]
 congr 1
 cases h:Nf x k with
 |true=>simp[h]
 |false=>simp[h]
theorem ZA (x k:Nat):(CT x k).length<=k:=by
 have:=List.length_filter_le (Nf x) (List.range k)
 rw[List.length_range] at this
 unfold CT
 rw[List.length_map]
 exact this
structure GI (s0 s:St) (p8:Pos) (g:bX) (x k:Nat) (v:AV):Prop where
 out:Mk 1 s0 s v ((CT x k).map DZ)
 h8:s.heap.get p8=some (.cells (g.bD v) 0)
 n8:aF v≠some p8
theorem Oq (hc:dS c) {g:bX} {x:Nat} (hx:x<1000000) {s0:St} {p8:Pos} (h8:s0.next.toNat<=p8.toNat) (x0 x1 x4 x5 x6:AV)
  : ∀(m k:Nat) (s:St) (v:AV),GI s0 s p8 g x k v->k+m=4->
  ∃s' v',GI s0 s' p8 g x 4 v'/\ ∀(F:Nat) (k4:List AV->St->Option (AV×St)) (f:Nat),m<f->dU c F k4 f [x0,x1,x4,x5,x6,.int .i64 (x:Int),.ptr p8 0,.int .i64 (k:Int)] s=k4 [x0,x1,x4,x5,x6,.ptr p8 0] s':=by
 intro m
 induction m with
 |zero=>
  intro k s v hT h1
  obtain rfl:k=4:=by omega
  refine ⟨s,v,hT,fun F k4 f hf=> ?_⟩
  obtain ⟨f,rfl⟩: ∃g,f=g+1:=⟨f - 1,by omega⟩
  rw[dU]
  simp
 |succ m ih=>
  intro k s v hT h1
  have hw:=hT.out.aS.wf
  have h:k<4:=by omega
  . have Yf:(0:Int)<=(x:Int):=Int.natCast_nonneg x
    have w:aW .i64 ((k:Int)+1)=((k+1:Nat):Int):=wrap64 (by omega) (by omega)
    have w1:aW .i64 (2*(k:Int))=2*(k:Int):=wrap64 (by omega) (by omega)
    have w2:aW .i64 (6+2*(k:Int))=6+2*(k:Int):=wrap64 (by omega) (by omega)
    have e2:6+2*(k:Int)=((6+2*k:Nat):Int):=by omega
    have hk64:6+2*k<=64:=by omega
    have sr: ∀(s:St) (K:AV->St->Option (AV×St)),ag c (.bin .shr .num) [.int .i64 (x:Int),.int .i64 (6+2*(k:Int))] s K=K (.int .i64 ((x:Int) / 2 ^ (6+2*k))) s:=fun s K=>by
        rw[e2];exact MJ hk64 s K
    have p0:(0:Int)<=(x:Int) / 2 ^ (6+2*k):=Int.ediv_nonneg Yf (Int.le_of_lt (Int.pow_pos (by decide)))
    have r1:=fun (s:St) (K:AV->St->Option (AV×St))=>bL (c:=c) (k:= .i64) (a:=(x:Int) / 2 ^ (6+2*k)) (b:=4) p0 (by decide) s K
    have d1:decide ((x:Int) / 2 ^ (6+2*k) % 4=1)=decide (x / 2 ^ (6+2*k) % 4=1):=by
        have:((x:Int) / 2 ^ (6+2*k) % 4=1)↔(x / 2 ^ (6+2*k) % 4=1):=by
         rw[show ((x:Int) / 2 ^ (6+2*k) % 4)=((x / 2 ^ (6+2*k) % 4:Nat):Int) by simp];omega
        exact decide_eq_decide.2 this
    have c8:(g.bD v)[8]? =some v:=rfl
    have fin:=adt x k
    have N:=pN hc k (by omega) s hw
    have hd:decide ((k:Int)<4)=true:=decide_eq_true (by omega)
    cases hq:Nf x k with
    |   true=>
        have hrl:((CT x k).map DZ).length<=4:=by rw[List.length_map];have:=ZA x k;omega
        obtain ⟨s5,v5,a1,a2,a3,a4⟩:=hT.out.push (c:=c) (R:=AV×St) (bytes:=16) (z:=[.str []]) (x:= .str (dr k)) rfl rfl rfl (by decide) (by omega) (by omega)
        have e:(CT x (k+1)).map DZ=(CT x k).map DZ++[(.str (dr k):AV).cells]:=by rw[Ng,if_pos hq,List.map_append];rfl
        rw[<-e] at a2
        have y8:=a3 p8 _ hT.n8 hT.h8
        have l8:=hw p8 _ hT.h8
        have b8:aF v5≠some p8:=fun e=>by have:=a4 _ e;omega
        have Pn:=a2.aS.wf
        have l8':=Pn p8 _ y8
        have M:=a2.store (p:=p8) (b:= .cells (g.bD v5) 0) h8 l8' b8
        obtain ⟨vc,v1⟩:=a2.cells
        have bu: ∀(K:AV->St->Option (AV×St)),ag c (.store 1) [.ptr p8 8,v5] s5 K=K .undef (ew s5 p8 (.cells (g.bD v5) 0)):=fun K=>by
         rw[eM c K s5 1 p8 8 v5 (g.bD v) y8 (by rw[vc];rfl) (by simp[bX.bD]) (by rw[vc];exact v1),vc];rfl
        obtain ⟨s',v',b1,b2⟩:=ih (k+1) _ v5 ⟨M,eO _ _ _,b8⟩ (by omega)
        refine ⟨s',v',b1,fun F k4 f hf=> ?_⟩
        obtain ⟨f,rfl⟩: ∃g,f=g+1:=⟨f - 1,by omega⟩
        rw[<-b2 F k4 f (by omega),dU]
        rw[fin] at hq
        simp[-aR,hT.h8,hd,cI,sr,r1,d1,hq,c8,N,a1,bu,w,w1,w2]
    |   false=>
        have e:(CT x (k+1))=(CT x k):=by rw[Ng,if_neg (by rw[hq];decide),List.append_nil]
        obtain ⟨s',v',b1,b2⟩:=ih (k+1) s v ⟨by rw[e];exact hT.out,hT.h8,hT.n8⟩ (by omega)
        refine ⟨s',v',b1,fun F k4 f hf=> ?_⟩
        obtain ⟨f,rfl⟩: ∃g,f=g+1:=⟨f - 1,by omega⟩
        rw[<-b2 F k4 f (by omega),dU]
        rw[fin] at hq
        simp[-aR,hd,cI,sr,r1,d1,hq,w,w1,w2]
end Go.Proofs.YtehbdakjkjkekaaGreatDoor
end
section
set_option maxRecDepth 100000
namespace Go.Proofs.YtehbdakjkjkekaaGreatDoor
open Go Go.Ai Go.Proofs
variable {c : ak}
def Ju (i:Nat):Nat:=25*i % 312+i / 12
def wQ (i x:Nat):bX:=⟨dr (Ju i),if x % 2=1 then dr (x % 3) else [],if 4<x % 8 then dr (x % 8) else [],((x % 4*500:Nat):Int),((x % 3:Nat):Int),if x % 3=2 then dr (x % 5) else [],decide (x % 5=0),decide (x % 7=0),true,CT x 4⟩
theorem Nh {es:Nat} {s0 s s':St} {v:AV} {rows:List (List AV)} (h:Mk es s0 s v rows) (hg:Grew s0 s') (hk: ∀b x,aF v=some b->s.heap.get b=some x->s'.heap.get b=some x):Mk es s0 s' v rows:=
 ⟨h.lZ,hg,h.own.mono hk,h.new,h.row,h.cap,fun b hb=>hk b _ hb (h.tight b hb)⟩
structure GL (st s:St) (p4 p5:Pos) (V W:AV) (gs:List bX) (rows:List (List AV)):Prop where
 out:Mk 9 st s V rows
 len:rows.length=gs.length
 j5: ∀(i:Nat) (g:bX) (r:List AV),gs[i]? =some g->rows[i]? =some r-> ∃v,r=g.bD v/\Mk 1 st s v (g.tg.map DZ)/\ ∀b,aF v=some b->aF V≠some b/\b≠p4/\b≠p5
 h4:s.heap.get p4=some (.cells [.ai,.ai] 0)
 h5:s.heap.get p5=some (.cells [V,W] 0)
 n4:aF V≠some p4
 n5:aF V≠some p5
theorem ZB (g:bX) {v:AV} (h:aX [v]=true):aX (g.bD v)=true:=by
 simp only[aX] at h
 unfold bX.bD
 simp only[aX,AV.one,h,Bool.and_self,Bool.and_true] at*
theorem GL.push {st s s1:St} {p4 p5:Pos} {V W:AV} {gs:List bX} {rows:List (List AV)} (h:GL st s p4 p5 V W gs rows) (zZ:p4≠p5) (vh:st.next.toNat<=p5.toNat) {g:bX} {v:AV} (M:Mk 1 s s1 v (g.tg.map DZ)) (hlen:rows.length<=1000):
   ∃ s5 s6 V5,(∀(K:AV->St->Option (AV×St)),ag c (.buildSlice 9 1 [.str [],.str [],.str [],.int .i64 0,.int .i64 0,.str [],.bool false,.bool false,.ai] [0]) [.agg (g.bD v)] s1 (fun y t=>ag c (.append 9 112) [V,y] t K)=K V5 s5)/\
     (∀(K:AV->St->Option (AV×St)),ag c (.store 1) [.ptr p5 0,V5] s5 K=K .undef s6)/\s1.heap.get p5=some (.cells [V,W] 0)/\GL st s6 p4 p5 V5 W (gs++[g]) (rows++[g.bD v]):=by
 have hw:=h.out.aS.wf
 have O1:=h.out.grow M.aS
 obtain ⟨s5,V5,a1,a2,a3,a4⟩:=O1.push (c:=c) (R:=AV×St) (bytes:=112) (z:=[.str [],.str [],.str [],.int .i64 0,.int .i64 0,.str [],.bool false,.bool false,.ai]) (x:= .agg (g.bD v)) rfl rfl (ZB g M.cells.2) (by decide) (by omega) (by omega)
 have y4:=a3 p4 _ h.n4 (M.aS.get h.h4)
 have y5:=a3 p5 _ h.n5 (M.aS.get h.h5)
 have l4:=hw p4 _ h.h4
 have l5:=hw p5 _ h.h5
 have nx:=M.aS.next
 have b4:aF V5≠some p4:=fun e=>by have:=a4 _ e;omega
 have b5:aF V5≠some p5:=fun e=>by have:=a4 _ e;omega
 have Td:=a2.aS.wf p5 _ y5
 obtain ⟨vc,v1⟩:=a2.cells
 have bu: ∀(K:AV->St->Option (AV×St)),ag c (.store 1) [.ptr p5 0,V5] s5 K=K .undef (ew s5 p5 (.cells [V5,W] 0)):=fun K=>by
   rw[eM c K s5 1 p5 0 V5 [V,W] y5 (by rw[vc];rfl) (by simp) (by rw[vc];exact v1),vc];rfl
 have M6:=a2.store (p:=p5) (b:= .cells [V5,W] 0) vh Td b5
 have Mv:=M.back h.out.lZ h.out.aS
 have vV: ∀b,aF v=some b->aF V≠some b/\b≠p4/\b≠p5:=fun b hb=>by
   have p1:=M.new b hb
   refine ⟨fun e=> ?_,fun e=> ?_,fun e=> ?_⟩
   . have:=h.out.own.lt hw e;omega
   . subst e;omega
   . subst e;omega
 have small: ∀(u:AV) (rw:List (List AV)),Mk 1 st s1 u rw->(∀b,aF u=some b->aF V≠some b/\b≠p4/\b≠p5)->Mk 1 st (ew s5 p5 (.cells [V5,W] 0)) u rw/\ ∀b,aF u=some b->aF V5≠some b/\b≠p4/\b≠p5:=fun u rw hu bO=>by
   refine ⟨Nh hu M6.aS fun b y hb hy=> ?_,fun b hb=>⟨fun e=> ?_,(bO b hb).2⟩⟩
   . rw[bV (fun e=>(bO b hb).2.2 e.symm)]
     exact a3 b y (bO b hb).1 hy
   . have p1:=a4 b e
     have p2:=hu.own.lt hu.aS.wf hb
     omega
 refine ⟨s5,_,V5,a1,bu,M.aS.get h.h5,⟨M6,by simp[h.len],fun i t r hi MS=> ?_,by rw[bV (fun e=>zZ e.symm)];exact y4,eO _ _ _,b4,b5⟩⟩
 by_cases CL:i<gs.length
 . rw[List.getElem?_append_left (by rw[h.len];exact CL)] at MS
   rw[List.getElem?_append_left CL] at hi
   obtain ⟨u,e1,e2,e3⟩:=h.j5 i t r hi MS
   obtain ⟨f1,f2⟩:=small u _ (e2.grow M.aS) e3
   exact ⟨u,e1,f1,f2⟩
 . have u9:=(List.getElem?_eq_some_iff.1 hi).1
   simp at u9
   obtain rfl:i=gs.length:=by omega
   rw[List.getElem?_append_right (by rw[h.len];exact Nat.le_refl _)] at MS
   rw[List.getElem?_append_right (Nat.le_refl _)] at hi
   simp[h.len] at MS hi
   subst hi;subst MS
   obtain ⟨f1,f2⟩:=small v _ Mv vV
   exact ⟨v,rfl,f1,f2⟩
end Go.Proofs.YtehbdakjkjkekaaGreatDoor
end
section
set_option maxRecDepth 100000
namespace Go.Proofs.YtehbdakjkjkekaaGreatDoor
open Go Go.Ai Go.Proofs
variable {c : ak}
def bP (k:IntKind) (z:Bool) (l:List Nat):AV:=ro 1 z (l.map fun (i:Nat)=>[.int k (i:Int)])
def qM (xs:List Nat) (k:Nat):List bX:=(List.range k).map fun i=>wQ i (xs.getD i 0)
theorem Tg (xs:List Nat) (k:Nat) (h:k<xs.length):qM xs (k+1)=qM xs k++[wQ k xs[k]]:=by
 unfold qM
 rw[List.range_succ,List.map_append]
 simp[List.getD_eq_getElem?_getD,h]
theorem Gx (xs:List Nat) (k:Nat):(qM xs k).length=k:=by simp[qM]
def zG:List AV:=[.str [],.str [],.str [],.int .i64 0,.int .i64 0,.str [],.bool false,.bool false,.ai]
theorem l9 (s:St) (K:AV->St->Option (AV×St)):ag c (.alloc [.str [],.str [],.str [],.int .i64 0,.int .i64 0,.str [],.bool false,.bool false,.ai]) [] s K=K (.ptr s.next 0) (ay s (.cells zG 0)):=rfl
theorem mg (nm:List Nat) (u y:Int) (b d:Bool) (s:St) (K:AV->St->Option (AV×St)):ag c (.build [.str [],.str [],.str [],.int .i64 0,.int .i64 0,.str [],.bool false,.bool false,.ai] [(0,1),(3,1),(4,1),(6,1),(7,1)]) [.str nm,.int .i64 u,.int .i64 y,.bool b,.bool d] s K=K (.agg [.str nm,.str [],.str [],.int .i64 u,.int .i64 y,.str [],.bool b,.bool d,.ai]) s:=rfl
theorem mh (nm:List Nat) (u y:Int) (b d:Bool) (s:St) (K:AV->St->Option (AV×St)):ag c (.store 9) [.ptr s.next 0,.agg [.str nm,.str [],.str [],.int .i64 u,.int .i64 y,.str [],.bool b,.bool d,.ai]] (ay s (.cells zG 0)) K=K .undef (ay s (.cells [.str nm,.str [],.str [],.int .i64 u,.int .i64 y,.str [],.bool b,.bool d,.ai] 0)):=
 bY c K s 9 (.agg [.str nm,.str [],.str [],.int .i64 u,.int .i64 y,.str [],.bool b,.bool d,.ai]) zG rfl rfl rfl
theorem nO (nm r ct dt z:List Nat) (u y:Int) (b d:Bool) (s:St) (K:AV->St->Option (AV×St)):ag c (.store 1) [.ptr s.next 1,.str z] (ay s (.cells [.str nm,.str r,.str ct,.int .i64 u,.int .i64 y,.str dt,.bool b,.bool d,.ai] 0)) K=K .undef (ay s (.cells [.str nm,.str z,.str ct,.int .i64 u,.int .i64 y,.str dt,.bool b,.bool d,.ai] 0)):=iu s _ 1 (.str z) (by simp) rfl rfl K
theorem nP (nm r ct dt z:List Nat) (u y:Int) (b d:Bool) (s:St) (K:AV->St->Option (AV×St)):ag c (.store 1) [.ptr s.next 2,.str z] (ay s (.cells [.str nm,.str r,.str ct,.int .i64 u,.int .i64 y,.str dt,.bool b,.bool d,.ai] 0)) K=K .undef (ay s (.cells [.str nm,.str r,.str z,.int .i64 u,.int .i64 y,.str dt,.bool b,.bool d,.ai] 0)):=iu s _ 2 (.str z) (by simp) rfl rfl K
theorem nQ (nm r ct dt z:List Nat) (u y:Int) (b d:Bool) (s:St) (K:AV->St->Option (AV×St)):ag c (.store 1) [.ptr s.next 5,.str z] (ay s (.cells [.str nm,.str r,.str ct,.int .i64 u,.int .i64 y,.str dt,.bool b,.bool d,.ai] 0)) K=K .undef (ay s (.cells [.str nm,.str r,.str ct,.int .i64 u,.int .i64 y,.str z,.bool b,.bool d,.ai] 0)):=iu s _ 5 (.str z) (by simp) rfl rfl K
theorem Kz (i x:Nat) (v:AV):(wQ i x).bD v=[.str (dr (Ju i)),.str (if x % 2=1 then dr (x % 3) else []),.str (if 4<x % 8 then dr (x % 8) else []),.int .i64 ((x % 4*500:Nat):Int),.int .i64 ((x % 3:Nat):Int),.str (if x % 3=2 then dr (x % 5) else []),.bool (decide (x % 5=0)),.bool (decide (x % 7=0)),v]:=rfl
set_option maxHeartbeats 4000000 in
theorem Ot (hc:dS c) {xs:List Nat} (hx: ∀x∈xs,x<65536) (z:Bool) (x1:AV) {st s:St} {p4 p5:Pos} (zZ:p4≠p5) (vh:st.next.toNat<=p5.toNat) {V W:AV} {rows:List (List AV)} {k:Nat} (hk:k<xs.length) (hk12:k<12)
   (h:GL st s p4 p5 V W (qM xs k) rows): ∃s' V' Ca,GL st s' p4 p5 V' W (qM xs (k+1)) Ca/\ ∀(F:Nat) (_:5<=F) (k2:List AV->St->Option (AV×St)) (f:Nat),
     cZ c F k2 (f+1) [bP .u16 z xs,x1,.ptr p4 0,.ptr p5 0,.int .i64 (k:Int)] s=cZ c F k2 f [bP .u16 z xs,x1,.ptr p4 0,.ptr p5 0,.int .i64 ((k+1:Nat):Int)] s':=by
 have hw:=h.out.aS.wf
 have XA:=hx _ (List.getElem_mem hk)
 generalize wR:xs[k]=x at XA
 have M0:Mk 1 s (ay s (.cells ((wQ k x).bD .ai) 0)) .ai []:=Mk.start hw (Grew.ay hw _)
 obtain ⟨s1,v1,hG,L⟩:=Oq hc (g:=wQ k x) (x:=x) (by omega) (s0:=s) (p8:=s.next) (Nat.le_refl _) (bP .u16 z xs) x1 (.ptr p4 0) (.ptr p5 0) (.int .i64 (k:Int)) 4 0 _ .ai ⟨M0,bh _ _,fun e=>(nomatch e)⟩ rfl
 have M:Mk 1 s s1 v1 ((wQ k x).tg.map DZ):=hG.out
 obtain ⟨s5,s6,V5,a1,a2,a3,a4⟩:=h.push (c:=c) zZ vh M (by rw[h.len,Gx];omega)
 have e:qM xs k++[wQ k x]=qM xs (k+1):=by rw[Tg xs k hk,wR]
 rw[e] at a4
 refine ⟨s6,V5,_,a4,fun F hF k2 f=> ?_⟩
 have L': ∀k4:List AV->St->Option (AV×St),dU c F k4 F [bP .u16 z xs,x1,.ptr p4 0,.ptr p5 0,.int .i64 (k:Int),.int .i64 (x:Int),.ptr s.next 0,.int .i64 0] (ay s (.cells ((wQ k x).bD .ai) 0))=k4 [bP .u16 z xs,x1,.ptr p4 0,.ptr p5 0,.int .i64 (k:Int),.ptr s.next 0] s1:=fun k4=>L F k4 F (by omega)
 clear a4 M M0 L
 have lI: ∀(K:AV->St->Option (AV×St)) (s:St),ag c (.lenB .l) [bP .u16 z xs] s K=K (.int .i64 (xs.length:Int)) s:=fun K s=>by unfold bP;rw[BT];simp
 have ix: ∀(K:AV->St->Option (AV×St)) (s:St),ag c (.idxA 1 none) [bP .u16 z xs,.int .i64 (k:Int)] s K=K (.fp (xs.map fun (i:Nat)=>[.int .u16 (i:Int)]) k 0) s:=fun K s=>by unfold bP;rw[Mz];simp[hk]
 have ld:((xs.map fun (i:Nat)=>[AV.int .u16 (i:Int)])[k]?.bind fun cs=>cs[0]?)=some (.int .u16 (x:Int)):=by simp[hk,wR]
 have w0:aW .i64 (x:Int)=(x:Int):=wrap64 (by omega) (by omega)
 have N1:=pN hc (Ju k) (by unfold Ju;omega) s hw
 have sS:cut ((wQ k x).bD v1) 0 9=some ((wQ k x).bD v1):=ig rfl
 have N2: ∀(b:AB) (j:Nat) (i:Int),i=(j:Int)->j<1000000->c 110 [.int .i64 i] (ay s b)=some (.str (dr j),ay s b):=fun b j i e hj=>by rw[e];exact pN hc j hj _ (fX hw)
 have N3:=fun b=>N2 b (x % 3) ((x:Int) % 3) (by omega) (by omega)
 have N8:=fun b=>N2 b (x % 8) ((x:Int) % 8) (by omega) (by omega)
 have N5:=fun b=>N2 b (x % 5) ((x:Int) % 5) (by omega) (by omega)
 have eg:25*(k:Int) % 312+(k:Int) / 12=((Ju k:Nat):Int):=by unfold Ju;omega
 rw[<-eg] at N1
 have D0:decide ((k:Int)<12)=true:=decide_eq_true (by omega)
 have d5:decide ((x:Int) % 5=0)=decide (x % 5=0):=decide_eq_decide.2 (by omega)
 have d7:decide ((x:Int) % 7=0)=decide (x % 7=0):=decide_eq_decide.2 (by omega)
 have u4:((x % 4*500:Nat):Int)=(x:Int) % 4*500:=by omega
 have u3:((x % 3:Nat):Int)=(x:Int) % 3:=by omega
 simp only[Kz] at a1 L' hG sS
 clear N2
 have h8:=hG.h8
 rw[Kz] at h8
 rw[u4,u3] at L' h8 a1 sS
 rw[cZ]
 by_cases c1:x % 2=1
 . by_cases c2:4<x % 8
   . by_cases c3:x % 3=2
     .  have e1:decide ((x:Int) % 2=1)=true:=decide_eq_true (by omega)
        have e2:decide (4<(x:Int) % 8)=true:=decide_eq_true (by omega)
        have e3:decide ((x:Int) % 3=2)=true:=decide_eq_true (by omega)
        simp only[if_pos c1,if_pos c2,if_pos c3] at L' h8 a1 sS
        simp (maxSteps:=2000000) (disch:=omega) [-aR,-ic,-iJ,-cX,-iZ,l9,mg,mh,nO,nP,nQ,lI,ix,ld,hk,wR,List.getElem?_cons_zero,D0,l6,w0,bL,eZ,wrap64,N1,N3,N8,N5,d5,d7,e1,e2,e3,cI,L',a1,a2,a3,h8,sS]
     .  have e1:decide ((x:Int) % 2=1)=true:=decide_eq_true (by omega)
        have e2:decide (4<(x:Int) % 8)=true:=decide_eq_true (by omega)
        have e3:decide ((x:Int) % 3=2)=false:=decide_eq_false (by omega)
        simp only[if_pos c1,if_pos c2,if_neg c3] at L' h8 a1 sS
        simp (maxSteps:=2000000) (disch:=omega) [-aR,-ic,-iJ,-cX,-iZ,l9,mg,mh,nO,nP,nQ,lI,ix,ld,hk,wR,List.getElem?_cons_zero,D0,l6,w0,bL,eZ,wrap64,N1,N3,N8,N5,d5,d7,e1,e2,e3,cI,L',a1,a2,a3,h8,sS]
   . by_cases c3:x % 3=2
     .  have e1:decide ((x:Int) % 2=1)=true:=decide_eq_true (by omega)
        have e2:decide (4<(x:Int) % 8)=false:=decide_eq_false (by omega)
        have e3:decide ((x:Int) % 3=2)=true:=decide_eq_true (by omega)
        simp only[if_pos c1,if_neg c2,if_pos c3] at L' h8 a1 sS
        simp (maxSteps:=2000000) (disch:=omega) [-aR,-ic,-iJ,-cX,-iZ,l9,mg,mh,nO,nP,nQ,lI,ix,ld,hk,wR,List.getElem?_cons_zero,D0,l6,w0,bL,eZ,wrap64,N1,N3,N8,N5,d5,d7,e1,e2,e3,cI,L',a1,a2,a3,h8,sS]
     .  have e1:decide ((x:Int) % 2=1)=true:=decide_eq_true (by omega)
        have e2:decide (4<(x:Int) % 8)=false:=decide_eq_false (by omega)
        have e3:decide ((x:Int) % 3=2)=false:=decide_eq_false (by omega)
        simp only[if_pos c1,if_neg c2,if_neg c3] at L' h8 a1 sS
        simp (maxSteps:=2000000) (disch:=omega) [-aR,-ic,-iJ,-cX,-iZ,l9,mg,mh,nO,nP,nQ,lI,ix,ld,hk,wR,List.getElem?_cons_zero,D0,l6,w0,bL,eZ,wrap64,N1,N3,N8,N5,d5,d7,e1,e2,e3,cI,L',a1,a2,a3,h8,sS]
 . by_cases c2:4<x % 8
   . by_cases c3:x % 3=2
     .  have e1:decide ((x:Int) % 2=1)=false:=decide_eq_false (by omega)
        have e2:decide (4<(x:Int) % 8)=true:=decide_eq_true (by omega)
        have e3:decide ((x:Int) % 3=2)=true:=decide_eq_true (by omega)
        simp only[if_neg c1,if_pos c2,if_pos c3] at L' h8 a1 sS
        simp (maxSteps:=2000000) (disch:=omega) [-aR,-ic,-iJ,-cX,-iZ,l9,mg,mh,nO,nP,nQ,lI,ix,ld,hk,wR,List.getElem?_cons_zero,D0,l6,w0,bL,eZ,wrap64,N1,N3,N8,N5,d5,d7,e1,e2,e3,cI,L',a1,a2,a3,h8,sS]
     .  have e1:decide ((x:Int) % 2=1)=false:=decide_eq_false (by omega)
        have e2:decide (4<(x:Int) % 8)=true:=decide_eq_true (by omega)
        have e3:decide ((x:Int) % 3=2)=false:=decide_eq_false (by omega)
        simp only[if_neg c1,if_pos c2,if_neg c3] at L' h8 a1 sS
        simp (maxSteps:=2000000) (disch:=omega) [-aR,-ic,-iJ,-cX,-iZ,l9,mg,mh,nO,nP,nQ,lI,ix,ld,hk,wR,List.getElem?_cons_zero,D0,l6,w0,bL,eZ,wrap64,N1,N3,N8,N5,d5,d7,e1,e2,e3,cI,L',a1,a2,a3,h8,sS]
   . by_cases c3:x % 3=2
     .  have e1:decide ((x:Int) % 2=1)=false:=decide_eq_false (by omega)
        have e2:decide (4<(x:Int) % 8)=false:=decide_eq_false (by omega)
        have e3:decide ((x:Int) % 3=2)=true:=decide_eq_true (by omega)
        simp only[if_neg c1,if_neg c2,if_pos c3] at L' h8 a1 sS
        simp (maxSteps:=2000000) (disch:=omega) [-aR,-ic,-iJ,-cX,-iZ,l9,mg,mh,nO,nP,nQ,lI,ix,ld,hk,wR,List.getElem?_cons_zero,D0,l6,w0,bL,eZ,wrap64,N1,N3,N8,N5,d5,d7,e1,e2,e3,cI,L',a1,a2,a3,h8,sS]
     .  have e1:decide ((x:Int) % 2=1)=false:=decide_eq_false (by omega)
        have e2:decide (4<(x:Int) % 8)=false:=decide_eq_false (by omega)
        have e3:decide ((x:Int) % 3=2)=false:=decide_eq_false (by omega)
        simp only[if_neg c1,if_neg c2,if_neg c3] at L' h8 a1 sS
        simp (maxSteps:=2000000) (disch:=omega) [-aR,-ic,-iJ,-cX,-iZ,l9,mg,mh,nO,nP,nQ,lI,ix,ld,hk,wR,List.getElem?_cons_zero,D0,l6,w0,bL,eZ,wrap64,N1,N3,N8,N5,d5,d7,e1,e2,e3,cI,L',a1,a2,a3,h8,sS]
end Go.Proofs.YtehbdakjkjkekaaGreatDoor
end
section
set_option maxRecDepth 100000
namespace Go.Proofs.YtehbdakjkjkekaaGreatDoor
open Go Go.Ai Go.Proofs
variable {c : ak}
theorem Ou (hc:dS c) {xs:List Nat} (hx: ∀x∈xs,x<65536) (hl:xs.length<=9223372036854775807) (z:Bool) (x1:AV) {st:St} {p4 p5:Pos} (zZ:p4≠p5) (vh:st.next.toNat<=p5.toNat) {W:AV}: ∀(m k:Nat) (s:St) (V:AV) (rows:List (List AV)),k+m=min xs.length 12->
  GL st s p4 p5 V W (qM xs k) rows-> ∃s' V' Ca,GL st s' p4 p5 V' W (qM xs (min xs.length 12)) Ca/\ ∀(F:Nat) (_:5<=F) (k2:List AV->St->Option (AV×St)) (f:Nat),m<f->
    cZ c F k2 f [bP .u16 z xs,x1,.ptr p4 0,.ptr p5 0,.int .i64 (k:Int)] s=k2 [x1,.ptr p4 0,.ptr p5 0] s':=by
 intro m
 induction m with
 |zero=>
  intro k s V rows hk h
  obtain rfl:k=min xs.length 12:=by omega
  refine ⟨s,V,rows,h,fun F _ k2 f hf=> ?_⟩
  obtain ⟨f,rfl⟩: ∃g,f=g+1:=⟨f - 1,by omega⟩
  have lI: ∀(K:AV->St->Option (AV×St)) (s:St),ag c (.lenB .l) [bP .u16 z xs] s K=K (.int .i64 (xs.length:Int)) s:=fun K s=>by unfold bP;rw[BT];simp
  rw[cZ]
  by_cases J5:xs.length<=12
  . have e:min xs.length 12=xs.length:=by omega
    rw[e]
    simp[lI]
  . have e:min xs.length 12=12:=by omega
    rw[e]
    have hd:decide (12<xs.length)=true:=decide_eq_true (by omega)
    have xS:(12:Nat)<xs.length:=by omega
    have hd3:decide ((12:Int)<(xs.length:Int))=true:=decide_eq_true (by omega)
    simp[lI,hd3]
 |succ m ih=>
  intro k s V rows hk h
  obtain ⟨s1,V1,r1,h1,e1⟩:=Ot hc hx z x1 zZ vh (k:=k) (by omega) (by omega) h
  obtain ⟨s2,V2,r2,h2,e2⟩:=ih (k+1) s1 V1 r1 (by omega) h1
  refine ⟨s2,V2,r2,h2,fun F hF k2 f hf=> ?_⟩
  obtain ⟨f,rfl⟩: ∃g,f=g+1:=⟨f - 1,by omega⟩
  rw[e1 F hF k2 f,e2 F hF k2 f (by omega)]
end Go.Proofs.YtehbdakjkjkekaaGreatDoor
end
section
set_option maxRecDepth 100000
namespace Go.Proofs.YtehbdakjkjkekaaGreatDoor
open Go Go.Ai Go.Proofs
variable {c : ak}
structure YL (st s:St) (p4 p5:Pos) (V W:AV) (gs:List bX) (rows:List (List AV)) (ys:List Ty):Prop where
 gl:GL st s p4 p5 V W gs rows
 ty:Mk 3 st s W (ys.map Ty.cells)
 w4:aF W≠some p4
 w5:aF W≠some p5
 wV: ∀b,aF W=some b->aF V≠some b
 wI: ∀(i:Nat) (r:List AV) (v:AV) (b:Pos),rows[i]? =some r->r[8]? =some v->aF v=some b->aF W≠some b
theorem YL.start {st s:St} {p4 p5:Pos} {V:AV} {gs:List bX} {rows:List (List AV)} (h:GL st s p4 p5 V .ai gs rows):YL st s p4 p5 V .ai gs rows []:=
 ⟨h,Mk.start h.out.lZ h.out.aS,fun e=>(nomatch e),fun e=>(nomatch e),fun _ e=>(nomatch e),fun _ _ _ _ _ _ _ e=>(nomatch e)⟩
theorem YL.push {st s:St} {p4 p5:Pos} {V W:AV} {gs:List bX} {rows:List (List AV)} {ys:List Ty} (h:YL st s p4 p5 V W gs rows ys) (zZ:p4≠p5) (vh:st.next.toNat<=p5.toNat) (t:Ty) (hlen:ys.length<=1000000):
   ∃s5 s6 W5,(∀(K:AV->St->Option (AV×St)),ag c (.buildSlice 3 1 [.str [],.str [],.int .u8 0] [0]) [.agg t.cells] s (fun y q=>ag c (.append 3 40) [W,y] q K)=K W5 s5)/\
    (∀(K:AV->St->Option (AV×St)),ag c (.store 1) [.ptr p5 1,W5] s5 K=K .undef s6)/\YL st s6 p4 p5 V W5 gs rows (ys++[t]):=by
 have hw:=h.gl.out.aS.wf
 obtain ⟨s5,W5,a1,a2,a3,a4⟩:=h.ty.push (c:=c) (R:=AV×St) (bytes:=40) (z:=[.str [],.str [],.int .u8 0]) (x:= .agg t.cells) rfl rfl rfl (by decide) (by rw[List.length_map];omega) (by rw[List.length_map];omega)
 have e:(ys++[t]).map Ty.cells=ys.map Ty.cells++[(.agg t.cells:AV).cells]:=by rw[List.map_append];rfl
 rw[<-e] at a2
 have y4:=a3 p4 _ h.w4 h.gl.h4
 have y5:=a3 p5 _ h.w5 h.gl.h5
 have l4:=hw p4 _ h.gl.h4
 have l5:=hw p5 _ h.gl.h5
 have b4:aF W5≠some p4:=fun e=>by have:=a4 _ e;omega
 have b5:aF W5≠some p5:=fun e=>by have:=a4 _ e;omega
 have Td:=a2.aS.wf p5 _ y5
 obtain ⟨vc,v1⟩:=a2.cells
 have bu: ∀(K:AV->St->Option (AV×St)),ag c (.store 1) [.ptr p5 1,W5] s5 K=K .undef (ew s5 p5 (.cells [V,W5] 0)):=fun K=>by
   rw[eM c K s5 1 p5 1 W5 [V,W] y5 (by rw[vc];rfl) (by simp) (by rw[vc];exact v1),vc];rfl
 have M6:=a2.store (p:=p5) (b:= .cells [V,W5] 0) vh Td b5
 have keep: ∀(u:AV) (n:Nat) (rw:List (List AV)),Mk n st s u rw->(∀b,aF u=some b->aF W≠some b/\b≠p5)->Mk n st (ew s5 p5 (.cells [V,W5] 0)) u rw:=fun u n rw hu bO=>
   Nh hu M6.aS fun b y hb hy=>by
    rw[bV (fun e=>(bO b hb).2 e.symm)]
    exact a3 b y (bO b hb).1 hy
 have newW: ∀b,aF W5=some b->s.next.toNat<=b.toNat:=a4
 refine ⟨s5,_,W5,a1,bu,⟨⟨keep V 9 rows h.gl.out fun b hb=>⟨fun e=>h.wV b e hb,fun e=>h.gl.n5 (by rw[hb,e])⟩,h.gl.len,fun i g r hi hr=> ?_,by rw[bV (fun e=>zZ e.symm)];exact y4,eO _ _ _,h.gl.n4,h.gl.n5⟩,M6,b4,b5,fun b hb e=> ?_,fun i r v b hr h8 hv e=> ?_⟩⟩
 . obtain ⟨v,e1,e2,e3⟩:=h.gl.j5 i g r hi hr
   have h8:r[8]? =some v:=by rw[e1];rfl
   exact ⟨v,e1,keep v 1 _ e2 fun b hb=>⟨h.wI i r v b hr h8 hb,(e3 b hb).2.2⟩,e3⟩
 . have:=newW b hb
   have:=h.gl.out.own.lt hw e
   omega
 . have p1:=newW b e
   have hi:i<gs.length:=by rw[<-h.gl.len];exact (List.getElem?_eq_some_iff.1 hr).1
   obtain ⟨u,e1,e2,_⟩:=h.gl.j5 i gs[i] r (List.getElem?_eq_getElem hi) hr
   have:u=v:=by rw[e1] at h8;exact Option.some.inj h8
   subst this
   have:=e2.own.lt hw hv
   omega
end Go.Proofs.YtehbdakjkjkekaaGreatDoor
end
section
set_option maxRecDepth 100000
namespace Go.Proofs.YtehbdakjkjkekaaGreatDoor
open Go Go.Ai Go.Proofs
variable {c : ak}
def j6 (gs:List bX):List (List Nat):=gs.map fun g=>g.name
def Jv (bK:List Nat) (i k n:Nat):Ty:=⟨dr i,dr k,1+((bK.getD n 0 % 4:Nat):Int)⟩
def Q3 (bK:List Nat) (n:Nat):Bool:=decide (n<bK.length)&&decide (bK.getD n 0 % 4<2)
def wS (bK:List Nat) (i k n:Nat) (ys:List Ty):List Ty:=if Q3 bK n=true then ys++[Jv bK i k n] else ys
theorem Ni (bK:List Nat) (i k n:Nat) (ys:List Ty):(wS bK i k n ys).length<=ys.length+1:=by unfold wS;split<;>simp
def jO (names:List (List Nat)) (bK:List Nat) (i:Nat):Nat->Nat->Nat->List Ty->Nat×List Ty
 |0,_,n,ys=>(n,ys)
 |m+1,k,n,ys=>if dr i∈names then (if dr k∈names then jO names bK i m (k+1) (n+1) (wS bK i k n ys) else jO names bK i m (k+1) n ys) else (n,ys)
theorem GL.there (hc:dS c) {st s:St} {p4 p5:Pos} {V W:AV} {gs:List bX} {rows:List (List AV)} (h:GL st s p4 p5 V W gs rows) (hl:gs.length<=1000) (x:Nat) (hx:x<1000000):
  c 111 [.agg [V,W],.int .i64 (x:Int)] s=some (.bool (decide (dr x∈j6 gs)),s):=
 VW hc h.out.own h.out.row (names:=j6 gs) (by rw[j6,List.length_map,h.len]) (fun i h1 h2=>by
  have h3:i<gs.length:=by rw[<-h.len];exact h1
  obtain ⟨v,e,_⟩:=h.j5 i gs[i] rows[i] (List.getElem?_eq_getElem h3) (List.getElem?_eq_getElem h1)
  rw[e]
  simp[j6,bX.bD]) (by rw[h.len];exact hl) x hx h.out.aS.wf
theorem Ov {R:Type} (h:T AB) (ok:AV->Bool) (xs:List (List AV)) (i j:Nat) (K1:AV->Option R):ei (.load none) [.fp xs i j] h ok K1=qK (xs[i]?.bind fun cs=>cs[j]?) K1:=by
 unfold ei;rw[rY,rY]
 cases hx:(xs[i]?.bind fun cs=>cs[j]?)<;>rfl
theorem Th {R:Type} (a b:List Nat) (k:Int) (s:St) (K:AV->AB->Option R):CQ (.buildSlice 3 1 [.str [],.str [],.int .u8 0] [0]) [.agg [.str a,.str b,.int .u8 k]] s K=K (.slice s.next 0 1 (some 1) 3) (.cells [.str a,.str b,.int .u8 k] 0):=rfl
theorem Q4 (a b:List Nat) (k:Int) (K:AV->Option (AV×St)):aJ (.build [.str [],.str [],.int .u8 0] [(0,1),(1,1),(2,1)]) [.str a,.str b,.int .u8 k] K=K (.agg [.str a,.str b,.int .u8 k]):=rfl
theorem adu (hc:dS c) {bK:List Nat} (ht: ∀x∈bK,x<256) (z:Bool) {st:St} {p4 p5:Pos} (zZ:p4≠p5) (vh:st.next.toNat<=p5.toNat) {V:AV} {gs:List bX} (IB:gs.length<=1000) {rows:List (List AV)} {i:Nat} (hi:i<1000):
  ∀(m k n:Nat) (s:St) (W:AV) (ys:List Ty),k+m=312->ys.length<=n->n+m<=1000000->YL st s p4 p5 V W gs rows ys->
  ∃ s' W',YL st s' p4 p5 V W' gs rows (jO (j6 gs) bK i m k n ys).2/\ ∀(F:Nat) (k8:List AV->St->Option (AV×St)) (f:Nat),m<f->
    cr c F k8 f [bP .u8 z bK,.ptr p4 0,.ptr p5 0,.int .i64 (n:Int),.int .i64 (i:Int),.int .i64 (k:Int)] s=k8 [bP .u8 z bK,.ptr p4 0,.ptr p5 0,.int .i64 ((jO (j6 gs) bK i m k n ys).1:Int),.int .i64 (i:Int)] s':=by
 intro m
 induction m with
 |zero=>
  intro k n s W ys hk hy hn h
  obtain rfl:k=312:=by omega
  refine ⟨s,W,h,fun F k8 f hf=> ?_⟩
  obtain ⟨f,rfl⟩: ∃g,f=g+1:=⟨f - 1,by omega⟩
  rw[cr]
  simp[jO]
 |succ m ih  =>
  intro k n s W ys hk hy hn h
  have T1:=h.gl.there hc IB i (by omega)
  have T2:=h.gl.there hc IB k (by omega)
  have hd:decide ((k:Int)<312)=true:=decide_eq_true (by omega)
  have w:aW .i64 ((k:Int)+1)=((k+1:Nat):Int):=wrap64 (by omega) (by omega)
  have w2:aW .i64 ((n:Int)+1)=((n+1:Nat):Int):=wrap64 (by omega) (by omega)
  have h5:=h.gl.h5
  have cu:cut [V,W] 0 2=some [V,W]:=rfl
  have lI: ∀(K:AV->St->Option (AV×St)) (s:St),ag c (.lenB .l) [bP .u8 z bK] s K=K (.int .i64 (bK.length:Int)) s:=fun K s=>by unfold bP;rw[BT];simp
  by_cases KA:dr i∈j6 gs
  . by_cases vk:dr k∈j6 gs
    .   have eT:jO (j6 gs) bK i (m+1) k n ys=jO (j6 gs) bK i m (k+1) (n+1) (wS bK i k n ys):=by rw[jO,if_pos KA,if_pos vk]
        rw[eT]
        have hl:=Ni bK i k n ys
        by_cases jD:n<bK.length
        . have ix: ∀(K:AV->St->Option (AV×St)) (s:St),ag c (.idxA 1 none) [bP .u8 z bK,.int .i64 (n:Int)] s K=K (.fp (bK.map fun (i:Nat)=>[.int .u8 (i:Int)]) n 0) s:=fun K s=>by unfold bP;rw[Mz];simp[jD]
          have pix: ∀(K:AV->Option (AV×St)),aJ (.idxA 1 none) [bP .u8 z bK,.int .i64 (n:Int)] K=K (.fp (bK.map fun (i:Nat)=>[.int .u8 (i:Int)]) n 0):=fun K=>by unfold bP;rw[Vt];simp[jD]
          obtain ⟨x,hx⟩: ∃x,bK[n]=x:=⟨_,rfl⟩
          have hx8:x<256:=by rw[<-hx];exact ht _ (List.getElem_mem jD)
          have gd:bK.getD n 0=x:=by simp[List.getD_eq_getElem?_getD,jD,hx]
          have r1:=fun (s:St) (K:AV->St->Option (AV×St))=>bL (c:=c) (k:= .u8) (a:=(x:Int)) (b:=4) (by omega) (by omega) s K
          have r2:=fun (K:AV->Option (AV×St))=>BW (k:= .u8) (a:=(x:Int)) (b:=4) (by omega) (by omega) K
          have w8:aW .u8 (1+(x:Int) % 4)=1+(x:Int) % 4:=ua (by omega) (by omega)
          have eC:Q3 bK n=decide (x % 4<2):=by unfold Q3;rw[gd,decide_eq_true jD,Bool.true_and]
          have d2:decide ((x:Int) % 4<2)=decide (x % 4<2):=decide_eq_decide.2 (by omega)
          by_cases hx4:x % 4<2
          . have eY:wS bK i k n ys=ys++[Jv bK i k n]:=by unfold wS;rw[eC,if_pos (decide_eq_true hx4)]
            rw[eY] at hl ⊢
            obtain ⟨s5,s6,W5,a1,a2,a3⟩:=h.push (c:=c) zZ vh (Jv bK i k n) (by omega)
            have eU:(Jv bK i k n).cells=[.str (dr i),.str (dr k),.int .u8 (1+(x:Int) % 4)]:=by unfold Jv Ty.cells;rw[gd];simp
            have a1': ∀K,ag c (.append 3 40) [W,.slice s.next 0 1 (some 1) 3] (ay s (.cells [.str (dr i),.str (dr k),.int .u8 (1+(x:Int) % 4)] 0)) K=K W5 s5:=fun K=>by
             have h1:=a1 K
             rw[EY (es:=3) (z:=[.str [],.str [],.int .u8 0]) (x:= .agg (Jv bK i k n).cells) rfl rfl] at h1
             rw[<-eU];exact h1
            have N1:=pN hc i (by omega) s h.gl.out.aS.wf
            have N2:=pN hc k (by omega) s h.gl.out.aS.wf
            obtain ⟨s',W',b1,b2⟩:=ih (k+1) (n+1) s6 W5 _ (by omega) (by omega) (by omega) a3
            refine ⟨s',W',b1,fun F k8 f hf=> ?_⟩
            obtain ⟨f,rfl⟩: ∃g,f=g+1:=⟨f - 1,by omega⟩
            rw[<-b2 F k8 f (by omega),cr]
            simp[-aR,-rZ,-uz,h5,cu,T1,T2,KA,vk,hd,cI,lI,jD,ix,pix,hx,r1,r2,d2,hx4,w8,N1,N2,Ov,Th,Q4,a1',a2,w,w2]
          . have eY:wS bK i k n ys=ys:=by unfold wS;rw[eC,if_neg (by simp;omega)]
            rw[eY]
            obtain ⟨s',W',b1,b2⟩:=ih (k+1) (n+1) s W ys (by omega) (by omega) (by omega) h
            refine ⟨s',W',b1,fun F k8 f hf=> ?_⟩
            obtain ⟨f,rfl⟩: ∃g,f=g+1:=⟨f - 1,by omega⟩
            have d2':decide ((x:Int) % 4<2)=false:=decide_eq_false (by omega)
            rw[<-b2 F k8 f (by omega),cr]
            simp[-aR,-rZ,-uz,h5,cu,T1,T2,KA,vk,hd,cI,lI,jD,ix,hx,r1,d2',w,w2]
        . have eY:wS bK i k n ys=ys:=by unfold wS Q3;rw[decide_eq_false jD,Bool.false_and,if_neg (by decide)]
          rw[eY]
          obtain ⟨s',W',b1,b2⟩:=ih (k+1) (n+1) s W ys (by omega) (by omega) (by omega) h
          refine ⟨s',W',b1,fun F k8 f hf=> ?_⟩
          obtain ⟨f,rfl⟩: ∃g,f=g+1:=⟨f - 1,by omega⟩
          rw[<-b2 F k8 f (by omega),cr]
          simp[-aR,-rZ,-uz,h5,cu,T1,T2,KA,vk,hd,cI,lI,jD,w,w2]
    .   have eT:jO (j6 gs) bK i (m+1) k n ys=jO (j6 gs) bK i m (k+1) n ys:=by rw[jO,if_pos KA,if_neg vk]
        rw[eT]
        obtain ⟨s',W',b1,b2⟩:=ih (k+1) n s W ys (by omega) (by omega) (by omega) h
        refine ⟨s',W',b1,fun F k8 f hf=> ?_⟩
        obtain ⟨f,rfl⟩: ∃g,f=g+1:=⟨f - 1,by omega⟩
        rw[<-b2 F k8 f (by omega),cr]
        simp[-aR,-rZ,-uz,h5,cu,T1,T2,KA,vk,hd,cI,w]
  . have eT:jO (j6 gs) bK i (m+1) k n ys=(n,ys):=by rw[jO,if_neg KA]
    rw[eT]
    refine ⟨s,W,h,fun F k8 f hf=> ?_⟩
    obtain ⟨f,rfl⟩: ∃g,f=g+1:=⟨f - 1,by omega⟩
    rw[cr]
    simp[-aR,-rZ,-uz,h5,cu,T1,KA,hd,cI]
end Go.Proofs.YtehbdakjkjkekaaGreatDoor
end
section
set_option maxRecDepth 100000
namespace Go.Proofs.YtehbdakjkjkekaaGreatDoor
open Go Go.Ai Go.Proofs
variable {c : ak}
theorem D2 (names:List (List Nat)) (bK:List Nat) (i:Nat): ∀(m k n:Nat) (ys:List Ty),ys.length<=n->(jO names bK i m k n ys).2.length<=(jO names bK i m k n ys).1/\(jO names bK i m k n ys).1<=n+m
 |0,k,n,ys,h=>by unfold jO;exact ⟨h,by omega⟩
 |m +   1,k,n,ys,h=>by
  unfold jO
  split
  . split
    .   have hl:=Ni bK i k n ys
        have:=D2 names bK i m (k+1) (n+1) (wS bK i k n ys) (by omega)
        omega
    .   have:=D2 names bK i m (k+1) n ys h
        omega
  . exact ⟨h,by omega⟩
def Nj (names:List (List Nat)) (bK:List Nat):Nat->Nat->Nat->List Ty->List Ty
 |0,_,_,ys=>ys
 |m+1,i,n,ys=>Nj names bK m (i+1) (jO names bK i m (i+1) n ys).1 (jO names bK i m (i+1) n ys).2
theorem ZC (hc:dS c) {bK:List Nat} (ht: ∀x∈bK,x<256) (z:Bool) {st:St} {p4 p5:Pos} (zZ:p4≠p5) (vh:st.next.toNat<=p5.toNat) {V:AV} {gs:List bX} (IB:gs.length<=1000) {rows:List (List AV)}:
  ∀(m i n:Nat) (s:St) (W:AV) (ys:List Ty),i+m=312->ys.length<=n->n+m*312<=1000000->YL st s p4 p5 V W gs rows ys->
  ∃s' W',YL st s' p4 p5 V W' gs rows (Nj (j6 gs) bK m i n ys)/\ ∀(F:Nat) (_:400<=F) (k6:List AV->St->Option (AV×St)) (f:Nat),m<f->
   e9 c F k6 f [bP .u8 z bK,.ptr p4 0,.ptr p5 0,.int .i64 (n:Int),.int .i64 (i:Int)] s=k6 [.ptr p4 0,.ptr p5 0] s':=by
 intro m
 induction m with
 |zero=>
  intro i n s W ys hk hy hn h
  obtain rfl:i=312:=by omega
  refine ⟨s,W,h,fun F _ k6 f hf=> ?_⟩
  obtain ⟨f,rfl⟩: ∃g,f=g+1:=⟨f - 1,by omega⟩
  rw[e9]
  simp
 |succ m ih=>
  intro i n s W ys hk hy hn h
  have hd:decide ((i:Int)<312)=true:=decide_eq_true (by omega)
  have b1: -9223372036854775808<=(i:Int)+1:=by omega
  have b2:(i:Int)+1<=9223372036854775807:=by omega
  have e3:((i+1:Nat):Int)=(i:Int)+1:=by omega
  obtain ⟨s1,W1,h1,e1⟩:=adu hc ht z zZ vh IB (i:=i) (by omega) m (i+1) n s W ys (by omega) hy (by omega) h
  have hl:=D2 (j6 gs) bK i m (i+1) n ys hy
  obtain ⟨s2,W2,h2,e2⟩:=ih (i+1) _ s1 W1 _ (by omega) hl.1 (by omega) h1
  refine ⟨s2,W2,h2,fun F hF k6 f hf=> ?_⟩
  obtain ⟨f,rfl⟩: ∃g,f=g+1:=⟨f - 1,by omega⟩
  have PA:=fun k8=>e1 F k8 F (by omega)
  rw[<-e2 F hF k6 f (by omega),e9]
  clear e1 e2 hl
  have w:aW .i64 ((i:Int)+1)=(i:Int)+1:=wrap64 b1 b2
  rw[e3] at PA ⊢
  simp[hd,w,PA]
structure RS (st s:St) (V W:AV) (gs:List bX) (rows:List (List AV)) (ys:List Ty):Prop where
 aS:Grew st s
 out:Mk 9 st s V rows
 len:rows.length=gs.length
 j5: ∀(i:Nat) (g:bX) (r:List AV),gs[i]? =some g->rows[i]? =some r-> ∃v,r=g.bD v/\Mk 1 st s v (g.tg.map DZ)/\ ∀b,aF v=some b->aF V≠some b/\aF W≠some b
 ty:Mk 3 st s W (ys.map Ty.cells)
 wV: ∀b,aF W=some b->aF V≠some b
def yy (xs:List Nat):List bX:=qM xs (min xs.length 12)
def Yh (xs bK:List Nat):List Ty:=Nj (j6 (yy xs)) bK 312 0 0 []
theorem KB (xs:List Nat):(yy xs).length<=12:=by unfold yy;rw[Gx];omega
theorem ZD (hc:dS c) {xs bK:List Nat} (hx: ∀x∈xs,x<65536) (hl:xs.length<=9223372036854775807) (ht: ∀x∈bK,x<256) (z z2:Bool) (st:St) (hw:Wf st):
   ∃V W s' rows,c 49 [bP .u16 z xs,bP .u8 z2 bK] st=some (.agg [V,W],s')/\RS st s' V W (yy xs) rows (Yh xs bK):=by
 have fK:Wf (ay st (.cells [.ai,.ai] 0)):=fX hw
 have g1:=Grew.ay hw (.cells [.ai,.ai] 0)
 have g2:=Grew.ay fK (.cells [.ai,.ai] 0)
 have Te:st.next≠(ay st (.cells [.ai,.ai] 0)).next:=by rw[dx];exact Pos.Pc _
 have vh:st.next.toNat<=(ay st (.cells [.ai,.ai] 0)).next.toNat:=by rw[dx,Pos.az];omega
 have G0:GL st (ay (ay st (.cells [.ai,.ai] 0)) (.cells [.ai,.ai] 0)) st.next (ay st (.cells [.ai,.ai] 0)).next .ai .ai (qM xs 0) []:=
   ⟨Mk.start hw (g1.trans g2),rfl,fun i g r hi _=>by simp[qM] at hi,g2.get (bh _ _),bh _ _,fun e=>(nomatch e),fun e=>(nomatch e)⟩
 obtain ⟨s1,V,rows,h1,e1⟩:=Ou hc hx hl z (bP .u8 z2 bK) Te vh (min xs.length 12) 0 _ .ai [] (by omega) G0
 obtain ⟨s2,W,h2,e2⟩:=ZC hc ht z2 Te vh (gs:=yy xs) (by have:=KB xs;omega) 312 0 0 s1 .ai [] (by omega) (by simp) (by omega) (YL.start h1)
 have PA: ∀k2:List AV->St->Option (AV×St),cZ c 400 k2 400 [bP .u16 z xs,bP .u8 z2 bK,.ptr st.next 0,.ptr (ay st (.cells [.ai,.ai] 0)).next 0,.int .i64 0] (ay (ay st (.cells [.ai,.ai] 0)) (.cells [.ai,.ai] 0))=k2 [bP .u8 z2 bK,.ptr st.next 0,.ptr (ay st (.cells [.ai,.ai] 0)).next 0] s1:=fun k2=>e1 400 (by omega) k2 400 (by omega)
 have e2': ∀k6:List AV->St->Option (AV×St),e9 c 400 k6 400 [bP .u8 z2 bK,.ptr st.next 0,.ptr (ay st (.cells [.ai,.ai] 0)).next 0,.int .i64 0,.int .i64 0] s1=k6 [.ptr st.next 0,.ptr (ay st (.cells [.ai,.ai] 0)).next 0] s2:=fun k6=>e2 400 (by omega) k6 400 (by omega)
 have h5:=h2.gl.h5
 have h4:=h2.gl.h4
 have l4:=h2.gl.out.aS.wf _ _ h4
 obtain ⟨vc,v1⟩:=h2.gl.out.cells
 obtain ⟨wc,w1⟩:=h2.ty.cells
 have one:aX [V,W]=true:=by
   have v2:V.one=true:=r6 v1
   have w2:W.one=true:=r6 w1
   simp only[aX,v2,w2]
 have cu:cut [V,W] 0 2=some [V,W]:=rfl
 have z6: ∀(K:AV->St->Option (AV×St)),ag c (.store 2) [.ptr st.next 0,.agg [V,W]] s2 K=K .undef (ew s2 st.next (.cells [V,W] 0)):=fun K=>by
   rw[eM c K s2 2 st.next 0 (.agg [V,W]) [.ai,.ai] h4 rfl (by simp) one];rfl
 have A:=h2.gl.out.store (p:=st.next) (b:= .cells [V,W] 0) (Nat.le_refl _) l4 h2.gl.n4
 have B:=h2.ty.store (p:=st.next) (b:= .cells [V,W] 0) (Nat.le_refl _) l4 h2.w4
 have ins: ∀u∈[V,W],ku u:=fun u hu=>by
   simp only[List.mem_cons,List.not_mem_nil,or_false] at hu
   rcases hu with rfl|rfl
   . exact A.inst
   . exact B.inst
 obtain ⟨sa,t1,ta,tA⟩:=A.Gm (l:=[V,W]) (by simp) ins
 obtain ⟨sb,t2,tb,tB⟩:=B.Gm (l:=[V,W]) (by simp) ins
 have hab:sb=sa:=by rw[t1] at t2;exact (Prod.mk.inj t2).2.symm
 subst hab
 refine ⟨V,W,sb,rows,?_,⟨tA.aS,tA,h2.gl.len,fun i g r hi hr=> ?_,tB,h2.wV⟩⟩
 . rw[z8 hc 400 (r:=(.agg [V,W],ew s2 st.next (.cells [V,W] 0))),t1]
   rw[pW]
   simp[PA,e2',h5,cu,z6]
 . obtain ⟨v,q1,q2,q3⟩:=h2.gl.j5 i g r hi hr
   have h8:r[8]? =some v:=by rw[q1];rfl
   refine ⟨v,q1,?_,fun b hb=>⟨(q3 b hb).1,h2.wI i r v b hr h8 hb⟩⟩
   rcases ta with rfl|rfl
   . exact q2.store (p:=st.next) (b:= .cells [V,W] 0) (Nat.le_refl _) l4 (fun e=>(q3 _ e).2.1 rfl)
   . exfalso
     have bO:rows≠[]:=fun e=>by rw[e] at hr;simp at hr
     rcases tA.loose with ⟨b,off,n,rfl⟩|⟨_,e⟩
     .  have p1:=tA.new b (o3 _ _ _ _)
        have p2:=tA.own.lt hw (o3 _ _ _ _)
        omega
     .  exact bO e
end Go.Proofs.YtehbdakjkjkekaaGreatDoor
end
