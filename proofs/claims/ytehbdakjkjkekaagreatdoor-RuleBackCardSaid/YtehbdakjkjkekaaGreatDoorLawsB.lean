/- What Format answers. -/
import Derived.Test.YtehbdakjkjkekaaGreatDoorLawsA
import Derived.Test.YtehbdakjkjkekaaGreatDoorEvalE
set_option linter.all false
set_option linter.unusedSectionVars false
set_option linter.deprecated false
section
set_option maxRecDepth 100000
namespace Go.Proofs.YtehbdakjkjkekaaGreatDoor
open Go Go.Ai Go.Proofs
variable {c : ak}
def kd:Nat->Kd
 |1=>⟨[97,112,97,114,116],103,true,0,true,0,false,.func 81 [] []⟩
 |2=>⟨[98,101,115,105,100,101],103,true,0,false,0,false,.func 82 [] []⟩
 |3=>⟨[97,99,114,111,115,115],103,true,0,false,0,false,.func 83 [] []⟩
 |4=>⟨[110,101,97,114],103,true,0,true,1,false,.func 84 [] []⟩
 |5=>⟨[116,111,103,101,116,104,101,114],103,true,0,false,0,false,.func 85 [] []⟩
 |6=>⟨[97,116],103,false,116,false,0,false,.func 86 [] []⟩
 |7=>⟨[115,101,97,116],103,false,116,true,0,true,.func 87 [] []⟩
 |8=>⟨[97,108,116,101,114,110,97,116,101],0,false,101,false,0,false,.func 88 [] []⟩
 |9=>⟨[104,111,115,116],0,false,101,false,0,false,.func 89 [] []⟩
 |10=>⟨[114,101,97,99,104],101,false,0,false,0,false,.func 90 [] []⟩
 |11=>⟨[115,112,101,97,107],0,false,101,false,0,false,.func 91 [] []⟩
 |12=>⟨[112,101,97,99,101],0,false,101,false,0,false,.func 92 [] []⟩
 |13=>⟨[99,111,109,112,97,110,121],0,false,101,false,0,false,.func 93 [] []⟩
 |14=>⟨[104,111,110,111,117,114],0,false,101,false,0,false,.func 94 [] []⟩
 |15=>⟨[102,105,108,108],0,false,101,true,0,false,.func 95 [] []⟩
 |16=>⟨[108,105,109,105,116],0,false,101,true,0,false,.func 96 [] []⟩
 |17=>⟨[107,105,116,99,104,101,110],100,false,116,false,0,false,.func 97 [] []⟩
 |18=>⟨[109,105,120],0,false,101,false,0,false,.func 98 [] []⟩
 |_=>⟨[],0,false,0,false,0,false,.av⟩
def Iu:List (AV×AV×Nat):=[(.int .u8 1,.agg (kd 1).cells,0),(.int .u8 2,.agg (kd 2).cells,1),(.int .u8 3,.agg (kd 3).cells,2),(.int .u8 4,.agg (kd 4).cells,3),(.int .u8 5,.agg (kd 5).cells,4),(.int .u8 6,.agg (kd 6).cells,5),(.int .u8 7,.agg (kd 7).cells,6),(.int .u8 8,.agg (kd 8).cells,7),(.int .u8 9,.agg (kd 9).cells,8),(.int .u8 10,.agg (kd 10).cells,9),(.int .u8 11,.agg (kd 11).cells,10),(.int .u8 12,.agg (kd 12).cells,11),(.int .u8 13,.agg (kd 13).cells,12),(.int .u8 14,.agg (kd 14).cells,13),(.int .u8 15,.agg (kd 15).cells,14),(.int .u8 16,.agg (kd 16).cells,15),(.int .u8 17,.agg (kd 17).cells,16),(.int .u8 18,.agg (kd 18).cells,17)]
theorem KZ (p:Pos): ¬Plain (.map p):=fun h=>by
 have:=h (fun _=>(⟨0,0,0⟩:Go.Ai.Loc)) (fun _=>⟨1,0,0⟩) (p.toNat+1) (p.toNat+1) (fun _=>none) _ (.map p (Nat.lt_succ_self _))
 cases this
theorem VK (st:St) (p:Pos) (s':St):tidy st (.map p,s')=(.map p,s'):=by
 unfold tidy;rw[if_neg]
 exact fun e=>KZ p e.1
theorem cM {R:Type} (c:ak) (K:AV->St->Option R) (st:St) (z:List AV) (ps:List (Nat×Nat)) (xs l:List AV) (h:fk z ps xs=some l):ag c (.build z ps) xs st K=K (.agg l) st:=by
 rw[ic,h];rfl
theorem cN {R:Type} (c:ak) (K:AV->St->Option R) (st:St) (es:List (AV×AV×Nat)) (cl:Nat) (k:IntKind) (x:Int) (v:AV) (hf:qo .i (.int k x) es 0=some none):
  ag c (.mapSet .i) [.map st.next,.int k x,v] (ay st (.map es cl)) K=K .undef (ay st (.map (es++[(.int k x,v,cl)]) (cl+1))):=by
 have:aB.run (fun b=>(ay st (.map es cl)).heap.get b) (ay st (.map es cl)).next (.mapSet .i) [.map st.next,.int k x,v]=some (.aE .undef none (some (st.next,.map (es++[(.int k x,v,cl)]) (cl+1))) none):=by
  simp[aB.run,uk,hf,UO]
 unfold ag bS;rw[this]
 show K .undef (ew (ay st (.map es cl)) st.next _)=_
 rw[EV]
theorem VL (hc:Sem c) (s:St):c 32 [] s=some (.map s.next,ay s (.map Iu 18)):=by
 rw[Jq hc 1 (r:=(.map s.next,ay s (.map Iu 18))),VK]
 rw[Iv]
 rw[aT,SL]
 rw[cM (l:=(kd 1).cells) (h:=rfl),cN (hf:=rfl)]
 rw[cM (l:=(kd 2).cells) (h:=rfl),cN (hf:=rfl)]
 rw[cM (l:=(kd 3).cells) (h:=rfl),cN (hf:=rfl)]
 rw[cM (l:=(kd 4).cells) (h:=rfl),cN (hf:=rfl)]
 rw[cM (l:=(kd 5).cells) (h:=rfl),cN (hf:=rfl)]
 rw[cM (l:=(kd 6).cells) (h:=rfl),cN (hf:=rfl)]
 rw[cM (l:=(kd 7).cells) (h:=rfl),cN (hf:=rfl)]
 rw[cM (l:=(kd 8).cells) (h:=rfl),cN (hf:=rfl)]
 rw[cM (l:=(kd 9).cells) (h:=rfl),cN (hf:=rfl)]
 rw[cM (l:=(kd 10).cells) (h:=rfl),cN (hf:=rfl)]
 rw[cM (l:=(kd 11).cells) (h:=rfl),cN (hf:=rfl)]
 rw[cM (l:=(kd 12).cells) (h:=rfl),cN (hf:=rfl)]
 rw[cM (l:=(kd 13).cells) (h:=rfl),cN (hf:=rfl)]
 rw[cM (l:=(kd 14).cells) (h:=rfl),cN (hf:=rfl)]
 rw[cM (l:=(kd 15).cells) (h:=rfl),cN (hf:=rfl)]
 rw[cM (l:=(kd 16).cells) (h:=rfl),cN (hf:=rfl)]
 rw[cM (l:=(kd 17).cells) (h:=rfl),cN (hf:=rfl)]
 rw[cM (l:=(kd 18).cells) (h:=rfl),cN (hf:=rfl)]
 rw[aT,aT]
 . rfl
 . exact .av
theorem Zp {R:Type} (c:ak) (K:AV->St->Option R) (st:St) (m:Pos) (cl:Nat) (h:st.heap.get m=some (.map Iu cl)) (n:Nat):
   ag c (.lookup .i (.agg [.str [],.int .u8 0,.bool false,.int .u8 0,.bool false,.int .i64 0,.bool false,.av]) false) [.map m,.int .u8 (n:Int)] st K=K (.agg (kd n).cells) st:=by
 have e:qo .i (.int .u8 (n:Int)) Iu 0=some (if 1<=n/\n<=18 then some (n - 1,.agg (kd n).cells) else none):=by
   by_cases h:n<=18
   . have:n=0\/n=1\/n=2\/n=3\/n=4\/n=5\/n=6\/n=7\/n=8\/n=9\/n=10\/n=11\/n=12\/n=13\/n=14\/n=15\/n=16\/n=17\/n=18:=by omega
     rcases this with rfl|rfl|rfl|rfl|rfl|rfl|rfl|rfl|rfl|rfl|rfl|rfl|rfl|rfl|rfl|rfl|rfl|rfl|rfl<;>rfl
   . have S0: ∀j:Int,j<=18->qm (n:Int) j=false:=fun j hj=>by rw[gR];simp;omega
     rw[if_neg (by omega)]
     simp[Iu,qo,uU,S0,dJ]
 have: ∀z:AV,aB.run (fun b=>st.heap.get b) st.next (.lookup .i z false) [.map m,.int .u8 (n:Int)]=some (.val (if 1<=n/\n<=18 then .agg (kd n).cells else z)):=fun z=>by
   simp only[aB.run,uj,h,e]
   by_cases h1:1<=n/\n<=18
   . rw[if_pos h1,if_pos h1]
   . rw[if_neg h1,if_neg h1]
 unfold ag bS;rw[this]
 by_cases h1:1<=n/\n<=18
 . rw[if_pos h1]
 . rw[if_neg h1]
   have:kd n=⟨[],0,false,0,false,0,false,.av⟩:=by
     unfold kd;split<;>first|rfl|omega
   rw[this];rfl
end Go.Proofs.YtehbdakjkjkekaaGreatDoor
end
section
set_option maxRecDepth 100000
namespace Go.Proofs.YtehbdakjkjkekaaGreatDoor
open Go Go.Ai Go.Proofs
variable {c : ak}
def cY (s:List Nat):List Nat:=if s=[] then [45] else s
def oI (u:Bool) (t:List Nat):List (List AV):=if u then [[.str (cY t)]] else []
theorem Gp {s:St} {v:AV} {rows:List (List AV)} {P:Pos} {cs:List AV} {i:Nat} {u:Bool} {t:List Nat}
  (hw:Wf s) (hP:s.heap.get P=some (.cells cs 0)) (hcut:cut cs (i*2) 2=some [.bool u,.str t]) (hi:i<3) (hQ:QS 1 s v rows) (hr: ∀r∈rows,r.length=1) (hn:rows.length<=1000):
  ∃ s' v',(∀F k4 x3 x4 x6 x7 cW ek dH n,fy c F k4 (n+1) [x3,x4,x6,x7,v,cW,ek,dH,.slice P 0 3 (some 3) 2,.int .i64 3,.int .i64 (i:Int)] s=fy c F k4 n [x3,x4,x6,x7,v',cW,ek,dH,.slice P 0 3 (some 3) 2,.int .i64 3,.int .i64 ((i+1:Nat):Int)] s')/\
    QS 1 s' v' (rows++oI u t)/\Wk s v s' v':=by
 have w:aW .i64 ((i:Int)+1)=((i+1:Nat):Int):=wrap64 (by omega) (by omega)
 have aZ:decide ((i:Int)<3)=true:=by simp;omega
 have X4: ∀(K:AV->St->Option (AV×St)),ag c (.idxA 2 none) [.slice P 0 3 (some 3) 2,.int .i64 (i:Int)] s K=K (.ptr P (0+i*2)) s:=fun K=>tO (c:=c) (K:=K) (st:=s) (es:=2) (es':=2) (k:= .i64) (off:=0) hi
 rw[Nat.zero_add] at X4
 have iR:=fun (K:AV->St->Option (AV×St))=>bY c K s 2 (.agg [.bool u,.str t]) [.bool false,.str []] rfl rfl rfl
 rw[show (AV.agg [.bool u,.str t]).cells=[.bool u,.str t] from rfl] at iR
 have hg:=Grew.ay hw (.cells [.bool u,.str t] 0)
 have fK:Wf (ay s (.cells [.bool u,.str t] 0)):=fX hw
 have hb:=bh s (.cells [.bool u,.str t] 0)
 have hQ1:QS 1 (ay s (.cells [.bool u,.str t] 0)) v rows:=hQ.mono fun _ _ _ hx=>hg.get hx
 cases u with
 |false=>
  refine ⟨_,v,fun F k4 x3 x4 x6 x7 cW ek dH n=> ?_,by simpa [oI] using hQ1,Wk.aS hg⟩
  rw[fy]
  simp[cI,-bY,aZ,X4,hP,hcut,iR,w]
 |true=>
  by_cases ht:t=[]
  . subst ht
    have hsd: ∀(K:AV->St->Option (AV×St)),ag c (.store 1) [.ptr s.next 1,.str [45]] (ay s (.cells [.bool true,.str []] 0)) K=K .undef (ay s (.cells [.bool true,.str [45]] 0)):=fun K=>by
        rw[eM c K _ 1 s.next 1 (.str [45]) _ hb rfl (by simp) rfl,EV]
        rfl
    have uA:=Grew.ay hw (.cells [.bool true,.str [45]] 0)
    have mJ:Wf (ay s (.cells [.bool true,.str [45]] 0)):=fX hw
    have bC:=bh s (.cells [.bool true,.str [45]] 0)
    obtain ⟨s5,v',a1,a2,a3⟩:=(hQ.mono fun _ _ _ hx=>uA.get hx:QS 1 (ay s (.cells [.bool true,.str [45]] 0)) v rows).Lh (c:=c) (R:=AV×St) (bytes:=16) (z:=[.str []]) (x:= .str [45]) mJ hr rfl rfl rfl (by omega) (by omega)
    refine ⟨s5,v',fun F k4 x3 x4 x6 x7 cW ek dH n=> ?_,by simpa [oI,cY,AV.cells] using a2,(Wk.aS uA).trans hw a3⟩
    rw[fy]
    simp[cI,-bY,-aR,aZ,X4,hP,hcut,iR,w,hb,hsd,bC,a1]
  . obtain ⟨s5,v',a1,a2,a3⟩:=hQ1.Lh (c:=c) (R:=AV×St) (bytes:=16) (z:=[.str []]) (x:= .str t) fK hr rfl rfl rfl (by omega) (by omega)
    refine ⟨s5,v',fun F k4 x3 x4 x6 x7 cW ek dH n=> ?_,by simpa [oI,cY,ht,AV.cells] using a2,(Wk.aS hg).trans hw a3⟩
    rw[fy]
    simp[cI,-bY,-aR,aZ,X4,hP,hcut,iR,w,hb,ht,a1]
theorem MQ {u:Bool} {t:List Nat}: ∀r∈oI u t,r.length=1:=fun r hr=>by
 unfold oI at hr
 split at hr
 . simp at hr;subst hr;rfl
 . simp at hr
theorem MR (u:Bool) (t:List Nat):(oI u t).length<=1:=by unfold oI;split<;>simp
theorem S2 {s:St} {v:AV} {rows:List (List AV)} {P:Pos} {a b d:Bool} {x y z:List Nat} (hw:Wf s) (hP:s.heap.get P=some (.cells [.bool a,.str x,.bool b,.str y,.bool d,.str z] 0)) (hv:aF v≠some P) (hQ:QS 1 s v rows) (hr: ∀r∈rows,r.length=1) (hn:rows.length<=990):
  ∃ s' v',(∀F k4 x3 x4 x6 x7 cW ek dH n,fy c F k4 (n+4) [x3,x4,x6,x7,v,cW,ek,dH,.slice P 0 3 (some 3) 2,.int .i64 3,.int .i64 0] s=k4 [x3,x4,x6,x7,v',cW,ek,dH] s')/\
    QS 1 s' v' (rows++oI a x++oI b y++oI d z)/\Wk s v s' v':=by
 have lP:=hw _ _ hP
 obtain ⟨s1,v1,a1,a2,a3⟩:=Gp (c:=c) (i:=0) hw hP rfl (by decide) hQ hr (by omega)
 have n1:aF v1≠some P:=fun e=>by
  rcases a3.new _ e with h|h
  . exact hv h
  . omega
 have Pj: ∀r∈rows++oI a x,r.length=1:=fun r h=>(List.mem_append.1 h).elim (hr r) (MQ r)
 have l1:=MR a x
 obtain ⟨s2,v2,b1,b2,b3⟩:=Gp (c:=c) (i:=1) a3.wf (a3.keep _ _ hv hP) rfl (by decide) a2 Pj (by rw[List.length_append];omega)
 have n2:aF v2≠some P:=fun e=>by
  rcases b3.new _ e with h|h
  . exact n1 h
  . have:=a3.next;omega
 have MS: ∀r∈rows++oI a x++oI b y,r.length=1:=fun r h=>(List.mem_append.1 h).elim (Pj r) (MQ r)
 have l2:=MR b y
 obtain ⟨s3,v3,c1,c2,c3⟩:=Gp (c:=c) (i:=2) b3.wf (b3.keep _ _ n1 (a3.keep _ _ hv hP)) rfl (by decide) b2 MS (by rw[List.length_append,List.length_append];omega)
 refine ⟨s3,v3,fun F k4 x3 x4 x6 x7 cW ek dH n=> ?_,c2,(a3.trans hw b3).trans hw c3⟩
 rw[show (AV.int .i64 0)= .int .i64 ((0:Nat):Int) from rfl,a1,b1,c1,fy]
 simp
end Go.Proofs.YtehbdakjkjkekaaGreatDoor
end
section
set_option maxRecDepth 100000
namespace Go.Proofs.YtehbdakjkjkekaaGreatDoor
open Go Go.Ai Go.Proofs
variable {c : ak}
theorem ja {R:Type} {Q:Option R->Prop} (P:(List AV->St->Option R)->Prop) {A:(List AV->St->Option R)->Option R} {T:List AV->St->Option R} (hT:P T) (hA: ∀j,P j->Q (A j)):Q (cI A T):=hA T hT
abbrev fY (s:List Nat):List AV:=[.str s]
def mN (k:Kd) (r:Rl):List (List Nat):=(if 0<r.wt then [[119,101,105,103,104],dm r.wt] else [[104,97,114,100]])++[k.w]
def eP (k:Kd) (r:Rl):List (List Nat):=(if k.a≠0 then [cY r.a] else [])++(if k.b then [cY r.b] else [])++(if k.t≠0 then [cY r.t] else [])
def fj (k:Kd) (r:Rl):List (List Nat):=mN k r++eP k r++(if k.n then [dm r.n] else [])
def dR (r:Rl):List Nat:=e8 [32] (fj (kd r.k.toNat) r)++[10]
def yw (q:af.RR) (r:Rl):Bool:=decide ((q.k:Int)=r.k)&&(decide (q.wt=r.wt)&&(decide (af.jd q.a=r.a)&&(decide (af.jd q.b=r.b)&&(decide (af.jd q.t=r.t)&&decide (q.n=r.n)))))
def uB (r:Rl):Bool:=match af.js (af.aD (dR r)) with
 | .inl _=>false
 | .inr q=>yw q r
structure Rl.Fit (r:Rl):Prop where
 k:0<=r.k/\r.k<256
 wt: -9223372036854775808<=r.wt/\r.wt<=9223372036854775807
 n: -9223372036854775808<=r.n/\r.n<=9223372036854775807
 len:(dR r).length<=2097152
 byte: ∀x∈dR r,x<256
theorem ado (m:Nat):aX (kd m).cells=true:=by
 unfold kd
 split<;>rfl
structure FI (st s:St) (X M:Pos) (N0:Nat) (bs:List Nat):Prop where
 wf:Wf s
 keep:dz st s
 FK:ML N0 s X bs
 map:s.heap.get M=some (.map Iu 18)
 ltM:M.toNat<N0
 neM:M≠X
 cm: ∀b x,st.heap.get b=some x->b.toNat<N0/\b≠X
theorem Pk (hc:Sem c) {n:Int} (h: -9223372036854775808<=n/\n<=9223372036854775807) (s:St):c 33 [.int .i64 n] s=some (.str (dm n),s):=by
 refine Zq hc ?_
 unfold BX
 cases h1:Int.decLe (-9223372036854775808) n with
 |isFalse h'=>exact absurd h.1 h'
 |isTrue h'=>
  cases h2:Int.decLe n 9223372036854775807 with
  |isFalse h''=>exact absurd h.2 h''
  |isTrue h''=>simp only[h1,h2]
theorem FL: ∀l:List (List Nat),wN ((l.map fY).flatten)=some l
 |[]=>rfl
 |x::l=>by
  have:=FL l
  simp only[List.map_cons,List.flatten_cons,fY,List.cons_append,List.nil_append,wN] at this ⊢
  rw[this]
theorem Zr (hc:Sem c) {s:St} {v:AV} {l:List (List Nat)} (h:QS 1 s v (l.map fY)) (h0:l≠[]) (hn:l.length<=1000) (hl:(e8 [32] l).length<=140737488355328):c 34 [v,.str [32]] s=some (.str (e8 [32] l),s):=by
 refine Zs hc ?_
 have LN:0<l.length:=List.length_pos_iff.2 h0
 rcases h with ⟨_,h1⟩|⟨b,off,cap,cs,rfl,h1,h2,h3,h4⟩|⟨b,off,_,h1⟩
 . simp at h1;exact absurd h1 h0
 . rw[List.length_map] at h2 h3 ⊢
   rw[Nat.mul_one] at h2 h3
   have hcut:cut cs off l.length=some ((l.map fY).flatten):=by
    unfold cut;rw[iq,decide_eq_true h2];simp only[h3]
   have e1:Nat.blt 0 l.length=true:=by simpa using LN
   simp only[BZ,h1,hcut,FL,e1,iq,decide_eq_true (show l.length<=1000000 by omega),decide_eq_true hl]
 . simp at h1;exact absurd h1 h0
theorem S3 (s:St) (a b d:Bool) (x y z:List Nat) (K:AV->St->Option (AV×St)):ag c (.buildSlice 2 3 [.bool false,.str []] [0,1,2]) [.agg [.bool a,.str x],.agg [.bool b,.str y],.agg [.bool d,.str z]] s K=K (.slice s.next 0 3 (some 3) 2) (ay s (.cells [.bool a,.str x,.bool b,.str y,.bool d,.str z] 0)):=rfl
theorem Zt (s:St) (x y:List Nat) (K:AV->St->Option (AV×St)):ag c (.buildSlice 1 2 [.str []] [0,1]) [.str x,.str y] s K=K (.slice s.next 0 2 (some 2) 1) (ay s (.cells [.str x,.str y] 0)):=rfl
theorem QI (s:St) (x:List Nat) (K:AV->St->Option (AV×St)):ag c (.buildSlice 1 1 [.str []] [0]) [.str x] s K=K (.slice s.next 0 1 (some 1) 1) (ay s (.cells [.str x] 0)):=rfl
theorem ML.keep {N0:Nat} {s s':St} {X:Pos} {bs:List Nat} (h:ML N0 s X bs) (hk:dz s s') (hn:s.next.toNat<=s'.next.toNat):ML N0 s' X bs:=by
 obtain ⟨h1,h2,h3,p,v,hX,hp,hv⟩:=h
 refine ⟨h1,Nat.le_trans h2 hn,h3,p,v,hk _ _ hX,hp,?_⟩
 rcases hv with hv|⟨Y,e1,e2,e3,e4⟩
 . exact .inl hv
 . exact .inr ⟨Y,e1,hk _ _ e2,e3,e4⟩
theorem FI.more {st s s':St} {X M:Pos} {N0:Nat} {bs:List Nat} (h:FI st s X M N0 bs) (hk:dz s s') (hn:s.next.toNat<=s'.next.toNat) (hw:Wf s'):FI st s' X M N0 bs:=
 ⟨hw,h.keep.trans hk,h.FK.keep hk hn,hk _ _ h.map,h.ltM,h.neM,h.cm⟩
theorem VM (s:St) (x y:List Nat) (h:x.length+y.length<=9223372036854775807) (K:AV->St->Option (AV×St)):ag c (.bin .add .num) [.str x,.str y] s K=K (.str (x++y)) s:=
 bQ c K (fun H n=>by simp only[aB.run,gD,mz,iq,decide_eq_true h]) s
theorem vW {xs ys:List AV} {fs:List (Nat×PK)} {o:Nat} {k:IntKind} {a b:Int} (h1:nth xs o=some (.int k a)) (h2:nth ys o=some (.int k b)):eqFields xs ys ((o,.i)::fs)=if a=b then eqFields xs ys fs else some false:=by
 simp only[eqFields,h1,h2,uU,dJ]
 by_cases h:a=b
 . rw[if_pos h,gR,beq_iff_eq.2 h]
 . rw[if_neg h]
   rw[gR,beq_eq_false_iff_ne.2 h]
theorem vX {xs ys:List AV} {fs:List (Nat×PK)} {o:Nat} {a b:List Nat} (h1:nth xs o=some (.str a)) (h2:nth ys o=some (.str b)):eqFields xs ys ((o,.s)::fs)=if a=b then eqFields xs ys fs else some false:=by
 simp only[eqFields,h1,h2,uU]
 by_cases h:a=b
 . rw[if_pos h,fU.2 h]
 . rw[if_neg h]
   cases e:fT a b with
   |true=>exact absurd (fU.1 e) h
   |false=>rfl
theorem VN (q:af.RR) (r:Rl):eqFields (af.r8 q) r.cells [(0,.i),(1,.i),(2,.s),(3,.s),(4,.s),(5,.i)]=some (yw q r):=by
 rw[vW rfl rfl,vW rfl rfl,vX rfl rfl,vX rfl rfl,vX rfl rfl,vW rfl rfl]
 unfold yw
 by_cases h1:(q.k:Int)=r.k
 . by_cases h2:q.wt=r.wt
   . by_cases h3:af.jd q.a=r.a
     .  by_cases h4:af.jd q.b=r.b
        . by_cases h5:af.jd q.t=r.t
          . by_cases h6:q.n=r.n
            . simp[h1,h2,h3,h4,h5,h6,eqFields]
            . simp[h1,h2,h3,h4,h5,h6]
          . simp[h1,h2,h3,h4,h5]
        . simp[h1,h2,h3,h4]
     .  simp[h1,h2,h3]
   . simp[h1,h2]
 . simp[h1]
theorem VO (s:St) (q:af.RR) (r:Rl) (K:AV->St->Option (AV×St)):ag c (.bin .neq (.struct [(0,.i),(1,.i),(2,.s),(3,.s),(4,.s),(5,.i)])) [.agg (af.r8 q),.agg r.cells] s K=K (.bool (!yw q r)) s:=
 bQ c K (fun H n=>by simp only[aB.run,gD,mz,yQ,VN]) s
theorem S4 (hc:Sem c) {st s:St} {X M:Pos} {N0:Nat} {bs:List Nat} (z:Bool) (rs:List Rl) (k:Nat) (hk:k<rs.length) (Kk:rs.length<=64) (lq:rs[k].Fit) (hI:FI st s X M N0 bs) (jJ:bs.length<=140000000) (F n:Nat) (hF:4<=F) (k1 k2) (Q:Option (AV×St)->Prop)
   (QJ:uB rs[k]=true-> ∀s',FI st s' X M N0 (bs++dR rs[k])->Q (fV c F k1 k2 n [.ptr X 0,.map M,rf z rs,.int .i64 (rs.length:Int),.int .i64 ((k+1:Nat):Int)] s'))
   (jz:uB rs[k]=false-> ∀s',dz st s'->Q (k1 [.str []] s')):
   Q (fV c F k1 k2 (n+1) [.ptr X 0,.map M,rf z rs,.int .i64 (rs.length:Int),.int .i64 (k:Int)] s):=by
 have w:aW .i64 ((k:Int)+1)=((k+1:Nat):Int):=wrap64 (by omega) (by omega)
 have hw:=hI.wf
 rw[fV]
 simp[-bY,-aR,rf,hk]
 refine ja (P:=fun j=>uB rs[k]=true-> ∀s',FI st s' X M N0 (bs++dR rs[k])->Q (j [.ptr X 0,.map M,rf z rs,.int .i64 (rs.length:Int),.int .i64 (k:Int)] s')) ?_ ?_
 . intro eD s' jA
   have:=QJ eD s' jA
   simpa [w,rf] using this
 . intro  j hj
   have iR:=fun (K:AV->St->Option (AV×St))=>bY c K s 6 (.agg rs[k].cells) [.int .u8 0,.int .i64 0,.str [],.str [],.str [],.int .i64 0] rfl rfl (Rl.one _)
   rw[show (AV.agg rs[k].cells).cells=rs[k].cells from rfl] at iR
   obtain ⟨m,hm⟩: ∃m:Nat,rs[k].k=(m:Int):=⟨rs[k].k.toNat,by have:=lq.k;omega⟩
   have Pm:=Grew.ay hw (.cells rs[k].cells 0)
   have fK:=Pm.wf
   have bR:=bh s (.cells rs[k].cells 0)
   have H6:=fun (K:AV->St->Option (AV×St))=>Zp c K _ M 18 (Pm.get hI.map) m
   rw[<-hm] at H6
   have hst2:=fun (K:AV->St->Option (AV×St))=>bY c K (ay s (.cells rs[k].cells 0)) 8 (.agg (kd m).cells) [.str [],.int .u8 0,.bool false,.int .u8 0,.bool false,.int .i64 0,.bool false,.av] rfl rfl (ado m)
   rw[show (AV.agg (kd m).cells).cells=(kd m).cells from rfl] at hst2
   simp[-bY,-aR,iR,bR,H6,hst2,QI]
   obtain ⟨F',rfl⟩: ∃F',F=F'+4:=⟨F - 4,by omega⟩
   have uA:=Grew.ay fK (.cells (kd m).cells 0)
   have mJ:=uA.wf
   have hg12:=Pm.trans uA
   have hkm:rs[k].k.toNat=m:=by omega
   refine ja (P:=fun j2=> ∀s' v,Wk (ay (ay s (.cells rs[k].cells 0)) (.cells (kd m).cells 0)) .ai s' v->QS 1 s' v ((if 0<rs[k].wt then [[119,101,105,103,104],dm rs[k].wt] else [[104,97,114,100]]).map fY)->
     Q (j2 [.ptr X 0,.map M,.ptr s.next 0,.ptr (ay s (.cells rs[k].cells 0)).next 0,v,rf z rs,.int .i64 (rs.length:Int),.int .i64 (k:Int)] s')) ?_ ?_
   . intro  s3 v hWk hQ
     have sP:=hWk.keeps
     have hb6:s3.heap.get s.next=some (.cells rs[k].cells 0):=sP _ _ (uA.get bR)
     have hb7:s3.heap.get (ay s (.cells rs[k].cells 0)).next=some (.cells (kd m).cells 0):=sP _ _ (bh _ _)
     have om:((if 0<rs[k].wt then [[119,101,105,103,104],dm rs[k].wt] else [[104,97,114,100]]).map fY).length<=2:=by split<;>simp
     have oJ: ∀r∈(if 0<rs[k].wt then [[119,101,105,103,104],dm rs[k].wt] else [[104,97,114,100]]).map fY,r.length=1:=fun r hr=>by
        simp only[List.mem_map] at hr
        obtain ⟨x,_,rfl⟩:=hr;rfl
     obtain ⟨s5,v5,a1,a2,a3⟩:=hQ.Lh (c:=c) (R:=AV×St) (bytes:=16) (z:=[.str []]) (x:= .str (kd m).w) hWk.wf oJ rfl rfl rfl (by omega) (by omega)
     have hW5:=hWk.trans mJ a3
     have hk5:=hW5.keeps
     have hb6':s5.heap.get s.next=some (.cells rs[k].cells 0):=hk5 _ _ (uA.get bR)
     have hb7':s5.heap.get (ay s (.cells rs[k].cells 0)).next=some (.cells (kd m).cells 0):=hk5 _ _ (bh _ _)
     have Pn:=hW5.wf
     have hg6:=Grew.ay Pn (.cells [.bool (!decide ((kd m).a=0)),.str rs[k].a,.bool (kd m).b,.str rs[k].b,.bool (!decide ((kd m).t=0)),.str rs[k].t] 0)
     have hr5: ∀r∈(if 0<rs[k].wt then [[119,101,105,103,104],dm rs[k].wt] else [[104,97,114,100]]).map fY++[(AV.str (kd m).w).cells],r.length=1:=fun r h=>(List.mem_append.1 h).elim (oJ r) (fun h=>by simp at h;subst h;rfl)
     have h5v:aF v5≠some s5.next:=fun e=>by have:=a2.lt Pn e;omega
     obtain ⟨s7,v7,b1,b2,b3⟩:=S2 (c:=c) hg6.wf (bh s5 (.cells [.bool (!decide ((kd m).a=0)),.str rs[k].a,.bool (kd m).b,.str rs[k].b,.bool (!decide ((kd m).t=0)),.str rs[k].t] 0)) h5v (a2.mono fun _ _ _ hx=>hg6.get hx) hr5 (by rw[List.length_append];simp only[List.length_cons,List.length_nil];omega)
     have S5:Wk (ay (ay s (.cells rs[k].cells 0)) (.cells (kd m).cells 0)) .ai s7 v7:=(hW5.trans mJ (Wk.aS hg6)).trans mJ b3
     have hQ7:QS 1 s7 v7 ((mN (kd m) rs[k]++eP (kd m) rs[k]).map fY):=by
        have:(mN (kd m) rs[k]++eP (kd m) rs[k]).map fY=(if 0<rs[k].wt then [[119,101,105,103,104],dm rs[k].wt] else [[104,97,114,100]]).map fY++[(AV.str (kd m).w).cells]++oI (!decide ((kd m).a=0)) rs[k].a++oI (kd m).b rs[k].b++oI (!decide ((kd m).t=0)) rs[k].t:=by
          unfold mN eP oI
          rw[List.map_append,List.map_append,List.map_append,List.map_append]
          have e1:((if (kd m).a≠0 then [cY rs[k].a] else []):List (List Nat)).map fY=if (!decide ((kd m).a=0))=true then [[AV.str (cY rs[k].a)]] else []:=by
            by_cases h:(kd m).a=0<;>simp[h]
          have e2:((if (kd m).b=true then [cY rs[k].b] else []):List (List Nat)).map fY=if (kd m).b=true then [[AV.str (cY rs[k].b)]] else []:=by
            cases h:(kd m).b<;>simp
          have e3:((if (kd m).t≠0 then [cY rs[k].t] else []):List (List Nat)).map fY=if (!decide ((kd m).t=0))=true then [[AV.str (cY rs[k].t)]] else []:=by
            by_cases h:(kd m).t=0<;>simp[h]
          rw[e1,e2,e3]
          simp[AV.cells]
        rw[this];exact b2
     have afP:s7.heap.get s.next=some (.cells rs[k].cells 0):=S5.keeps _ _ (uA.get bR)
     have X5:s7.heap.get (ay s (.cells rs[k].cells 0)).next=some (.cells (kd m).cells 0):=S5.keeps _ _ (bh _ _)
     have EM: ∀(b:Bool) (x:List Nat),fk [.bool false,.str []] [(0,1),(1,1)] [.bool b,.str x]=some [.bool b,.str x]:=fun b x=>rfl
     have afQ: ∀(K:AV->St->Option (AV×St)) (t:St) (p:Pos),ag c (.lenB .l) [.slice p 0 3 (some 3) 2] t K=K (.int .i64 3) t:=fun K t p=>Gl c K t _ _ _ _ _
     simp[-aR,hb6,hb7,a1,hb6',hb7',S3,EM,afQ,b1]
     refine ja (P:=fun j3=> ∀s' v,Wk (ay (ay s (.cells rs[k].cells 0)) (.cells (kd m).cells 0)) .ai s' v->QS 1 s' v ((fj (kd m) rs[k]).map fY)->
        Q (j3 [.ptr X 0,.map M,.ptr s.next 0,v,rf z rs,.int .i64 (rs.length:Int),.int .i64 (k:Int)] s')) ?_ ?_
     .  intro s9 v9 X6 hQ9
        have hT:dR rs[k]=e8 [32] (fj (kd m) rs[k])++[10]:=by unfold dR;rw[hkm]
        have XG:(e8 [32] (fj (kd m) rs[k])).length+1<=2097152:=by have:=lq.len;rw[hT,List.length_append] at this;exact this
        have bO:fj (kd m) rs[k]≠[]:=by unfold fj mN;split<;>simp
        have uh:(fj (kd m) rs[k]).length<=1000:=by
          unfold fj mN eP
          simp only[List.length_append]
          split<;>split<;>split<;>split<;>split<;>simp
        have hJ:=Zr hc hQ9 bO uh (by omega)
        have QK:=VM (c:=c) s9 (e8 [32] (fj (kd m) rs[k])) [10] (by simp only[List.length_cons,List.length_nil];omega)
        rw[<-hT] at QK
        have r9:c 35 [.str (dR rs[k])] s9=some (af.EZ (af.js (af.aD (dR rs[k]))),s9):=Zu hc (by unfold B4;simp only[iq,decide_eq_true lq.len])
        have X7:FI st s9 X M N0 bs:=hI.more ((hg12.keeps).trans X6.keeps) (by have:=hg12.next;have:=X6.next;omega) X6.wf
        have hb9:s9.heap.get s.next=some (.cells rs[k].cells 0):=X6.keeps _ _ (uA.get bR)
        have hstz:=fun (l:List AV) (hl:l.length=6) (h1:aX l=true) (K:AV->St->Option (AV×St))=>bY c K s9 6 (.agg l) [.int .u8 0,.int .i64 0,.str [],.str [],.str [],.int .i64 0] hl rfl h1
        rcases r4:af.js (af.aD (dR rs[k])) with e|q
        . have eD:uB rs[k]=false:=by unfold uB;rw[r4]
          have he: ¬e=0:=by have:=af.Kl r4;omega
          rw[r4] at r9
          have Po:=Grew.ay X7.wf (.cells [.int .u8 0,.int .i64 0,.str [],.str [],.str [],.int .i64 0] 0)
          have:=jz eD _ (X7.keep.trans Po.keeps)
          have hst0:=hstz [.int .u8 0,.int .i64 0,.str [],.str [],.str [],.int .i64 0] rfl rfl
          rw[show (AV.agg [.int .u8 0,.int .i64 0,.str [],.str [],.str [],.int .i64 0]).cells=[.int .u8 0,.int .i64 0,.str [],.str [],.str [],.int .i64 0] from rfl] at hst0
          simpa [-bY,hJ,QK,r9,af.EZ,hst0,he] using this
        . rw[ r4] at r9
          have Po:=Grew.ay X7.wf (.cells (af.r8 q) 0)
          have S6:=X7.more Po.keeps Po.next Po.wf
          have hbz:(ay s9 (.cells (af.r8 q) 0)).heap.get s.next=some (.cells rs[k].cells 0):=Po.get hb9
          have X9:cut (af.r8 q) 0 6=some (af.r8 q):=ig rfl
          have hneq:=fun (K:AV->St->Option (AV×St))=>VO (c:=c) (ay s9 (.cells (af.r8 q) 0)) q rs[k] K
          have VP:=hstz (af.r8 q) rfl rfl
          rw[show (AV.agg (af.r8 q)).cells=af.r8 q from rfl] at VP
          cases EN:yw q rs[k] with
          | false=>
            have eD:uB rs[k]=false:=by unfold uB;rw[r4];exact EN
            have:=jz eD _ S6.keep
            simpa [-bY,hJ,QK,r9,af.EZ,VP,hbz,X9,hneq,EN] using this
          | true=>
            have eD:uB rs[k]=true:=by unfold uB;rw[r4];exact EN
            have htn:dR rs[k]≠[]:=by rw[hT];simp
            obtain ⟨jf,d1,d2,d3,d4⟩:=Jp hc S6.wf S6.FK htn lq.byte (by have:=lq.len;omega)
            have hI11:FI st jf X M N0 (bs++dR rs[k]):=⟨d3,fun b x hb=>by
              obtain ⟨o1,o2⟩:=hI.cm b x hb
              rw[d4 b o2 o1];exact S6.keep b x hb,d2,by rw[d4 M hI.neM hI.ltM];exact S6.map,hI.ltM,hI.neM,hI.cm⟩
            have:=hj eD jf hI11
            simpa [-bY,hJ,QK,r9,af.EZ,VP,hbz,X9,hneq,EN,d1] using this
     .  intro j3 hj3
        cases hn:(kd m).n with
        | false=>
          have:=hj3 s7 v7 S5 (by simpa [fj,hn] using hQ7)
          simpa [X5,hn] using this
        | true=>
          have hit:=Pk hc lq.n s7
          have hr7: ∀r∈(mN (kd m) rs[k]++eP (kd m) rs[k]).map fY,r.length=1:=fun r hr=>by
            simp only[List.mem_map] at hr
            obtain ⟨x,_,rfl⟩:=hr;rfl
          have hl7:((mN (kd m) rs[k]++eP (kd m) rs[k]).map fY).length<=10:=by
            unfold mN eP
            simp only[List.length_map,List.length_append]
            split<;>split<;>split<;>split<;>simp
          obtain ⟨s8,v8,d1,d2,d3⟩:=hQ7.Lh (c:=c) (R:=AV×St) (bytes:=16) (z:=[.str []]) (x:= .str (dm rs[k].n)) S5.wf hr7 rfl rfl rfl (by omega) (by omega)
          have:=hj3 s8 v8 (S5.trans mJ d3) (by simpa [fj,hn,AV.cells] using d2)
          simpa [-aR,X5,afP,hn,hit,d1] using this
   . intro j2 sN
     have MT:=Grew.ay mJ (.cells [.str [104,97,114,100]] 0)
     have kI:(ay (ay (ay s (.cells rs[k].cells 0)) (.cells (kd m).cells 0)) (.cells [.str [104,97,114,100]] 0)).heap.get s.next=some (.cells rs[k].cells 0):=MA
     by_cases lF:0<rs[k].wt
     .  rw[if_pos lF] at sN
        have hit:=Pk hc lq.wt (ay (ay (ay s (.cells rs[k].cells 0)) (.cells (kd m).cells 0)) (.cells [.str [104,97,114,100]] 0))
        have hg4:=Grew.ay MT.wf (.cells [.str [119,101,105,103,104],.str (dm rs[k].wt)] 0)
        have:=sN (ay (ay (ay (ay s (.cells rs[k].cells 0)) (.cells (kd m).cells 0)) (.cells [.str [104,97,114,100]] 0)) (.cells [.str [119,101,105,103,104],.str (dm rs[k].wt)] 0)) (.slice (ay (ay (ay s (.cells rs[k].cells 0)) (.cells (kd m).cells 0)) (.cells [.str [104,97,114,100]] 0)).next 0 2 (some 2) 1)
          ⟨hg4.wf,(MT.trans hg4).next,fun p b _ hb=>(MT.trans hg4).get hb,fun p hp=> .inr (by simp only[aF] at hp;simp at hp;subst hp;exact MT.next)⟩
          (.inr (.inl ⟨_,0,some 2,_,rfl,bh _ _,by simp,by simp,.inr rfl⟩))
        simpa [-aR,rf,kI,lF,hit,Zt] using this
     .  rw[if_neg lF] at sN
        have:=sN (ay (ay (ay s (.cells rs[k].cells 0)) (.cells (kd m).cells 0)) (.cells [.str [104,97,114,100]] 0)) (.slice (ay (ay s (.cells rs[k].cells 0)) (.cells (kd m).cells 0)).next 0 1 (some 1) 1)
          ⟨MT.wf,MT.next,fun p b _ hb=>MT.get hb,fun p hp=> .inr (by simp only[aF] at hp;simp at hp;subst hp;exact Nat.le_refl _)⟩
          (.inr (.inl ⟨_,0,some 1,_,rfl,bh _ _,by simp,by simp,.inr rfl⟩))
        simpa [rf,kI,lF] using this
def kW:List Rl->List Nat->List Nat
 |[],acc=>acc
 |r::rs,acc=>if uB r=true then kW rs (acc++dR r) else []
def fmtS (rs:List Rl):List Nat:=if 64<rs.length then [] else kW rs []
theorem VQ (hc:Sem c) {st:St} {X M:Pos} {N0:Nat} (z:Bool) (rs:List Rl) (Kk:rs.length<=64) (lq: ∀r∈rs,r.Fit) (F:Nat) (hF:4<=F) (k1 k2) (Q:Option (AV×St)->Prop) (jz: ∀s',kW rs []=[]->dz st s'->Q (k1 [.str []] s'))
  (QJ: ∀s',FI st s' X M N0 (kW rs [])->Q (k2 [.ptr X 0] s')): ∀(n k:Nat) (s:St) (bs:List Nat),rs.length<=k+n->k<=rs.length->bs.length<=k*2097152->FI st s X M N0 bs->kW rs []=kW (rs.drop k) bs->
  Q (fV c F k1 k2 (n+1) [.ptr X 0,.map M,rf z rs,.int .i64 (rs.length:Int),.int .i64 (k:Int)] s):=by
 intro n
 induction n with
 |zero=>
  intro k s bs h1 h2 hb hI hg
  obtain rfl:k=rs.length:=by omega
  rw[List.drop_length] at hg
  rw[fV]
  have:=QJ s (by rw[hg];exact hI)
  simpa [rf] using this
 |succ n ih=>
  intro k s bs h1 h2 hb hI hg
  by_cases hk:k<rs.length
  . have hd:rs.drop k=rs[k]::rs.drop (k+1):=List.drop_eq_getElem_cons hk
    have hf:=lq _ (List.getElem_mem hk)
    rw[hd,kW] at hg
    refine S4 hc z rs k hk Kk hf hI (by omega) F (n+1) hF k1 k2 Q (fun eD s' Kb=> ?_) (fun eD s' nH=> ?_)
    .   rw[if_pos eD] at hg
        exact ih (k+1) s' _ (by omega) (by omega) (by rw[List.length_append];have:=hf.len;omega) Kb hg
    .   rw[if_neg (by rw[eD];simp)] at hg
        exact jz s' hg nH
  . obtain rfl:k=rs.length:=by omega
    rw[List.drop_length] at hg
    rw[fV]
    have:=QJ s (by rw[hg];exact hI)
    simpa [rf] using this
theorem Km: ∀(rs:List Rl) (acc:List Nat),(∀r∈rs,(dR r).length<=2097152)->(kW rs acc).length<=acc.length+rs.length*2097152
 |[],acc,_=>by simp[kW]
 |r ::rs,acc,h=>by
  unfold kW
  split
  . have:=Km rs (acc++dR r) fun q hq=>h q (List.mem_cons_of_mem _ hq)
    have:=h r (by simp)
    simp only[List.length_append,List.length_cons] at*
    omega
  . simp
theorem S7 (hc:Sem c) (z:Bool) (rs:List Rl) (hl:rs.length<=1048576) (lq:rs.length<=64-> ∀r∈rs,r.Fit) (st:St) (hw:Wf st):c 7 [rf z rs] st=some (.str (fmtS rs),st):=by
 by_cases Kk:64<rs.length
 . rw[yx hc 1 (r:=(.str (fmtS rs),st)),mY (Plain.str _) (dz.refl st)]
   rw[qd]
   have:fmtS rs=[]:=by unfold fmtS;rw[if_pos Kk]
   rw[this]
   have hd:decide ((64:Int)<(rs.length:Int))=true:=decide_eq_true (by omega)
   simp[rf,hd]
 . have hf:=lq (by omega)
   have hS:fmtS rs=kW rs []:=by unfold fmtS;rw[if_neg Kk]
   have Pm:=Grew.ay hw (.typed 81 [.bF,.ai])
   have uA:=Grew.ay Pm.wf (.map Iu 18)
   have hK:=VL hc (ay st (.typed 81 [.bF,.ai]))
   have hn1:(ay st (.typed 81 [.bF,.ai])).next.toNat=st.next.toNat+1:=by rw[dx,Pos.az]
   have S0:(ay (ay st (.typed 81 [.bF,.ai])) (.map Iu 18)).next.toNat=st.next.toNat+2:=by rw[dx,Pos.az,hn1]
   have hI:FI st (ay (ay st (.typed 81 [.bF,.ai])) (.map Iu 18)) st.next (ay st (.typed 81 [.bF,.ai])).next (st.next.toNat+2) []:=
    ⟨uA.wf,(Pm.trans uA).keeps,⟨by omega,by omega,fun x hx=>by simp at hx,.bF,.ai,uA.get (bh _ _),.inl rfl,.inl ⟨rfl,rfl⟩⟩,bh _ _,by omega,fun e=>by have:=congrArg Pos.toNat e;omega,fun b x hb=>by
        have:=hw b x hb
        exact ⟨by omega,fun e=>by subst e;omega⟩⟩
   have key: ∃s',qd c 101 (rf z rs) st=some (.str (fmtS rs),s')/\dz st s':=by
    have L:=VQ hc z rs (by omega) hf 101 (by omega) (fun vs Gq=>au vs fun x2 vs=>bW vs (
   some (x2,Gq))) (fun vs DT=>au vs fun x3 vs=>bW vs (
   ag c (.callF 37) [x3] DT fun pV MU=>
 ag c .move [pV] MU fun x2 Gr=>
 some ( x2,Gr))) (fun o=> ∃s',o=some (.str (fmtS rs),s')/\dz st s') (fun s' h0 hk=>⟨s',by simp[hS,h0],hk⟩) (fun s' Kb=>by
        have hlen:=Km rs [] fun r hr=>(hf r hr).len
        simp only[List.length_nil,Nat.zero_add] at hlen
        obtain ⟨ij,d1,d2⟩:=QG hc Kb.FK (by omega)
        refine ⟨ij,by simp[d1,hS],fun b x hb=> ?_⟩
        obtain ⟨o1,o2⟩:=Kb.cm b x hb
        rw[d2 b o1];exact Kb.keep b x hb) 100 0 _ [] (by omega) (by omega) (by simp) hI (by simp)
    obtain ⟨s',L1,L2⟩:=L
    refine ⟨s',?_,L2⟩
    rw[qd]
    have hd:decide ((64:Int)<(rs.length:Int))=false:=decide_eq_false (by omega)
    simp[QE,hK,rf,hd] at L1 ⊢
    exact L1
   obtain ⟨s',k1,k2⟩:=key
   rw[yx hc 101 (r:=(.str (fmtS rs),s')) k1,mY (Plain.str _) k2]
end Go.Proofs.YtehbdakjkjkekaaGreatDoor
end
section
set_option maxRecDepth 100000
namespace Go.Proofs.YtehbdakjkjkekaaGreatDoor
open Go Go.Ai Go.Proofs
variable {c : ak}
def Rl.Ok (r:Rl):Prop:=0<=r.k/\r.k<256
end Go.Proofs.YtehbdakjkjkekaaGreatDoor
end
section
set_option maxRecDepth 100000
namespace Go.Proofs.YtehbdakjkjkekaaGreatDoor
open Go Go.Ai Go.Proofs
variable {c : ak}
def wO (k:Int):Bool:=decide (k=1)||decide (k=2)||decide (k=3)||decide (k=4)||decide (k=5)
def QL (k:Int):Bool:=decide (k=6)||decide (k=7)||decide (k=10)
def QM (k:Int):Bool:=decide (k=1)||decide (k=4)||decide (k=7)||decide (k=15)||decide (k=16)
def MV (k:Int):Int:=if wO k=true\/k=10 then 0 else if k=6\/k=7\/k=17 then 1 else 2
end Go.Proofs.YtehbdakjkjkekaaGreatDoor
end
section
set_option maxRecDepth 100000
namespace Go.Proofs.YtehbdakjkjkekaaGreatDoor
open Go Go.Ai Go.Proofs
variable {c : ak}
def o4:Nat->Nat->List Nat
 |0,_=>[]
 |f+1,n=>if n<10 then [48+n] else o4 f (n / 10)++[48+n % 10]
theorem Gs: ∀(f n:Nat),(o4 f n).length<=f
 |0,n=>by simp[o4]
 |f+1,n=>by
  have:=Gs f (n / 10)
  unfold o4
  split<;>simp<;>omega
end Go.Proofs.YtehbdakjkjkekaaGreatDoor
end
section
set_option maxRecDepth 100000
set_option linter.unusedVariables false
namespace Go.Proofs.YtehbdakjkjkekaaGreatDoor
open Go Go.Ai Go.Proofs
variable {c : ak}
def sd1 (r:Rl):Bool:=decide ((kd r.k.toNat).w=[])||(decide (r.wt<0)||(decide (1000<r.wt)||(decide (r.n<0)||(decide (999999999<r.n)||(decide (r.n≠0)&& !QM r.k)))))
def sd2 (r:Rl):Bool:=(wO r.k&&(!jF r.a|| !jF r.b))||(!wO r.k&&decide (r.b≠[]))
def sd3 (r:Rl):Bool:=((decide (r.k=6)||(decide (r.k=7)||decide (r.k=17)))&& !jF r.a)||(decide (r.k=10)&&(decide (r.a≠[])&& !jF r.a))
def sd4 (r:Rl):Bool:= !wO r.k&&(!QL r.k&&(decide (r.k≠17)&&decide (r.a≠[])))
def pK (r:Rl):Bool:= !sd1 r&&(!sd2 r&&(!sd3 r&&(!sd4 r&&(if MV r.k=0 then decide (r.t=[]) else jF r.t||(decide (MV r.k=2)&&decide (r.t=[]))))))
end Go.Proofs.YtehbdakjkjkekaaGreatDoor
end
section
set_option maxRecDepth 100000
namespace Go.Proofs.YtehbdakjkjkekaaGreatDoor
open Go Go.Ai Go.Proofs
variable {c : ak}
def Ya (r:Rl):List Nat:=if r.wt=0 then 104::97::114::100::32::(kd r.k.toNat).w else 119::101::105::103::104::32::(o4 10 r.wt.toNat++[32]++(kd r.k.toNat).w)
def Yb (r:Rl):List Nat:=if (wO r.k||(QL r.k||decide (r.k=17)))=true then 32::cY r.a else []
def Yc (r:Rl):List Nat:=if wO r.k=true then 32::r.b else []
def Yd (r:Rl):List Nat:=if 0<MV r.k then 32::cY r.t else []
def Ye (r:Rl):List Nat:=if QM r.k=true then 32::o4 10 r.n.toNat else []
def QN (r:Rl):List Nat:=Ya r++(Yb r++(Yc r++(Yd r++(Ye r++[10]))))
theorem uC (s:List Nat):(cY s).length<=s.length+1:=by unfold cY;split<;>simp
theorem Pp (m:Nat):(kd m).w.length<=20:=by unfold kd;split<;>simp
end Go.Proofs.YtehbdakjkjkekaaGreatDoor
end
