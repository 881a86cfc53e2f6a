/- What both Formats and both checks answer. -/
import Derived.Test.YtehbdakjkjkekaaGreatDoorSLawsA
import Derived.Test.YtehbdakjkjkekaaGreatDoorSEvalE
set_option linter.all false
set_option linter.unusedSectionVars false
set_option linter.deprecated false
section
set_option maxRecDepth 100000
namespace Go.Proofs.YtehbdakjkjkekaaGreatDoor
open Go Go.Ai Go.Proofs
variable {c : ai}
def kd:Nat->Kd
 |1=>⟨[97,112,97,114,116],103,true,0,true,0,false,.func 81 [] []⟩
 |2=>⟨[98,101,115,105,100,101],103,true,0,false,0,false,.func 82 [] []⟩
 |3=>⟨[97,99,114,111,115,115],103,true,0,false,0,false,.func 83 [] []⟩
 |4=>⟨[110,101,97,114],103,true,0,true,1,false,.func 84 [] []⟩
 |5=>⟨[116,111,103,101,116,104,101,114],103,true,0,false,0,false,.func 85 [] []⟩
 |6=>⟨[97,116],103,false,116,false,0,false,.func 86 [] []⟩
 |7=>⟨[115,101,97,116],103,false,116,true,0,true,.func 87 [] []⟩
 |8=>⟨[97,108,116,101,114,110,97,116,101],0,false,101,false,0,false,.func 88 [] []⟩
 |9=>⟨[104,111,115,116],0,false,101,false,0,false,.func 89 [] []⟩
 |10=>⟨[114,101,97,99,104],101,false,0,false,0,false,.func 90 [] []⟩
 |11=>⟨[115,112,101,97,107],0,false,101,false,0,false,.func 91 [] []⟩
 |12=>⟨[112,101,97,99,101],0,false,101,false,0,false,.func 92 [] []⟩
 |13=>⟨[99,111,109,112,97,110,121],0,false,101,false,0,false,.func 93 [] []⟩
 |14=>⟨[104,111,110,111,117,114],0,false,101,false,0,false,.func 94 [] []⟩
 |15=>⟨[102,105,108,108],0,false,101,true,0,false,.func 95 [] []⟩
 |16=>⟨[108,105,109,105,116],0,false,101,true,0,false,.func 96 [] []⟩
 |17=>⟨[107,105,116,99,104,101,110],100,false,116,false,0,false,.func 97 [] []⟩
 |18=>⟨[109,105,120],0,false,101,false,0,false,.func 98 [] []⟩
 |_=>⟨[],0,false,0,false,0,false,.ax⟩
def uG:List (AV×AV×Nat):=[(.int .u8 1,.agg (kd 1).cells,0),(.int .u8 2,.agg (kd 2).cells,1),(.int .u8 3,.agg (kd 3).cells,2),(.int .u8 4,.agg (kd 4).cells,3),(.int .u8 5,.agg (kd 5).cells,4),(.int .u8 6,.agg (kd 6).cells,5),(.int .u8 7,.agg (kd 7).cells,6),(.int .u8 8,.agg (kd 8).cells,7),(.int .u8 9,.agg (kd 9).cells,8),(.int .u8 10,.agg (kd 10).cells,9),(.int .u8 11,.agg (kd 11).cells,10),(.int .u8 12,.agg (kd 12).cells,11),(.int .u8 13,.agg (kd 13).cells,12),(.int .u8 14,.agg (kd 14).cells,13),(.int .u8 15,.agg (kd 15).cells,14),(.int .u8 16,.agg (kd 16).cells,15),(.int .u8 17,.agg (kd 17).cells,16),(.int .u8 18,.agg (kd 18).cells,17)]
theorem Pn (p:Pos): ¬Plain (.map p):=fun h=>by
 have:=h (fun _=>(⟨0,0,0⟩:Go.Ai.Loc)) (fun _=>⟨1,0,0⟩) (p.toNat+1) (p.toNat+1) (fun _=>none) _ (.map p (Nat.lt_succ_self _))
 cases this
theorem aai (st:St) (p:Pos) (s':St):tidy st (.map p,s')=(.map p,s'):=by
 unfold tidy;rw[if_neg]
 exact fun e=>Pn p e.1
theorem ef {R:Type} (c:ai) (K:AV->St->Option R) (st:St) (z:List AV) (ps:List (Nat×Nat)) (xs l:List AV) (h:dY z ps xs=some l):af c (.build z ps) xs st K=K (.agg l) st:=by
 rw[Iw,h];rfl
theorem ei {R:Type} (c:ai) (K:AV->St->Option R) (st:St) (es:List (AV×AV×Nat)) (cl:Nat) (k:IntKind) (x:Int) (v:AV) (hf:sM .i (.int k x) es 0=some none):
  af c (.mapSet .i) [.map st.next,.int k x,v] (au st (.map es cl)) K=K .undef (au st (.map (es++[(.int k x,v,cl)]) (cl+1))):=by
 have:aE.run (fun b=>(au st (.map es cl)).heap.get b) (au st (.map es cl)).next (.mapSet .i) [.map st.next,.int k x,v]=some (.aI .undef none (some (st.next,.map (es++[(.int k x,v,cl)]) (cl+1))) none):=by
  simp[aE.run,zi,hf,Zl]
 unfold af cU;rw[this]
 show K .undef (rP (au st (.map es cl)) st.next _)=_
 rw[Eu]
theorem KQ (hc:Sem c) (s:St):c 32 [] s=some (.map s.next,au s (.map uG 18)):=by
 rw[NF hc 1 (r:=(.map s.next,au s (.map uG 18))),aai]
 rw[MD]
 rw[aP,XA]
 rw[ef (l:=(kd 1).cells) (h:=rfl),ei (hf:=rfl)]
 rw[ef (l:=(kd 2).cells) (h:=rfl),ei (hf:=rfl)]
 rw[ef (l:=(kd 3).cells) (h:=rfl),ei (hf:=rfl)]
 rw[ef (l:=(kd 4).cells) (h:=rfl),ei (hf:=rfl)]
 rw[ef (l:=(kd 5).cells) (h:=rfl),ei (hf:=rfl)]
 rw[ef (l:=(kd 6).cells) (h:=rfl),ei (hf:=rfl)]
 rw[ef (l:=(kd 7).cells) (h:=rfl),ei (hf:=rfl)]
 rw[ef (l:=(kd 8).cells) (h:=rfl),ei (hf:=rfl)]
 rw[ef (l:=(kd 9).cells) (h:=rfl),ei (hf:=rfl)]
 rw[ef (l:=(kd 10).cells) (h:=rfl),ei (hf:=rfl)]
 rw[ef (l:=(kd 11).cells) (h:=rfl),ei (hf:=rfl)]
 rw[ef (l:=(kd 12).cells) (h:=rfl),ei (hf:=rfl)]
 rw[ef (l:=(kd 13).cells) (h:=rfl),ei (hf:=rfl)]
 rw[ef (l:=(kd 14).cells) (h:=rfl),ei (hf:=rfl)]
 rw[ef (l:=(kd 15).cells) (h:=rfl),ei (hf:=rfl)]
 rw[ef (l:=(kd 16).cells) (h:=rfl),ei (hf:=rfl)]
 rw[ef (l:=(kd 17).cells) (h:=rfl),ei (hf:=rfl)]
 rw[ef (l:=(kd 18).cells) (h:=rfl),ei (hf:=rfl)]
 rw[aP,aP]
 . rfl
 . exact .ax
theorem UM {R:Type} (c:ai) (K:AV->St->Option R) (st:St) (m:Pos) (cl:Nat) (h:st.heap.get m=some (.map uG cl)) (n:Nat):
   af c (.lookup .i (.agg [.str [],.int .u8 0,.bool false,.int .u8 0,.bool false,.int .i64 0,.bool false,.ax]) false) [.map m,.int .u8 (n:Int)] st K=K (.agg (kd n).cells) st:=by
 have e:sM .i (.int .u8 (n:Int)) uG 0=some (if 1<=n/\n<=18 then some (n - 1,.agg (kd n).cells) else none):=by
   by_cases h:n<=18
   . have:n=0\/n=1\/n=2\/n=3\/n=4\/n=5\/n=6\/n=7\/n=8\/n=9\/n=10\/n=11\/n=12\/n=13\/n=14\/n=15\/n=16\/n=17\/n=18:=by omega
     rcases this with rfl|rfl|rfl|rfl|rfl|rfl|rfl|rfl|rfl|rfl|rfl|rfl|rfl|rfl|rfl|rfl|rfl|rfl|rfl<;>rfl
   . have UN: ∀j:Int,j<=18->qW (n:Int) j=false:=fun j hj=>by rw[jr];simp;omega
     rw[if_neg (by omega)]
     simp[uG,sM,xZ,UN,dK]
 have: ∀z:AV,aE.run (fun b=>st.heap.get b) st.next (.lookup .i z false) [.map m,.int .u8 (n:Int)]=some (.val (if 1<=n/\n<=18 then .agg (kd n).cells else z)):=fun z=>by
   simp only[aE.run,vZ,h,e]
   by_cases h1:1<=n/\n<=18
   . rw[if_pos h1,if_pos h1]
   . rw[if_neg h1,if_neg h1]
 unfold af cU;rw[this]
 by_cases h1:1<=n/\n<=18
 . rw[if_pos h1]
 . rw[if_neg h1]
   have:kd n=⟨[],0,false,0,false,0,false,.ax⟩:=by
     unfold kd;split<;>first|rfl|omega
   rw[this];rfl
theorem UO (n:Nat):(kd n).sB=true->(kd n).t=116:=by
 unfold kd;split<;>simp
end Go.Proofs.YtehbdakjkjkekaaGreatDoor
end
section
set_option maxRecDepth 100000
namespace Go.Proofs.YtehbdakjkjkekaaGreatDoor
open Go Go.Ai Go.Proofs
variable {c : ai}
def cJ (s:List Nat):List Nat:=if s=[] then [45] else s
def sC (u:Bool) (t:List Nat):List (List AV):=if u then [[.str (cJ t)]] else []
theorem KR {s:St} {v:AV} {rows:List (List AV)} {P:Pos} {cs:List AV} {i:Nat} {u:Bool} {t:List Nat}
  (hw:Wf s) (hP:s.heap.get P=some (.cells cs 0)) (hcut:cut cs (i*2) 2=some [.bool u,.str t]) (hi:i<3) (hQ:QS 1 s v rows) (hr: ∀r∈rows,r.length=1) (hn:rows.length<=1000):
  ∃ s' v',(∀F k4 x3 x4 x6 x7 bn bC b9 n,gS c F k4 (n+1) [x3,x4,x6,x7,v,bn,bC,b9,.slice P 0 3 (some 3) 2,.int .i64 3,.int .i64 (i:Int)] s=gS c F k4 n [x3,x4,x6,x7,v',bn,bC,b9,.slice P 0 3 (some 3) 2,.int .i64 3,.int .i64 ((i+1:Nat):Int)] s')/\
    QS 1 s' v' (rows++sC u t)/\Wk s v s' v':=by
 have w:aY .i64 ((i:Int)+1)=((i+1:Nat):Int):=wrap64 (by omega) (by omega)
 have bI:decide ((i:Int)<3)=true:=by simp;omega
 have hix: ∀(K:AV->St->Option (AV×St)),af c (.idxA 2 none) [.slice P 0 3 (some 3) 2,.int .i64 (i:Int)] s K=K (.ptr P (0+i*2)) s:=fun K=>BC (c:=c) (K:=K) (st:=s) (es:=2) (es':=2) (k:= .i64) (off:=0) hi
 rw[Nat.zero_add] at hix
 have mI:=fun (K:AV->St->Option (AV×St))=>bW c K s 2 (.agg [.bool u,.str t]) [.bool false,.str []] rfl rfl rfl
 rw[show (AV.agg [.bool u,.str t]).cells=[.bool u,.str t] from rfl] at mI
 have hg:=Grew.au hw (.cells [.bool u,.str t] 0)
 have cH:Wf (au s (.cells [.bool u,.str t] 0)):=eB hw
 have hb:=aR s (.cells [.bool u,.str t] 0)
 have hQ1:QS 1 (au s (.cells [.bool u,.str t] 0)) v rows:=hQ.mono fun _ _ _ hx=>hg.get hx
 cases u with
 |false=>
  refine ⟨_,v,fun F k4 x3 x4 x6 x7 bn bC b9 n=> ?_,by simpa [sC] using hQ1,Wk.vR hg⟩
  rw[gS]
  simp[lS,-bW,bI,hix,hP,hcut,mI,w]
 |true=>
  by_cases ht:t=[]
  . subst ht
    have ME: ∀(K:AV->St->Option (AV×St)),af c (.store 1) [.ptr s.next 1,.str [45]] (au s (.cells [.bool true,.str []] 0)) K=K .undef (au s (.cells [.bool true,.str [45]] 0)):=fun K=>by
        rw[wo c K _ 1 s.next 1 (.str [45]) _ hb rfl (by simp) rfl,Eu]
        rfl
    have lq:=Grew.au hw (.cells [.bool true,.str [45]] 0)
    have gm:Wf (au s (.cells [.bool true,.str [45]] 0)):=eB hw
    have cE:=aR s (.cells [.bool true,.str [45]] 0)
    obtain ⟨s5,v',a1,a2,a3⟩:=(hQ.mono fun _ _ _ hx=>lq.get hx:QS 1 (au s (.cells [.bool true,.str [45]] 0)) v rows).PL (c:=c) (R:=AV×St) (bytes:=16) (z:=[.str []]) (x:= .str [45]) gm hr rfl rfl rfl (by omega) (by omega)
    refine ⟨s5,v',fun F k4 x3 x4 x6 x7 bn bC b9 n=> ?_,by simpa [sC,cJ,AV.cells] using a2,(Wk.vR lq).trans hw a3⟩
    rw[gS]
    simp[lS,-bW,-iZ,bI,hix,hP,hcut,mI,w,hb,ME,cE,a1]
  . obtain ⟨s5,v',a1,a2,a3⟩:=hQ1.PL (c:=c) (R:=AV×St) (bytes:=16) (z:=[.str []]) (x:= .str t) cH hr rfl rfl rfl (by omega) (by omega)
    refine ⟨s5,v',fun F k4 x3 x4 x6 x7 bn bC b9 n=> ?_,by simpa [sC,cJ,ht,AV.cells] using a2,(Wk.vR hg).trans hw a3⟩
    rw[gS]
    simp[lS,-bW,-iZ,bI,hix,hP,hcut,mI,w,hb,ht,a1]
theorem Rg {u:Bool} {t:List Nat}: ∀r∈sC u t,r.length=1:=fun r hr=>by
 unfold sC at hr
 split at hr
 . simp at hr;subst hr;rfl
 . simp at hr
theorem Rh (u:Bool) (t:List Nat):(sC u t).length<=1:=by unfold sC;split<;>simp
theorem XQ {s:St} {v:AV} {rows:List (List AV)} {P:Pos} {a b d:Bool} {x y z:List Nat} (hw:Wf s) (hP:s.heap.get P=some (.cells [.bool a,.str x,.bool b,.str y,.bool d,.str z] 0)) (hv:jR v≠some P) (hQ:QS 1 s v rows) (hr: ∀r∈rows,r.length=1) (hn:rows.length<=990):
  ∃ s' v',(∀F k4 x3 x4 x6 x7 bn bC b9 n,gS c F k4 (n+4) [x3,x4,x6,x7,v,bn,bC,b9,.slice P 0 3 (some 3) 2,.int .i64 3,.int .i64 0] s=k4 [x3,x4,x6,x7,v',bn,bC,b9] s')/\
    QS 1 s' v' (rows++sC a x++sC b y++sC d z)/\Wk s v s' v':=by
 have lP:=hw _ _ hP
 obtain ⟨s1,v1,a1,a2,a3⟩:=KR (c:=c) (i:=0) hw hP rfl (by decide) hQ hr (by omega)
 have n1:jR v1≠some P:=fun e=>by
  rcases a3.new _ e with h|h
  . exact hv h
  . omega
 have UP: ∀r∈rows++sC a x,r.length=1:=fun r h=>(List.mem_append.1 h).elim (hr r) (Rg r)
 have l1:=Rh a x
 obtain ⟨s2,v2,b1,b2,b3⟩:=KR (c:=c) (i:=1) a3.wf (a3.keep _ _ hv hP) rfl (by decide) a2 UP (by rw[List.length_append];omega)
 have n2:jR v2≠some P:=fun e=>by
  rcases b3.new _ e with h|h
  . exact n1 h
  . have:=a3.next;omega
 have hr2: ∀r∈rows++sC a x++sC b y,r.length=1:=fun r h=>(List.mem_append.1 h).elim (UP r) (Rg r)
 have l2:=Rh b y
 obtain ⟨s3,v3,c1,c2,c3⟩:=KR (c:=c) (i:=2) b3.wf (b3.keep _ _ n1 (a3.keep _ _ hv hP)) rfl (by decide) b2 hr2 (by rw[List.length_append,List.length_append];omega)
 refine ⟨s3,v3,fun F k4 x3 x4 x6 x7 bn bC b9 n=> ?_,c2,(a3.trans hw b3).trans hw c3⟩
 rw[show (AV.int .i64 0)= .int .i64 ((0:Nat):Int) from rfl,a1,b1,c1,gS]
 simp
end Go.Proofs.YtehbdakjkjkekaaGreatDoor
end
section
set_option maxRecDepth 100000
namespace Go.Proofs.YtehbdakjkjkekaaGreatDoor
open Go Go.Ai Go.Proofs
variable {c : ai}
theorem kJ {R:Type} {Q:Option R->Prop} (P:(List AV->St->Option R)->Prop) {A:(List AV->St->Option R)->Option R} {T:List AV->St->Option R} (hT:P T) (hA: ∀j,P j->Q (A j)):Q (lS A T):=hA T hT
abbrev mz (s:List Nat):List AV:=[.str s]
def p9 (k:Kd) (r:Rl):List (List Nat):=(if 0<r.wt then [[119,101,105,103,104],eG r.wt] else [[104,97,114,100]])++[k.w]
def gw (k:Kd) (r:Rl):List (List Nat):=(if k.a≠0 then [cJ r.a] else [])++(if k.b then [cJ r.b] else [])++(if k.t≠0 then [cJ r.t] else [])
def gK (k:Kd) (r:Rl):List (List Nat):=p9 k r++gw k r++(if k.n then [eG r.n] else [])
def jL (r:Rl):List Nat:=gG [32] (gK (kd r.k.toNat) r)++[10]
def Di (q:ag.RR) (r:Rl):Bool:=decide ((q.k:Int)=r.k)&&(decide (q.wt=r.wt)&&(decide (ag.lO q.a=r.a)&&(decide (ag.lO q.b=r.b)&&(decide (ag.lO q.t=r.t)&&decide (q.n=r.n)))))
def BF (r:Rl):Bool:=match ag.l5 (ag.aO (jL r)) with
 | .inl _=>false
 | .inr q=>Di q r
structure Rl.Fit (r:Rl):Prop where
 k:0<=r.k/\r.k<256
 wt: -9223372036854775808<=r.wt/\r.wt<=9223372036854775807
 n: -9223372036854775808<=r.n/\r.n<=9223372036854775807
 len:(jL r).length<=2097152
 byte: ∀x∈jL r,x<256
theorem afX (m:Nat):cS (kd m).cells=true:=by
 unfold kd
 split<;>rfl
structure FI (st s:St) (X M:Pos) (N0:Nat) (bs:List Nat):Prop where
 wf:Wf s
 keep:cB st s
 Ri:Q3 N0 s X bs
 map:s.heap.get M=some (.map uG 18)
 ltM:M.toNat<N0
 neM:M≠X
 dJ: ∀b x,st.heap.get b=some x->b.toNat<N0/\b≠X
theorem UQ (hc:Sem c) {n:Int} (h: -9223372036854775808<=n/\n<=9223372036854775807) (s:St):c 33 [.int .i64 n] s=some (.str (eG n),s):=by
 refine abT hc ?_
 unfold FZ
 cases h1:Int.decLe (-9223372036854775808) n with
 |isFalse h'=>exact absurd h.1 h'
 |isTrue h'=>
  cases h2:Int.decLe n 9223372036854775807 with
  |isFalse h''=>exact absurd h.2 h''
  |isTrue h''=>simp only[h1,h2]
theorem Kc: ∀l:List (List Nat),BG ((l.map mz).flatten)=some l
 |[]=>rfl
 |x::l=>by
  have:=Kc l
  simp only[List.map_cons,List.flatten_cons,mz,List.cons_append,List.nil_append,BG] at this ⊢
  rw[this]
theorem abU (hc:Sem c) {s:St} {v:AV} {l:List (List Nat)} (h:QS 1 s v (l.map mz)) (h0:l≠[]) (hn:l.length<=1000) (hl:(gG [32] l).length<=140737488355328):c 34 [v,.str [32]] s=some (.str (gG [32] l),s):=by
 refine abV hc ?_
 have Qg:0<l.length:=List.length_pos_iff.2 h0
 rcases h with ⟨_,h1⟩|⟨b,off,cap,cs,rfl,h1,h2,h3,h4⟩|⟨b,off,_,h1⟩
 . simp at h1;exact absurd h1 h0
 . rw[List.length_map] at h2 h3 ⊢
   rw[Nat.mul_one] at h2 h3
   have hcut:cut cs off l.length=some ((l.map mz).flatten):=by
    unfold cut;rw[gb,decide_eq_true h2];simp only[h3]
   have e1:Nat.blt 0 l.length=true:=by simpa using Qg
   simp only[F0,h1,hcut,Kc,e1,gb,decide_eq_true (show l.length<=1000000 by omega),decide_eq_true hl]
 . simp at h1;exact absurd h1 h0
theorem XR (s:St) (a b d:Bool) (x y z:List Nat) (K:AV->St->Option (AV×St)):af c (.buildSlice 2 3 [.bool false,.str []] [0,1,2]) [.agg [.bool a,.str x],.agg [.bool b,.str y],.agg [.bool d,.str z]] s K=K (.slice s.next 0 3 (some 3) 2) (au s (.cells [.bool a,.str x,.bool b,.str y,.bool d,.str z] 0)):=rfl
theorem abW (s:St) (x y:List Nat) (K:AV->St->Option (AV×St)):af c (.buildSlice 1 2 [.str []] [0,1]) [.str x,.str y] s K=K (.slice s.next 0 2 (some 2) 1) (au s (.cells [.str x,.str y] 0)):=rfl
theorem V0 (s:St) (x:List Nat) (K:AV->St->Option (AV×St)):af c (.buildSlice 1 1 [.str []] [0]) [.str x] s K=K (.slice s.next 0 1 (some 1) 1) (au s (.cells [.str x] 0)):=rfl
theorem Q3.keep {N0:Nat} {s s':St} {X:Pos} {bs:List Nat} (h:Q3 N0 s X bs) (hk:cB s s') (hn:s.next.toNat<=s'.next.toNat):Q3 N0 s' X bs:=by
 obtain ⟨h1,h2,h3,p,v,hX,hp,hv⟩:=h
 refine ⟨h1,Nat.le_trans h2 hn,h3,p,v,hk _ _ hX,hp,?_⟩
 rcases hv with hv|⟨Y,e1,e2,e3,e4⟩
 . exact .inl hv
 . exact .inr ⟨Y,e1,hk _ _ e2,e3,e4⟩
theorem FI.more {st s s':St} {X M:Pos} {N0:Nat} {bs:List Nat} (h:FI st s X M N0 bs) (hk:cB s s') (hn:s.next.toNat<=s'.next.toNat) (hw:Wf s'):FI st s' X M N0 bs:=
 ⟨hw,h.keep.trans hk,h.Ri.keep hk hn,hk _ _ h.map,h.ltM,h.neM,h.dJ⟩
theorem Rj (s:St) (x y:List Nat) (h:x.length+y.length<=9223372036854775807) (K:AV->St->Option (AV×St)):af c (.bin .add .num) [.str x,.str y] s K=K (.str (x++y)) s:=
 dm c K (fun H n=>by simp only[aE.run,iH,n8,gb,decide_eq_true h]) s
theorem NG {xs ys:List AV} {fs:List (Nat×PK)} {o:Nat} {k:IntKind} {a b:Int} (h1:nth xs o=some (.int k a)) (h2:nth ys o=some (.int k b)):eqFields xs ys ((o,.i)::fs)=if a=b then eqFields xs ys fs else some false:=by
 simp only[eqFields,h1,h2,xZ,dK]
 by_cases h:a=b
 . rw[if_pos h,jr,beq_iff_eq.2 h]
 . rw[if_neg h]
   rw[jr,beq_eq_false_iff_ne.2 h]
theorem NH {xs ys:List AV} {fs:List (Nat×PK)} {o:Nat} {a b:List Nat} (h1:nth xs o=some (.str a)) (h2:nth ys o=some (.str b)):eqFields xs ys ((o,.s)::fs)=if a=b then eqFields xs ys fs else some false:=by
 simp only[eqFields,h1,h2,xZ]
 by_cases h:a=b
 . rw[if_pos h,kD.2 h]
 . rw[if_neg h]
   cases e:iC a b with
   |true=>exact absurd (kD.1 e) h
   |false=>rfl
theorem aaj (q:ag.RR) (r:Rl):eqFields (ag.Al q) r.cells [(0,.i),(1,.i),(2,.s),(3,.s),(4,.s),(5,.i)]=some (Di q r):=by
 rw[NG rfl rfl,NG rfl rfl,NH rfl rfl,NH rfl rfl,NH rfl rfl,NG rfl rfl]
 unfold Di
 by_cases h1:(q.k:Int)=r.k
 . by_cases h2:q.wt=r.wt
   . by_cases h3:ag.lO q.a=r.a
     .  by_cases h4:ag.lO q.b=r.b
        . by_cases h5:ag.lO q.t=r.t
          . by_cases h6:q.n=r.n
            . simp[h1,h2,h3,h4,h5,h6,eqFields]
            . simp[h1,h2,h3,h4,h5,h6]
          . simp[h1,h2,h3,h4,h5]
        . simp[h1,h2,h3,h4]
     .  simp[h1,h2,h3]
   . simp[h1,h2]
 . simp[h1]
theorem aak (s:St) (q:ag.RR) (r:Rl) (K:AV->St->Option (AV×St)):af c (.bin .neq (.struct [(0,.i),(1,.i),(2,.s),(3,.s),(4,.s),(5,.i)])) [.agg (ag.Al q),.agg r.cells] s K=K (.bool (!Di q r)) s:=
 dm c K (fun H n=>by simp only[aE.run,iH,n8,EY,aaj]) s
theorem XS (hc:Sem c) {st s:St} {X M:Pos} {N0:Nat} {bs:List Nat} (z:Bool) (rs:List Rl) (k:Nat) (hk:k<rs.length) (IF:rs.length<=64) (oO:rs[k].Fit) (hI:FI st s X M N0 bs) (mH:bs.length<=140000000) (F n:Nat) (hF:4<=F) (k1 k2) (Q:Option (AV×St)->Prop)
   (F6:BF rs[k]=true-> ∀s',FI st s' X M N0 (bs++jL rs[k])->Q (ja c F k1 k2 n [.ptr X 0,.map M,eV z rs,.int .i64 (rs.length:Int),.int .i64 ((k+1:Nat):Int)] s'))
   (nR:BF rs[k]=false-> ∀s',cB st s'->Q (k1 [.str []] s')):
   Q (ja c F k1 k2 (n+1) [.ptr X 0,.map M,eV z rs,.int .i64 (rs.length:Int),.int .i64 (k:Int)] s):=by
 have w:aY .i64 ((k:Int)+1)=((k+1:Nat):Int):=wrap64 (by omega) (by omega)
 have hw:=hI.wf
 rw[ja]
 simp[-bW,-iZ,eV,hk]
 refine kJ (P:=fun j=>BF rs[k]=true-> ∀s',FI st s' X M N0 (bs++jL rs[k])->Q (j [.ptr X 0,.map M,eV z rs,.int .i64 (rs.length:Int),.int .i64 (k:Int)] s')) ?_ ?_
 . intro dr s' nr
   have:=F6 dr s' nr
   simpa [w,eV] using this
 . intro  j hj
   have mI:=fun (K:AV->St->Option (AV×St))=>bW c K s 6 (.agg rs[k].cells) [.int .u8 0,.int .i64 0,.str [],.str [],.str [],.int .i64 0] rfl rfl (Rl.one _)
   rw[show (AV.agg rs[k].cells).cells=rs[k].cells from rfl] at mI
   obtain ⟨m,hm⟩: ∃m:Nat,rs[k].k=(m:Int):=⟨rs[k].k.toNat,by have:=oO.k;omega⟩
   have Ak:=Grew.au hw (.cells rs[k].cells 0)
   have cH:=Ak.wf
   have cW:=aR s (.cells rs[k].cells 0)
   have yX:=fun (K:AV->St->Option (AV×St))=>UM c K _ M 18 (Ak.get hI.map) m
   rw[<-hm] at yX
   have hst2:=fun (K:AV->St->Option (AV×St))=>bW c K (au s (.cells rs[k].cells 0)) 8 (.agg (kd m).cells) [.str [],.int .u8 0,.bool false,.int .u8 0,.bool false,.int .i64 0,.bool false,.ax] rfl rfl (afX m)
   rw[show (AV.agg (kd m).cells).cells=(kd m).cells from rfl] at hst2
   simp[-bW,-iZ,mI,cW,yX,hst2,V0]
   obtain ⟨F',rfl⟩: ∃F',F=F'+4:=⟨F - 4,by omega⟩
   have lq:=Grew.au cH (.cells (kd m).cells 0)
   have gm:=lq.wf
   have hg12:=Ak.trans lq
   have hkm:rs[k].k.toNat=m:=by omega
   refine kJ (P:=fun j2=> ∀s' v,Wk (au (au s (.cells rs[k].cells 0)) (.cells (kd m).cells 0)) .aj s' v->QS 1 s' v ((if 0<rs[k].wt then [[119,101,105,103,104],eG rs[k].wt] else [[104,97,114,100]]).map mz)->
     Q (j2 [.ptr X 0,.map M,.ptr s.next 0,.ptr (au s (.cells rs[k].cells 0)).next 0,v,eV z rs,.int .i64 (rs.length:Int),.int .i64 (k:Int)] s')) ?_ ?_
   . intro  s3 v hWk hQ
     have Am:=hWk.keeps
     have hb6:s3.heap.get s.next=some (.cells rs[k].cells 0):=Am _ _ (lq.get cW)
     have hb7:s3.heap.get (au s (.cells rs[k].cells 0)).next=some (.cells (kd m).cells 0):=Am _ _ (aR _ _)
     have rH:((if 0<rs[k].wt then [[119,101,105,103,104],eG rs[k].wt] else [[104,97,114,100]]).map mz).length<=2:=by split<;>simp
     have sL: ∀r∈(if 0<rs[k].wt then [[119,101,105,103,104],eG rs[k].wt] else [[104,97,114,100]]).map mz,r.length=1:=fun r hr=>by
        simp only[List.mem_map] at hr
        obtain ⟨x,_,rfl⟩:=hr;rfl
     obtain ⟨s5,v5,a1,a2,a3⟩:=hQ.PL (c:=c) (R:=AV×St) (bytes:=16) (z:=[.str []]) (x:= .str (kd m).w) hWk.wf sL rfl rfl rfl (by omega) (by omega)
     have UR:=hWk.trans gm a3
     have hk5:=UR.keeps
     have hb6':s5.heap.get s.next=some (.cells rs[k].cells 0):=hk5 _ _ (lq.get cW)
     have hb7':s5.heap.get (au s (.cells rs[k].cells 0)).next=some (.cells (kd m).cells 0):=hk5 _ _ (aR _ _)
     have hw5:=UR.wf
     have hg6:=Grew.au hw5 (.cells [.bool (!decide ((kd m).a=0)),.str rs[k].a,.bool (kd m).b,.str rs[k].b,.bool (!decide ((kd m).t=0)),.str rs[k].t] 0)
     have hr5: ∀r∈(if 0<rs[k].wt then [[119,101,105,103,104],eG rs[k].wt] else [[104,97,114,100]]).map mz++[(AV.str (kd m).w).cells],r.length=1:=fun r h=>(List.mem_append.1 h).elim (sL r) (fun h=>by simp at h;subst h;rfl)
     have h5v:jR v5≠some s5.next:=fun e=>by have:=a2.lt hw5 e;omega
     obtain ⟨s7,v7,b1,b2,b3⟩:=XQ (c:=c) hg6.wf (aR s5 (.cells [.bool (!decide ((kd m).a=0)),.str rs[k].a,.bool (kd m).b,.str rs[k].b,.bool (!decide ((kd m).t=0)),.str rs[k].t] 0)) h5v (a2.mono fun _ _ _ hx=>hg6.get hx) hr5 (by rw[List.length_append];simp only[List.length_cons,List.length_nil];omega)
     have Rk:Wk (au (au s (.cells rs[k].cells 0)) (.cells (kd m).cells 0)) .aj s7 v7:=(UR.trans gm (Wk.vR hg6)).trans gm b3
     have hQ7:QS 1 s7 v7 ((p9 (kd m) rs[k]++gw (kd m) rs[k]).map mz):=by
        have:(p9 (kd m) rs[k]++gw (kd m) rs[k]).map mz=(if 0<rs[k].wt then [[119,101,105,103,104],eG rs[k].wt] else [[104,97,114,100]]).map mz++[(AV.str (kd m).w).cells]++sC (!decide ((kd m).a=0)) rs[k].a++sC (kd m).b rs[k].b++sC (!decide ((kd m).t=0)) rs[k].t:=by
          unfold p9 gw sC
          rw[List.map_append,List.map_append,List.map_append,List.map_append]
          have e1:((if (kd m).a≠0 then [cJ rs[k].a] else []):List (List Nat)).map mz=if (!decide ((kd m).a=0))=true then [[AV.str (cJ rs[k].a)]] else []:=by
            by_cases h:(kd m).a=0<;>simp[h]
          have e2:((if (kd m).b=true then [cJ rs[k].b] else []):List (List Nat)).map mz=if (kd m).b=true then [[AV.str (cJ rs[k].b)]] else []:=by
            cases h:(kd m).b<;>simp
          have e3:((if (kd m).t≠0 then [cJ rs[k].t] else []):List (List Nat)).map mz=if (!decide ((kd m).t=0))=true then [[AV.str (cJ rs[k].t)]] else []:=by
            by_cases h:(kd m).t=0<;>simp[h]
          rw[e1,e2,e3]
          simp[AV.cells]
        rw[this];exact b2
     have aiv:s7.heap.get s.next=some (.cells rs[k].cells 0):=Rk.keeps _ _ (lq.get cW)
     have abb:s7.heap.get (au s (.cells rs[k].cells 0)).next=some (.cells (kd m).cells 0):=Rk.keeps _ _ (aR _ _)
     have Jd: ∀(b:Bool) (x:List Nat),dY [.bool false,.str []] [(0,1),(1,1)] [.bool b,.str x]=some [.bool b,.str x]:=fun b x=>rfl
     have aiw: ∀(K:AV->St->Option (AV×St)) (t:St) (p:Pos),af c (.lenB .l) [.slice p 0 3 (some 3) 2] t K=K (.int .i64 3) t:=fun K t p=>BD c K t _ _ _ _ _
     simp[-iZ,hb6,hb7,a1,hb6',hb7',XR,Jd,aiw,b1]
     refine kJ (P:=fun j3=> ∀s' v,Wk (au (au s (.cells rs[k].cells 0)) (.cells (kd m).cells 0)) .aj s' v->QS 1 s' v ((gK (kd m) rs[k]).map mz)->
        Q (j3 [.ptr X 0,.map M,.ptr s.next 0,v,eV z rs,.int .i64 (rs.length:Int),.int .i64 (k:Int)] s')) ?_ ?_
     .  intro s9 v9 hW9 hQ9
        have hT:jL rs[k]=gG [32] (gK (kd m) rs[k])++[10]:=by unfold jL;rw[hkm]
        have hjl:(gG [32] (gK (kd m) rs[k])).length+1<=2097152:=by have:=oO.len;rw[hT,List.length_append] at this;exact this
        have en:gK (kd m) rs[k]≠[]:=by unfold gK p9;split<;>simp
        have zg:(gK (kd m) rs[k]).length<=1000:=by
          unfold gK p9 gw
          simp only[List.length_append]
          split<;>split<;>split<;>split<;>split<;>simp
        have hJ:=abU hc hQ9 en zg (by omega)
        have V6:=Rj (c:=c) s9 (gG [32] (gK (kd m) rs[k])) [10] (by simp only[List.length_cons,List.length_nil];omega)
        rw[<-hT] at V6
        have xk:c 35 [.str (jL rs[k])] s9=some (ag.Jr (ag.l5 (ag.aO (jL rs[k]))),s9):=abX hc (by unfold F9;simp only[gb,decide_eq_true oO.len])
        have hI9:FI st s9 X M N0 bs:=hI.more ((hg12.keeps).trans hW9.keeps) (by have:=hg12.next;have:=hW9.next;omega) hW9.wf
        have hb9:s9.heap.get s.next=some (.cells rs[k].cells 0):=hW9.keeps _ _ (lq.get cW)
        have hstz:=fun (l:List AV) (hl:l.length=6) (h1:cS l=true) (K:AV->St->Option (AV×St))=>bW c K s9 6 (.agg l) [.int .u8 0,.int .i64 0,.str [],.str [],.str [],.int .i64 0] hl rfl h1
        rcases wZ:ag.l5 (ag.aO (jL rs[k])) with e|q
        . have dr:BF rs[k]=false:=by unfold BF;rw[wZ]
          have he: ¬e=0:=by have:=ag.OI wZ;omega
          rw[wZ] at xk
          have US:=Grew.au hI9.wf (.cells [.int .u8 0,.int .i64 0,.str [],.str [],.str [],.int .i64 0] 0)
          have:=nR dr _ (hI9.keep.trans US.keeps)
          have hst0:=hstz [.int .u8 0,.int .i64 0,.str [],.str [],.str [],.int .i64 0] rfl rfl
          rw[show (AV.agg [.int .u8 0,.int .i64 0,.str [],.str [],.str [],.int .i64 0]).cells=[.int .u8 0,.int .i64 0,.str [],.str [],.str [],.int .i64 0] from rfl] at hst0
          simpa [-bW,hJ,V6,xk,ag.Jr,hst0,he] using this
        . rw[ wZ] at xk
          have US:=Grew.au hI9.wf (.cells (ag.Al q) 0)
          have XT:=hI9.more US.keeps US.next US.wf
          have hbz:(au s9 (.cells (ag.Al q) 0)).heap.get s.next=some (.cells rs[k].cells 0):=US.get hb9
          have abc:cut (ag.Al q) 0 6=some (ag.Al q):=fB rfl
          have hneq:=fun (K:AV->St->Option (AV×St))=>aak (c:=c) (au s9 (.cells (ag.Al q) 0)) q rs[k] K
          have aal:=hstz (ag.Al q) rfl rfl
          rw[show (AV.agg (ag.Al q)).cells=ag.Al q from rfl] at aal
          cases Je:Di q rs[k] with
          | false=>
            have dr:BF rs[k]=false:=by unfold BF;rw[wZ];exact Je
            have:=nR dr _ XT.keep
            simpa [-bW,hJ,V6,xk,ag.Jr,aal,hbz,abc,hneq,Je] using this
          | true=>
            have dr:BF rs[k]=true:=by unfold BF;rw[wZ];exact Je
            have htn:jL rs[k]≠[]:=by rw[hT];simp
            obtain ⟨bL,d1,d2,d3,d4⟩:=Ns hc XT.wf XT.Ri htn oO.byte (by have:=oO.len;omega)
            have hI11:FI st bL X M N0 (bs++jL rs[k]):=⟨d3,fun b x hb=>by
              obtain ⟨o1,o2⟩:=hI.dJ b x hb
              rw[d4 b o2 o1];exact XT.keep b x hb,d2,by rw[d4 M hI.neM hI.ltM];exact XT.map,hI.ltM,hI.neM,hI.dJ⟩
            have:=hj dr bL hI11
            simpa [-bW,hJ,V6,xk,ag.Jr,aal,hbz,abc,hneq,Je,d1] using this
     .  intro j3 hj3
        cases hn:(kd m).n with
        | false=>
          have:=hj3 s7 v7 Rk (by simpa [gK,hn] using hQ7)
          simpa [abb,hn] using this
        | true=>
          have hit:=UQ hc oO.n s7
          have hr7: ∀r∈(p9 (kd m) rs[k]++gw (kd m) rs[k]).map mz,r.length=1:=fun r hr=>by
            simp only[List.mem_map] at hr
            obtain ⟨x,_,rfl⟩:=hr;rfl
          have hl7:((p9 (kd m) rs[k]++gw (kd m) rs[k]).map mz).length<=10:=by
            unfold p9 gw
            simp only[List.length_map,List.length_append]
            split<;>split<;>split<;>split<;>simp
          obtain ⟨s8,v8,d1,d2,d3⟩:=hQ7.PL (c:=c) (R:=AV×St) (bytes:=16) (z:=[.str []]) (x:= .str (eG rs[k].n)) Rk.wf hr7 rfl rfl rfl (by omega) (by omega)
          have:=hj3 s8 v8 (Rk.trans gm d3) (by simpa [gK,hn,AV.cells] using d2)
          simpa [-iZ,abb,aiv,hn,hit,d1] using this
   . intro j2 mA
     have xU:=Grew.au gm (.cells [.str [104,97,114,100]] 0)
     have n6:(au (au (au s (.cells rs[k].cells 0)) (.cells (kd m).cells 0)) (.cells [.str [104,97,114,100]] 0)).heap.get s.next=some (.cells rs[k].cells 0):=QZ
     by_cases td:0<rs[k].wt
     .  rw[if_pos td] at mA
        have hit:=UQ hc oO.wt (au (au (au s (.cells rs[k].cells 0)) (.cells (kd m).cells 0)) (.cells [.str [104,97,114,100]] 0))
        have hg4:=Grew.au xU.wf (.cells [.str [119,101,105,103,104],.str (eG rs[k].wt)] 0)
        have:=mA (au (au (au (au s (.cells rs[k].cells 0)) (.cells (kd m).cells 0)) (.cells [.str [104,97,114,100]] 0)) (.cells [.str [119,101,105,103,104],.str (eG rs[k].wt)] 0)) (.slice (au (au (au s (.cells rs[k].cells 0)) (.cells (kd m).cells 0)) (.cells [.str [104,97,114,100]] 0)).next 0 2 (some 2) 1)
          ⟨hg4.wf,(xU.trans hg4).next,fun p b _ hb=>(xU.trans hg4).get hb,fun p hp=> .inr (by simp only[jR] at hp;simp at hp;subst hp;exact xU.next)⟩
          (.inr (.inl ⟨_,0,some 2,_,rfl,aR _ _,by simp,by simp,.inr rfl⟩))
        simpa [-iZ,eV,n6,td,hit,abW] using this
     .  rw[if_neg td] at mA
        have:=mA (au (au (au s (.cells rs[k].cells 0)) (.cells (kd m).cells 0)) (.cells [.str [104,97,114,100]] 0)) (.slice (au (au s (.cells rs[k].cells 0)) (.cells (kd m).cells 0)).next 0 1 (some 1) 1)
          ⟨xU.wf,xU.next,fun p b _ hb=>xU.get hb,fun p hp=> .inr (by simp only[jR] at hp;simp at hp;subst hp;exact Nat.le_refl _)⟩
          (.inr (.inl ⟨_,0,some 1,_,rfl,aR _ _,by simp,by simp,.inr rfl⟩))
        simpa [eV,n6,td] using this
def qa:List Rl->List Nat->List Nat
 |[],acc=>acc
 |r::rs,acc=>if BF r=true then qa rs (acc++jL r) else []
def fmtS (rs:List Rl):List Nat:=if 64<rs.length then [] else qa rs []
theorem aam (hc:Sem c) {st:St} {X M:Pos} {N0:Nat} (z:Bool) (rs:List Rl) (IF:rs.length<=64) (oO: ∀r∈rs,r.Fit) (F:Nat) (hF:4<=F) (k1 k2) (Q:Option (AV×St)->Prop) (nR: ∀s',qa rs []=[]->cB st s'->Q (k1 [.str []] s'))
  (F6: ∀s',FI st s' X M N0 (qa rs [])->Q (k2 [.ptr X 0] s')): ∀(n k:Nat) (s:St) (bs:List Nat),rs.length<=k+n->k<=rs.length->bs.length<=k*2097152->FI st s X M N0 bs->qa rs []=qa (rs.drop k) bs->
  Q (ja c F k1 k2 (n+1) [.ptr X 0,.map M,eV z rs,.int .i64 (rs.length:Int),.int .i64 (k:Int)] s):=by
 intro n
 induction n with
 |zero=>
  intro k s bs h1 h2 hb hI hg
  obtain rfl:k=rs.length:=by omega
  rw[List.drop_length] at hg
  rw[ja]
  have:=F6 s (by rw[hg];exact hI)
  simpa [eV] using this
 |succ n ih=>
  intro k s bs h1 h2 hb hI hg
  by_cases hk:k<rs.length
  . have hd:rs.drop k=rs[k]::rs.drop (k+1):=List.drop_eq_getElem_cons hk
    have hf:=oO _ (List.getElem_mem hk)
    rw[hd,qa] at hg
    refine XS hc z rs k hk IF hf hI (by omega) F (n+1) hF k1 k2 Q (fun dr s' Ot=> ?_) (fun dr s' qI=> ?_)
    .   rw[if_pos dr] at hg
        exact ih (k+1) s' _ (by omega) (by omega) (by rw[List.length_append];have:=hf.len;omega) Ot hg
    .   rw[if_neg (by rw[dr];simp)] at hg
        exact nR s' hg qI
  . obtain rfl:k=rs.length:=by omega
    rw[List.drop_length] at hg
    rw[ja]
    have:=F6 s (by rw[hg];exact hI)
    simpa [eV] using this
theorem OJ: ∀(rs:List Rl) (acc:List Nat),(∀r∈rs,(jL r).length<=2097152)->(qa rs acc).length<=acc.length+rs.length*2097152
 |[],acc,_=>by simp[qa]
 |r ::rs,acc,h=>by
  unfold qa
  split
  . have:=OJ rs (acc++jL r) fun q hq=>h q (List.mem_cons_of_mem _ hq)
    have:=h r (by simp)
    simp only[List.length_append,List.length_cons] at*
    omega
  . simp
theorem XU (hc:Sem c) (z:Bool) (rs:List Rl) (hl:rs.length<=1048576) (oO:rs.length<=64-> ∀r∈rs,r.Fit) (st:St) (hw:Wf st):c 7 [eV z rs] st=some (.str (fmtS rs),st):=by
 by_cases IF:64<rs.length
 . rw[Dj hc 1 (r:=(.str (fmtS rs),st)),aX (Plain.str _) (cB.refl st)]
   rw[u6]
   have:fmtS rs=[]:=by unfold fmtS;rw[if_pos IF]
   rw[this]
   have hd:decide ((64:Int)<(rs.length:Int))=true:=decide_eq_true (by omega)
   simp[eV,hd]
 . have hf:=oO (by omega)
   have hS:fmtS rs=qa rs []:=by unfold fmtS;rw[if_neg IF]
   have Ak:=Grew.au hw (.typed 81 [.bq,.aj])
   have lq:=Grew.au Ak.wf (.map uG 18)
   have hK:=KQ hc (au st (.typed 81 [.bq,.aj]))
   have hn1:(au st (.typed 81 [.bq,.aj])).next.toNat=st.next.toNat+1:=by rw[jQ,Pos.aG]
   have UN:(au (au st (.typed 81 [.bq,.aj])) (.map uG 18)).next.toNat=st.next.toNat+2:=by rw[jQ,Pos.aG,hn1]
   have hI:FI st (au (au st (.typed 81 [.bq,.aj])) (.map uG 18)) st.next (au st (.typed 81 [.bq,.aj])).next (st.next.toNat+2) []:=
    ⟨lq.wf,(Ak.trans lq).keeps,⟨by omega,by omega,fun x hx=>by simp at hx,.bq,.aj,lq.get (aR _ _),.inl rfl,.inl ⟨rfl,rfl⟩⟩,aR _ _,by omega,fun e=>by have:=congrArg Pos.toNat e;omega,fun b x hb=>by
        have:=hw b x hb
        exact ⟨by omega,fun e=>by subst e;omega⟩⟩
   have key: ∃s',u6 c 101 (eV z rs) st=some (.str (fmtS rs),s')/\cB st s':=by
    have L:=aam hc z rs (by omega) hf 101 (by omega) (fun vs xo=>ay vs fun x2 vs=>bw vs (
   some (x2,xo))) (fun vs yw=>ay vs fun x3 vs=>bw vs (
   af c (.callF 37) [x3] yw fun pR yx=>
 af c .move [pR] yx fun x2 yy=>
 some ( x2,yy))) (fun o=> ∃s',o=some (.str (fmtS rs),s')/\cB st s') (fun s' h0 hk=>⟨s',by simp[hS,h0],hk⟩) (fun s' Ot=>by
        have hlen:=OJ rs [] fun r hr=>(hf r hr).len
        simp only[List.length_nil,Nat.zero_add] at hlen
        obtain ⟨UJ,d1,d2⟩:=VR hc Ot.Ri (by omega)
        refine ⟨UJ,by simp[d1,hS],fun b x hb=> ?_⟩
        obtain ⟨o1,o2⟩:=Ot.dJ b x hb
        rw[d2 b o1];exact Ot.keep b x hb) 100 0 _ [] (by omega) (by omega) (by simp) hI (by simp)
    obtain ⟨s',L1,L2⟩:=L
    refine ⟨s',?_,L2⟩
    rw[u6]
    have hd:decide ((64:Int)<(rs.length:Int))=false:=decide_eq_false (by omega)
    simp[VQ,hK,eV,hd] at L1 ⊢
    exact L1
   obtain ⟨s',k1,k2⟩:=key
   rw[Dj hc 101 (r:=(.str (fmtS rs),s')) k1,aX (Plain.str _) k2]
end Go.Proofs.YtehbdakjkjkekaaGreatDoor
end
section
set_option maxRecDepth 100000
namespace Go.Proofs.YtehbdakjkjkekaaGreatDoor
open Go Go.Ai Go.Proofs
variable {c : ai}
def Rl.Ok (r:Rl):Prop:=0<=r.k/\r.k<256
def uD (p:fG) (r:Rl):Int:=DR (kd r.k.toNat) p r
def qs (p:fG):Nat->Nat->Int×Int
 |0,_=>(0,0)
 |  m+1,i=>match p.rs[i]? with
    |none=>(0,0)
    |some r=>if uD p r≠0 then ((i:Int),uD p r) else if i=64 then ((i:Int),7) else qs p m (i+1)
theorem Ke (p:fG): ∀(m i:Nat),(qs p m i).2=0->(qs p m i).1=0
 |0,_,_=>rfl
 |m+    1,i,h=>by
  rw[qs] at h ⊢
  cases h0:p.rs[i]? with
  |none=>rfl
  |some r=>
   rw[h0] at h
   simp only at h ⊢
   by_cases h1:uD p r=0
   .    rw[if_neg (by simp[h1])] at h ⊢
        by_cases h2:i=64
        . rw[if_pos h2] at h;simp at h
        . rw[if_neg h2] at h ⊢; exact Ke p m (i+1) h
   .    rw[if_pos h1] at h;exact absurd h h1
def nu (p:fG):Int×Int:=if (je p).2≠0 then je p else qs p 100 0
theorem V7 (hc:Sem c) (p:fG) (hp:p.sS) (hr: ∀r∈p.rs,r.Ok) (hv:(cD p.ts).2=0) (q1 mp:Pos) (cl:Nat) (F:Nat) (k1 k2): ∀(m k:Nat) (st:St),Wf st->st.heap.get q1=some (.cells p.cells 0)->st.heap.get mp=some (.map uG cl)->p.rs.length<=k+m->k<=p.rs.length->
  ∃st',Grew st st'/\mW c F k1 k2 (m+1) [.ptr q1 0,.map mp,eV p.rz p.rs,.int .i64 (p.rs.length:Int),.int .i64 (k:Int)] st=if (qs p m k).2=0 then k2 [] st' else k1 [.int .i64 (qs p m k).1,.int .i64 (qs p m k).2] st':=by
 have hl:=hp.rs
 intro m
 induction m with
 |zero=>
  intro k st hw h1 h2 h3 h4
  obtain rfl:k=p.rs.length:=by omega
  refine ⟨st,Grew.refl hw,?_⟩
  rw[mW]
  simp[qs]
 |succ m ih=>
  intro k st hw hq hm h3 h4
  by_cases h:k<p.rs.length
  . have w:aY .i64 ((k:Int)+1)=((k+1:Nat):Int):=wrap64 (by omega) (by omega)
    have cH:Wf (au st (.cells p.rs[k].cells 0)):=eB hw
    have hg:=Grew.au hw (.cells p.rs[k].cells 0)
    have hq1:=hg.get hq
    have XV:=hg.get hm
    have hn:=aR st (.cells p.rs[k].cells 0)
    obtain ⟨n,hk⟩: ∃n:Nat,p.rs[k].k=(n:Int):=⟨p.rs[k].k.toNat,by have:=(hr _ (List.getElem_mem h)).1;omega⟩
    have Ui:=OH hc (kd n) (UO n) p hp hv p.rs[k] _ cH
    have hS:uD p p.rs[k]=DR (kd n) p p.rs[k]:=by unfold uD;rw[hk];rfl
    have yX:=fun (K:AV->St->Option (AV×St))=>UM c K _ mp cl XV n
    have mI:=fun (K:AV->St->Option (AV×St))=>bW c K st 6 (.agg p.rs[k].cells) [.int .u8 0,.int .i64 0,.str [],.str [],.str [],.int .i64 0] rfl rfl (Rl.one _)
    rw[show (AV.agg p.rs[k].cells).cells=p.rs[k].cells from rfl] at mI
    rw[<-hS] at Ui
    rw[<-hk] at yX
    obtain ⟨st',g1,g2⟩:=ih (k+1) _ cH hq1 XV (by omega) (by omega)
    rw[mW,qs,List.getElem?_eq_getElem h]
    simp only
    by_cases h5:uD p p.rs[k]=0
    .   rw[if_neg (by simp[h5])]
        by_cases h6:k=64
        . refine ⟨_,hg,?_⟩
          rw[if_pos h6]
          have h6i:decide ((k:Int)=64)=true:=by simp only[decide_eq_true_eq];omega
          simp[-bW,mI,eV,h,hq1,XV,yX,Ui,h5,h6i]
        . refine ⟨st',hg.trans g1,?_⟩
          rw[if_neg h6, <-g2]
          have h6i: ¬(k:Int)=64:=by omega
          simp[-bW,mI,eV,h,hq1,XV,yX,Ui,h5,h6i,w]
    .   refine ⟨_,hg,?_⟩
        rw[if_pos h5]
        simp[-bW,mI,eV,h,hq1,XV,yX,Ui,h5]
  . obtain rfl:k=p.rs.length:=by omega
    refine ⟨st,Grew.refl hw,?_⟩
    rw[mW]
    simp[qs]
theorem Kf {p:fG} (h:(je p).2=0):(cD p.ts).2=0:=by
 unfold je at h
 by_cases h1:(cD p.ts).2=0
 . exact h1
 . rw[if_pos h1] at h;exact absurd h h1
theorem Po (hc:Sem c) (p:fG) (hp:p.sS) (hR:ED c p) (hr: ∀r∈p.rs,r.Ok) (st:St) (hw:Wf st):c 17 [.agg p.cells] st=some (.tuple [.int .i64 (nu p).1,.int .i64 (nu p).2],st):=by
 have Ia:Plain (.tuple [.int .i64 (nu p).1,.int .i64 (nu p).2]):=Plain.tuple (by simp[Plain.int])
 have cH:Wf (au st (.cells p.cells 0)):=eB hw
 have Ak:=Grew.au hw (.cells p.cells 0)
 have oJ:(au st (.cells p.cells 0)).heap.get st.next=some (.cells p.cells 0):=aR _ _
 have B:=Rd hc p hp hR _ cH
 by_cases h:(je p).2=0
 . have hv:=Kf h
   have K:=KQ hc (au st (.cells p.cells 0))
   have gm:Wf (au (au st (.cells p.cells 0)) (.map uG 18)):=eB cH
   have lq:=Grew.au cH (.map uG 18)
   obtain ⟨st',g1,g2⟩:=V7 hc p hp hr hv st.next (au st (.cells p.cells 0)).next 18 101 (fun vs og=>ay vs fun x2 vs=>ay vs fun x3 vs=>bw vs (
   some (.tuple [x2,x3],og))) (fun vs nU=>bw vs (
   af c .move [(.int .i64 0)] nU fun x2 nV=>
 af c .move [(.int .i64 0)] nV fun x3 nW=>
 some (.tuple [x2,x3],nW))) 100 0 _ gm (lq.get oJ) (aR _ _) (by have:=hp.rs;omega) (by omega)
   have e:nu p=qs p 100 0:=by unfold nu;rw[if_neg (by simp[h])]
   have e0:=TF h
   rw[EE hc 101 (r:=(.tuple [.int .i64 (nu p).1,.int .i64 (nu p).2],st')),aX Ia ((Ak.trans lq).trans g1).keeps]
   rw[AI,e]
   simp at g2
   simp[oJ,B,h,K,g2]
   by_cases h2:(qs p 100 0).2=0
   . have:=Ke p 100 0 h2
     simp[h2,this]
   . simp[h2]
 . have e:nu p=je p:=by unfold nu;rw[if_pos h]
   rw[EE hc 101 (r:=(.tuple [.int .i64 (nu p).1,.int .i64 (nu p).2],au st (.cells p.cells 0))),aX Ia Ak.keeps]
   rw[AI,e]
   simp[oJ,B,h]
end Go.Proofs.YtehbdakjkjkekaaGreatDoor
end
section
set_option maxRecDepth 100000
namespace Go.Proofs.YtehbdakjkjkekaaGreatDoor
open Go Go.Ai Go.Proofs
variable {c : ai}
def fT (k:Int):Bool:=decide (k=1)||decide (k=2)||decide (k=3)||decide (k=4)||decide (k=5)
theorem xp (hc:Sem c) (k:Int) (st:St):c 41 [.int .u8 k] st=some (.bool (fT k),st):=by
 rw[Ga hc 1 (r:=(.bool (fT k),st)),aX (Plain.bool _) (cB.refl st)]
 rw[BH]
 unfold fT
 by_cases e0:k=1
 . simp[e0]
 by_cases e1:k=2
 . simp[e0,e1]
 by_cases e2:k=3
 . simp[e0,e1,e2]
 by_cases e3:k=4
 . simp[e0,e1,e2,e3]
 by_cases e4:k=5
 . simp[e0,e1,e2,e3,e4]
 simp[e0,e1,e2,e3,e4]
def oh (k:Int):Bool:=decide (k=6)||decide (k=7)||decide (k=10)
theorem MF (hc:Sem c) (k:Int) (st:St):c 42 [.int .u8 k] st=some (.bool (oh k),st):=by
 rw[Gb hc 1 (r:=(.bool (oh k),st)),aX (Plain.bool _) (cB.refl st)]
 rw[BI]
 unfold oh
 by_cases e0:k=6
 . simp[e0]
 by_cases e1:k=7
 . simp[e0,e1]
 by_cases e2:k=10
 . simp[e0,e1,e2]
 simp[e0,e1,e2]
def yA (k:Int):Bool:=decide (k=1)||decide (k=4)||decide (k=7)||decide (k=15)||decide (k=16)
theorem Dk (hc:Sem c) (k:Int) (st:St):c 45 [.int .u8 k] st=some (.bool (yA k),st):=by
 rw[CB hc 1 (r:=(.bool (yA k),st)),aX (Plain.bool _) (cB.refl st)]
 rw[xV]
 unfold yA
 by_cases e0:k=1
 . simp[e0]
 by_cases e1:k=4
 . simp[e0,e1]
 by_cases e2:k=7
 . simp[e0,e1,e2]
 by_cases e3:k=15
 . simp[e0,e1,e2,e3]
 by_cases e4:k=16
 . simp[e0,e1,e2,e3,e4]
 simp[e0,e1,e2,e3,e4]
def lQ (k:Int):Int:=if fT k=true\/k=10 then 0 else if k=6\/k=7\/k=17 then 1 else 2
theorem Dl (hc:Sem c) (k:Int) (st:St):c 44 [.int .u8 k] st=some (.int .i64 (lQ k),st):=by
 rw[CC hc 1 (r:=(.int .i64 (lQ k),st)),aX (Plain.int _ _) (cB.refl st)]
 rw[xW]
 have t:=xp hc k st
 unfold lQ
 cases h:fT k with
 |true=>simp[t,h]
 |false=>
  by_cases e1:k=10
  . rw[e1] at t h;simp[t,h,e1]
  by_cases e2:k=6
  . rw[e2] at t h;simp[t,h,e2]
  by_cases e3:k=7
  . rw[e3] at t h;simp[t,h,e3]
  by_cases e4:k=17
  . rw[e4] at t h;simp[t,h,e4]
  simp[t,h,e1,e2,e3,e4]
def wl:List AV:=(List.range 19).map fun i=> .str (kd i).w
theorem Rm {R:Type} (c:ai) (K:AV->St->Option R) (st:St) (es len:Nat) (z:List AV) (ps:List Nat) (xs l:List AV) (h:dY (dG z len) (ps.map fun i=>(i*es,es)) xs=some l):
  af c (.buildSlice es len z ps) xs st K=K (.slice st.next 0 len (some len) es) (au st (.cells l 0)):=by
 rw[iZ,h];rfl
theorem afY (n:Nat) (h:n<19):wl[n]? =some (.str (kd n).w):=by simp[wl,h]
theorem NI (hc:Sem c) (n:Nat) (hn:n<256) (st:St) (hw:Wf st):c 39 [.int .u8 (n:Int)] st=some (.str (kd n).w,st):=by
 have w:aY .i64 (n:Int)=(n:Int):=wrap64 (by omega) (by omega)
 rw[EF hc 1 (r:=(.str (kd n).w,au st (.cells wl 0))),aX (Plain.str _) (iK hw)]
 rw[An]
 rw[aP,Rm (l:=wl) (h:=rfl)]
 have hlen: ∀(K:AV->St->Option (AV×St)) (s:St),af c (.lenB .l) [.slice st.next 0 19 (some 19) 1] s K=K (.int .i64 19) s:=fun K s=>dm c K (fun H n=>rfl) s
 by_cases h:19<=n
 . have e:(kd n).w=[]:=by unfold kd;split<;>first|rfl|omega
   have hi:(19:Int)<=(n:Int):=by omega
   simp[w,h,hi,e,hlen]
 . have hi: ¬(19:Int)<=(n:Int):=by omega
   have h':n<19:=by omega
   have hidx: ∀(K:AV->St->Option (AV×St)) (s:St),af c (.idxA 1 none) [.slice st.next 0 19 (some 19) 1,.int .u8 (n:Int)] s K=K (.ptr st.next n) s:=fun K s=>dm c K (fun H m=>by
    simp[aE.run,uw,pO,VK,h']) s
   simp[w,h,hi,h',afY,hlen,hidx]
theorem Rn (z:Bool) (ts:List bO) (s:List Nat) (hl:ts.length<=100) (F:Nat) (st:St) (k1 k2): ∀(m k:Nat),ts.length<=k+m->k<=ts.length->
  fc c F k1 k2 (m+1) [tabs z ts,.str s,.int .i64 (k:Int)] st=if 0<=scan (kU ts s) (ts.length - k) k then k1 [.int .i64 (scan (kU ts s) (ts.length - k) k)] st else k2 [] st:=by
 intro m
 induction m with
 |zero=>
  intro k h1 h2
  obtain rfl:k=ts.length:=by omega
  rw[fc]
  simp[scan]
 |succ m ih=>
  intro k h1 h2
  rw[fc]
  by_cases h:k<ts.length
  . have e:ts.length - k=(ts.length - (k+1))+1:=by omega
    have w:aY .i64 ((k:Int)+1)=((k+1:Nat):Int):=wrap64 (by omega) (by omega)
    rw[e,scan]
    by_cases hb:ts[k].name=s
    .   have cE:kU ts s k=true:=by simp[kU,h,hb]
        rw[cE]
        simp[tabs,h,hb]
    .   have cE:kU ts s k=false:=by simp[kU,h,hb]
        rw[cE]
        simp only[Bool.false_eq_true,if_false]
        rw[<-ih (k+1) (by omega) (by omega)]
        simp[tabs,h,hb,w]
  . obtain rfl:k=ts.length:=by omega
    simp[scan]
theorem V8 (hc:Sem c) (z:Bool) (ts:List bO) (s:List Nat) (hl:ts.length<=100) (st:St):c 122 [tabs z ts,.str s] st=some (.int .i64 (scan (kU ts s) ts.length 0),st):=by
 rw[BJ hc 101 (r:=(.int .i64 (scan (kU ts s) ts.length 0),st)),aX (Plain.int _ _) (cB.refl st)]
 rw[rm]
 have L: ∀k1 k2,fc c 101 k1 k2 101 [tabs z ts,.str s,.int .i64 0] st=if 0<=scan (kU ts s) ts.length 0 then k1 [.int .i64 (scan (kU ts s) ts.length 0)] st else k2 [] st:=
   fun k1 k2=>Rn z ts s hl 101 st k1 k2 100 0 (by omega) (by omega)
 have g:=EB (kU ts s) ts.length 0
 by_cases h:0<=scan (kU ts s) ts.length 0
 . simp only[h,if_true] at L
   simp[L]
 . simp only[h,if_false] at L
   have:=g.2 (by omega)
   simp[L,this]
end Go.Proofs.YtehbdakjkjkekaaGreatDoor
end
section
set_option maxRecDepth 100000
namespace Go.Proofs.YtehbdakjkjkekaaGreatDoor
open Go Go.Ai Go.Proofs
variable {c : ai}
theorem UT (hc:Sem c) (s:List Nat) (st:St):c 43 [.str s] st=some (.str (cJ s),st):=by
 rw[Hv hc 1 (r:=(.str (cJ s),st)),aX (Plain.str _) (cB.refl st)]
 rw[Dm]
 by_cases h:s=[]
 . subst h;simp[cJ]
 . simp[cJ,h]
def fU:Nat->Nat->List Nat
 |0,_=>[]
 |f+1,n=>if n<10 then [48+n] else fU f (n / 10)++[48+n % 10]
theorem yB: ∀(f n:Nat),(fU f n).length<=f
 |0,n=>by simp[fU]
 |f+1,n=>by
  have:=yB f (n / 10)
  unfold fU
  split<;>simp<;>omega
theorem XW (d:Nat) (hd:d<256) (s:St) (K:AV->St->Option (AV×St)):af c (.buildSlice 1 1 [.int .u8 0] [0]) [.int .u8 (d:Int)] s (fun x t=>af c (.conv .ofBytes) [x] t K)=K (.str [d]) (au s (.cells [.int .u8 (d:Int)] 0)):=by
 rw[show af c (.buildSlice 1 1 [.int .u8 0] [0]) [.int .u8 (d:Int)] s (fun x t=>af c (.conv .ofBytes) [x] t K)=af c (.conv .ofBytes) [.slice s.next 0 1 (some 1) 1] (au s (.cells [.int .u8 (d:Int)] 0)) K from rfl]
 have:aE.run (fun b=>(au s (.cells [.int .u8 (d:Int)] 0)).heap.get b) (au s (.cells [.int .u8 (d:Int)] 0)).next (.conv .ofBytes) [.slice s.next 0 1 (some 1) 1]=some (.val (.str [d])):=by
  have hd':Nat.blt d 256=true:=by simpa using hd
  simp only[aE.run,uv,aR]
  show (match bytesOf [.int .u8 (.ofNat d)] with|some s=>some (di.val (.str s))|none=>none)=_
  simp only[bytesOf,hd']
 unfold af cU;rw[this]
theorem V9 (x:Int) (d:Nat) (hx:x=(d:Int)) (hd:d<256) (s:St) (K:AV->St->Option (AV×St)):af c (.buildSlice 1 1 [.int .u8 0] [0]) [.int .u8 x] s (fun x t=>af c (.conv .ofBytes) [x] t K)=K (.str [d]) (au s (.cells [.int .u8 x] 0)):=by
 subst hx;exact XW d hd s K
theorem IG (hc:Sem c): ∀(f n:Nat),n<10 ^ f->f<=10->0<f-> ∀st:St,Wf st->c 40 [.int .i64 (n:Int)] st=some (.str (fU f n),st)
 |0,n,_,_,h0,_,_=>by omega
 |f +   1,n,hn,hf,_,st,hw=>by
  have hp:10 ^ (f+1)<=10 ^ 10:=Nat.pow_le_pow_right (by decide) hf
  have hn10:n<10000000000:=by   have:(10:Nat) ^ 10=10000000000:=by decide
                                omega
  by_cases h:n<10
  . have hS:fU (f+1) n=[48+n]:=by unfold fU;rw[if_pos h]
    have hg:=Grew.au hw (.cells [.int .u8 (48+(n:Int))] 0)
    rw[hS,wB hc 1 (r:=(.str [48+n],au st (.cells [.int .u8 (48+(n:Int))] 0))),aX (Plain.str _) hg.keeps]
    rw[uS]
    have w1:aY .i64 (48+(n:Int))=48+(n:Int):=wrap64 (by omega) (by omega)
    have w2:aY .u8 (48+(n:Int))=48+(n:Int):=VJ (by omega) (by omega)
    have hd:decide ((n:Int)<10)=true:=decide_eq_true (by omega)
    have Wa: ∀(i:Int) (K:AV->St->Option (AV×St)) (t:St),af c (.conv (.int .u8)) [.int .i64 i] t K=K (.int .u8 (aY .u8 i)) t:=fun i K t=>rfl
    have hdig:=fun K=>V9 (c:=c) (48+(n:Int)) (48+n) (by omega) (by omega) st K
    simp[-iZ,hd,w1,w2,Wa,hdig]
  . have hf0:0<f:=by
        rcases Nat.eq_zero_or_pos f with h0|h0
        . subst h0;simp at hn;omega
        . exact h0
    have hS:fU (f+1) n=fU f (n / 10)++[48+n % 10]:=by rw[fU,if_neg h]
    have ih:=IG hc f (n / 10) (by rw[Nat.pow_succ] at hn;omega) (by omega) hf0 st hw
    have hg:=Grew.au hw (.cells [.int .u8 (48+((n:Int) % 10))] 0)
    rw[hS,wB hc 1 (r:=(.str (fU f (n / 10)++[48+n % 10]),au st (.cells [.int .u8 (48+((n:Int) % 10))] 0))),aX (Plain.str _) hg.keeps]
    rw[uS]
    have hd:decide ((n:Int)<10)=false:=decide_eq_false (by omega)
    have hquo: ∀(K:AV->Option (AV×St)),bg (.bin .quo .num) [.int .i64 (n:Int),.int .i64 10] K=K (.int .i64 ((n / 10:Nat):Int)):=fun K=>by
        have:aE.run (fun _=>none) .h (.bin .quo .num) [.int .i64 (n:Int),.int .i64 10]=some (.val (.int .i64 ((n / 10:Nat):Int))):=by
          have e0:qW (10:Int) 0=false:=rfl
          have e1:(n:Int).tdiv 10=((n / 10:Nat):Int):=by rw[Int.tdiv_eq_ediv_of_nonneg (by omega)];omega
          have e2:aY .i64 ((n / 10:Nat):Int)=((n / 10:Nat):Int):=wrap64 (by omega) (by omega)
          simp only[aE.run,iH,n8,dK,e0,e1,e2]
        unfold bg;rw[this]
    have hrem: ∀(K:AV->Option (AV×St)),bg (.bin .rem .num) [.int .i64 (n:Int),.int .i64 10] K=K (.int .i64 ((n:Int) % 10)):=fun K=>by
        have:aE.run (fun _=>none) .h (.bin .rem .num) [.int .i64 (n:Int),.int .i64 10]=some (.val (.int .i64 ((n:Int) % 10))):=by
          have e0:qW (10:Int) 0=false:=rfl
          have e1:(n:Int).tmod 10=(n:Int) % 10:=Int.tmod_eq_emod_of_nonneg (by omega)
          simp only[aE.run,iH,n8,dK,e0,e1]
        unfold bg;rw[this]
    have w1:aY .i64 (48+(n:Int) % 10)=48+(n:Int) % 10:=wrap64 (by omega) (by omega)
    have w2:aY .u8 (48+(n:Int) % 10)=48+(n:Int) % 10:=VJ (by omega) (by omega)
    have Wa: ∀(i:Int) (K:AV->Option (AV×St)),bg (.conv (.int .u8)) [.int .i64 i] K=K (.int .u8 (aY .u8 i)):=fun i K=>rfl
    have hcat: ∀(x y:List Nat) (K:AV->Option (AV×St)),x.length+y.length<=9223372036854775807->bg (.bin .add .num) [.str x,.str y] K=K (.str (x++y)):=fun x y K hxy=>by
        have:aE.run (fun _=>none) .h (.bin .add .num) [.str x,.str y]=some (.val (.str (x++y))):=by simp only[aE.run,iH,n8,gb,decide_eq_true hxy]
        unfold bg;rw[this]
    have fO: ∀(K:AV->AB->Option (AV×St)),By (.buildSlice 1 1 [.int .u8 0] [0]) [.int .u8 (48+(n:Int) % 10)] st K=K (.slice st.next 0 1 (some 1) 1) (.cells [.int .u8 (48+(n:Int) % 10)] 0):=fun K=>abM rfl rfl st K
    have hrd: ∀(h2:T AB) (K:AV->Option (AV×St)),fE (.conv .ofBytes) [.slice st.next 0 1 (some 1) 1] (T.put (some (.cells [.int .u8 (48+(n:Int) % 10)] 0)) st.next st.heap) (fun v=>dH (.conv .ofBytes) [.slice st.next 0 1 (some 1) 1] v (eo [(st.next,.cells [.int .u8 (48+(n:Int) % 10)] 0)] h2)) K=K (.str [48+n % 10]):=fun h2 K=>by
        have hb:bytesOf [.int .u8 (48+(n:Int) % 10)]=some [48+n % 10]:=by
          have:(48+(n:Int) % 10)=((48+n % 10:Nat):Int):=by omega
          rw[this]
          have hd':Nat.blt (48+n % 10) 256=true:=by simp;omega
          show bytesOf [.int .u8 (.ofNat (48+n % 10))]=_
          simp only[bytesOf,hd']
        have run: ∀H:T AB,aE.run (fun b=>(T.put (some (.cells [.int .u8 (48+(n:Int) % 10)] 0)) st.next H).get b) .h (.conv .ofBytes) [.slice st.next 0 1 (some 1) 1]=some (.val (.str [48+n % 10])):=fun H=>by
          simp only[aE.run,uv,T.fj]
          show (match bytesOf [.int .u8 (48+(n:Int) % 10)] with|some s=>some (di.val (.str s))|none=>none)=_
          rw[hb]
        unfold fE
        rw[show aE.run (fun _=>none) .h (.conv .ofBytes) [.slice st.next 0 1 (some 1) 1]=none from rfl]
        simp only[run]
        have:dH (.conv .ofBytes) [.slice st.next 0 1 (some 1) 1] (.str [48+n % 10]) (eo [(st.next,.cells [.int .u8 (48+(n:Int) % 10)] 0)] h2)=true:=by
          unfold dH
          simp only[eo,run]
          simp[fN,oU,iY,iC]
        rw[this]
    have hl:=yB f (n / 10)
    have aix:=fun K=>hcat (fU f (n / 10)) [48+n % 10] K (by simp;omega)
    rw[show ((n / 10:Nat):Int)=(n:Int) / 10 by omega] at ih
    simp[-Mp,hd,hquo,ih,hrem,w1,w2,Wa,fO,hrd,aix]
end Go.Proofs.YtehbdakjkjkekaaGreatDoor
end
section
set_option maxRecDepth 100000
set_option linter.unusedVariables false
namespace Go.Proofs.YtehbdakjkjkekaaGreatDoor
open Go Go.Ai Go.Proofs
variable {c : ai}
def MG (r:Rl):Bool:=decide ((kd r.k.toNat).w=[])||(decide (r.wt<0)||(decide (1000<r.wt)||(decide (r.n<0)||(decide (999999999<r.n)||(decide (r.n≠0)&& !yA r.k)))))
def XX (r:Rl):Bool:=(fT r.k&&(!eU r.a|| !eU r.b))||(!fT r.k&&decide (r.b≠[]))
def XY (r:Rl):Bool:=((decide (r.k=6)||(decide (r.k=7)||decide (r.k=17)))&& !eU r.a)||(decide (r.k=10)&&(decide (r.a≠[])&& !eU r.a))
def XZ (r:Rl):Bool:= !fT r.k&&(!oh r.k&&(decide (r.k≠17)&&decide (r.a≠[])))
def oE (r:Rl):Bool:= !MG r&&(!XX r&&(!XY r&&(!XZ r&&(if lQ r.k=0 then decide (r.t=[]) else eU r.t||(decide (lQ r.k=2)&&decide (r.t=[]))))))
theorem sdA {R:Type} (hc:Sem c) {r:Rl} {q:Pos} {s:St} (hw:Wf s) (hk:0<=r.k/\r.k<256) (p:s.heap.get q=some (.cells r.cells 0)) (K:AV->AV->St->Option R):
   (af c (.fieldA 0) [(.ptr q 0)] s fun x4 s2=>
    af c (.load none) [x4] s2 fun x5 s3=>
    af c .move [x5] s3 fun x3 s4=>
    af c .move [x3] s4 fun x6 s5=>
    af c (.callF 39) [x6] s5 fun x7 s6=>
    af c (.bin .eql .num) [x7,(.str [])] s6 fun x8 s7=>
    af c .move [x8] s7 fun x9 s8=>
    ak c x9 false (.fieldA 1) [(.ptr q 0)] s8 fun aZ s9=>
    ak c x9 false (.load none) [aZ] s9 fun bh bT=>
    ak c x9 false (.bin .lss .num) [bh,(.int .i64 0)] bT fun bG bL=>
    af c .pick [x9,(.bool true),bG] bL fun bQ cr=>
    af c .move [bQ] cr fun bR cg=>
    ak c bR false (.fieldA 1) [(.ptr q 0)] cg fun bH cK=>
    ak c bR false (.load none) [bH] cK fun ct cL=>
    ak c bR false (.bin .gtr .num) [ct,(.int .i64 1000)] cL fun cw cO=>
    af c .pick [bR,(.bool true),cw] cO fun bn cX=>
    af c .move [bn] cX fun bC cP=>
    ak c bC false (.fieldA 5) [(.ptr q 0)] cP fun b9 cQ=>
    ak c bC false (.load none) [b9] cQ fun fu eD=>
    ak c bC false (.bin .lss .num) [fu,(.int .i64 0)] eD fun dW fH=>
    af c .pick [bC,(.bool true),dW] fH fun eX gh=>
    af c .move [eX] gh fun fL ir=>
    ak c fL false (.fieldA 5) [(.ptr q 0)] ir fun fy gL=>
    ak c fL false (.load none) [fy] gL fun gW gj=>
    ak c fL false (.bin .gtr .num) [gW,(.int .i64 999999999)] gj fun gY iP=>
    af c .pick [fL,(.bool true),gY] iP fun iQ fM=>
    af c .move [iQ] fM fun gM gu=>
    ak c gM false (.fieldA 5) [(.ptr q 0)] gu fun gN fV=>
    ak c gM false (.load none) [gN] fV fun jf iu=>
    ak c gM false (.bin .neq .num) [jf,(.int .i64 0)] iu fun dX iT=>
    ak c gM false .move [dX] iT fun jE lu=>
    ak c jE true .move [x3] lu fun kI j8=>
    ak c jE true (.callF 45) [kI] j8 fun iw j9=>
    ak c jE true (.un .not) [iw] j9 fun mB jD=>
    ak c gM false .pick [jE,mB,(.bool false)] jD fun iU jN=>
    af c .pick [gM,(.bool true),iU] jN fun kX kq=>
    K x3 kX kq)=K (.int .u8 r.k) (.bool (MG r)) s:=by
 obtain ⟨m,hm⟩: ∃m:Nat,r.k=(m:Int):=⟨r.k.toNat,by omega⟩
 have W:=NI hc m (by omega) s hw
 rw[<-hm] at W
 have T:=Dk hc r.k s
 have N9:r.k.toNat=m:=by omega
 unfold MG
 rw[N9]
 by_cases h1:(kd m).w=[]
 . simp[p,W,h1]
 by_cases h2:r.wt<0
 . simp[p,W,h1,h2]
 by_cases h3:1000<r.wt
 . simp[p,W,h1,h2,h3]
 by_cases h4:r.n<0
 . simp[p,W,h1,h2,h3,h4]
 by_cases h5:999999999<r.n
 . simp[p,W,h1,h2,h3,h4,h5]
 by_cases h6:r.n=0
 . simp[p,W,h1,h2,h3,h6]
 . simp[p,W,h1,h2,h3,h4,h5,h6,T]
theorem sdB {R:Type} (hc:Sem c) {r:Rl} {q:Pos} {s:St} (hw:Wf s) (hk:0<=r.k/\r.k<256) (p:s.heap.get q=some (.cells r.cells 0)) (K:AV->St->Option R):
  (af c .move [(.int .u8 r.k)] s fun jg ku=>
   af c (.callF 41) [jg] ku fun mC om=>
   af c .move [mC] om fun ji oo=>
   ak c ji true (.fieldA 2) [(.ptr q 0)] oo fun jF oq=>
   ak c ji true (.load none) [jF] oq fun mD pq=>
   ak c ji true (.callF 106) [mD] pq fun pz oK=>
   ak c ji true (.un .not) [pz] oK fun jG lz=>
   ak c ji true .move [jG] lz fun lA pE=>
   ak c lA false (.fieldA 3) [(.ptr q 0)] pE fun kg pF=>
   ak c lA false (.load none) [kg] pF fun nX p0=>
   ak c lA false (.callF 106) [nX] p0 fun fW ny=>
   ak c lA false (.un .not) [fW] ny fun nY og=>
   ak c ji true .pick [lA,(.bool true),nY] og fun nA nU=>
   af c .pick [ji,nA,(.bool false)] nU fun pG nV=>
   af c .move [pG] nV fun jH nW=>
   ak c jH false .move [(.int .u8 r.k)] nW fun mL pH=>
   ak c jH false (.callF 41) [mL] pH fun ot oL=>
   ak c jH false (.un .not) [ot] oL fun lU iy=>
   ak c jH false .move [lU] iy fun kK rS=>
   ak c kK true (.fieldA 3) [(.ptr q 0)] rS fun lB mM=>
   ak c kK true (.load none) [lB] mM fun iV u7=>
   ak c kK true (.bin .neq .num) [iV,(.str [])] u7 fun jO qt=>
   ak c jH false .pick [kK,jO,(.bool false)] qt fun qu rU=>
   af c .pick [jH,(.bool true),qu] rU fun dx p6=>
   K dx p6)=K (.bool (XX r)) s:=by
 have T:=xp hc r.k s
 have A:=Ev hc r.a s
 have B:=Ev hc r.b s
 unfold XX
 cases h1:fT r.k with
 |true=>
  cases h2:eU r.a with
  |false=>simp[p,T,A,h1,h2]
  |true=>cases h3:eU r.b<;>simp[p,T,A,B,h1,h2,h3]
 |false=>simp[p,T,h1]
theorem sdC {R:Type} (hc:Sem c) {r:Rl} {q:Pos} {s:St} (hw:Wf s) (hk:0<=r.k/\r.k<256) (p:s.heap.get q=some (.cells r.cells 0)) (K:AV->St->Option R):
   (af c .move [(.int .u8 r.k)] s fun ou qO=>
     af c (.bin .eql .num) [ou,(.int .u8 6)] qO fun qv qP=>
     af c .move [qv] qP fun lV u9=>
     ak c lV false .move [(.int .u8 r.k)] u9 fun nZ qQ=>
     ak c lV false (.bin .eql .num) [nZ,(.int .u8 7)] qQ fun ov oM=>
     af c .pick [lV,(.bool true),ov] oM fun mE tS=>
     af c .move [mE] tS fun fX uH=>
     ak c fX false .move [(.int .u8 r.k)] uH fun gO ve=>
     ak c fX false (.bin .eql .num) [gO,(.int .u8 17)] ve fun rX vg=>
     af c .pick [fX,(.bool true),rX] vg fun xq p7=>
     af c .move [xq] p7 fun qw zB=>
     ak c qw true (.fieldA 2) [(.ptr q 0)] zB fun zC vh=>
     ak c qw true (.load none) [zC] vh fun qx wC=>
     ak c qw true (.callF 106) [qx] wC fun uI xX=>
     ak c qw true (.un .not) [uI] xX fun zD xY=>
     af c .pick [qw,zD,(.bool false)] xY fun tT zE=>
     af c .move [tT] zE fun qy zF=>
     ak c qy false .move [(.int .u8 r.k)] zF fun BK Dn=>
     ak c qy false (.bin .eql .num) [BK,(.int .u8 10)] Dn fun xw Ao=>
     ak c qy false .move [xw] Ao fun sU EG=>
     ak c sU true (.fieldA 2) [(.ptr q 0)] EG fun uJ BL=>
     ak c sU true (.load none) [uJ] BL fun BM Ap=>
     ak c sU true (.bin .neq .num) [BM,(.str [])] Ap fun qz BN=>
     ak c qy false .pick [sU,qz,(.bool false)] BN fun BO zG=>
     ak c qy false .move [BO] zG fun tU BP=>
     ak c tU true (.fieldA 2) [(.ptr q 0)] BP fun BQ BR=>
     ak c tU true (.load none) [BQ] BR fun BS Aq=>
     ak c tU true (.callF 106) [BS] Aq fun zH II=>
     ak c tU true (.un .not) [zH] II fun Dp BT=>
     ak c qy false .pick [tU,Dp,(.bool false)] BT fun EH BU=>
     af c .pick [qy,(.bool true),EH] BU fun EI zI=>
     K EI zI)=K (.bool (XY r)) s:=by
 have A:=Ev hc r.a s
 unfold XY
 by_cases h1:r.k=6
 . cases h2:eU r.a<;>simp[p,A,h1,h2]
 by_cases h3:r.k=7
 . cases h2:eU r.a<;>simp[p,A,h3,h2]
 by_cases h4:r.k=17
 . cases h2:eU r.a<;>simp[p,A,h4,h2]
 by_cases h5:r.k=10
 . by_cases h6:r.a=[]
   . simp[p,h5,h6]
   . cases h2:eU r.a<;>simp[p,A,h5,h6,h2]
 . simp[p,h1,h3,h4,h5]
theorem sdD {R:Type} (hc:Sem c) {r:Rl} {q:Pos} {s:St} (hw:Wf s) (hk:0<=r.k/\r.k<256) (p:s.heap.get q=some (.cells r.cells 0)) (K:AV->St->Option R):
  (af c .move [(.int .u8 r.k)] s fun BV BW=>
   af c (.callF 41) [BV] BW fun rY BX=>
   af c (.un .not) [rY] BX fun EJ BZ=>
   af c .move [EJ] BZ fun xx B5=>
   ak c xx true .move [(.int .u8 r.k)] B5 fun tV vU=>
   ak c xx true (.callF 42) [tV] vU fun EK sD=>
   ak c xx true (.un .not) [EK] sD fun yC vV=>
   af c .pick [xx,yC,(.bool false)] vV fun yD tX=>
   af c .move [yD] tX fun qA tY=>
   ak c qA true .move [(.int .u8 r.k)] tY fun yE yF=>
   ak c qA true (.bin .neq .num) [yE,(.int .u8 17)] yF fun zY yG=>
   af c .pick [qA,zY,(.bool false)] yG fun pS yH=>
   af c .move [pS] yH fun pR yI=>
   ak c pR true (.fieldA 2) [(.ptr q 0)] yI fun yJ yK=>
   ak c pR true (.load none) [yJ] yK fun B6 xy=>
   ak c pR true (.bin .neq .num) [B6,(.str [])] xy fun zZ z8=>
   af c .pick [pR,zZ,(.bool false)] z8 fun B7 xz=>
   K B7 xz)=K (.bool (XZ r)) s:=by
 have T:=xp hc r.k s
 have O:=MF hc r.k s
 unfold XZ
 cases h1:fT r.k with
 |true=>simp[p,T,h1]
 |false=>
  cases h2:oh r.k with
  |true=>simp[p,T,O,h1,h2]
  |false=>
   by_cases h3:r.k=17
   .    rw[h3] at T O h1 h2
        simp[p,T,O,h1,h2,h3]
   .    simp[p,T,O,h1,h2,h3]
theorem abY (hc:Sem c) (r:Rl) (hk:0<=r.k/\r.k<256) (st:St) (hw:Wf st):c 38 [.agg r.cells] st=some (.bool (oE r),st):=by
 have hg:=Grew.au hw (.cells r.cells 0)
 have cH:=hg.wf
 have hb:=aR st (.cells r.cells 0)
 have B:=Dl hc r.k (au st (.cells r.cells 0))
 have Nt:=Ev hc r.t (au st (.cells r.cells 0))
 rw[EL hc 1 (r:=(.bool (oE r),au st (.cells r.cells 0))),aX (Plain.bool _) hg.keeps]
 have hbox: ∀K:AV->St->Option (AV×St),af c .box [.agg r.cells] st K=K (.ptr st.next 0) (au st (.cells r.cells 0)):=fun K=>rfl
 rw[Ar,hbox,aP,sdA hc cH hk hb]
 unfold oE
 cases h1:MG r with
 |true=>simp
 |false  =>
  rw[kG,sdB hc cH hk hb]
  cases h2:XX r with
  |true=>simp
  |false    =>
   rw[kG,sdC hc cH hk hb]
   cases h3:XY r with
   |true=>simp
   |    false=>
        rw[kG,sdD hc cH hk hb]
        cases h4:XZ r with
        |true=>simp
        |false=>
         by_cases h5:lQ r.k=0
         .  simp[hb,B,h5]
         .  cases h6:eU r.t with
            |true=>simp[hb,B,Nt,h5,h6]
            |false=>
             by_cases h7:lQ r.k=2
             . simp[hb,B,Nt,h7,h6]
             . simp[hb,B,Nt,h5,h7,h6]
end Go.Proofs.YtehbdakjkjkekaaGreatDoor
end
section
set_option maxRecDepth 100000
namespace Go.Proofs.YtehbdakjkjkekaaGreatDoor
open Go Go.Ai Go.Proofs
variable {c : ai}
def uK (r:Rl):List Nat:=if r.wt=0 then 104::97::114::100::32::(kd r.k.toNat).w else 119::101::105::103::104::32::(fU 10 r.wt.toNat++[32]++(kd r.k.toNat).w)
def xA (r:Rl):List Nat:=if (fT r.k||(oh r.k||decide (r.k=17)))=true then 32::cJ r.a else []
def zK (r:Rl):List Nat:=if fT r.k=true then 32::r.b else []
def B8 (r:Rl):List Nat:=if 0<lQ r.k then 32::cJ r.t else []
def EM (r:Rl):List Nat:=if yA r.k=true then 32::fU 10 r.n.toNat else []
def Dq (r:Rl):List Nat:=uK r++(xA r++(zK r++(B8 r++(EM r++[10]))))
def Rl.PO (r:Rl):Prop:=(0<=r.k/\r.k<256)/\r.a.length<=1100000/\r.b.length<=1100000/\r.t.length<=1100000
theorem ow (s:St) (x y:List Nat) (h:x.length<=4000000000/\y.length<=4000000000) (K:AV->St->Option (AV×St)):af c (.bin .add .num) [.str x,.str y] s K=K (.str (x++y)) s:=
 Rj s x y (by omega) K
theorem Gc (x y:List Nat) (h:x.length<=4000000000/\y.length<=4000000000) (K:AV->Option (AV×St)):bg (.bin .add .num) [.str x,.str y] K=K (.str (x++y)):=by
 have hxy:x.length+y.length<=9223372036854775807:=by omega
 have:aE.run (fun _=>none) .h (.bin .add .num) [.str x,.str y]=some (.val (.str (x++y))):=by simp only[aE.run,iH,n8,gb,decide_eq_true hxy]
 unfold bg;rw[this]
theorem tZ (s:List Nat):(cJ s).length<=s.length+1:=by unfold cJ;split<;>simp
theorem NJ (m:Nat):(kd m).w.length<=20:=by unfold kd;split<;>simp
theorem Wb (hc:Sem c) {s:St} (z:Bool) (rs:List Rl) (k:Nat) (hk:k<rs.length) (IF:rs.length<=64) (hs:rs[k].PO) (hw:Wf s) {acc:List Nat} (Qx:acc.length<=1000000000) (F n:Nat) (k1 k2) (Q:Option (AV×St)->Prop)
   (F6:oE rs[k]=true->Q (dL c F k1 k2 n [eV z rs,.str (acc++Dq rs[k]),.int .i64 ((k+1:Nat):Int)] (au s (.cells rs[k].cells 0))))
   (nR:oE rs[k]=false->Q (k1 [.str []] (au s (.cells rs[k].cells 0)))):
   Q (dL c F k1 k2 (n+1) [eV z rs,.str acc,.int .i64 (k:Int)] s):=by
 have w:aY .i64 ((k:Int)+1)=((k+1:Nat):Int):=wrap64 (by omega) (by omega)
 obtain ⟨Qa,la,lb,lt⟩:=hs
 rw[dL]
 simp[-bW,-iZ,eV,hk]
 refine kJ (P:=fun j=>oE rs[k]=true->Q (j [eV z rs,.str (acc++Dq rs[k]),.int .i64 (k:Int)] (au s (.cells rs[k].cells 0)))) ?_ ?_
 . intro dr
   have:=F6 dr
   simpa [w,eV] using this
 . intro  j hj
   have mI:=fun (K:AV->St->Option (AV×St))=>bW c K s 6 (.agg rs[k].cells) [.int .u8 0,.int .i64 0,.str [],.str [],.str [],.int .i64 0] rfl rfl (Rl.one _)
   rw[show (AV.agg rs[k].cells).cells=rs[k].cells from rfl] at mI
   have hg:=Grew.au hw (.cells rs[k].cells 0)
   have cH:=hg.wf
   have hb:=aR s (.cells rs[k].cells 0)
   have S:=abY hc rs[k] Qa _ cH
   obtain ⟨m,hm⟩: ∃m:Nat,rs[k].k=(m:Int):=⟨rs[k].k.toNat,by omega⟩
   have N9:rs[k].k.toNat=m:=by omega
   have W:=NI hc m (by omega) _ cH
   rw[<-hm] at W
   have T:=xp hc rs[k].k (au s (.cells rs[k].cells 0))
   have O:=MF hc rs[k].k (au s (.cells rs[k].cells 0))
   have N:=Dk hc rs[k].k (au s (.cells rs[k].cells 0))
   have B:=Dl hc rs[k].k (au s (.cells rs[k].cells 0))
   have Da:=UT hc rs[k].a (au s (.cells rs[k].cells 0))
   have Dt:=UT hc rs[k].t (au s (.cells rs[k].cells 0))
   cases ME:oE rs[k] with
   |false=>
    have:=nR ME
    simpa [-bW,mI,hb,S,ME] using this
   |true=>
    have hj:=hj ME
    have hsd1:MG rs[k]=false:=by
        unfold oE at ME
        cases h:MG rs[k] with
        |false=>rfl
        |true=>rw[h] at ME;simp at ME
    have hrange:0<=rs[k].wt/\rs[k].wt<=1000/\0<=rs[k].n/\rs[k].n<=999999999:=by
        unfold MG at hsd1
        simp only[Bool.or_eq_false_iff,decide_eq_false_iff_not] at hsd1
        omega
    obtain ⟨wn,hwn⟩: ∃wn:Nat,rs[k].wt=(wn:Int):=⟨rs[k].wt.toNat,by omega⟩
    obtain ⟨nn,hnn⟩: ∃nn:Nat,rs[k].n=(nn:Int):=⟨rs[k].n.toNat,by omega⟩
    have Gw:=IG hc 10 wn (by omega) (by omega) (by omega) _ cH
    have Gn:=IG hc 10 nn (by omega) (by omega) (by omega) _ cH
    rw[<-hwn] at Gw
    rw[<-hnn] at Gn
    have hwn':rs[k].wt.toNat=wn:=by omega
    have hnn':rs[k].n.toNat=nn:=by omega
    have l0:=yB 10 wn
    have l1:=yB 10 nn
    have l2:=NJ m
    have l3:=tZ rs[k].a
    have l4:=tZ rs[k].t
    have n0:(uK rs[k]).length<=60:=by unfold uK;rw[N9,hwn'];split<;>simp<;>omega
    have n1:(xA rs[k]).length<=1100002:=by unfold xA;split<;>simp<;>omega
    have n2:(zK rs[k]).length<=1100002:=by unfold zK;split<;>simp;omega
    have n3:(B8 rs[k]).length<=1100002:=by unfold B8;split<;>simp<;>omega
    have n4:(EM rs[k]).length<=20:=by unfold EM;rw[hnn'];split<;>simp;omega
    simp[-bW,mI,hb,S,ME]
    refine kJ (P:=fun j2=>Q (j2 [eV z rs,.str (acc++uK rs[k]),.int .i64 (k:Int),.ptr s.next 0] (au s (.cells rs[k].cells 0)))) ?_ ?_
    .   simp only[aT,fP]
        refine kJ (P:=fun j2=>Q (j2 [eV z rs,.str (acc++uK rs[k]++xA rs[k]),.int .i64 (k:Int),.ptr s.next 0] (au s (.cells rs[k].cells 0)))) ?_ ?_
        . simp only[aT,fP]
          refine kJ (P:=fun j2=>Q (j2 [eV z rs,.str (acc++uK rs[k]++xA rs[k]++zK rs[k]),.int .i64 (k:Int),.ptr s.next 0] (au s (.cells rs[k].cells 0)))) ?_ ?_
          . simp only[aT,fP]
            refine kJ (P:=fun j2=>Q (j2 [eV z rs,.str (acc++uK rs[k]++xA rs[k]++zK rs[k]++B8 rs[k]),.int .i64 (k:Int),.ptr s.next 0] (au s (.cells rs[k].cells 0)))) ?_ ?_
            . simp only[aT,fP]
              refine kJ (P:=fun j2=>Q (j2 [eV z rs,.str (acc++uK rs[k]++xA rs[k]++zK rs[k]++B8 rs[k]++EM rs[k]),.int .i64 (k:Int)] (au s (.cells rs[k].cells 0)))) ?_ ?_
              . have a1:=fun K=>ow (c:=c) (au s (.cells rs[k].cells 0)) (acc++uK rs[k]++xA rs[k]++zK rs[k]++B8 rs[k]++EM rs[k]) [10] (by simp;omega) K
                have e:acc++Dq rs[k]=acc++uK rs[k]++xA rs[k]++zK rs[k]++B8 rs[k]++EM rs[k]++[10]:=by unfold Dq;simp only[List.append_assoc]
                rw[e] at hj
                simpa [-List.append_assoc,a1,eV] using hj
              . intro j2 mA
                cases gy:yA rs[k].k with
                |false=>
                 have e:EM rs[k]=[]:=by unfold EM;rw[gy];rfl
                 rw[e,List.append_nil] at mA
                 simpa [-List.append_assoc,hb,N,gy,eV] using mA
                |true=>
                 have e:EM rs[k]=32::fU 10 nn:=by unfold EM;rw[gy,hnn'];rfl
                 have a1: ∀(K:AV->St->Option (AV×St)),af c (.bin .add .num) [.str [32],.str (fU 10 nn)] (au s (.cells rs[k].cells 0)) K=K (.str (32::fU 10 nn)) (au s (.cells rs[k].cells 0)):=fun K=>ow (c:=c) (au s (.cells rs[k].cells 0)) [32] (fU 10 nn) (by simp;omega) K
                 have a2:=fun K=>ow (c:=c) (au s (.cells rs[k].cells 0)) (acc++uK rs[k]++xA rs[k]++zK rs[k]++B8 rs[k]) (32::fU 10 nn) (by simp;omega) K
                 rw[e] at mA
                 simpa [-List.cons_append,-List.append_assoc,hb,N,gy,Gn,a1,a2,eV] using mA
            . intro j2 mA
              by_cases ht0:0<lQ rs[k].k
              . have e:B8 rs[k]=32::cJ rs[k].t:=by unfold B8;rw[if_pos ht0]
                have a1: ∀(K:AV->St->Option (AV×St)),af c (.bin .add .num) [.str [32],.str (cJ rs[k].t)] (au s (.cells rs[k].cells 0)) K=K (.str (32::cJ rs[k].t)) (au s (.cells rs[k].cells 0)):=fun K=>ow (c:=c) (au s (.cells rs[k].cells 0)) [32] (cJ rs[k].t) (by simp;omega) K
                have a2:=fun K=>ow (c:=c) (au s (.cells rs[k].cells 0)) (acc++uK rs[k]++xA rs[k]++zK rs[k]) (32::cJ rs[k].t) (by simp;omega) K
                rw[e] at mA
                simpa [-List.cons_append,-List.append_assoc,hb,B,ht0,Dt,a1,a2,eV] using mA
              . have e:B8 rs[k]=[]:=by unfold B8;rw[if_neg ht0]
                rw[e,List.append_nil] at mA
                simpa [-List.append_assoc,hb,B,ht0,eV] using mA
          . intro j2 mA
            cases yL:fT rs[k].k with
            | false=>
              have e:zK rs[k]=[]:=by unfold zK;rw[yL];rfl
              rw[e,List.append_nil] at mA
              simpa [-List.append_assoc,hb,T,yL,eV] using mA
            | true=>
              have e:zK rs[k]=32::rs[k].b:=by unfold zK;rw[yL];rfl
              have a1: ∀(K:AV->St->Option (AV×St)),af c (.bin .add .num) [.str [32],.str rs[k].b] (au s (.cells rs[k].cells 0)) K=K (.str (32::rs[k].b)) (au s (.cells rs[k].cells 0)):=fun K=>ow (c:=c) (au s (.cells rs[k].cells 0)) [32] rs[k].b (by simp;omega) K
              have a2:=fun K=>ow (c:=c) (au s (.cells rs[k].cells 0)) (acc++uK rs[k]++xA rs[k]) (32::rs[k].b) (by simp;omega) K
              rw[e] at mA
              simpa [-List.cons_append,-List.append_assoc,hb,T,yL,a1,a2,eV] using mA
        . intro j2 mA
          have a1: ∀(K:AV->St->Option (AV×St)),af c (.bin .add .num) [.str [32],.str (cJ rs[k].a)] (au s (.cells rs[k].cells 0)) K=K (.str (32::cJ rs[k].a)) (au s (.cells rs[k].cells 0)):=fun K=>ow (c:=c) (au s (.cells rs[k].cells 0)) [32] (cJ rs[k].a) (by simp;omega) K
          have a2:=fun K=>ow (c:=c) (au s (.cells rs[k].cells 0)) (acc++uK rs[k]) (32::cJ rs[k].a) (by simp;omega) K
          have yes:(fT rs[k].k||(oh rs[k].k||decide (rs[k].k=17)))=true->Q (j2 [eV z rs,.str (acc++uK rs[k]++(32::cJ rs[k].a)),.int .i64 (k:Int),.ptr s.next 0] (au s (.cells rs[k].cells 0))):=fun h=>by
            have e:xA rs[k]=32::cJ rs[k].a:=by unfold xA;rw[if_pos h]
            rw[e] at mA;exact mA
          cases yL:fT rs[k].k with
          | true=>
            have:=yes (by rw[yL];rfl)
            simpa [-List.cons_append,-List.append_assoc,hb,T,yL,Da,a1,a2,eV] using this
          | false=>
            cases H8:oh rs[k].k with
            | true=>
              have:=yes (by rw[yL,H8];rfl)
              simpa [-List.cons_append,-List.append_assoc,hb,T,O,yL,H8,Da,a1,a2,eV] using this
            | false=>
              by_cases UU:rs[k].k=17
              . have:=yes (by rw[yL,H8,UU];rfl)
                have d17:decide (rs[k].k=17)=true:=decide_eq_true UU
                simpa [-List.cons_append,-List.append_assoc,hb,T,O,yL,H8,d17,Da,a1,a2,eV] using this
              . have d17:decide (rs[k].k=17)=false:=decide_eq_false UU
                have e:xA rs[k]=[]:=by unfold xA;rw[yL,H8,d17];rfl
                rw[e,List.append_nil] at mA
                simpa [-List.append_assoc,hb,T,O,yL,H8,d17,eV] using mA
    .   intro j2 mA
        by_cases UW:rs[k].wt=0
        . have e:uK rs[k]=104::97::114::100::32::(kd m).w:=by unfold uK;rw[if_pos UW,N9]
          have a1: ∀(K:AV->St->Option (AV×St)),af c (.bin .add .num) [.str [104,97,114,100,32],.str (kd m).w] (au s (.cells rs[k].cells 0)) K=K (.str (104::97::114::100::32::(kd m).w)) (au s (.cells rs[k].cells 0)):=fun K=>ow (c:=c) (au s (.cells rs[k].cells 0)) [104,97,114,100,32] (kd m).w (by simp;omega) K
          have a2:=fun K=>ow (c:=c) (au s (.cells rs[k].cells 0)) acc (104::97::114::100::32::(kd m).w) (by simp;omega) K
          rw[e] at mA
          simpa [-List.append_assoc,hb,UW,W,a1,a2,eV] using mA
        . have e:uK rs[k]=119::101::105::103::104::32::(fU 10 wn++[32]++(kd m).w):=by unfold uK;rw[if_neg UW,N9,hwn']
          have a1: ∀(K:AV->Option (AV×St)),bg (.bin .add .num) [.str [119,101,105,103,104,32],.str (fU 10 wn)] K=K (.str (119::101::105::103::104::32::fU 10 wn)):=fun K=>Gc [119,101,105,103,104,32] (fU 10 wn) (by simp;omega) K
          have a2: ∀(K:AV->Option (AV×St)),bg (.bin .add .num) [.str (119::101::105::103::104::32::fU 10 wn),.str [32]] K=K (.str (119::101::105::103::104::32::(fU 10 wn++[32]))):=fun K=>Gc (119::101::105::103::104::32::fU 10 wn) [32] (by simp;omega) K
          have a3: ∀(K:AV->Option (AV×St)),bg (.bin .add .num) [.str (119::101::105::103::104::32::(fU 10 wn++[32])),.str (kd m).w] K=K (.str (119::101::105::103::104::32::(fU 10 wn++[32]++(kd m).w))):=fun K=>Gc (119::101::105::103::104::32::(fU 10 wn++[32])) (kd m).w (by simp;omega) K
          have a4:=fun K=>Gc acc (119::101::105::103::104::32::(fU 10 wn++[32]++(kd m).w)) (by simp;omega) K
          have r1:=fun (K:AV->Option (AV×St))=>FL K (o:=0) (v:= .int .u8 rs[k].k) (h:=(au s (.cells rs[k].cells 0)).heap) (h2:=(au s (.cells rs[k].cells 0)).heap) (by rw[hb];rfl) (by rw[hb];rfl) (C9 (dz.int _ _))
          rw[e] at mA
          simpa [-List.append_assoc,hb,UW,W,Gw,r1,a1,a2,a3,a4,eV] using mA
def vA:List Rl->List Nat->List Nat
 |[],acc=>acc
 |r::rs,acc=>if oE r=true then vA rs (acc++Dq r) else []
def B9 (rs:List Rl):List Nat:=if 64<rs.length then [] else vA rs []
theorem X0 (hc:Sem c) {st:St} (z:Bool) (rs:List Rl) (IF:rs.length<=64) (hs: ∀r∈rs,r.PO) (F:Nat) (k1 k2) (Q:Option (AV×St)->Prop) (nR: ∀s',vA rs []=[]->Grew st s'->Q (k1 [.str []] s'))
  (F6: ∀s',Grew st s'->Q (k2 [.str (vA rs [])] s')): ∀(n k:Nat) (s:St) (acc:List Nat),rs.length<=k+n->k<=rs.length->acc.length<=k*5000000->Grew st s->vA rs []=vA (rs.drop k) acc->
  Q (dL c F k1 k2 (n+1) [eV z rs,.str acc,.int .i64 (k:Int)] s):=by
 intro n
 induction n with
 |zero=>
  intro k s acc h1 h2 hb hG hg
  obtain rfl:k=rs.length:=by omega
  rw[List.drop_length] at hg
  rw[dL]
  have:=F6 s hG
  rw[hg] at this
  simpa [eV,vA] using this
 |succ n ih=>
  intro k s acc h1 h2 hb hG hg
  by_cases hk:k<rs.length
  . have hd:rs.drop k=rs[k]::rs.drop (k+1):=List.drop_eq_getElem_cons hk
    have hf:=hs _ (List.getElem_mem hk)
    have Ak:=Grew.au hG.wf (.cells rs[k].cells 0)
    rw[hd,vA] at hg
    refine Wb hc z rs k hk IF hf hG.wf (by omega) F (n+1) k1 k2 Q (fun dr=> ?_) (fun dr=> ?_)
    .   rw[if_pos dr] at hg
        refine ih (k+1) _ _ (by omega) (by omega) ?_ (hG.trans Ak) hg
        obtain ⟨_,la,lb,lt⟩:=hf
        have l0:=yB 10 rs[k].wt.toNat
        have l1:=yB 10 rs[k].n.toNat
        have l2:=NJ rs[k].k.toNat
        have l3:=tZ rs[k].a
        have l4:=tZ rs[k].t
        have n0:(uK rs[k]).length<=60:=by unfold uK;split<;>simp<;>omega
        have n1:(xA rs[k]).length<=1100002:=by unfold xA;split<;>simp<;>omega
        have n2:(zK rs[k]).length<=1100002:=by unfold zK;split<;>simp;omega
        have n3:(B8 rs[k]).length<=1100002:=by unfold B8;split<;>simp<;>omega
        have n4:(EM rs[k]).length<=20:=by unfold EM;split<;>simp;omega
        unfold Dq
        simp only[List.length_append,List.length_cons,List.length_nil]
        omega
    .   rw[if_neg (by rw[dr];simp)] at hg
        exact nR _ hg (hG.trans Ak)
  . obtain rfl:k=rs.length:=by omega
    rw[List.drop_length] at hg
    rw[dL]
    have:=F6 s hG
    rw[hg] at this
    simpa [eV,vA] using this
theorem Ro (hc:Sem c) (z:Bool) (rs:List Rl) (hl:rs.length<=1048576) (hs:rs.length<=64-> ∀r∈rs,r.PO) (st:St) (hw:Wf st):c 8 [eV z rs] st=some (.str (B9 rs),st):=by
 by_cases IF:64<rs.length
 . rw[uL hc 1 (r:=(.str (B9 rs),st)),aX (Plain.str _) (cB.refl st)]
   rw[lC]
   have:B9 rs=[]:=by unfold B9;rw[if_pos IF]
   rw[this]
   have hd:decide ((64:Int)<(rs.length:Int))=true:=decide_eq_true (by omega)
   simp[eV,hd]
 . have hS:B9 rs=vA rs []:=by unfold B9;rw[if_neg IF]
   have key: ∃s',lC c 101 (eV z rs) st=some (.str (B9 rs),s')/\cB st s':=by
    have L:=X0 hc z rs (by omega) (hs (by omega)) 101 (fun vs sD=>ay vs fun x2 vs=>bw vs (
   some (x2,sD))) (fun vs vV=>ay vs fun x3 vs=>bw vs (
   af c .move [x3] vV fun zH tX=>
 af c .move [zH] tX fun x2 tY=>
 some (x2,tY))) (fun o=> ∃s',o=some (.str (B9 rs),s')/\cB st s') (fun s' h0 hg=>⟨s',by simp[hS,h0],hg.keeps⟩) (fun s' hg=>⟨s',by simp[hS],hg.keeps⟩) 100 0 st [] (by omega) (by omega) (by simp) (Grew.refl hw) (by simp)
    obtain ⟨s',L1,L2⟩:=L
    refine ⟨s',?_,L2⟩
    rw[lC]
    have hd:decide ((64:Int)<(rs.length:Int))=false:=decide_eq_false (by omega)
    simp[eV,hd] at L1 ⊢
    exact L1
   obtain ⟨s',k1,k2⟩:=key
   rw[uL hc 101 (r:=(.str (B9 rs),s')) k1,aX (Plain.str _) k2]
end Go.Proofs.YtehbdakjkjkekaaGreatDoor
end
section
set_option maxRecDepth 100000
set_option linter.unusedVariables false
namespace Go.Proofs.YtehbdakjkjkekaaGreatDoor
open Go Go.Ai Go.Proofs
variable {c : ai}
theorem stW {R:Type} (hc:Sem c) {p:fG} {r:Rl} {q2 q3:Pos} {s:St} {n:Nat} (hw:Wf s) (hn:n<256) (hk:r.k=(n:Int)) (hp:p.sS) (p2:s.heap.get q2=some (.cells p.cells 0)) (p3:s.heap.get q3=some (.cells r.cells 0)) (K:AV->AV->St->Option R):
  (af c (.fieldA 0) [(.ptr q3 0)] s fun x9 s3=>
   af c (.load none) [x9] s3 fun aZ s4=>
   af c .move [aZ] s4 fun x5 s5=>
   af c .move [x5] s5 fun bh s6=>
   af c (.callF 39) [bh] s6 fun bG s7=>
   af c (.bin .eql .num) [bG,(.str [])] s7 fun bQ s8=>
   K x5 bQ s8)=K (.int .u8 (n:Int)) (.bool (decide ((kd n).w=[]))) s:=by
 have W:=NI hc n hn s hw
 simp[p3,hk,W]
theorem stWt {R:Type} (hc:Sem c) {p:fG} {r:Rl} {q2 q3:Pos} {s:St} {n:Nat} (hw:Wf s) (hn:n<256) (hk:r.k=(n:Int)) (hp:p.sS) (p2:s.heap.get q2=some (.cells p.cells 0)) (p3:s.heap.get q3=some (.cells r.cells 0)) (K:AV->St->Option R):
   (af c (.fieldA 1) [(.ptr q3 0)] s fun bR bT=>
    af c (.load none) [bR] bT fun bH bL=>
    af c (.bin .lss .num) [bH,(.int .i64 0)] bL fun ct cr=>
    af c .move [ct] cr fun cw cg=>
    ak c cw false (.fieldA 1) [(.ptr q3 0)] cg fun bn cK=>
    ak c cw false (.load none) [bn] cK fun bC cL=>
    ak c cw false (.bin .gtr .num) [bC,(.int .i64 1000)] cL fun b9 cO=>
    af c .pick [cw,(.bool true),b9] cO fun fu cX=>
    K fu cX)=K (.bool (decide (r.wt<0\/1000<r.wt))) s:=by
 by_cases h1:r.wt<0
 . simp[p3,h1]
 . simp[p3,h1]
theorem stP1 {R:Type} (hc:Sem c) {p:fG} {r:Rl} {q2 q3:Pos} {s:St} {n:Nat} (hw:Wf s) (hn:n<256) (hk:r.k=(n:Int)) (hp:p.sS) (p2:s.heap.get q2=some (.cells p.cells 0)) (p3:s.heap.get q3=some (.cells r.cells 0)) (K:AV->St->Option R):
   (af c (.fieldA 2) [(.ptr q3 0)] s fun dW cQ=>
    af c (.load none) [dW] cQ fun eX eD=>
    af c (.bin .neq .num) [eX,(.str [])] eD fun fL fH=>
    af c .move [fL] fH fun fy gh=>
    ak c fy true .move [(.int .u8 (n:Int))] gh fun gW ir=>
    ak c fy true (.callF 41) [gW] ir fun gY gL=>
    ak c fy true (.un .not) [gY] gL fun iQ gj=>
    af c .pick [fy,iQ,(.bool false)] gj fun gM iP=>
    af c .move [gM] iP fun gN fM=>
    ak c gN true .move [(.int .u8 (n:Int))] fM fun jf gu=>
    ak c gN true (.callF 42) [jf] gu fun dX fV=>
    ak c gN true (.un .not) [dX] fV fun jE iu=>
    af c .pick [gN,jE,(.bool false)] iu fun kI iT=>
    af c .move [kI] iT fun iw lu=>
    ak c iw true .move [(.int .u8 (n:Int))] lu fun mB j8=>
    ak c iw true (.bin .neq .num) [mB,(.int .u8 17)] j8 fun iU j9=>
    af c .pick [iw,iU,(.bool false)] j9 fun kX jD=>
    K kX jD)=K (.bool (decide (r.a≠[])&& !fT n&& !oh n&&decide (n≠17))) s:=by
 have T1:=xp hc (n:Int) s
 have T2:=MF hc (n:Int) s
 by_cases h:r.a=[]
 . simp[p3,h]
 . cases h1:fT (n:Int) with
   |true=>simp[p3,h,T1,h1]
   |false=>
    cases h2:oh (n:Int) with
    |true=>simp[p3,h,T1,T2,h1,h2]
    |   false=>
        have e:decide ((n:Int)=17)=decide (n=17):=by by_cases hh:n=17<;>simp[hh];omega
        simp[p3,h,T1,T2,h1,h2,e]
theorem stP2 {R:Type} (hc:Sem c) {p:fG} {r:Rl} {q2 q3:Pos} {s:St} {n:Nat} (hw:Wf s) (hn:n<256) (hk:r.k=(n:Int)) (hp:p.sS) (p2:s.heap.get q2=some (.cells p.cells 0)) (p3:s.heap.get q3=some (.cells r.cells 0)) (b:Bool) (K:AV->St->Option R):
  (af c .move [(.bool b)] s fun jg jN=>
    ak c jg false (.fieldA 3) [(.ptr q3 0)] jN fun mC kq=>
    ak c jg false (.load none) [mC] kq fun ji kW=>
    ak c jg false (.bin .neq .num) [ji,(.str [])] kW fun jF ku=>
    ak c jg false .move [jF] ku fun mD om=>
    ak c mD true .move [(.int .u8 (n:Int))] om fun pz oo=>
    ak c mD true (.callF 41) [pz] oo fun jG oq=>
    ak c mD true (.un .not) [jG] oq fun lA pq=>
    ak c jg false .pick [mD,lA,(.bool false)] pq fun kg oK=>
    af c .pick [jg,(.bool true),kg] oK fun nX lz=>
    K nX lz)=K (.bool (b||(decide (r.b≠[])&& !fT n))) s:=by
 have T1:=xp hc (n:Int) s
 cases b with
 |true=>simp
 |false=>
  by_cases h:r.b=[]
  . simp[p3,h]
  . simp[p3,h,T1]
theorem stP3 {R:Type} (hc:Sem c) {p:fG} {r:Rl} {q2 q3:Pos} {s:St} {n:Nat} (hw:Wf s) (hn:n<256) (hk:r.k=(n:Int)) (hp:p.sS) (p2:s.heap.get q2=some (.cells p.cells 0)) (p3:s.heap.get q3=some (.cells r.cells 0)) (b:Bool) (K:AV->St->Option R):
  (af c .move [(.bool b)] s fun fW pE=>
    ak c fW false (.fieldA 4) [(.ptr q3 0)] pE fun nY pF=>
    ak c fW false (.load none) [nY] pF fun nA p0=>
    ak c fW false (.bin .neq .num) [nA,(.str [])] p0 fun pG ny=>
    ak c fW false .move [pG] ny fun jH og=>
    ak c jH true .move [(.int .u8 (n:Int))] og fun mL nU=>
    ak c jH true (.callF 44) [mL] nU fun ot nV=>
    ak c jH true (.bin .eql .num) [ot,(.int .i64 0)] nV fun lU nW=>
    ak c fW false .pick [jH,lU,(.bool false)] nW fun kK pH=>
    af c .pick [fW,(.bool true),kK] pH fun lB oL=>
    K lB oL)=K (.bool (b||(decide (r.t≠[])&&decide (lQ n=0)))) s:=by
 have T1:=Dl hc (n:Int) s
 cases b with
 |true=>simp
 |false=>
  by_cases h:r.t=[]
  . simp[p3,h]
  . simp[p3,h,T1]
theorem stP4 {R:Type} (hc:Sem c) {p:fG} {r:Rl} {q2 q3:Pos} {s:St} {n:Nat} (hw:Wf s) (hn:n<256) (hk:r.k=(n:Int)) (hp:p.sS) (p2:s.heap.get q2=some (.cells p.cells 0)) (p3:s.heap.get q3=some (.cells r.cells 0)) (b:Bool) (K:AV->St->Option R):
  (af c .move [(.bool b)] s fun iV iy=>
    ak c iV false (.fieldA 5) [(.ptr q3 0)] iy fun jO rS=>
    ak c iV false (.load none) [jO] rS fun qu mM=>
    ak c iV false (.bin .neq .num) [qu,(.int .i64 0)] mM fun dx u7=>
    ak c iV false .move [dx] u7 fun ou qt=>
    ak c ou true .move [(.int .u8 (n:Int))] qt fun qv rU=>
    ak c ou true (.callF 45) [qv] rU fun lV p6=>
    ak c ou true (.un .not) [lV] p6 fun nZ ua=>
    ak c iV false .pick [ou,nZ,(.bool false)] ua fun ov qO=>
    af c .pick [iV,(.bool true),ov] qO fun mE qP=>
    K mE qP)=K (.bool (b||(decide (r.n≠0)&& !yA n))) s:=by
 have T1:=Dk hc (n:Int) s
 cases b with
 |true=>simp
 |false=>
  by_cases h:r.n=0
  . simp[p3,h]
  . simp[p3,h,T1]
theorem stA {R:Type} (hc:Sem c) {p:fG} {r:Rl} {q2 q3:Pos} {s:St} {n:Nat} (hw:Wf s) (hn:n<256) (hk:r.k=(n:Int)) (hp:p.sS) (p2:s.heap.get q2=some (.cells p.cells 0)) (p3:s.heap.get q3=some (.cells r.cells 0)) (K:AV->St->Option R):
  (af c .move [(.int .u8 (n:Int))] s fun fX qQ=>
    af c (.callF 41) [fX] qQ fun gO oM=>
    af c .move [gO] oM fun rX tS=>
    ak c rX false .move [(.int .u8 (n:Int))] tS fun xq uH=>
    ak c rX false (.callF 42) [xq] uH fun qw ve=>
    af c .pick [rX,(.bool true),qw] ve fun zC vg=>
    af c .move [zC] vg fun qx p7=>
    ak c qx true .move [(.int .u8 (n:Int))] p7 fun uI zB=>
    ak c qx true (.bin .eql .num) [uI,(.int .u8 10)] zB fun zD vh=>
    ak c qx true .move [zD] vh fun tT wC=>
    ak c tT true (.fieldA 2) [(.ptr q3 0)] wC fun qy xX=>
    ak c tT true (.load none) [qy] xX fun BK xY=>
    ak c tT true (.bin .eql .num) [BK,(.str [])] xY fun xw zE=>
    ak c qx true .pick [tT,xw,(.bool false)] zE fun sU zF=>
    ak c qx true (.un .not) [sU] zF fun uJ Dn=>
    af c .pick [qx,uJ,(.bool false)] Dn fun BM Ao=>
    af c .move [BM] Ao fun qz EG=>
    ak c qz true (.fieldA 1) [(.ptr q2 0)] EG fun BO BL=>
    ak c qz true (.load none) [BO] BL fun tU Ap=>
    ak c qz true (.fieldA 2) [(.ptr q3 0)] Ap fun BQ BN=>
    ak c qz true (.load none) [BQ] BN fun BS zG=>
    ak c qz true (.callF 121) [tU,BS] zG fun zH BP=>
    ak c qz true (.bin .lss .num) [zH,(.int .i64 0)] BP fun Dp BR=>
    af c .pick [qz,Dp,(.bool false)] BR fun EH Aq=>
    K EH Aq)=K (.bool ((fT n||oh n)&& !(decide (n=10)&&decide (r.a=[]))&&decide (gi p r.a<0))) s:=by
 have T1:=xp hc (n:Int) s
 have T2:=MF hc (n:Int) s
 have A:c 121 [ko p.gz p.gs,.str r.a] s=some (.int .i64 (gi p r.a),s):=aa9 hc p.gz p.gs r.a (by have:=hp.gs;unfold qN;omega) s
 have e:((n:Int)=10)=(n=10):=by apply propext;omega
 cases h1:fT (n:Int) with
 |true=>
  by_cases h3:n=10
  . by_cases h4:r.a=[]
    .   simp[p2,p3,T1,h1,h3,h4]
        try simp_all
    .   simp[p2,p3,T1,h1,h3,h4,A]
        try simp_all
  . simp[p2,p3,T1,h1,e,h3,A]
 |false   =>
  cases h2:oh (n:Int) with
  | true=>
    by_cases h3:n=10
    .   by_cases h4:r.a=[]
        . simp[p2,p3,T1,T2,h1,h2,h3,h4]
          try simp_all
        . simp[p2,p3,T1,T2,h1,h2,h3,h4,A]
          try simp_all
    .   simp[p2,p3,T1,T2,h1,h2,e,h3,A]
  |false=>simp[p2,p3,T1,T2,h1,h2]
theorem stB {R:Type} (hc:Sem c) {p:fG} {r:Rl} {q2 q3:Pos} {s:St} {n:Nat} (hw:Wf s) (hn:n<256) (hk:r.k=(n:Int)) (hp:p.sS) (p2:s.heap.get q2=some (.cells p.cells 0)) (p3:s.heap.get q3=some (.cells r.cells 0)) (K:AV->St->Option R):
  (af c .move [(.int .u8 (n:Int))] s fun EI BT=>
   af c (.callF 41) [EI] BT fun BV BU=>
   af c .move [BV] BU fun rY zI=>
   ak c rY true (.fieldA 1) [(.ptr q2 0)] zI fun EJ EN=>
   ak c rY true (.load none) [EJ] EN fun xx BW=>
   ak c rY true (.fieldA 3) [(.ptr q3 0)] BW fun tV BX=>
   ak c rY true (.load none) [tV] BX fun EK BZ=>
   ak c rY true (.callF 121) [xx,EK] BZ fun yC B5=>
   ak c rY true (.bin .lss .num) [yC,(.int .i64 0)] B5 fun yD vU=>
   af c .pick [rY,yD,(.bool false)] vU fun qA sD=>
   K qA sD)=K (.bool (fT n&&decide (gi p r.b<0))) s:=by
 have T1:=xp hc (n:Int) s
 have A:c 121 [ko p.gz p.gs,.str r.b] s=some (.int .i64 (gi p r.b),s):=aa9 hc p.gz p.gs r.b (by have:=hp.gs;unfold qN;omega) s
 cases h1:fT (n:Int)<;>simp[p2,p3,T1,h1,A]
theorem stN {R:Type} (hc:Sem c) {p:fG} {r:Rl} {q2 q3:Pos} {s:St} {n:Nat} (hw:Wf s) (hn:n<256) (hk:r.k=(n:Int)) (hp:p.sS) (p2:s.heap.get q2=some (.cells p.cells 0)) (p3:s.heap.get q3=some (.cells r.cells 0)) (K:AV->St->Option R):
   (af c .move [(.int .u8 (n:Int))] s fun yE tX=>
    af c (.bin .eql .num) [yE,(.int .u8 17)] tX fun zY tY=>
    af c .move [zY] tY fun pS yF=>
    ak c pS true (.fieldA 2) [(.ptr q3 0)] yF fun pR yG=>
    ak c pS true (.load none) [pR] yG fun yJ yH=>
    ak c pS true (.callF 106) [yJ] yH fun B6 yI=>
    ak c pS true (.un .not) [B6] yI fun zZ yK=>
    af c .pick [pS,zZ,(.bool false)] yK fun B7 xy=>
    K B7 xy)=K (.bool (decide (n=17)&& !eU r.a)) s:=by
 have A:=Ev hc r.a s
 have e:((n:Int)=17)=(n=17):=by apply propext;omega
 by_cases h1:n=17
 . simp[p3,e,h1,A]
 . simp[p3,e,h1]
theorem stD {R:Type} (hc:Sem c) {p:fG} {r:Rl} {q2 q3:Pos} {s:St} {n:Nat} (hw:Wf s) (hn:n<256) (hk:r.k=(n:Int)) (hp:p.sS) (p2:s.heap.get q2=some (.cells p.cells 0)) (p3:s.heap.get q3=some (.cells r.cells 0)) (K:AV->St->Option R):
  (af c .move [(.int .u8 (n:Int))] s fun Gd xz=>
   af c (.callF 41) [Gd] xz fun Ge Ca=>
   af c .move [Ge] Ca fun rq Cb=>
   ak c rq true (.fieldA 2) [(.ptr q3 0)] Cb fun Gf vW=>
   ak c rq true (.load none) [Gf] vW fun Gg xB=>
   ak c rq true (.fieldA 3) [(.ptr q3 0)] xB fun Gh Aa=>
   ak c rq true (.load none) [Gh] Aa fun DS Cc=>
   ak c rq true (.bin .eql .num) [Gg,DS] Cc fun Gi Ab=>
   af c .pick [rq,Gi,(.bool false)] Ab fun Gj yM=>
   K Gj yM)=K (.bool (fT n&&decide (r.a=r.b))) s:=by
 have T1:=xp hc (n:Int) s
 cases h1:fT (n:Int)<;>simp[p3,T1,h1]
theorem stT {R:Type} (hc:Sem c) {p:fG} {r:Rl} {q2 q3:Pos} {s:St} {n:Nat} (hw:Wf s) (hn:n<256) (hk:r.k=(n:Int)) (hp:p.sS) (p2:s.heap.get q2=some (.cells p.cells 0)) (p3:s.heap.get q3=some (.cells r.cells 0)) (K:AV->AV->St->Option R):
   (af c (.fieldA 0) [(.ptr q2 0)] s fun xC Gk=>
     af c (.load none) [xC] Gk fun Gl Cd=>
     af c (.fieldA 4) [(.ptr q3 0)] Cd fun Gm Ce=>
     af c (.load none) [Gm] Ce fun Gp Ac=>
     af c (.callF 122) [Gl,Gp] Ac fun ru xo=>
     af c .move [ru] xo fun x6 yw=>
     af c .move [(.int .u8 (n:Int))] yw fun Cf yx=>
     af c (.callF 44) [Cf] yx fun Gq yy=>
     af c (.bin .eql .num) [Gq,(.int .i64 1)] yy fun Gr Gs=>
     af c .move [Gr] Gs fun yN Gt=>
     ak c yN true .move [x6] Gt fun Ad Gu=>
     ak c yN true (.bin .lss .num) [Ad,(.int .i64 0)] Gu fun Cg Gv=>
     af c .pick [yN,Cg,(.bool false)] Gv fun KS Gx=>
     af c .move [KS] Gx fun pT KT=>
     ak c pT false .move [(.int .u8 (n:Int))] KT fun KU KV=>
     ak c pT false (.callF 44) [KU] KV fun Ch KW=>
     ak c pT false (.bin .eql .num) [Ch,(.int .i64 2)] KW fun KX KY=>
     ak c pT false .move [KX] KY fun yO KZ=>
     ak c yO true (.fieldA 4) [(.ptr q3 0)] KZ fun Rp K5=>
     ak c yO true (.load none) [Rp] K5 fun Rq K8=>
     ak c yO true (.bin .neq .num) [Rq,(.str [])] K8 fun Rr K9=>
     ak c pT false .pick [yO,Rr,(.bool false)] K9 fun Rs La=>
     ak c pT false .move [Rs] La fun Gy Lb=>
     ak c Gy true .move [x6] Lb fun Gz Lc=>
     ak c Gy true (.bin .lss .num) [Gz,(.int .i64 0)] Lc fun IJ Ld=>
     ak c pT false .pick [Gy,IJ,(.bool false)] Ld fun Ci Le=>
     af c .pick [pT,(.bool true),Ci] Le fun Rt IK=>
     K x6 Rt IK)=K (.int .i64 (ti p r.t)) (.bool ((decide (lQ n=1)&&decide (ti p r.t<0))||(decide (lQ n=2)&&decide (r.t≠[])&&decide (ti p r.t<0)))) s:=by
 have T1:=Dl hc (n:Int) s
 have A:c 122 [tabs p.tz p.ts,.str r.t] s=some (.int .i64 (ti p r.t),s):=V8 hc p.tz p.ts r.t hp.ts s
 by_cases h1:lQ (n:Int)=1
 . by_cases h2:ti p r.t<0
   . simp[p2,p3,T1,h1,h2,A]
   . simp[p2,p3,T1,h1,h2,A]
 . by_cases h3:lQ (n:Int)=2
   . by_cases h4:r.t=[]
     .  rw[h4] at A
        simp[p2,p3,T1,h1,h3,h4,A]
     .  simp[p2,p3,T1,h1,h3,h4,A]
   . simp[p2,p3,T1,h1,h3,A]
theorem aiy (hc:Sem c) {p:fG} {r:Rl} {q2 q3:Pos} {s:St} {n:Nat} (hw:Wf s) (hn:n<256) (hk:r.k=(n:Int)) (hp:p.sS) (p2:s.heap.get q2=some (.cells p.cells 0)) (p3:s.heap.get q3=some (.cells r.cells 0)) (Eo:(kd n).lo=if n=4 then 1 else 0) (abd:(kd n).sB=decide (n=7)) (gy:yA (n:Int)=(kd n).n) (ht:n=7->0<=ti p r.t)
   (x2 x3 x5 x6:AV) (e2:x2= .ptr q2 0) (e3:x3= .ptr q3 0) (e5:x5= .int .u8 (n:Int)) (e6:x6= .int .i64 (ti p r.t)):
   (af c .move [(.int .i64 0)] s fun x7 Lf=>
   af c .move [(.int .i64 24)] Lf fun x8 Lg=>
   lS (fun Ru=>
   af c .move [x5] Lg fun Rv Rw=>
   af c (.bin .eql .num) [Rv,(.int .u8 4)] Rw fun Rx Lh=>
   aJ Rx (
   af c .move [(.int .i64 1)] Lh fun x7 Ry=>
   Ru [x2,x3,x5,x6,x7,x8] Ry) (
   Ru [x2,x3,x5,x6,x7,x8] Lh))
   (fun vs Rz=>ay vs fun x2 vs=>ay vs fun x3 vs=>ay vs fun x5 vs=>ay vs fun x6 vs=>ay vs fun x7 vs=>ay vs fun x8 vs=>bw vs (
   lS (fun RA=>
   af c .move [x5] Rz fun NK RB=>
   af c (.bin .eql .num) [NK,(.int .u8 7)] RB fun RD Li=>
   aJ RD (
   af c (.fieldA 0) [x2] Li fun RE RF=>
   af c (.load none) [RE] RF fun RG RH=>
   af c .move [x6] RH fun RI RJ=>
   af c (.idxA 7 none) [RG,RI] RJ fun RL RM=>
   af c (.load (some 7)) [RL] RM fun RN RO=>
   af c (.callF 123) [RN] RO fun Lj RP=>
   af c (.bin .sub .num) [Lj,(.int .i64 1)] RP fun RQ RS=>
   af c .move [RQ] RS fun x8 RT=>
   RA [x3,x5,x7,x8] RT) (
   RA [x3,x5,x7,x8] Li))
   (fun vs RU=>ay vs fun x3 vs=>ay vs fun x5 vs=>ay vs fun x7 vs=>ay vs fun x8 vs=>bw vs (
   af c .move [x5] RU fun RV RW=>
   af c (.callF 45) [RV] RW fun RX RY=>
   af c .move [RX] RY fun sF RZ=>
   ak c sF true (.fieldA 5) [x3] RZ fun R4 R5=>
   ak c sF true (.load none) [R4] R5 fun R6 R7=>
   ak c sF true .move [x7] R7 fun jU R8=>
   ak c sF true (.bin .lss .num) [R6,jU] R8 fun R9 Sa=>
   ak c sF true .move [R9] Sa fun yP Sb=>
   ak c yP false (.fieldA 5) [x3] Sb fun Sc Sd=>
   ak c yP false (.load none) [Sc] Sd fun Se NL=>
   ak c yP false .move [x8] NL fun Sf Sg=>
   ak c yP false (.bin .gtr .num) [Se,Sf] Sg fun Si Sj=>
   ak c sF true .pick [yP,(.bool true),Si] Sj fun Sk Sl=>
   af c .pick [sF,Sk,(.bool false)] Sl fun Sm Ll=>
   aJ Sm (
   af c .move [(.int .i64 42)] Ll fun x4 Sn=>
   some (x4,Sn)) (
   af c .move [(.int .i64 0)] Ll fun x4 So=>
   some (x4,So)))))))=some (.int .i64 (vT (kd n) r (if (kd n).sB=true then zX p (ti p r.t) - 1 else 24)),s):=by
 subst e2 e3 e5 e6
 have T4:=Dk hc (n:Int) s
 rw[gy] at T4
 have hit:=KM (P:=kU p.ts r.t) p.ts.length 0
 unfold vT
 rw[Eo,abd]
 clear Eo abd gy
 by_cases h4:n=4
 . have d4:decide ((n:Int)=4)=true:=by simp only[decide_eq_true_eq];omega
   have d7:decide ((n:Int)=7)=false:=by simp only[decide_eq_false_iff_not];omega
   have n7:decide (n=7)=false:=by simp only[decide_eq_false_iff_not];omega
   rw[if_pos h4,n7]
   clear h4 n7
   cases hm:(kd n).n with
   |false=>simp[iJ,p2,p3,T4,d4,d7,hm]
   | true=>
     by_cases e1:r.n<1
     .  simp[iJ,p2,p3,T4,d4,d7,hm,e1]
     .  by_cases e2:24<r.n
        . simp[iJ,p2,p3,T4,d4,d7,hm,e1,e2]
        . simp[iJ,p2,p3,T4,d4,d7,hm,e1,e2]
 . have d4:decide ((n:Int)=4)=false:=by simp only[decide_eq_false_iff_not];omega
   rw[if_neg h4]
   clear h4
   by_cases h7:n=7
   . have d7:decide ((n:Int)=7)=true:=by simp only[decide_eq_true_eq];omega
     have n7:decide (n=7)=true:=by simp only[decide_eq_true_eq];exact h7
     have N6:=ht h7
     rw[n7]
     clear ht h7 n7
     obtain ⟨i,hi⟩: ∃i:Nat,ti p r.t=(i:Int):=⟨(ti p r.t).toNat,by omega⟩
     have tR:i<p.ts.length:=by
        have:=(hit N6).2.1
        unfold ti at hi;rw[hi] at this;simpa using this
     have S:=FP hc p.ts[i] s hw
     have b:=xe p.ts[i]
     have w2:aY .i64 (ew p.ts[i] - 1)=ew p.ts[i] - 1:=wrap64 (by omega) (by omega)
     have e3:zX p (i:Int)=ew p.ts[i]:=by simp[zX,tR]
     rw[hi,e3]
     clear hi e3 N6 hit
     cases hm:(kd n).n with
     |false=>simp[iJ,p2,p3,T4,d4,d7,tabs,tR,S,w2,hm]
     |  true=>
        by_cases e1:r.n<0
        . simp[iJ,p2,p3,T4,d4,d7,tabs,tR,S,w2,hm,e1]
        . by_cases e2:ew p.ts[i] - 1<r.n
          . simp[iJ,p2,p3,T4,d4,d7,tabs,tR,S,w2,hm,e1,e2]
          . simp[iJ,p2,p3,T4,d4,d7,tabs,tR,S,w2,hm,e1,e2]
   . have d7:decide ((n:Int)=7)=false:=by simp only[decide_eq_false_iff_not];omega
     have n7:decide (n=7)=false:=by simp only[decide_eq_false_iff_not];exact h7
     rw[n7]
     clear h7 n7 ht hit
     cases hm:(kd n).n with
     |false=>simp[iJ,p2,p3,T4,d4,d7,hm]
     |  true=>
        by_cases e1:r.n<0
        . simp[iJ,p2,p3,T4,d4,d7,hm,e1]
        . by_cases e2:24<r.n
          . simp[iJ,p2,p3,T4,d4,d7,hm,e1,e2]
          . simp[iJ,p2,p3,T4,d4,d7,hm,e1,e2]
end Go.Proofs.YtehbdakjkjkekaaGreatDoor
end
section
set_option maxRecDepth 100000
namespace Go.Proofs.YtehbdakjkjkekaaGreatDoor
open Go Go.Ai Go.Proofs
variable {c : ai}
structure Flags (n:Nat):Prop where
 two:fT (n:Int)=(kd n).b
 num:yA (n:Int)=(kd n).n
 t0:lQ (n:Int)=0↔(kd n).t=0
 t1:lQ (n:Int)=1↔(kd n).t=116
 t2:lQ (n:Int)=2↔(kd n).t=101
 a0:(fT (n:Int)=false/\oh (n:Int)=false/\n≠17)↔(kd n).a=0
 a1:((fT (n:Int)||oh (n:Int))=true/\n≠10)↔(kd n).a=103
 a2:n=10↔(kd n).a=101
 a3:n=17↔(kd n).a=100
 o10:n=10->oh (n:Int)=true
 lo:(kd n).lo=if n=4 then 1 else 0
 sB:(kd n).sB=decide (n=7)
 s7:n=7->(kd n).t=116
theorem flags {n:Nat} (h:(kd n).w≠[]):Flags n:=by
 have h18:n<=18:=by
   apply Classical.byContradiction
   intro h2
   apply h
   unfold kd;split<;>first|rfl|omega
 have:n=0\/n=1\/n=2\/n=3\/n=4\/n=5\/n=6\/n=7\/n=8\/n=9\/n=10\/n=11\/n=12\/n=13\/n=14\/n=15\/n=16\/n=17\/n=18:=by omega
 rcases this with rfl|rfl|rfl|rfl|rfl|rfl|rfl|rfl|rfl|rfl|rfl|rfl|rfl|rfl|rfl|rfl|rfl|rfl|rfl
 . exact absurd rfl h
 all_goals exact ⟨by decide,by decide,by decide,by decide,by decide,by decide,by decide,by decide,by decide,by decide,by decide,by decide,by decide⟩
theorem TJ (hc:Sem c) (p:fG) (hp:p.sS) (r:Rl) (n:Nat) (hk:r.k=(n:Int)) (hn:n<256) (st:St) (hw:Wf st):
   c 54 [.agg p.cells,.agg r.cells] st=some (.int .i64 (DR (kd n) p r),st):=by
 have cH:Wf (au st (.cells p.cells 0)):=eB hw
 have lq:=Grew.au cH (.cells r.cells 0)
 have hg:=(Grew.au hw (.cells p.cells 0)).trans lq
 have gm:=hg.wf
 have p2:=lq.get (aR st (.cells p.cells 0))
 have p3:=aR (au st (.cells p.cells 0)) (.cells r.cells 0)
 rw[DT hc 1 (r:=(.int .i64 (DR (kd n) p r),au (au st (.cells p.cells 0)) (.cells r.cells 0))),aX (Plain.int _ _) hg.keeps]
 rw[zL,Nn,Nn,aP]
 simp only[AV.cells]
 generalize au (au st (.cells p.cells 0)) (.cells r.cells 0)=s at*
 generalize (au st (.cells p.cells 0)).next=q3 at*
 generalize st.next=q2 at*
 rw[stW hc gm hn hk hp p2 p3]
 unfold DR
 by_cases h0:(kd n).w=[]
 . rw[if_pos h0,decide_eq_true h0,pn,aP]
 have fl:=flags h0
 rw[if_neg h0,decide_eq_false h0,kG]
 rw[stWt hc gm hn hk hp p2 p3]
 by_cases h1:r.wt<0\/1000<r.wt
 . rw[if_pos h1,decide_eq_true h1,pn,aP]
 rw[if_neg h1,decide_eq_false h1,kG]
 rw[stP1 hc gm hn hk hp p2 p3,stP2 hc gm hn hk hp p2 p3,stP3 hc gm hn hk hp p2 p3,stP4 hc gm hn hk hp p2 p3]
 have ep:(((decide (r.a≠[])&& !fT n&& !oh n&&decide (n≠17))||(decide (r.b≠[])&& !fT n))||(decide (r.t≠[])&&decide (lQ n=0))||(decide (r.n≠0)&& !yA n))= !zA (kd n) r:=by
   unfold zA
   rw[<-fl.two, <-fl.num]
   have t0:=fl.t0
   have a0:=fl.a0
   have:decide (lQ (n:Int)=0)= !decide ((kd n).t≠0):=by simp[t0]
   rw[this]
   have:(!fT (n:Int)&& !oh (n:Int)&&decide (n≠17))= !decide ((kd n).a≠0):=by
     simp only[ne_eq, <-a0]
     cases fT (n:Int)<;>cases oh (n:Int)<;>simp
   rw[Bool.and_assoc,Bool.and_assoc, <-Bool.and_assoc (!fT (n:Int)),this]
   cases decide ((kd n).a≠0)<;>cases fT (n:Int)<;>cases decide ((kd n).t≠0)<;>cases yA (n:Int)<;>by_cases h3:r.a=[]<;>by_cases h4:r.b=[]<;>by_cases h5:r.t=[]<;>by_cases h6:r.n=0<;>simp[h3,h4,h5,h6]
 rw[ep]
 cases h2:zA (kd n) r with
 |false=>rw[Bool.not_false,pn,aP,if_pos rfl]
 |true=>
 rw[Bool.not_true,kG,if_neg (by simp)]
 rw[stA hc gm hn hk hp p2 p3]
 have ea:((fT (n:Int)||oh (n:Int))&& !(decide (n=10)&&decide (r.a=[]))&&decide (gi p r.a<0))=decide (((kd n).a=103/\gi p r.a<0)\/((kd n).a=101/\r.a≠[]/\gi p r.a<0)):=by
   rw[Bool.eq_iff_iff,decide_eq_true_eq, <-fl.a1, <-fl.a2]
   by_cases wu:n=10
   . have h11:=fl.o10 wu
     have L7:(fT (n:Int)||oh (n:Int))=true:=by rw[h11,Bool.or_true]
     rw[L7]
     by_cases h3:r.a=[]<;>simp[h3,wu]
   . simp only[wu,decide_false,Bool.false_and,Bool.not_false,Bool.and_true,ne_eq,not_false_eq_true,and_true,false_and,or_false]
     cases fT (n:Int)||oh (n:Int)<;>simp
 rw[ea]
 by_cases h3:((kd n).a=103/\gi p r.a<0)\/((kd n).a=101/\r.a≠[]/\gi p r.a<0)
 . rw[decide_eq_true h3,pn,aP,if_pos (h3.elim .inl fun h=> .inr (.inl h))]
 rw[decide_eq_false h3,kG]
 rw[stB hc gm hn hk hp p2 p3]
 rw[fl.two]
 by_cases h4:(kd n).b=true/\gi p r.b<0
 . have:((kd n).b&&decide (gi p r.b<0))=true:=by simp[h4]
   rw[this,pn,aP,if_pos (.inr (.inr h4))]
 have:((kd n).b&&decide (gi p r.b<0))=false:=by
   cases hb:(kd n).b
   . rfl
   . simp[hb] at h4;simp;exact h4
 rw[this,kG,if_neg (fun h=>h.elim (fun h=>h3 (.inl h)) fun h=>h.elim (fun h=>h3 (.inr h)) h4)]
 rw[stN hc gm hn hk hp p2 p3]
 unfold VZ
 simp only[<-fl.a3]
 by_cases h5:n=17/\eU r.a=false
 . have:(decide (n=17)&& !eU r.a)=true:=by simp[h5]
   rw[this,pn,aP,if_pos h5]
 have:(decide (n=17)&& !eU r.a)=false:=by
   by_cases UU:n=17
   . cases hb:eU r.a
     . exact absurd ⟨UU,hb⟩ h5
     . simp
   . simp[UU]
 rw[this,kG,if_neg h5]
 rw[stD hc gm hn hk hp p2 p3,fl.two]
 by_cases h6:(kd n).b=true/\r.a=r.b
 . have:((kd n).b&&decide (r.a=r.b))=true:=by simp[h6]
   rw[this,pn,aP,if_pos h6]
 have:((kd n).b&&decide (r.a=r.b))=false:=by
   cases hb:(kd n).b
   . rfl
   . simp[hb] at h6;simp;exact h6
 rw[this,kG,if_neg h6]
 rw[stT hc gm hn hk hp p2 p3]
 unfold PN
 simp only[<-fl.t1, <-fl.t2]
 by_cases h7:(lQ (n:Int)=1/\ti p r.t<0)\/(lQ (n:Int)=2/\r.t≠[]/\ti p r.t<0)
 . have:((decide (lQ (n:Int)=1)&&decide (ti p r.t<0))||(decide (lQ (n:Int)=2)&&decide (r.t≠[])&&decide (ti p r.t<0)))=true:=by
     rcases h7 with ⟨a,b⟩|⟨a,b,d⟩<;>simp[*]
   rw[this,pn,aP,if_pos h7]
 have:((decide (lQ (n:Int)=1)&&decide (ti p r.t<0))||(decide (lQ (n:Int)=2)&&decide (r.t≠[])&&decide (ti p r.t<0)))=false:=by
   apply Bool.eq_false_iff.2
   intro e
   apply h7
   simpa [and_assoc] using e
 rw[this,kG,if_neg h7]
 have ht:n=7->0<=ti p r.t:=fun e=>by
   apply Classical.byContradiction
   intro e2
   exact h7 (.inl ⟨fl.t1.2 (fl.s7 e),by omega⟩)
 exact aiy hc gm hn hk hp p2 p3 fl.lo fl.sB fl.num ht _ _ _ _ rfl rfl rfl rfl
end Go.Proofs.YtehbdakjkjkekaaGreatDoor
end
section
set_option maxRecDepth 100000
namespace Go.Proofs.YtehbdakjkjkekaaGreatDoor
open Go Go.Ai Go.Proofs
section
variable {H : Type} {enc : TypeId × Value -> H} {w : World} {base : Nat} {spare : Nat -> Bool} {held : Bool}
end
end Go.Proofs.YtehbdakjkjkekaaGreatDoor
end
section
set_option maxRecDepth 100000
namespace Go.Proofs.YtehbdakjkjkekaaGreatDoor
open Go Go.Ai Go.Proofs
variable {c : ai}
theorem X1 (z:Bool) (l:List Ty):dz 3 (Aj z l):=dz.ro fun r hr v hv=>by
 simp only[List.mem_map] at hr
 obtain ⟨g,_,rfl⟩:=hr
 simp only[Ty.cells,List.mem_cons,List.not_mem_nil,or_false] at hv
 rcases hv with rfl|rfl|rfl<;>first|exact dz.str _|exact dz.int _ _
theorem abZ (p:fG):fN (.agg p.cells) (.agg p.cells)=true:=G6 fun v hv=>by
 simp only[fG.cells,List.mem_cons,List.not_mem_nil,or_false] at hv
 rcases hv with rfl|rfl|rfl|rfl|rfl
 . exact VY _ _
 . exact FW _ _
 . exact X1 _ _
 . exact MA _ _
 . exact XO _ _
theorem MH (r:Rl):fN (.agg r.cells) (.agg r.cells)=true:=G6 fun v hv=>by
 simp only[Rl.cells,List.mem_cons,List.not_mem_nil,or_false] at hv
 rcases hv with rfl|rfl|rfl|rfl|rfl|rfl<;>first|exact dz.str _|exact dz.int _ _
theorem TL (H:Pos->Option AB) (nx m:Pos) (cl:Nat) (h:H m=some (.map uG cl)) (n:Nat):
   aE.run H nx (.lookup .i (.agg [.str [],.int .u8 0,.bool false,.int .u8 0,.bool false,.int .i64 0,.bool false,.ax]) false) [.map m,.int .u8 (n:Int)]=some (.val (.agg (kd n).cells)):=by
 have e:sM .i (.int .u8 (n:Int)) uG 0=some (if 1<=n/\n<=18 then some (n - 1,.agg (kd n).cells) else none):=by
   by_cases h:n<=18
   . have:n=0\/n=1\/n=2\/n=3\/n=4\/n=5\/n=6\/n=7\/n=8\/n=9\/n=10\/n=11\/n=12\/n=13\/n=14\/n=15\/n=16\/n=17\/n=18:=by omega
     rcases this with rfl|rfl|rfl|rfl|rfl|rfl|rfl|rfl|rfl|rfl|rfl|rfl|rfl|rfl|rfl|rfl|rfl|rfl|rfl<;>rfl
   . have UN: ∀j:Int,j<=18->qW (n:Int) j=false:=fun j hj=>by rw[jr];simp;omega
     rw[if_neg (by omega)]
     simp[uG,sM,xZ,UN,dK]
 simp only[aE.run,vZ,h,e]
 by_cases h1:1<=n/\n<=18
 . rw[if_pos h1]
 . rw[if_neg h1]
   have:kd n=⟨[],0,false,0,false,0,false,.ax⟩:=by
     unfold kd;split<;>first|rfl|omega
   rw[this];rfl
theorem TM {R:Type} (K:AV->Option R) (h:T AB) (m:Pos) (cl:Nat) (hh:h.get m=some (.map uG cl)) (n:Nat):
  fE (.lookup .i (.agg [.str [],.int .u8 0,.bool false,.int .u8 0,.bool false,.int .i64 0,.bool false,.ax]) false) [.map m,.int .u8 (n:Int)] h (fun _=>true) K=K (.agg (kd n).cells):=by
 unfold fE
 have e:aE.run (fun _=>none) .h (.lookup .i (.agg [.str [],.int .u8 0,.bool false,.int .u8 0,.bool false,.int .i64 0,.bool false,.ax]) false) [.map m,.int .u8 (n:Int)]=none:=rfl
 rw[e]
 simp only
 rw[TL _ _ m cl hh n]
def ud (p:fG) (r:Rl):Int:=if (je p).2≠0 then 2 else uD p r
theorem Sq (hc:Sem c) (p:fG) (hp:p.sS) (hR:ED c p) (r:Rl) (hr:r.Ok) (st:St) (hw:Wf st):c 15 [.agg p.cells,.agg r.cells] st=some (.int .i64 (ud p r),st):=by
 have cH:Wf (au st (.cells p.cells 0)):=eB hw
 have gm:Wf (au (au st (.cells p.cells 0)) (.cells r.cells 0)):=eB cH
 have lq:=Grew.au cH (.cells r.cells 0)
 have hg:=(Grew.au hw (.cells p.cells 0)).trans lq
 have p1:=lq.get (aR st (.cells p.cells 0))
 have p2:=aR (au st (.cells p.cells 0)) (.cells r.cells 0)
 have B:=Rd hc p hp hR _ gm
 obtain ⟨n,hk⟩: ∃n:Nat,r.k=(n:Int):=⟨r.k.toNat,by have:=hr.1;omega⟩
 have hS:uD p r=DR (kd n) p r:=by unfold uD;rw[hk];rfl
 by_cases h:(je p).2=0
 . have hv:=Kf h
   have K:=KQ hc (au (au st (.cells p.cells 0)) (.cells r.cells 0))
   have xU:=Grew.au gm (.map uG 18)
   have zf:=xU.wf
   have kc:=OH hc (kd n) (UO n) p hp hv r _ zf
   have p1':=xU.get p1
   have p2':=xU.get p2
   have look:=fun (K:AV->Option (AV×St))=>TM K _ _ 18 (aR (au (au st (.cells p.cells 0)) (.cells r.cells 0)) (.map uG 18)) n
   have r1:=fun (K:AV->Option (AV×St))=>FL K (o:=0) (v:= .int .u8 r.k) (h:=(au (au (au st (.cells p.cells 0)) (.cells r.cells 0)) (.map uG 18)).heap) (h2:=(au (au st (.cells p.cells 0)) (.cells r.cells 0)).heap) (by rw[p2'];rfl) (by rw[p2];rfl) (C9 (dz.int _ _))
   have r2:=fun (K:AV->Option (AV×St))=>vQ K (m:=5) (o:=0) (l:=p.cells) (h:=(au (au (au st (.cells p.cells 0)) (.cells r.cells 0)) (.map uG 18)).heap) (h2:=(au (au st (.cells p.cells 0)) (.cells r.cells 0)).heap) (by rw[p1'];rfl) (by rw[p1];rfl) (abZ p)
   have r3:=fun (K:AV->Option (AV×St))=>vQ K (m:=6) (o:=0) (l:=r.cells) (h:=(au (au (au st (.cells p.cells 0)) (.cells r.cells 0)) (.map uG 18)).heap) (h2:=(au (au st (.cells p.cells 0)) (.cells r.cells 0)).heap) (by rw[p2'];rfl) (by rw[p2];rfl) (MH r)
   rw[<-hS] at kc
   rw[<-hk] at look
   have e:ud p r=uD p r:=by unfold ud;rw[if_neg (by simp[h])]
   rw[zM hc 1 (r:=(.int .i64 (ud p r),au (au (au st (.cells p.cells 0)) (.cells r.cells 0)) (.map uG 18))),aX (Plain.int _ _) (hg.trans xU).keeps]
   rw[yQ,e]
   simp[p1,p2,p1',p2',B,h,K,look,kc,r1,r2,r3]
 . have e:ud p r=2:=by unfold ud;rw[if_pos h]
   rw[zM hc 1 (r:=(.int .i64 (ud p r),au (au st (.cells p.cells 0)) (.cells r.cells 0))),aX (Plain.int _ _) hg.keeps]
   rw[yQ,e]
   simp[p1,p2,B,h]
theorem MI (hc:Sem c) (p:fG) (hp:p.sS) (hR:ED c p) (r:Rl) (hr:r.Ok) (st:St) (hw:Wf st):c 16 [.agg p.cells,.agg r.cells] st=some (.int .i64 (ud p r),st):=by
 have cH:Wf (au st (.cells p.cells 0)):=eB hw
 have gm:Wf (au (au st (.cells p.cells 0)) (.cells r.cells 0)):=eB cH
 have lq:=Grew.au cH (.cells r.cells 0)
 have hg:=(Grew.au hw (.cells p.cells 0)).trans lq
 have p1:=lq.get (aR st (.cells p.cells 0))
 have p2:=aR (au st (.cells p.cells 0)) (.cells r.cells 0)
 have B:=TH hc p hp hR _ gm
 obtain ⟨n,hk⟩: ∃n:Nat,r.k=(n:Int):=⟨r.k.toNat,by have:=hr.1;omega⟩
 have hn:n<256:=by have:=hr.2;omega
 have hS:uD p r=DR (kd n) p r:=by unfold uD;rw[hk];rfl
 have kc:=TJ hc p hp r n hk hn _ gm
 rw[<-hS] at kc
 rw[Ae hc 1 (r:=(.int .i64 (ud p r),au (au st (.cells p.cells 0)) (.cells r.cells 0))),aX (Plain.int _ _) hg.keeps]
 rw[vk]
 by_cases h:(je p).2=0
 . have e:ud p r=uD p r:=by unfold ud;rw[if_neg (by simp[h])]
   rw[e]
   simp[p1,p2,B,h,kc]
 . have e:ud p r=2:=by unfold ud;rw[if_pos h]
   rw[e]
   simp[p1,p2,B,h]
end Go.Proofs.YtehbdakjkjkekaaGreatDoor
end
