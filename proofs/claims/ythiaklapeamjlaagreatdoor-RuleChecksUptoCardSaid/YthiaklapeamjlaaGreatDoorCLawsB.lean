/- What both checks of a problem answer. -/
import Derived.Test.YthiaklapeamjlaaGreatDoorCLawsA
import Derived.Test.YthiaklapeamjlaaGreatDoorCEvalE
set_option linter.all false
set_option linter.unusedSectionVars false
set_option linter.deprecated false
namespace Go.Proofs.YthiaklapeamjlaaGreatDoor
section
set_option maxRecDepth 100000
open Go Go.Ai Go.Proofs
variable {c : ak}
def kd:Nat->Kd
 |1=>⟨[97,112,97,114,116],103,true,0,true,0,false,.func 132 [] []⟩
 |2=>⟨[98,101,115,105,100,101],103,true,0,false,0,false,.func 133 [] []⟩
 |3=>⟨[97,99,114,111,115,115],103,true,0,false,0,false,.func 134 [] []⟩
 |4=>⟨[110,101,97,114],103,true,0,true,1,false,.func 135 [] []⟩
 |5=>⟨[116,111,103,101,116,104,101,114],103,true,0,false,0,false,.func 136 [] []⟩
 |6=>⟨[97,116],103,false,116,false,0,false,.func 137 [] []⟩
 |7=>⟨[115,101,97,116],103,false,116,true,0,true,.func 138 [] []⟩
 |8=>⟨[97,108,116,101,114,110,97,116,101],0,false,101,false,0,false,.func 139 [] []⟩
 |9=>⟨[104,111,115,116],0,false,101,false,0,false,.func 140 [] []⟩
 |10=>⟨[114,101,97,99,104],101,false,0,false,0,false,.func 141 [] []⟩
 |11=>⟨[115,112,101,97,107],0,false,101,false,0,false,.func 142 [] []⟩
 |12=>⟨[112,101,97,99,101],0,false,101,false,0,false,.func 143 [] []⟩
 |13=>⟨[99,111,109,112,97,110,121],0,false,101,false,0,false,.func 144 [] []⟩
 |14=>⟨[104,111,110,111,117,114],0,false,101,false,0,false,.func 145 [] []⟩
 |15=>⟨[102,105,108,108],0,false,101,true,0,false,.func 146 [] []⟩
 |16=>⟨[108,105,109,105,116],0,false,101,true,0,false,.func 147 [] []⟩
 |17=>⟨[107,105,116,99,104,101,110],100,false,116,false,0,false,.func 148 [] []⟩
 |18=>⟨[109,105,120],0,false,101,false,0,false,.func 149 [] []⟩
 |_=>⟨[],0,false,0,false,0,false,.js⟩
def MD:List (AV×AV×Nat):=[(.int .u8 1,.agg (kd 1).cells,0),(.int .u8 2,.agg (kd 2).cells,1),(.int .u8 3,.agg (kd 3).cells,2),(.int .u8 4,.agg (kd 4).cells,3),(.int .u8 5,.agg (kd 5).cells,4),(.int .u8 6,.agg (kd 6).cells,5),(.int .u8 7,.agg (kd 7).cells,6),(.int .u8 8,.agg (kd 8).cells,7),(.int .u8 9,.agg (kd 9).cells,8),(.int .u8 10,.agg (kd 10).cells,9),(.int .u8 11,.agg (kd 11).cells,10),(.int .u8 12,.agg (kd 12).cells,11),(.int .u8 13,.agg (kd 13).cells,12),(.int .u8 14,.agg (kd 14).cells,13),(.int .u8 15,.agg (kd 15).cells,14),(.int .u8 16,.agg (kd 16).cells,15),(.int .u8 17,.agg (kd 17).cells,16),(.int .u8 18,.agg (kd 18).cells,17)]
theorem Yq (p:Pos): ¬Plain (.map p):=fun h=>by
 have:=h (fun _=>(⟨0,0,0⟩:Go.Ai.Loc)) (fun _=>⟨1,0,0⟩) (p.toNat+1) (p.toNat+1) (fun _=>none) _ (.map p (Nat.lt_succ_self _))
 cases this
theorem aaQ (st:St) (p:Pos) (s':St):tidy st (.map p,s')=(.map p,s'):=by
 unfold tidy;rw[if_neg]
 exact fun e=>Yq p e.1
theorem dm {R:Type} (c:ak) (K:AV->St->Option R) (st:St) (z:List AV) (ps:List (Nat×Nat)) (xs l:List AV) (h:bJ z ps xs=some l):aj c (.build z ps) xs st K=K (.agg l) st:=by
 rw[BW,h];rfl
theorem dn {R:Type} (c:ak) (K:AV->St->Option R) (st:St) (es:List (AV×AV×Nat)) (cl:Nat) (k:IntKind) (x:Int) (v:AV) (hf:fH .i (.int k x) es 0=some none):
  aj c (.mapSet .i) [.map st.next,.int k x,v] (ai st (.map es cl)) K=K .undef (ai st (.map (es++[(.int k x,v,cl)]) (cl+1))):=by
 have:aC.run (fun b=>(ai st (.map es cl)).heap.get b) (ai st (.map es cl)).next (.mapSet .i) [.map st.next,.int k x,v]=some (.aL .undef none (some (st.next,.map (es++[(.int k x,v,cl)]) (cl+1))) none):=by
  simp[aC.run,tV,hf,Za]
 unfold aj bP;rw[this]
 show K .undef (bt (ai st (.map es cl)) st.next _)=_
 rw[acO]
theorem aaR (hc:Sem c) (s:St):c 67 [] s=some (.map s.next,ai s (.map MD 18)):=by
 rw[Wu hc 1 (r:=(.map s.next,ai s (.map MD 18))),aaQ]
 rw[aaS]
 rw[aY,Ov]
 rw[dm (l:=(kd 1).cells) (h:=rfl),dn (hf:=rfl)]
 rw[dm (l:=(kd 2).cells) (h:=rfl),dn (hf:=rfl)]
 rw[dm (l:=(kd 3).cells) (h:=rfl),dn (hf:=rfl)]
 rw[dm (l:=(kd 4).cells) (h:=rfl),dn (hf:=rfl)]
 rw[dm (l:=(kd 5).cells) (h:=rfl),dn (hf:=rfl)]
 rw[dm (l:=(kd 6).cells) (h:=rfl),dn (hf:=rfl)]
 rw[dm (l:=(kd 7).cells) (h:=rfl),dn (hf:=rfl)]
 rw[dm (l:=(kd 8).cells) (h:=rfl),dn (hf:=rfl)]
 rw[dm (l:=(kd 9).cells) (h:=rfl),dn (hf:=rfl)]
 rw[dm (l:=(kd 10).cells) (h:=rfl),dn (hf:=rfl)]
 rw[dm (l:=(kd 11).cells) (h:=rfl),dn (hf:=rfl)]
 rw[dm (l:=(kd 12).cells) (h:=rfl),dn (hf:=rfl)]
 rw[dm (l:=(kd 13).cells) (h:=rfl),dn (hf:=rfl)]
 rw[dm (l:=(kd 14).cells) (h:=rfl),dn (hf:=rfl)]
 rw[dm (l:=(kd 15).cells) (h:=rfl),dn (hf:=rfl)]
 rw[dm (l:=(kd 16).cells) (h:=rfl),dn (hf:=rfl)]
 rw[dm (l:=(kd 17).cells) (h:=rfl),dn (hf:=rfl)]
 rw[dm (l:=(kd 18).cells) (h:=rfl),dn (hf:=rfl)]
 rw[aY,aY]
 . rfl
theorem ai0 {R:Type} (c:ak) (K:AV->St->Option R) (st:St) (m:Pos) (cl:Nat) (h:st.heap.get m=some (.map MD cl)) (n:Nat):
   aj c (.lookup .i (.agg [.str [],.int .u8 0,.bool false,.int .u8 0,.bool false,.int .i64 0,.bool false,.js]) false) [.map m,.int .u8 (n:Int)] st K=K (.agg (kd n).cells) st:=by
 have e:fH .i (.int .u8 (n:Int)) MD 0=some (if 1<=n/\n<=18 then some (n - 1,.agg (kd n).cells) else none):=by
   by_cases h:n<=18
   . have:n=0\/n=1\/n=2\/n=3\/n=4\/n=5\/n=6\/n=7\/n=8\/n=9\/n=10\/n=11\/n=12\/n=13\/n=14\/n=15\/n=16\/n=17\/n=18:=by omega
     rcases this with rfl|rfl|rfl|rfl|rfl|rfl|rfl|rfl|rfl|rfl|rfl|rfl|rfl|rfl|rfl|rfl|rfl|rfl|rfl<;>rfl
   . have MA: ∀j:Int,j<=18->BC (n:Int) j=false:=fun j hj=>by rw[mE];simp;omega
     rw[if_neg (by omega)]
     simp[MD,fH,tU,MA,cw]
 have: ∀z:AV,aC.run (fun b=>st.heap.get b) st.next (.lookup .i z false) [.map m,.int .u8 (n:Int)]=some (.val (if 1<=n/\n<=18 then .agg (kd n).cells else z)):=fun z=>by
   simp only[aC.run,l8,h,e]
   by_cases h1:1<=n/\n<=18
   . rw[if_pos h1,if_pos h1]
   . rw[if_neg h1,if_neg h1]
 unfold aj bP;rw[this]
 by_cases h1:1<=n/\n<=18
 . rw[if_pos h1]
 . rw[if_neg h1]
   have:kd n=⟨[],0,false,0,false,0,false,.js⟩:=by
     unfold kd;split<;>first|rfl|omega
   rw[this];rfl
theorem ai1 (n:Nat):(kd n).sM=true->(kd n).t=116:=by
 unfold kd;split<;>simp
end
section
set_option maxRecDepth 100000
open Go Go.Ai Go.Proofs
variable {c : ak}
def Rl.Ok (r:Rl):Prop:=0<=r.k/\r.k<256
def xy (p:aZ) (r:Rl):Int:=Iv (kd r.k.toNat) p r
def fc (p:aZ):Nat->Nat->Int×Int
 |0,_=>(0,0)
 |  m+1,i=>match p.rs[i]? with
    |none=>(0,0)
    |some r=>if xy p r≠0 then ((i:Int),xy p r) else if i=64 then ((i:Int),7) else fc p m (i+1)
theorem BL (p:aZ): ∀(m i:Nat),(fc p m i).2=0->(fc p m i).1=0
 |0,_,_=>rfl
 |m+    1,i,h=>by
  rw[fc] at h ⊢
  cases h0:p.rs[i]? with
  |none=>rfl
  |some r=>
   rw[h0] at h
   simp only at h ⊢
   by_cases h1:xy p r=0
   .    rw[if_neg (by simp[h1])] at h ⊢
        by_cases h2:i=64
        . rw[if_pos h2] at h;simp at h
        . rw[if_neg h2] at h ⊢; exact BL p m (i+1) h
   .    rw[if_pos h1] at h;exact absurd h h1
def bN (p:aZ):Int×Int:=if (e9 p).2≠0 then e9 p else fc p 100 0
theorem ad9 (hc:Sem c) (p:aZ) (hp:p.lq) (hr: ∀r∈p.rs,r.Ok) (hv:(bh p.ts).2=0) (q1 mp:Pos) (cl:Nat) (F:Nat) (k1 k2): ∀(m k:Nat) (st:St),Wf st->st.heap.get q1=some (.cells p.cells 0)->st.heap.get mp=some (.map MD cl)->p.rs.length<=k+m->k<=p.rs.length->
  ∃st',Grew st st'/\rX c F k1 k2 (m+1) [.ptr q1 0,.map mp,dG p.rz p.rs,.int .i64 (p.rs.length:Int),.int .i64 (k:Int)] st=if (fc p m k).2=0 then k2 [] st' else k1 [.int .i64 (fc p m k).1,.int .i64 (fc p m k).2] st':=by
 have hl:=hp.rs
 intro m
 induction m with
 |zero=>
  intro k st hw h1 h2 h3 h4
  obtain rfl:k=p.rs.length:=by omega
  refine ⟨st,Grew.refl hw,?_⟩
  rw[zH]
  simp[fc]
 |succ m ih=>
  intro k st hw hq hm h3 h4
  by_cases h:k<p.rs.length
  . have w:ay .i64 ((k:Int)+1)=((k+1:Nat):Int):=wrap64 (by omega) (by omega)
    have aX:Wf (ai st (.cells p.rs[k].cells 0)):=aQ hw
    have hg:=Grew.ai hw (.cells p.rs[k].cells 0)
    have UZ:=hg.get hq
    have j8:=hg.get hm
    have hn:=aH st (.cells p.rs[k].cells 0)
    obtain ⟨n,hk⟩: ∃n:Nat,p.rs[k].k=(n:Int):=⟨p.rs[k].k.toNat,by have:=(hr _ (List.getElem_mem h)).1;omega⟩
    have N5:=afs hc (kd n) (ai1 n) p hp hv p.rs[k] _ aX
    have hS:xy p p.rs[k]=Iv (kd n) p p.rs[k]:=by unfold xy;rw[hk];rfl
    have KV:=fun (K:AV->St->Option (AV×St))=>ai0 c K _ mp cl j8 n
    have lf:=fun (K:AV->St->Option (AV×St))=>dy c K st 6 (.agg p.rs[k].cells) [.int .u8 0,.int .i64 0,.str [],.str [],.str [],.int .i64 0] rfl rfl (Rl.one _)
    rw[show (AV.agg p.rs[k].cells).cells=p.rs[k].cells from rfl] at lf
    rw[<-hS] at N5
    rw[<-hk] at KV
    obtain ⟨st',g1,g2⟩:=ih (k+1) _ aX UZ j8 (by omega) (by omega)
    rw[zH,fc,List.getElem?_eq_getElem h]
    simp only
    by_cases h5:xy p p.rs[k]=0
    .   rw[if_neg (by simp[h5])]
        by_cases h6:k=64
        . refine ⟨_,hg,?_⟩
          rw[if_pos h6]
          have h6i:decide ((k:Int)=64)=true:=by simp only[decide_eq_true_eq];omega
          simp[-dy,lf,dG,h,UZ,j8,KV,N5,h5,h6i]
        . refine ⟨st',hg.trans g1,?_⟩
          rw[if_neg h6, <-g2]
          have h6i: ¬(k:Int)=64:=by omega
          simp[-dy,lf,dG,h,UZ,j8,KV,N5,h5,h6i,w]
    .   refine ⟨_,hg,?_⟩
        rw[if_pos h5]
        simp[-dy,lf,dG,h,UZ,j8,KV,N5,h5]
  . obtain rfl:k=p.rs.length:=by omega
    refine ⟨st,Grew.refl hw,?_⟩
    rw[zH]
    simp[fc]
theorem ab3 {p:aZ} (h:(e9 p).2=0):(bh p.ts).2=0:=by
 unfold e9 at h
 by_cases h1:(bh p.ts).2=0
 . exact h1
 . rw[if_pos h1] at h;exact absurd h h1
theorem CB (hc:Sem c) (p:aZ) (hp:p.lq) (hR:E5 c p) (hr: ∀r∈p.rs,r.Ok) (st:St) (hw:Wf st):c 21 [.agg p.cells] st=some (.tuple [.int .i64 (bN p).1,.int .i64 (bN p).2],st):=by
 have pJ:Plain (.tuple [.int .i64 (bN p).1,.int .i64 (bN p).2]):=Plain.tuple (by simp[Plain.int])
 have aX:Wf (ai st (.cells p.cells 0)):=aQ hw
 have Hq:=Grew.ai hw (.cells p.cells 0)
 have dS:(ai st (.cells p.cells 0)).heap.get st.next=some (.cells p.cells 0):=aH _ _
 have B:=aht hc p hp hR _ aX
 by_cases h:(e9 p).2=0
 . have hv:=ab3 h
   have K:=aaR hc (ai st (.cells p.cells 0))
   have eP:Wf (ai (ai st (.cells p.cells 0)) (.map MD 18)):=aQ aX
   have yp:=Grew.ai aX (.map MD 18)
   obtain ⟨st',g1,g2⟩:=ad9 hc p hp hr hv st.next (ai st (.cells p.cells 0)).next 18 101 (fun vs s50=>cQ vs fun x2 vs=>cQ vs fun x3 vs=>eT vs (
   some (.tuple [x2,x3],s50))) (fun vs s51=>eT vs (
   aj c .move [(.int .i64 0)] s51 fun x2 s52=>
 aj c .move [(.int .i64 0)] s52 fun x3 s53=>
 some (.tuple [x2,x3],s53))) 100 0 _ eP (yp.get dS) (aH _ _) (by have:=hp.rs;omega) (by omega)
   have e:bN p=fc p 100 0:=by unfold bN;rw[if_neg (by simp[h])]
   have e0:=ab0 h
   rw[JK hc 101 (r:=(.tuple [.int .i64 (bN p).1,.int .i64 (bN p).2],st')),au pJ ((Hq.trans yp).trans g1).keeps]
   rw[OL,e]
   simp at g2
   simp[dS,B,h,K,g2]
   by_cases h2:(fc p 100 0).2=0
   . have:=BL p 100 0 h2
     simp[h2,this]
   . simp[h2]
 . have e:bN p=e9 p:=by unfold bN;rw[if_pos h]
   rw[JK hc 101 (r:=(.tuple [.int .i64 (bN p).1,.int .i64 (bN p).2],ai st (.cells p.cells 0))),au pJ Hq.keeps]
   rw[OL,e]
   simp[dS,B,h]
end
section
set_option maxRecDepth 100000
open Go Go.Ai Go.Proofs
variable {c : ak}
def kE (k:Int):Bool:=decide (k=1)||decide (k=2)||decide (k=3)||decide (k=4)||decide (k=5)
theorem JL (hc:Sem c) (k:Int) (st:St):c 182 [.int .u8 k] st=some (.bool (kE k),st):=by
 rw[LL hc 1 (r:=(.bool (kE k),st)),au (Plain.bool _) (aM.refl st)]
 rw[OM]
 unfold kE
 by_cases e0:k=1
 . simp[e0]
 by_cases e1:k=2
 . simp[e0,e1]
 by_cases e2:k=3
 . simp[e0,e1,e2]
 by_cases e3:k=4
 . simp[e0,e1,e2,e3]
 by_cases e4:k=5
 . simp[e0,e1,e2,e3,e4]
 simp[e0,e1,e2,e3,e4]
def vT (k:Int):Bool:=decide (k=6)||decide (k=7)||decide (k=10)
theorem afu (hc:Sem c) (k:Int) (st:St):c 183 [.int .u8 k] st=some (.bool (vT k),st):=by
 rw[LM hc 1 (r:=(.bool (vT k),st)),au (Plain.bool _) (aM.refl st)]
 rw[ON]
 unfold vT
 by_cases e0:k=6
 . simp[e0]
 by_cases e1:k=7
 . simp[e0,e1]
 by_cases e2:k=10
 . simp[e0,e1,e2]
 simp[e0,e1,e2]
def OO (k:Int):Bool:=decide (k=1)||decide (k=4)||decide (k=7)||decide (k=15)||decide (k=16)
theorem XC (hc:Sem c) (k:Int) (st:St):c 185 [.int .u8 k] st=some (.bool (OO k),st):=by
 rw[Gh hc 1 (r:=(.bool (OO k),st)),au (Plain.bool _) (aM.refl st)]
 rw[JM]
 unfold OO
 by_cases e0:k=1
 . simp[e0]
 by_cases e1:k=4
 . simp[e0,e1]
 by_cases e2:k=7
 . simp[e0,e1,e2]
 by_cases e3:k=15
 . simp[e0,e1,e2,e3]
 by_cases e4:k=16
 . simp[e0,e1,e2,e3,e4]
 simp[e0,e1,e2,e3,e4]
def qR (k:Int):Int:=if kE k=true\/k=10 then 0 else if k=6\/k=7\/k=17 then 1 else 2
theorem XD (hc:Sem c) (k:Int) (st:St):c 184 [.int .u8 k] st=some (.int .i64 (qR k),st):=by
 rw[Gi hc 1 (r:=(.int .i64 (qR k),st)),au (Plain.int _ _) (aM.refl st)]
 rw[JN]
 have t:=JL hc k st
 unfold qR
 cases h:kE k with
 |true=>simp[t,h]
 |false=>
  by_cases e1:k=10
  . rw[e1] at t h;simp[t,h,e1]
  by_cases e2:k=6
  . rw[e2] at t h;simp[t,h,e2]
  by_cases e3:k=7
  . rw[e3] at t h;simp[t,h,e3]
  by_cases e4:k=17
  . rw[e4] at t h;simp[t,h,e4]
  simp[t,h,e1,e2,e3,e4]
def wl:List AV:=(List.range 19).map fun i=> .str (kd i).w
theorem aaT {R:Type} (c:ak) (K:AV->St->Option R) (st:St) (es len:Nat) (z:List AV) (ps:List Nat) (xs l:List AV) (h:bJ (bC z len) (ps.map fun i=>(i*es,es)) xs=some l):
  aj c (.buildSlice es len z ps) xs st K=K (.slice st.next 0 len (some len) es) (ai st (.cells l 0)):=by
 rw[cB,h];rfl
theorem aj4 (n:Nat) (h:n<19):wl[n]? =some (.str (kd n).w):=by simp[wl,h]
theorem ai2 (hc:Sem c) (n:Nat) (hn:n<256) (st:St) (hw:Wf st):c 181 [.int .u8 (n:Int)] st=some (.str (kd n).w,st):=by
 have w:ay .i64 (n:Int)=(n:Int):=wrap64 (by omega) (by omega)
 rw[JO hc 1 (r:=(.str (kd n).w,ai st (.cells wl 0))),au (Plain.str _) (aU hw)]
 rw[NA]
 rw[aY,aaT (l:=wl) (h:=rfl)]
 have hlen: ∀(K:AV->St->Option (AV×St)) (s:St),aj c (.lenB .l) [.slice st.next 0 19 (some 19) 1] s K=K (.int .i64 19) s:=fun K s=>aI c K (fun H n=>rfl) s
 by_cases h:19<=n
 . have e:(kd n).w=[]:=by unfold kd;split<;>first|rfl|omega
   have hi:(19:Int)<=(n:Int):=by omega
   simp[w,h,hi,e,hlen]
 . have hi: ¬(19:Int)<=(n:Int):=by omega
   have h':n<19:=by omega
   have hidx: ∀(K:AV->St->Option (AV×St)) (s:St),aj c (.idxA 1 none) [.slice st.next 0 19 (some 19) 1,.int .u8 (n:Int)] s K=K (.ptr st.next n) s:=fun K s=>aI c K (fun H m=>by
    simp[aC.run,pG,jw,D0,h']) s
   simp[w,h,hi,h',aj4,hlen,hidx]
theorem aaU (z:Bool) (ts:List az) (s:List Nat) (hl:ts.length<=100) (F:Nat) (st:St) (k1 k2): ∀(m k:Nat),ts.length<=k+m->k<=ts.length->
  fA c F k1 k2 (m+1) [tabs z ts,.str s,.int .i64 (k:Int)] st=if 0<=scan (iX ts s) (ts.length - k) k then k1 [.int .i64 (scan (iX ts s) (ts.length - k) k)] st else k2 [] st:=by
 intro m
 induction m with
 |zero=>
  intro k h1 h2
  obtain rfl:k=ts.length:=by omega
  rw[tE]
  simp[scan]
 |succ m ih=>
  intro k h1 h2
  rw[tE]
  by_cases h:k<ts.length
  . have e:ts.length - k=(ts.length - (k+1))+1:=by omega
    have w:ay .i64 ((k:Int)+1)=((k+1:Nat):Int):=wrap64 (by omega) (by omega)
    rw[e,scan]
    by_cases hb:ts[k].name=s
    .   have dD:iX ts s k=true:=by simp[iX,h,hb]
        rw[dD]
        simp[tabs,h,hb]
    .   have dD:iX ts s k=false:=by simp[iX,h,hb]
        rw[dD]
        simp only[Bool.false_eq_true,if_false]
        rw[<-ih (k+1) (by omega) (by omega)]
        simp[tabs,h,hb,w]
  . obtain rfl:k=ts.length:=by omega
    simp[scan]
theorem aea (hc:Sem c) (z:Bool) (ts:List az) (s:List Nat) (hl:ts.length<=100) (st:St):c 188 [tabs z ts,.str s] st=some (.int .i64 (scan (iX ts s) ts.length 0),st):=by
 rw[E6 hc 101 (r:=(.int .i64 (scan (iX ts s) ts.length 0),st)),au (Plain.int _ _) (aM.refl st)]
 rw[Iw]
 have L: ∀k1 k2,fA c 101 k1 k2 101 [tabs z ts,.str s,.int .i64 0] st=if 0<=scan (iX ts s) ts.length 0 then k1 [.int .i64 (scan (iX ts s) ts.length 0)] st else k2 [] st:=
   fun k1 k2=>aaU z ts s hl 101 st k1 k2 100 0 (by omega) (by omega)
 have g:=JD (iX ts s) ts.length 0
 by_cases h:0<=scan (iX ts s) ts.length 0
 . simp only[h,if_true] at L
   simp[L]
 . simp only[h,if_false] at L
   have:=g.2 (by omega)
   simp[L,this]
end
section
set_option maxRecDepth 100000
set_option linter.unusedVariables false
open Go Go.Ai Go.Proofs
variable {c : ak}
theorem stW {R:Type} (hc:Sem c) {p:aZ} {r:Rl} {q2 q3:Pos} {s:St} {n:Nat} (hw:Wf s) (hn:n<256) (hk:r.k=(n:Int)) (hp:p.lq) (p2:s.heap.get q2=some (.cells p.cells 0)) (p3:s.heap.get q3=some (.cells r.cells 0)) (K:AV->AV->St->Option R):
  (aj c (.fieldA 0) [(.ptr q3 0)] s fun x9 s3=>
   aj c (.load none) [x9] s3 fun x10 s4=>
   aj c .move [x10] s4 fun x5 s5=>
   aj c .move [x5] s5 fun x11 s6=>
   aj c (.callF 181) [x11] s6 fun x12 s7=>
   aj c (.bin .eql .num) [x12,(.str [])] s7 fun x13 s8=>
   K x5 x13 s8)=K (.int .u8 (n:Int)) (.bool (decide ((kd n).w=[]))) s:=by
 have W:=ai2 hc n hn s hw
 simp[p3,hk,W]
theorem stWt {R:Type} (hc:Sem c) {p:aZ} {r:Rl} {q2 q3:Pos} {s:St} {n:Nat} (hw:Wf s) (hn:n<256) (hk:r.k=(n:Int)) (hp:p.lq) (p2:s.heap.get q2=some (.cells p.cells 0)) (p3:s.heap.get q3=some (.cells r.cells 0)) (K:AV->St->Option R):
   (aj c (.fieldA 1) [(.ptr q3 0)] s fun x14 s10=>
    aj c (.load none) [x14] s10 fun x15 s11=>
    aj c (.bin .lss .num) [x15,(.int .i64 0)] s11 fun x16 s12=>
    aj c .move [x16] s12 fun x17 Hs=>
    bB c x17 false (.fieldA 1) [(.ptr q3 0)] Hs fun JP s14=>
    bB c x17 false (.load none) [JP] s14 fun x19 s15=>
    bB c x17 false (.bin .gtr .num) [x19,(.int .i64 1000)] s15 fun x20 JQ=>
    aj c .pick [x17,(.bool true),x20] JQ fun x21 JR=>
    K x21 JR)=K (.bool (decide (r.wt<0\/1000<r.wt))) s:=by
 by_cases h1:r.wt<0
 . simp[p3,h1]
 . simp[p3,h1]
theorem stP1 {R:Type} (hc:Sem c) {p:aZ} {r:Rl} {q2 q3:Pos} {s:St} {n:Nat} (hw:Wf s) (hn:n<256) (hk:r.k=(n:Int)) (hp:p.lq) (p2:s.heap.get q2=some (.cells p.cells 0)) (p3:s.heap.get q3=some (.cells r.cells 0)) (K:AV->St->Option R):
   (aj c (.fieldA 2) [(.ptr q3 0)] s fun x22 E7=>
    aj c (.load none) [x22] E7 fun x23 E8=>
    aj c (.bin .neq .num) [x23,(.str [])] E8 fun x24 s21=>
    aj c .move [x24] s21 fun x25 s22=>
    bB c x25 true .move [(.int .u8 (n:Int))] s22 fun x26 s23=>
    bB c x25 true (.callF 182) [x26] s23 fun x27 s24=>
    bB c x25 true (.un .not) [x27] s24 fun x28 s25=>
    aj c .pick [x25,x28,(.bool false)] s25 fun x29 s26=>
    aj c .move [x29] s26 fun MC s27=>
    bB c MC true .move [(.int .u8 (n:Int))] s27 fun x31 s28=>
    bB c MC true (.callF 183) [x31] s28 fun x32 s29=>
    bB c MC true (.un .not) [x32] s29 fun x33 s30=>
    aj c .pick [MC,x33,(.bool false)] s30 fun x34 s31=>
    aj c .move [x34] s31 fun x35 s32=>
    bB c x35 true .move [(.int .u8 (n:Int))] s32 fun x36 s33=>
    bB c x35 true (.bin .neq .num) [x36,(.int .u8 17)] s33 fun x37 UO=>
    aj c .pick [x35,x37,(.bool false)] UO fun x38 UP=>
    K x38 UP)=K (.bool (decide (r.a≠[])&& !kE n&& !vT n&&decide (n≠17))) s:=by
 have T1:=JL hc (n:Int) s
 have T2:=afu hc (n:Int) s
 by_cases h:r.a=[]
 . simp[p3,h]
 . cases h1:kE (n:Int) with
   |true=>simp[p3,h,T1,h1]
   |false=>
    cases h2:vT (n:Int) with
    |true=>simp[p3,h,T1,T2,h1,h2]
    |   false=>
        have e:decide ((n:Int)=17)=decide (n=17):=by by_cases hh:n=17<;>simp[hh];omega
        simp[p3,h,T1,T2,h1,h2,e]
theorem stP2 {R:Type} (hc:Sem c) {p:aZ} {r:Rl} {q2 q3:Pos} {s:St} {n:Nat} (hw:Wf s) (hn:n<256) (hk:r.k=(n:Int)) (hp:p.lq) (p2:s.heap.get q2=some (.cells p.cells 0)) (p3:s.heap.get q3=some (.cells r.cells 0)) (b:Bool) (K:AV->St->Option R):
  (aj c .move [(.bool b)] s fun x39 s36=>
    bB c x39 false (.fieldA 3) [(.ptr q3 0)] s36 fun x40 s37=>
    bB c x39 false (.load none) [x40] s37 fun E9 s38=>
    bB c x39 false (.bin .neq .num) [E9,(.str [])] s38 fun U0 s39=>
    bB c x39 false .move [U0] s39 fun ME s40=>
    bB c ME true .move [(.int .u8 (n:Int))] s40 fun x44 s41=>
    bB c ME true (.callF 182) [x44] s41 fun x45 s42=>
    bB c ME true (.un .not) [x45] s42 fun x46 s43=>
    bB c x39 false .pick [ME,x46,(.bool false)] s43 fun x47 s44=>
    aj c .pick [x39,(.bool true),x47] s44 fun x48 s45=>
    K x48 s45)=K (.bool (b||(decide (r.b≠[])&& !kE n))) s:=by
 have T1:=JL hc (n:Int) s
 cases b with
 |true=>simp
 |false=>
  by_cases h:r.b=[]
  . simp[p3,h]
  . simp[p3,h,T1]
theorem stP3 {R:Type} (hc:Sem c) {p:aZ} {r:Rl} {q2 q3:Pos} {s:St} {n:Nat} (hw:Wf s) (hn:n<256) (hk:r.k=(n:Int)) (hp:p.lq) (p2:s.heap.get q2=some (.cells p.cells 0)) (p3:s.heap.get q3=some (.cells r.cells 0)) (b:Bool) (K:AV->St->Option R):
  (aj c .move [(.bool b)] s fun x49 s46=>
    bB c x49 false (.fieldA 4) [(.ptr q3 0)] s46 fun x50 s47=>
    bB c x49 false (.load none) [x50] s47 fun x51 s48=>
    bB c x49 false (.bin .neq .num) [x51,(.str [])] s48 fun x52 s49=>
    bB c x49 false .move [x52] s49 fun x53 s50=>
    bB c x53 true .move [(.int .u8 (n:Int))] s50 fun x54 s51=>
    bB c x53 true (.callF 184) [x54] s51 fun x55 s52=>
    bB c x53 true (.bin .eql .num) [x55,(.int .i64 0)] s52 fun x56 s53=>
    bB c x49 false .pick [x53,x56,(.bool false)] s53 fun x57 s54=>
    aj c .pick [x49,(.bool true),x57] s54 fun x58 s55=>
    K x58 s55)=K (.bool (b||(decide (r.t≠[])&&decide (qR n=0)))) s:=by
 have T1:=XD hc (n:Int) s
 cases b with
 |true=>simp
 |false=>
  by_cases h:r.t=[]
  . simp[p3,h]
  . simp[p3,h,T1]
theorem stP4 {R:Type} (hc:Sem c) {p:aZ} {r:Rl} {q2 q3:Pos} {s:St} {n:Nat} (hw:Wf s) (hn:n<256) (hk:r.k=(n:Int)) (hp:p.lq) (p2:s.heap.get q2=some (.cells p.cells 0)) (p3:s.heap.get q3=some (.cells r.cells 0)) (b:Bool) (K:AV->St->Option R):
  (aj c .move [(.bool b)] s fun x59 s56=>
    bB c x59 false (.fieldA 5) [(.ptr q3 0)] s56 fun x60 s57=>
    bB c x59 false (.load none) [x60] s57 fun x61 s58=>
    bB c x59 false (.bin .neq .num) [x61,(.int .i64 0)] s58 fun x62 s59=>
    bB c x59 false .move [x62] s59 fun x63 s60=>
    bB c x63 true .move [(.int .u8 (n:Int))] s60 fun x64 s61=>
    bB c x63 true (.callF 185) [x64] s61 fun x65 s62=>
    bB c x63 true (.un .not) [x65] s62 fun x66 s63=>
    bB c x59 false .pick [x63,x66,(.bool false)] s63 fun x67 s64=>
    aj c .pick [x59,(.bool true),x67] s64 fun x68 s65=>
    K x68 s65)=K (.bool (b||(decide (r.n≠0)&& !OO n))) s:=by
 have T1:=XC hc (n:Int) s
 cases b with
 |true=>simp
 |false=>
  by_cases h:r.n=0
  . simp[p3,h]
  . simp[p3,h,T1]
theorem stA {R:Type} (hc:Sem c) {p:aZ} {r:Rl} {q2 q3:Pos} {s:St} {n:Nat} (hw:Wf s) (hn:n<256) (hk:r.k=(n:Int)) (hp:p.lq) (p2:s.heap.get q2=some (.cells p.cells 0)) (p3:s.heap.get q3=some (.cells r.cells 0)) (K:AV->St->Option R):
  (aj c .move [(.int .u8 (n:Int))] s fun x69 s67=>
    aj c (.callF 182) [x69] s67 fun x70 s68=>
    aj c .move [x70] s68 fun x71 s69=>
    bB c x71 false .move [(.int .u8 (n:Int))] s69 fun x72 s70=>
    bB c x71 false (.callF 183) [x72] s70 fun x73 s71=>
    aj c .pick [x71,(.bool true),x73] s71 fun x74 s72=>
    aj c .move [x74] s72 fun XE s73=>
    bB c XE true .move [(.int .u8 (n:Int))] s73 fun x76 s74=>
    bB c XE true (.bin .eql .num) [x76,(.int .u8 10)] s74 fun x77 s75=>
    bB c XE true .move [x77] s75 fun x78 s76=>
    bB c x78 true (.fieldA 2) [(.ptr q3 0)] s76 fun x79 s77=>
    bB c x78 true (.load none) [x79] s77 fun x80 s78=>
    bB c x78 true (.bin .eql .num) [x80,(.str [])] s78 fun x81 s79=>
    bB c XE true .pick [x78,x81,(.bool false)] s79 fun x82 s80=>
    bB c XE true (.un .not) [x82] s80 fun x83 s81=>
    aj c .pick [XE,x83,(.bool false)] s81 fun x84 s82=>
    aj c .move [x84] s82 fun x85 s83=>
    bB c x85 true (.fieldA 1) [(.ptr q2 0)] s83 fun x86 s84=>
    bB c x85 true (.load none) [x86] s84 fun x87 s85=>
    bB c x85 true (.fieldA 2) [(.ptr q3 0)] s85 fun x88 s86=>
    bB c x85 true (.load none) [x88] s86 fun x89 s87=>
    bB c x85 true (.callF 186) [x87,x89] s87 fun x90 s88=>
    bB c x85 true (.bin .lss .num) [x90,(.int .i64 0)] s88 fun x91 s89=>
    aj c .pick [x85,x91,(.bool false)] s89 fun x92 s90=>
    K x92 s90)=K (.bool ((kE n||vT n)&& !(decide (n=10)&&decide (r.a=[]))&&decide (gi p r.a<0))) s:=by
 have T1:=JL hc (n:Int) s
 have T2:=afu hc (n:Int) s
 have A:c 186 [aT p.gz p.gs,.str r.a] s=some (.int .i64 (gi p r.a),s):=US hc p.gz p.gs r.a (by have:=hp.gs;unfold cO;omega) s
 have e:((n:Int)=10)=(n=10):=by apply propext;omega
 cases h1:kE (n:Int) with
 |true=>
  by_cases h3:n=10
  . by_cases h4:r.a=[]
    .   simp[p2,p3,T1,h1,h3,h4]
        try simp_all
    .   simp[p2,p3,T1,h1,h3,h4,A]
        try simp_all
  . simp[p2,p3,T1,h1,e,h3,A]
 |false   =>
  cases h2:vT (n:Int) with
  | true=>
    by_cases h3:n=10
    .   by_cases h4:r.a=[]
        . simp[p2,p3,T1,T2,h1,h2,h3,h4]
          try simp_all
        . simp[p2,p3,T1,T2,h1,h2,h3,h4,A]
          try simp_all
    .   simp[p2,p3,T1,T2,h1,h2,e,h3,A]
  |false=>simp[p2,p3,T1,T2,h1,h2]
theorem stB {R:Type} (hc:Sem c) {p:aZ} {r:Rl} {q2 q3:Pos} {s:St} {n:Nat} (hw:Wf s) (hn:n<256) (hk:r.k=(n:Int)) (hp:p.lq) (p2:s.heap.get q2=some (.cells p.cells 0)) (p3:s.heap.get q3=some (.cells r.cells 0)) (K:AV->St->Option R):
  (aj c .move [(.int .u8 (n:Int))] s fun x93 s92=>
   aj c (.callF 182) [x93] s92 fun x94 s93=>
   aj c .move [x94] s93 fun x95 s94=>
   bB c x95 true (.fieldA 1) [(.ptr q2 0)] s94 fun x96 s95=>
   bB c x95 true (.load none) [x96] s95 fun x97 s96=>
   bB c x95 true (.fieldA 3) [(.ptr q3 0)] s96 fun x98 s97=>
   bB c x95 true (.load none) [x98] s97 fun x99 s98=>
   bB c x95 true (.callF 186) [x97,x99] s98 fun x100 s99=>
   bB c x95 true (.bin .lss .num) [x100,(.int .i64 0)] s99 fun x101 s100=>
   aj c .pick [x95,x101,(.bool false)] s100 fun x102 s101=>
   K x102 s101)=K (.bool (kE n&&decide (gi p r.b<0))) s:=by
 have T1:=JL hc (n:Int) s
 have A:c 186 [aT p.gz p.gs,.str r.b] s=some (.int .i64 (gi p r.b),s):=US hc p.gz p.gs r.b (by have:=hp.gs;unfold cO;omega) s
 cases h1:kE (n:Int)<;>simp[p2,p3,T1,h1,A]
theorem stN {R:Type} (hc:Sem c) {p:aZ} {r:Rl} {q2 q3:Pos} {s:St} {n:Nat} (hw:Wf s) (hn:n<256) (hk:r.k=(n:Int)) (hp:p.lq) (p2:s.heap.get q2=some (.cells p.cells 0)) (p3:s.heap.get q3=some (.cells r.cells 0)) (K:AV->St->Option R):
   (aj c .move [(.int .u8 (n:Int))] s fun x103 s103=>
    aj c (.bin .eql .num) [x103,(.int .u8 17)] s103 fun x104 s104=>
    aj c .move [x104] s104 fun aaV s105=>
    bB c aaV true (.fieldA 2) [(.ptr q3 0)] s105 fun x106 s106=>
    bB c aaV true (.load none) [x106] s106 fun x107 s107=>
    bB c aaV true (.callF 187) [x107] s107 fun x108 s108=>
    bB c aaV true (.un .not) [x108] s108 fun x109 s109=>
    aj c .pick [aaV,x109,(.bool false)] s109 fun x110 s110=>
    K x110 s110)=K (.bool (decide (n=17)&& !eU r.a)) s:=by
 have A:=Eu hc r.a s
 have e:((n:Int)=17)=(n=17):=by apply propext;omega
 by_cases h1:n=17
 . simp[p3,e,h1,A]
 . simp[p3,e,h1]
theorem stD {R:Type} (hc:Sem c) {p:aZ} {r:Rl} {q2 q3:Pos} {s:St} {n:Nat} (hw:Wf s) (hn:n<256) (hk:r.k=(n:Int)) (hp:p.lq) (p2:s.heap.get q2=some (.cells p.cells 0)) (p3:s.heap.get q3=some (.cells r.cells 0)) (K:AV->St->Option R):
  (aj c .move [(.int .u8 (n:Int))] s fun x111 s112=>
   aj c (.callF 182) [x111] s112 fun x112 s113=>
   aj c .move [x112] s113 fun Wv s114=>
   bB c Wv true (.fieldA 2) [(.ptr q3 0)] s114 fun x114 s115=>
   bB c Wv true (.load none) [x114] s115 fun x115 s116=>
   bB c Wv true (.fieldA 3) [(.ptr q3 0)] s116 fun x116 s117=>
   bB c Wv true (.load none) [x116] s117 fun x117 s118=>
   bB c Wv true (.bin .eql .num) [x115,x117] s118 fun x118 s119=>
   aj c .pick [Wv,x118,(.bool false)] s119 fun x119 s120=>
   K x119 s120)=K (.bool (kE n&&decide (r.a=r.b))) s:=by
 have T1:=JL hc (n:Int) s
 cases h1:kE (n:Int)<;>simp[p3,T1,h1]
theorem stT {R:Type} (hc:Sem c) {p:aZ} {r:Rl} {q2 q3:Pos} {s:St} {n:Nat} (hw:Wf s) (hn:n<256) (hk:r.k=(n:Int)) (hp:p.lq) (p2:s.heap.get q2=some (.cells p.cells 0)) (p3:s.heap.get q3=some (.cells r.cells 0)) (K:AV->AV->St->Option R):
   (aj c (.fieldA 0) [(.ptr q2 0)] s fun x120 s122=>
     aj c (.load none) [x120] s122 fun x121 s123=>
     aj c (.fieldA 4) [(.ptr q3 0)] s123 fun x122 s124=>
     aj c (.load none) [x122] s124 fun x123 s125=>
     aj c (.callF 188) [x121,x123] s125 fun x124 s126=>
     aj c .move [x124] s126 fun x6 s127=>
     aj c .move [(.int .u8 (n:Int))] s127 fun x125 s128=>
     aj c (.callF 184) [x125] s128 fun x126 s129=>
     aj c (.bin .eql .num) [x126,(.int .i64 1)] s129 fun x127 s130=>
     aj c .move [x127] s130 fun ahv s131=>
     bB c ahv true .move [x6] s131 fun x129 s132=>
     bB c ahv true (.bin .lss .num) [x129,(.int .i64 0)] s132 fun x130 s133=>
     aj c .pick [ahv,x130,(.bool false)] s133 fun x131 s134=>
     aj c .move [x131] s134 fun OP s135=>
     bB c OP false .move [(.int .u8 (n:Int))] s135 fun x133 s136=>
     bB c OP false (.callF 184) [x133] s136 fun x134 s137=>
     bB c OP false (.bin .eql .num) [x134,(.int .i64 2)] s137 fun x135 s138=>
     bB c OP false .move [x135] s138 fun aeb s139=>
     bB c aeb true (.fieldA 4) [(.ptr q3 0)] s139 fun x137 s140=>
     bB c aeb true (.load none) [x137] s140 fun x138 s141=>
     bB c aeb true (.bin .neq .num) [x138,(.str [])] s141 fun x139 ahf=>
     bB c OP false .pick [aeb,x139,(.bool false)] ahf fun x140 ahg=>
     bB c OP false .move [x140] ahg fun ahw ahh=>
     bB c ahw true .move [x6] ahh fun x142 ahi=>
     bB c ahw true (.bin .lss .num) [x142,(.int .i64 0)] ahi fun x143 s146=>
     bB c OP false .pick [ahw,x143,(.bool false)] s146 fun x144 s147=>
     aj c .pick [OP,(.bool true),x144] s147 fun x145 s148=>
     K x6 x145 s148)=K (.int .i64 (ti p r.t)) (.bool ((decide (qR n=1)&&decide (ti p r.t<0))||(decide (qR n=2)&&decide (r.t≠[])&&decide (ti p r.t<0)))) s:=by
 have T1:=XD hc (n:Int) s
 have A:c 188 [tabs p.tz p.ts,.str r.t] s=some (.int .i64 (ti p r.t),s):=aea hc p.tz p.ts r.t hp.ts s
 by_cases h1:qR (n:Int)=1
 . by_cases h2:ti p r.t<0
   . simp[p2,p3,T1,h1,h2,A]
   . simp[p2,p3,T1,h1,h2,A]
 . by_cases h3:qR (n:Int)=2
   . by_cases h4:r.t=[]
     .  rw[h4] at A
        simp[p2,p3,T1,h1,h3,h4,A]
     .  simp[p2,p3,T1,h1,h3,h4,A]
   . simp[p2,p3,T1,h1,h3,A]
theorem ak3 (hc:Sem c) {p:aZ} {r:Rl} {q2 q3:Pos} {s:St} {n:Nat} (hw:Wf s) (hn:n<256) (hk:r.k=(n:Int)) (hp:p.lq) (p2:s.heap.get q2=some (.cells p.cells 0)) (p3:s.heap.get q3=some (.cells r.cells 0)) (vt:(kd n).lo=if n=4 then 1 else 0) (aik:(kd n).sM=decide (n=7)) (sH:OO (n:Int)=(kd n).n) (ht:n=7->0<=ti p r.t)
   (x2 x3 x5 x6:AV) (e2:x2= .ptr q2 0) (e3:x3= .ptr q3 0) (e5:x5= .int .u8 (n:Int)) (e6:x6= .int .i64 (ti p r.t)):
   (aj c .move [(.int .i64 0)] s fun x7 s150=>
   aj c .move [(.int .i64 24)] s150 fun x8 s151=>
   ZV (fun j152=>
   aj c .move [x5] s151 fun x146 s154=>
   aj c (.bin .eql .num) [x146,(.int .u8 4)] s154 fun x147 s155=>
   Mu x147 (
   aj c .move [(.int .i64 1)] s155 fun x7 s156=>
   j152 [x2,x3,x5,x6,x7,x8] s156) (
   j152 [x2,x3,x5,x6,x7,x8] s155))
   (fun vs s153=>cQ vs fun x2 vs=>cQ vs fun x3 vs=>cQ vs fun x5 vs=>cQ vs fun x6 vs=>cQ vs fun x7 vs=>cQ vs fun x8 vs=>eT vs (
   ZV (fun j157=>
   aj c .move [x5] s153 fun x148 s159=>
   aj c (.bin .eql .num) [x148,(.int .u8 7)] s159 fun x149 s160=>
   Mu x149 (
   aj c (.fieldA 0) [x2] s160 fun x150 s161=>
   aj c (.load none) [x150] s161 fun x151 s162=>
   aj c .move [x6] s162 fun x152 s163=>
   aj c (.idxA 7 none) [x151,x152] s163 fun x153 s164=>
   aj c (.load (some 7)) [x153] s164 fun x154 s165=>
   aj c (.callF 120) [x154] s165 fun x155 s166=>
   aj c (.bin .sub .num) [x155,(.int .i64 1)] s166 fun x156 s167=>
   aj c .move [x156] s167 fun x8 s168=>
   j157 [x3,x5,x7,x8] s168) (
   j157 [x3,x5,x7,x8] s160))
   (fun vs s158=>cQ vs fun x3 vs=>cQ vs fun x5 vs=>cQ vs fun x7 vs=>cQ vs fun x8 vs=>eT vs (
   aj c .move [x5] s158 fun x157 s169=>
   aj c (.callF 185) [x157] s169 fun x158 s170=>
   aj c .move [x158] s170 fun Br s171=>
   bB c Br true (.fieldA 5) [x3] s171 fun Tq s172=>
   bB c Br true (.load none) [Tq] s172 fun Tr s173=>
   bB c Br true .move [x7] s173 fun x162 s174=>
   bB c Br true (.bin .lss .num) [Tr,x162] s174 fun x163 s175=>
   bB c Br true .move [x163] s175 fun aaW s176=>
   bB c aaW false (.fieldA 5) [x3] s176 fun x165 s177=>
   bB c aaW false (.load none) [x165] s177 fun x166 s178=>
   bB c aaW false .move [x8] s178 fun x167 s179=>
   bB c aaW false (.bin .gtr .num) [x166,x167] s179 fun x168 s180=>
   bB c Br true .pick [aaW,(.bool true),x168] s180 fun x169 s181=>
   aj c .pick [Br,x169,(.bool false)] s181 fun x170 s182=>
   Mu x170 (
   aj c .move [(.int .i64 42)] s182 fun x4 s183=>
   some (x4,s183)) (
   aj c .move [(.int .i64 0)] s182 fun x4 s184=>
   some (x4,s184)))))))=some (.int .i64 (xQ (kd n) r (if (kd n).sM=true then uy p (ti p r.t) - 1 else 24)),s):=by
 subst e2 e3 e5 e6
 have T4:=XC hc (n:Int) s
 rw[sH] at T4
 have hit:=Lu (P:=iX p.ts r.t) p.ts.length 0
 unfold xQ
 rw[vt,aik]
 clear vt aik sH
 by_cases h4:n=4
 . have d4:decide ((n:Int)=4)=true:=by simp only[decide_eq_true_eq];omega
   have d7:decide ((n:Int)=7)=false:=by simp only[decide_eq_false_iff_not];omega
   have n7:decide (n=7)=false:=by simp only[decide_eq_false_iff_not];omega
   rw[if_pos h4,n7]
   clear h4 n7
   cases hm:(kd n).n with
   |false=>simp[cm,p2,p3,T4,d4,d7,hm]
   | true=>
     by_cases e1:r.n<1
     .  simp[cm,p2,p3,T4,d4,d7,hm,e1]
     .  by_cases e2:24<r.n
        . simp[cm,p2,p3,T4,d4,d7,hm,e1,e2]
        . simp[cm,p2,p3,T4,d4,d7,hm,e1,e2]
 . have d4:decide ((n:Int)=4)=false:=by simp only[decide_eq_false_iff_not];omega
   rw[if_neg h4]
   clear h4
   by_cases h7:n=7
   . have d7:decide ((n:Int)=7)=true:=by simp only[decide_eq_true_eq];omega
     have n7:decide (n=7)=true:=by simp only[decide_eq_true_eq];exact h7
     have WW:=ht h7
     rw[n7]
     clear ht h7 n7
     obtain ⟨i,hi⟩: ∃i:Nat,ti p r.t=(i:Int):=⟨(ti p r.t).toNat,by omega⟩
     have kC:i<p.ts.length:=by
        have:=(hit WW).2.1
        unfold ti at hi;rw[hi] at this;simpa using this
     have S:=Lq hc p.ts[i] s hw
     have b:=pP p.ts[i]
     have w2:ay .i64 (bl p.ts[i] - 1)=bl p.ts[i] - 1:=wrap64 (by omega) (by omega)
     have e3:uy p (i:Int)=bl p.ts[i]:=by simp[uy,kC]
     rw[hi,e3]
     clear hi e3 WW hit
     cases hm:(kd n).n with
     |false=>simp[cm,p2,p3,T4,d4,d7,tabs,kC,S,w2,hm]
     |  true=>
        by_cases e1:r.n<0
        . simp[cm,p2,p3,T4,d4,d7,tabs,kC,S,w2,hm,e1]
        . by_cases e2:bl p.ts[i] - 1<r.n
          . simp[cm,p2,p3,T4,d4,d7,tabs,kC,S,w2,hm,e1,e2]
          . simp[cm,p2,p3,T4,d4,d7,tabs,kC,S,w2,hm,e1,e2]
   . have d7:decide ((n:Int)=7)=false:=by simp only[decide_eq_false_iff_not];omega
     have n7:decide (n=7)=false:=by simp only[decide_eq_false_iff_not];exact h7
     rw[n7]
     clear h7 n7 ht hit
     cases hm:(kd n).n with
     |false=>simp[cm,p2,p3,T4,d4,d7,hm]
     |  true=>
        by_cases e1:r.n<0
        . simp[cm,p2,p3,T4,d4,d7,hm,e1]
        . by_cases e2:24<r.n
          . simp[cm,p2,p3,T4,d4,d7,hm,e1,e2]
          . simp[cm,p2,p3,T4,d4,d7,hm,e1,e2]
end
section
set_option maxRecDepth 100000
open Go Go.Ai Go.Proofs
variable {c : ak}
structure Flags (n:Nat):Prop where
 two:kE (n:Int)=(kd n).b
 num:OO (n:Int)=(kd n).n
 t0:qR (n:Int)=0↔(kd n).t=0
 t1:qR (n:Int)=1↔(kd n).t=116
 t2:qR (n:Int)=2↔(kd n).t=101
 a0:(kE (n:Int)=false/\vT (n:Int)=false/\n≠17)↔(kd n).a=0
 a1:((kE (n:Int)||vT (n:Int))=true/\n≠10)↔(kd n).a=103
 a2:n=10↔(kd n).a=101
 a3:n=17↔(kd n).a=100
 o10:n=10->vT (n:Int)=true
 lo:(kd n).lo=if n=4 then 1 else 0
 sM:(kd n).sM=decide (n=7)
 s7:n=7->(kd n).t=116
theorem flags {n:Nat} (h:(kd n).w≠[]):Flags n:=by
 have h18:n<=18:=by
   apply Classical.byContradiction
   intro h2
   apply h
   unfold kd;split<;>first|rfl|omega
 have:n=0\/n=1\/n=2\/n=3\/n=4\/n=5\/n=6\/n=7\/n=8\/n=9\/n=10\/n=11\/n=12\/n=13\/n=14\/n=15\/n=16\/n=17\/n=18:=by omega
 rcases this with rfl|rfl|rfl|rfl|rfl|rfl|rfl|rfl|rfl|rfl|rfl|rfl|rfl|rfl|rfl|rfl|rfl|rfl|rfl
 . exact absurd rfl h
 all_goals exact ⟨by decide,by decide,by decide,by decide,by decide,by decide,by decide,by decide,by decide,by decide,by decide,by decide,by decide⟩
theorem ab4 (hc:Sem c) (p:aZ) (hp:p.lq) (r:Rl) (n:Nat) (hk:r.k=(n:Int)) (hn:n<256) (st:St) (hw:Wf st):
   c 84 [.agg p.cells,.agg r.cells] st=some (.int .i64 (Iv (kd n) p r),st):=by
 have aX:Wf (ai st (.cells p.cells 0)):=aQ hw
 have yp:=Grew.ai aX (.cells r.cells 0)
 have hg:=(Grew.ai hw (.cells p.cells 0)).trans yp
 have eP:=hg.wf
 have p2:=yp.get (aH st (.cells p.cells 0))
 have p3:=aH (ai st (.cells p.cells 0)) (.cells r.cells 0)
 rw[Iy hc 1 (r:=(.int .i64 (Iv (kd n) p r),ai (ai st (.cells p.cells 0)) (.cells r.cells 0))),au (Plain.int _ _) hg.keeps]
 rw[LN,nR,nR,aY]
 simp only[AV.cells]
 generalize ai (ai st (.cells p.cells 0)) (.cells r.cells 0)=s at*
 generalize (ai st (.cells p.cells 0)).next=q3 at*
 generalize st.next=q2 at*
 rw[stW hc eP hn hk hp p2 p3]
 unfold Iv
 by_cases h0:(kd n).w=[]
 . rw[if_pos h0,decide_eq_true h0,kj,aY]
 have fl:=flags h0
 rw[if_neg h0,decide_eq_false h0,jO]
 rw[stWt hc eP hn hk hp p2 p3]
 by_cases h1:r.wt<0\/1000<r.wt
 . rw[if_pos h1,decide_eq_true h1,kj,aY]
 rw[if_neg h1,decide_eq_false h1,jO]
 rw[stP1 hc eP hn hk hp p2 p3,stP2 hc eP hn hk hp p2 p3,stP3 hc eP hn hk hp p2 p3,stP4 hc eP hn hk hp p2 p3]
 have ep:(((decide (r.a≠[])&& !kE n&& !vT n&&decide (n≠17))||(decide (r.b≠[])&& !kE n))||(decide (r.t≠[])&&decide (qR n=0))||(decide (r.n≠0)&& !OO n))= !B5 (kd n) r:=by
   unfold B5
   rw[<-fl.two, <-fl.num]
   have t0:=fl.t0
   have a0:=fl.a0
   have:decide (qR (n:Int)=0)= !decide ((kd n).t≠0):=by simp[t0]
   rw[this]
   have:(!kE (n:Int)&& !vT (n:Int)&&decide (n≠17))= !decide ((kd n).a≠0):=by
     simp only[ne_eq, <-a0]
     cases kE (n:Int)<;>cases vT (n:Int)<;>simp
   rw[Bool.and_assoc,Bool.and_assoc, <-Bool.and_assoc (!kE (n:Int)),this]
   cases decide ((kd n).a≠0)<;>cases kE (n:Int)<;>cases decide ((kd n).t≠0)<;>cases OO (n:Int)<;>by_cases h3:r.a=[]<;>by_cases h4:r.b=[]<;>by_cases h5:r.t=[]<;>by_cases h6:r.n=0<;>simp[h3,h4,h5,h6]
 rw[ep]
 cases h2:B5 (kd n) r with
 |false=>rw[Bool.not_false,kj,aY,if_pos rfl]
 |true=>
 rw[Bool.not_true,jO,if_neg (by simp)]
 rw[stA hc eP hn hk hp p2 p3]
 have ea:((kE (n:Int)||vT (n:Int))&& !(decide (n=10)&&decide (r.a=[]))&&decide (gi p r.a<0))=decide (((kd n).a=103/\gi p r.a<0)\/((kd n).a=101/\r.a≠[]/\gi p r.a<0)):=by
   rw[Bool.eq_iff_iff,decide_eq_true_eq, <-fl.a1, <-fl.a2]
   by_cases CV:n=10
   . have h11:=fl.o10 CV
     have Ue:(kE (n:Int)||vT (n:Int))=true:=by rw[h11,Bool.or_true]
     rw[Ue]
     by_cases h3:r.a=[]<;>simp[h3,CV]
   . simp only[CV,decide_false,Bool.false_and,Bool.not_false,Bool.and_true,ne_eq,not_false_eq_true,and_true,false_and,or_false]
     cases kE (n:Int)||vT (n:Int)<;>simp
 rw[ea]
 by_cases h3:((kd n).a=103/\gi p r.a<0)\/((kd n).a=101/\r.a≠[]/\gi p r.a<0)
 . rw[decide_eq_true h3,kj,aY,if_pos (h3.elim .inl fun h=> .inr (.inl h))]
 rw[decide_eq_false h3,jO]
 rw[stB hc eP hn hk hp p2 p3]
 rw[fl.two]
 by_cases h4:(kd n).b=true/\gi p r.b<0
 . have:((kd n).b&&decide (gi p r.b<0))=true:=by simp[h4]
   rw[this,kj,aY,if_pos (.inr (.inr h4))]
 have:((kd n).b&&decide (gi p r.b<0))=false:=by
   cases hb:(kd n).b
   . rfl
   . simp[hb] at h4;simp;exact h4
 rw[this,jO,if_neg (fun h=>h.elim (fun h=>h3 (.inl h)) fun h=>h.elim (fun h=>h3 (.inr h)) h4)]
 rw[stN hc eP hn hk hp p2 p3]
 unfold aaP
 simp only[<-fl.a3]
 by_cases h5:n=17/\eU r.a=false
 . have:(decide (n=17)&& !eU r.a)=true:=by simp[h5]
   rw[this,kj,aY,if_pos h5]
 have:(decide (n=17)&& !eU r.a)=false:=by
   by_cases h17:n=17
   . cases hb:eU r.a
     . exact absurd ⟨h17,hb⟩ h5
     . simp
   . simp[h17]
 rw[this,jO,if_neg h5]
 rw[stD hc eP hn hk hp p2 p3,fl.two]
 by_cases h6:(kd n).b=true/\r.a=r.b
 . have:((kd n).b&&decide (r.a=r.b))=true:=by simp[h6]
   rw[this,kj,aY,if_pos h6]
 have:((kd n).b&&decide (r.a=r.b))=false:=by
   cases hb:(kd n).b
   . rfl
   . simp[hb] at h6;simp;exact h6
 rw[this,jO,if_neg h6]
 rw[stT hc eP hn hk hp p2 p3]
 unfold UY
 simp only[<-fl.t1, <-fl.t2]
 by_cases h7:(qR (n:Int)=1/\ti p r.t<0)\/(qR (n:Int)=2/\r.t≠[]/\ti p r.t<0)
 . have:((decide (qR (n:Int)=1)&&decide (ti p r.t<0))||(decide (qR (n:Int)=2)&&decide (r.t≠[])&&decide (ti p r.t<0)))=true:=by
     rcases h7 with ⟨a,b⟩|⟨a,b,d⟩<;>simp[*]
   rw[this,kj,aY,if_pos h7]
 have:((decide (qR (n:Int)=1)&&decide (ti p r.t<0))||(decide (qR (n:Int)=2)&&decide (r.t≠[])&&decide (ti p r.t<0)))=false:=by
   apply Bool.eq_false_iff.2
   intro e
   apply h7
   simpa [and_assoc] using e
 rw[this,jO,if_neg h7]
 have ht:n=7->0<=ti p r.t:=fun e=>by
   apply Classical.byContradiction
   intro e2
   exact h7 (.inl ⟨fl.t1.2 (fl.s7 e),by omega⟩)
 exact ak3 hc eP hn hk hp p2 p3 fl.lo fl.sM fl.num ht _ _ _ _ rfl rfl rfl rfl
end
section
set_option maxRecDepth 100000
open Go Go.Ai Go.Proofs
variable {c : ak}
theorem Ww (hc:Sem c) (p:aZ) (hp:p.lq) (hr: ∀r∈p.rs,r.Ok) (q1:Pos) (F:Nat) (st:St) (hw:Wf st) (hq:st.heap.get q1=some (.cells p.cells 0)) (k1 k2): ∀(m k:Nat),p.rs.length<=k+m->k<=p.rs.length->k<=64->
  gp c F k1 k2 (m+1) [.ptr q1 0,.int .i64 (k:Int)] st=if (fc p m k).2=0 then k2 [] st else k1 [.int .i64 (fc p m k).1,.int .i64 (fc p m k).2] st:=by
 have hl:=hp.rs
 intro m
 induction m with
 |zero=>
  intro k h3 h4 h64
  obtain rfl:k=p.rs.length:=by omega
  rw[nD]
  simp[fc,hq]
 |succ m ih=>
  intro k h3 h4 h64
  by_cases h:k<p.rs.length
  . have w:ay .i64 ((k:Int)+1)=((k+1:Nat):Int):=wrap64 (by omega) (by omega)
    obtain ⟨n,hk⟩: ∃n:Nat,p.rs[k].k=(n:Int):=⟨p.rs[k].k.toNat,by have:=(hr _ (List.getElem_mem h)).1;omega⟩
    have hn:n<256:=by have:=(hr _ (List.getElem_mem h)).2;omega
    have N5:=ab4 hc p hp p.rs[k] n hk hn st hw
    have hS:xy p p.rs[k]=Iv (kd n) p p.rs[k]:=by unfold xy;rw[hk];rfl
    rw[<-hS] at N5
    rw[nD,fc,List.getElem?_eq_getElem h]
    simp only
    by_cases h5:xy p p.rs[k]=0
    .   simp only[h5,ne_eq,not_true,if_false]
        by_cases h6:k=64
        . rw[if_pos h6]
          have h6i:decide ((64:Int)<=(k:Int))=true:=by simp only[decide_eq_true_eq];omega
          simp[dG,h,hq,N5,h5,h6i]
        . have g2:=ih (k+1) (by omega) (by omega) (by omega)
          simp only[h6,if_false]
          rw[<-g2]
          have h6i: ¬(64:Int)<=(k:Int):=by omega
          simp[dG,h,hq,N5,h5,h6i,w]
    .   simp only[ne_eq,h5,not_false_eq_true,if_true,if_false]
        simp[dG,h,hq,N5,h5]
  . obtain rfl:k=p.rs.length:=by omega
    rw[nD]
    simp[fc,hq]
theorem aaX (hc:Sem c) (p:aZ) (hp:p.lq) (hR:E5 c p) (hr: ∀r∈p.rs,r.Ok) (st:St) (hw:Wf st):c 23 [.agg p.cells] st=some (.tuple [.int .i64 (bN p).1,.int .i64 (bN p).2],st):=by
 have pJ:Plain (.tuple [.int .i64 (bN p).1,.int .i64 (bN p).2]):=Plain.tuple (by simp[Plain.int])
 have aX:Wf (ai st (.cells p.cells 0)):=aQ hw
 have Hq:=Grew.ai hw (.cells p.cells 0)
 have dS:(ai st (.cells p.cells 0)).heap.get st.next=some (.cells p.cells 0):=aH _ _
 have B:=ab2 hc p hp hR _ aX
 rw[Iz hc 101 (r:=(.tuple [.int .i64 (bN p).1,.int .i64 (bN p).2],ai st (.cells p.cells 0))),au pJ Hq.keeps]
 rw[LO]
 have L: ∀k1 k2,gp c 101 k1 k2 101 [.ptr st.next 0,.int .i64 0] (ai st (.cells p.cells 0))=if (fc p 100 0).2=0 then k2 [] (ai st (.cells p.cells 0)) else k1 [.int .i64 (fc p 100 0).1,.int .i64 (fc p 100 0).2] (ai st (.cells p.cells 0)):=
   fun k1 k2=>Ww hc p hp hr st.next 101 _ aX dS k1 k2 100 0 (by have:=hp.rs;omega) (by omega) (by omega)
 by_cases h:(e9 p).2=0
 . have e:bN p=fc p 100 0:=by unfold bN;rw[if_neg (by simp[h])]
   rw[e]
   by_cases h2:(fc p 100 0).2=0
   . have:=BL p 100 0 h2
     simp[dS,B,h,L,h2,this]
   . simp[dS,B,h,L,h2]
 . have e:bN p=e9 p:=by unfold bN;rw[if_pos h]
   rw[e]
   simp[dS,B,h]
end
section
set_option maxRecDepth 100000
open Go Go.Ai Go.Proofs
theorem bO {Q:List AV->Prop} {Qs:List (List AV->Prop)} {ps:List (List AV)} (h:Oy (Q::Qs) ps): ∃p qs,ps=p::qs/\Q p/\Oy Qs qs:=by
 cases ps with
 |nil=>exact h.elim
 |cons p qs=>exact ⟨p,qs,rfl,h⟩
theorem Fa {ps:List (List AV)} (h:Oy [] ps):ps=[]:=by
 cases ps with
 |nil=>rfl
 |cons p qs=>exact h.elim
section
variable {H : Type} {enc : TypeId × Value -> H} {w : World} {base : Nat} {spare : Nat -> Bool} {held : Bool}
abbrev B8 (enc:TypeId×Value->H) (w:World) (base:Nat) (spare:Nat->Bool) (held:Bool) (t:TypeId) (Q:List AV->Prop):Prop:=xx enc Tryz.prog w base spare held t Q
abbrev pq (k:IntKind) (vs:List AV):Prop:= ∃i,vs=[.int k i]/\(Lit.int k i).wf=true
abbrev xz (vs:List AV):Prop:= ∃s,vs=[.str s]/\s.length<=maxLen/\ ∀x∈s,x<256
abbrev aaY (vs:List AV):Prop:= ∃b,vs=[.bool b]
theorem Eb:B8 enc w base spare held 3 (pq .i64):=G8 (by kernel_rfl)
theorem zI:B8 enc w base spare held 9 xz:=afa (by kernel_rfl)
theorem afv:B8 enc w base spare held 4 aaY:=adQ (by kernel_rfl)
theorem ai3:B8 enc w base spare held 58 (pq .u8):=G8 (by kernel_rfl)
theorem o_tk:B8 enc w base spare held 129 (pq .u8):=G8 (by kernel_rfl)
theorem o_rk:B8 enc w base spare held 38 (pq .u8):=G8 (by kernel_rfl)
theorem o_ty:B8 enc w base spare held 162 fun vs=> ∃t:Ty,vs=t.cells:=by
 refine xx.mono (OA [9,9,129] (Qs:=[xz,xz,pq .u8]) (by kernel_rfl) (by kernel_rfl) (by kernel_rfl) ⟨zI,zI,o_tk,trivial⟩) fun vs h=> ?_
 obtain ⟨ps,rfl,m0⟩:=h
 obtain ⟨p0,q0,rfl,⟨a,rfl,ha,_⟩,m1⟩:=bO m0
 obtain ⟨p0,q0,rfl,⟨b,rfl,hb,_⟩,m2⟩:=bO m1
 obtain ⟨p0,q0,rfl,⟨k,rfl,hk⟩,m3⟩:=bO m2
 obtain rfl:=Fa m3
 exact ⟨⟨a,b,k⟩,rfl⟩
theorem ak4 {i:Int} (h:(Lit.int .u8 i).wf=true):0<=i/\i<256:=by
 simp only[Lit.wf,Bool.and_eq_true,decide_eq_true_eq] at h
 have h1:IntKind.u8.min=0:=by decide
 have h2:IntKind.u8.max=255:=by decide
 omega
theorem o_rl:B8 enc w base spare held 40 fun vs=> ∃t:Rl,vs=t.cells/\t.Ok:=by
 refine xx.mono (OA [38,3,9,9,9,3] (Qs:=[pq .u8,pq .i64,xz,xz,xz,pq .i64]) (by kernel_rfl) (by kernel_rfl) (by kernel_rfl) ⟨o_rk,Eb,zI,zI,zI,Eb,trivial⟩) fun vs h=> ?_
 obtain ⟨ps,rfl,m0⟩:=h
 obtain ⟨p0,q0,rfl,⟨k,rfl,hk⟩,m1⟩:=bO m0
 obtain ⟨p0,q0,rfl,⟨wt,rfl,_⟩,m2⟩:=bO m1
 obtain ⟨p0,q0,rfl,⟨a,rfl,ha,_⟩,m3⟩:=bO m2
 obtain ⟨p0,q0,rfl,⟨b,rfl,hb,_⟩,m4⟩:=bO m3
 obtain ⟨p0,q0,rfl,⟨t,rfl,ht,_⟩,m5⟩:=bO m4
 obtain ⟨p0,q0,rfl,⟨n,rfl,_⟩,m6⟩:=bO m5
 obtain rfl:=Fa m6
 exact ⟨⟨k,wt,a,b,t,n⟩,rfl,ak4 hk⟩
end
end
section
set_option maxRecDepth 100000
open Go Go.Ai Go.Proofs
variable {c : ak}
def OQ (p:aZ) (m:Nat):Bool:=decide (p.ts.length<=m)&&decide (p.gs.length<=m)&&decide (p.ys.length<=m)&&decide (p.cs.length<=m)&&decide (p.rs.length<=m)
theorem ahx {p:aZ} (h:OQ p 100=true) (bu: ∀t∈p.ts,t.Ok):p.lq:=by
 unfold OQ at h
 simp only[Bool.and_eq_true,decide_eq_true_eq] at h
 exact ⟨h.1.1.1.1,h.1.1.1.2,h.1.1.2,h.1.2,h.2,bu⟩
theorem aj5 (hc:Sem c) (p:aZ) (m:Nat) (st:St) (hw:Wf st):c 19 [.agg p.cells,.int .i64 (m:Int)] st=some (.bool (OQ p m),st):=by
 have hp:=aH st (.cells p.cells 0)
 rw[OR hc 1 (r:=(.bool (OQ p m),ai st (.cells p.cells 0))),au (Plain.bool _) (aU hw)]
 rw[Ts]
 unfold OQ
 by_cases h1:p.ts.length<=m
 . by_cases h2:p.gs.length<=m
   . by_cases h3:p.ys.length<=m
     .  by_cases h4:p.cs.length<=m
        . by_cases h5:p.rs.length<=m<;>simp[h1,h2,h3,h4,h5]
        . simp[h1,h2,h3,h4]
     .  simp[h1,h2,h3]
   . simp[h1,h2]
 . simp[h1]
end
end Go.Proofs.YthiaklapeamjlaaGreatDoor
