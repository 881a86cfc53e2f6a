/- The chapter's example, the law. -/
import Derived.Test.YtehbdakjkjkekaaGreatDoorSPlainA
import Derived.Test.YtehbdakjkjkekaaGreatDoorSLawsD
import Derived.KernelRfl
import Derived.Test.YtehbdakjkjkekaaGreatDoorSLawsB
import Derived.Test.YtehbdakjkjkekaaGreatDoorSEvalE
set_option linter.all false
set_option linter.unusedSectionVars false
set_option linter.deprecated false
section
set_option maxRecDepth 100000
namespace Go.Proofs.YtehbdakjkjkekaaGreatDoor
open Go Go.Ai Go.Proofs
variable {c : ai}
def zO (s:St) (j:AV):Prop:=j= .bq\/ ∃q,j= .ptr q 0/\s.heap.get q=some (.cells [.aj,.aj,.aj,.aj,.aj,.gA,.aj,.aj,.aj,.aj,.aj,.aj,.aj,.aj] 0)
theorem zO.eC {s:St} {j:AV} (h:zO s j):Go.Ai.eC s 4 j= .bq\/Go.Ai.eC s 4 j= .fp [AL] 0 0:=by
 rcases h with rfl|⟨q,rfl,hq⟩
 . exact .inl rfl
 . right;rw[UG,hq];rfl
theorem Ln {s:St} {j r:AV} (h:zO s j):pP 4 Hf r [j,.aj] s=some (r,s):=by
 rcases h.eC with e|e
 . exact yu [.bq,.aj] (by simp[Hf]) (by simp only[List.map_cons,List.map_nil,e];rfl)
 . exact yu [.fp [AL] 0 0,.aj] (by simp[Hf]) (by simp only[List.map_cons,List.map_nil,e];rfl)
theorem aaq {s:St} {j r:AV} (h:zO s j):pP 4 OS r [j,.aj,.int .i64 0] s=some (r,s):=by
 rcases h.eC with e|e
 . exact yu [.bq,.aj,.int .i64 0] (by simp[OS]) (by simp only[List.map_cons,List.map_nil,e];rfl)
 . exact yu [.fp [AL] 0 0,.aj,.int .i64 0] (by simp[OS]) (by simp only[List.map_cons,List.map_nil,e];rfl)
theorem noj0 {s:St} {j r:AV} (h:zO s j):pP 4 U3 r [j] s=some (r,s):=by
 rcases h.eC with e|e
 . exact yu [.bq] (by simp[U3]) (by simp only[List.map_cons,List.map_nil,e])
 . exact yu [.fp [AL] 0 0] (by simp[U3]) (by simp only[List.map_cons,List.map_nil,e])
theorem ab9 (hc:iR c) {s:St} {j:AV} (h:zO s j):c 18 [j,.aj] s=some ((.tuple [.int .i64 0,.bool false]),s):=hc.at rfl (Ln h)
theorem aar (hc:iR c) {s:St} {j:AV} (h:zO s j):c 19 [j,.aj] s=some ((.bool false),s):=hc.at rfl (Ln h)
theorem aas (hc:iR c) {s:St} {j:AV} (h:zO s j):c 20 [j,.aj] s=some ((.bool false),s):=hc.at rfl (Ln h)
theorem Yd (hc:iR c) {s:St} {j:AV} (h:zO s j):c 21 [j,.aj,.int .i64 0] s=some ((.int .i64 0),s):=hc.at rfl (aaq h)
theorem aat (hc:iR c) {s:St} {j:AV} (h:zO s j):c 22 [j,.aj,.int .i64 0] s=some ((.int .i64 0),s):=hc.at rfl (aaq h)
theorem acd (hc:iR c) {s:St} {j:AV} (h:zO s j):c 23 [j,.aj] s=some ((.int .i64 0),s):=hc.at rfl (Ln h)
theorem aau (hc:iR c) {s:St} {j:AV} (h:zO s j):c 24 [j,.aj] s=some ((.int .i64 0),s):=hc.at rfl (Ln h)
theorem aav (hc:iR c) {s:St} {j:AV} (h:zO s j):c 25 [j,.aj] s=some (.aj,s):=hc.at rfl (Ln h)
theorem Ye (hc:iR c) {s:St} {j:AV} (h:zO s j):c 26 [j,.aj] s=some (.aj,s):=hc.at rfl (Ln h)
theorem aaw (hc:iR c) {s:St} {j:AV} (h:zO s j):c 27 [j,.aj,.int .i64 0] s=some (.aj,s):=hc.at rfl (aaq h)
theorem Wh (hc:iR c) {s:St} {j:AV} (h:zO s j):c 29 [j] s=some ((.agg [.aj,.aj,.aj,.aj,.aj]),s):=hc.at rfl (noj0 h)
theorem Yf {R:Type} (K:AV->St->Option R) (s:St):af c (.lenB .l) [.aj] s K=K (.int .i64 0) s:=rfl
theorem MQ (hc:iR c) (s:St):c 28 [.agg [.aj,.aj,.aj,.aj,.aj],.agg [.aj,.aj,.aj,.aj,.aj]] s=some (.bool true,s):=hc.at rfl (yu [GH,GH] (by simp[jS]) rfl)
end Go.Proofs.YtehbdakjkjkekaaGreatDoor
end
section
set_option maxRecDepth 100000
namespace Go.Proofs.YtehbdakjkjkekaaGreatDoor
open Go Go.Ai Go.Proofs
variable {c : ai}
def nL:List Nat:=[97,110,110,97]
def kL:List Nat:=[98,111,114,105,115]
def oB:List Nat:=[108,97,116,105,110]
def Wi:List bO:=[⟨[114],1,6,0,false,[1],0,0⟩,⟨[119],4,2,0,true,[],0,0⟩]
def yR:List ke:=[⟨nL,[],[],0,1,[],true,false,false,[oB]⟩,⟨kL,[],[],0,1,[],false,false,false,[oB]⟩,⟨[99,97,114,108],[],[],0,2,[],false,true,false,[oB]⟩,⟨[100,111,114,97],[],[],0,0,[],false,false,true,[]⟩]
def yS:List Ty:=[⟨nL,kL,2⟩]
def Cj (z:Bool) (rs:List Rl):fG:=⟨false,Wi,false,yR,false,yS,false,[0,1,1,2],z,rs⟩
def Ex (s:St) (Vs:List AV) (V5:AV):Prop:= ∀s',Grew s s'-> ∀z rs,eC s' 3 V5=eV z rs->eC s' 4 (.agg Vs)= .agg (Cj z rs).cells
abbrev tC (v:AV):List AV:=[.str [114],.int .u8 1,.int .i64 6,.int .i64 0,v,.int .i64 0,.int .i64 0]
abbrev tW:List AV:=[.str [119],.int .u8 4,.int .i64 2,.int .i64 0,.aj,.int .i64 0,.int .i64 0]
abbrev gC (n:List Nat) (k:Int) (a b:Bool) (v:AV):List AV:=[.str n,.str [],.str [],.int .i64 0,.int .i64 k,.str [],.bool a,.bool b,v]
theorem bs1 (s:St) (K:AV->St->Option (AV×St)):af c (.buildSlice 1 1 [.int .i64 0] [0]) [.int .i64 1] s K=K (.slice s.next 0 1 (some 1) 1) (au s (.cells [.int .i64 1] 0)):=rfl
theorem bt2 (s:St) (K:AV->St->Option (AV×St)):af c (.build [.str [],.int .u8 0,.int .i64 0,.int .i64 0,.aj,.int .i64 0,.int .i64 0] [(0,1),(1,1),(2,1)]) [.str [119],.int .u8 4,.int .i64 2] s K=K (.agg tW) s:=rfl
theorem btr (b:Pos) (s:St) (K:AV->St->Option (AV×St)):af c (.build [.str [],.int .u8 0,.int .i64 0,.int .i64 0,.aj,.int .i64 0,.int .i64 0] [(0,1),(1,1),(2,1),(4,1)]) [.str [114],.int .u8 1,.int .i64 6,.slice b 0 1 (some 1) 1] s K=K (.agg (tC (.slice b 0 1 (some 1) 1))) s:=rfl
theorem bs2 (b:Pos) (s:St) (K:AV->St->Option (AV×St)):af c (.buildSlice 7 2 [.str [],.int .u8 0,.int .i64 0,.int .i64 0,.aj,.int .i64 0,.int .i64 0] [0,1]) [.agg (tC (.slice b 0 1 (some 1) 1)),.agg tW] s K=K (.slice s.next 0 2 (some 2) 7) (au s (.cells (tC (.slice b 0 1 (some 1) 1)++tW) 0)):=rfl
theorem bla (s:St) (K:AV->St->Option (AV×St)):af c (.buildSlice 1 1 [.str []] [0]) [.str oB] s K=K (.slice s.next 0 1 (some 1) 1) (au s (.cells [.str oB] 0)):=rfl
theorem bg1 (b:Pos) (s:St) (K:AV->St->Option (AV×St)):af c (.build [.str [],.str [],.str [],.int .i64 0,.int .i64 0,.str [],.bool false,.bool false,.aj] [(0,1),(4,1),(6,1),(8,1)]) [.str nL,.int .i64 1,.bool true,.slice b 0 1 (some 1) 1] s K=K (.agg (gC nL 1 true false (.slice b 0 1 (some 1) 1))) s:=rfl
theorem bg2 (b:Pos) (s:St) (K:AV->St->Option (AV×St)):af c (.build [.str [],.str [],.str [],.int .i64 0,.int .i64 0,.str [],.bool false,.bool false,.aj] [(0,1),(4,1),(8,1)]) [.str kL,.int .i64 1,.slice b 0 1 (some 1) 1] s K=K (.agg (gC kL 1 false false (.slice b 0 1 (some 1) 1))) s:=rfl
theorem bg3 (b:Pos) (s:St) (K:AV->St->Option (AV×St)):af c (.build [.str [],.str [],.str [],.int .i64 0,.int .i64 0,.str [],.bool false,.bool false,.aj] [(0,1),(4,1),(7,1),(8,1)]) [.str [99,97,114,108],.int .i64 2,.bool true,.slice b 0 1 (some 1) 1] s K=K (.agg (gC [99,97,114,108] 2 false true (.slice b 0 1 (some 1) 1))) s:=rfl
theorem bg4 (s:St) (K:AV->St->Option (AV×St)):af c (.build [.str [],.str [],.str [],.int .i64 0,.int .i64 0,.str [],.bool false,.bool false,.aj] [(0,1)]) [.str [100,111,114,97]] s K=K (.agg (gC [100,111,114,97] 0 false false .aj)) s:=rfl
theorem bs4 (x y w:Pos) (s:St) (K:AV->St->Option (AV×St)):af c (.buildSlice 9 4 [.str [],.str [],.str [],.int .i64 0,.int .i64 0,.str [],.bool false,.bool false,.aj] [0,1,2,3]) [.agg (gC nL 1 true false (.slice x 0 1 (some 1) 1)),.agg (gC kL 1 false false (.slice y 0 1 (some 1) 1)),.agg (gC [99,97,114,108] 2 false true (.slice w 0 1 (some 1) 1)),.agg (gC [100,111,114,97] 0 false false .aj)] s K=
 K (.slice s.next 0 4 (some 4) 9) (au s (.cells (gC nL 1 true false (.slice x 0 1 (some 1) 1)++(gC kL 1 false false (.slice y 0 1 (some 1) 1)++(gC [99,97,114,108] 2 false true (.slice w 0 1 (some 1) 1)++gC [100,111,114,97] 0 false false .aj))) 0)):=rfl
theorem by1 (s:St) (K:AV->St->Option (AV×St)):af c (.build [.str [],.str [],.int .u8 0] [(0,1),(1,1),(2,1)]) [.str nL,.str kL,.int .u8 2] s K=K (.agg [.str nL,.str kL,.int .u8 2]) s:=rfl
theorem bs5 (s:St) (K:AV->St->Option (AV×St)):af c (.buildSlice 3 1 [.str [],.str [],.int .u8 0] [0]) [.agg [.str nL,.str kL,.int .u8 2]] s K=K (.slice s.next 0 1 (some 1) 3) (au s (.cells [.str nL,.str kL,.int .u8 2] 0)):=rfl
theorem bs6 (s:St) (K:AV->St->Option (AV×St)):af c (.buildSlice 1 4 [.int .i64 0] [0,1,2,3]) [.int .i64 0,.int .i64 1,.int .i64 1,.int .i64 2] s K=K (.slice s.next 0 4 (some 4) 1) (au s (.cells [.int .i64 0,.int .i64 1,.int .i64 1,.int .i64 2] 0)):=rfl
set_option maxHeartbeats 2000000 in
theorem GI (hc:iR c) {V5:AV} (h5:V5.cells=[V5]) (o5:V5.one=true) (i5:oQ V5) (s:St) (hw:Wf s): ∃V1 V2 V3 V4 s',c 14 [V5] s=some (.agg [V1,V2,V3,V4,V5],s')/\Grew s s'/\Ex s' [V1,V2,V3,V4,V5] V5/\kB [V1,V2,V3,V4] [V1,V2,V3,V4]=true/\cS [V1,V2,V3,V4,V5]=true:=by
 obtain ⟨s0,e0⟩: ∃x,x=au s (.cells [.aj,.aj,.aj,.aj,.aj] 0):=⟨_,rfl⟩
 obtain ⟨s1,e1⟩: ∃x,x=au s0 (.cells [.int .i64 1] 0):=⟨_,rfl⟩
 obtain ⟨s2,e2⟩: ∃x,x=au s1 (.cells (tC (.slice s0.next 0 1 (some 1) 1)++tW) 0):=⟨_,rfl⟩
 obtain ⟨s3,e3⟩: ∃x,x=au s2 (.cells [.str oB] 0):=⟨_,rfl⟩
 obtain ⟨s4,e4⟩: ∃x,x=au s3 (.cells [.str oB] 0):=⟨_,rfl⟩
 obtain ⟨s5,e5⟩: ∃x,x=au s4 (.cells [.str oB] 0):=⟨_,rfl⟩
 obtain ⟨s6,e6⟩: ∃x,x=au s5 (.cells (gC nL 1 true false (.slice s2.next 0 1 (some 1) 1)++(gC kL 1 false false (.slice s3.next 0 1 (some 1) 1)++(gC [99,97,114,108] 2 false true (.slice s4.next 0 1 (some 1) 1)++gC [100,111,114,97] 0 false false .aj))) 0):=⟨_,rfl⟩
 obtain ⟨s7,e7⟩: ∃x,x=au s6 (.cells [.str nL,.str kL,.int .u8 2] 0):=⟨_,rfl⟩
 obtain ⟨s8,e8⟩: ∃x,x=au s7 (.cells [.int .i64 0,.int .i64 1,.int .i64 1,.int .i64 2] 0):=⟨_,rfl⟩
 have g0:Grew s s0:=by rw[e0];exact Grew.au hw _
 have g1:Grew s0 s1:=by rw[e1];exact Grew.au g0.wf _
 have g2:Grew s1 s2:=by rw[e2];exact Grew.au g1.wf _
 have g3:Grew s2 s3:=by rw[e3];exact Grew.au g2.wf _
 have g4:Grew s3 s4:=by rw[e4];exact Grew.au g3.wf _
 have g5:Grew s4 s5:=by rw[e5];exact Grew.au g4.wf _
 have g6:Grew s5 s6:=by rw[e6];exact Grew.au g5.wf _
 have g7:Grew s6 s7:=by rw[e7];exact Grew.au g6.wf _
 have g8:Grew s7 s8:=by rw[e8];exact Grew.au g7.wf _
 have b0:s0.heap.get s.next=some (.cells [.aj,.aj,.aj,.aj,.aj] 0):=by rw[e0];exact aR _ _
 have b1:s1.heap.get s0.next=some (.cells [.int .i64 1] 0):=by rw[e1];exact aR _ _
 have b2:s2.heap.get s1.next=some (.cells (tC (.slice s0.next 0 1 (some 1) 1)++tW) 0):=by rw[e2];exact aR _ _
 have b3:s3.heap.get s2.next=some (.cells [.str oB] 0):=by rw[e3];exact aR _ _
 have b4:s4.heap.get s3.next=some (.cells [.str oB] 0):=by rw[e4];exact aR _ _
 have b5:s5.heap.get s4.next=some (.cells [.str oB] 0):=by rw[e5];exact aR _ _
 have b6:s6.heap.get s5.next=some (.cells (gC nL 1 true false (.slice s2.next 0 1 (some 1) 1)++(gC kL 1 false false (.slice s3.next 0 1 (some 1) 1)++(gC [99,97,114,108] 2 false true (.slice s4.next 0 1 (some 1) 1)++gC [100,111,114,97] 0 false false .aj))) 0):=by rw[e6];exact aR _ _
 have b7:s7.heap.get s6.next=some (.cells [.str nL,.str kL,.int .u8 2] 0):=by rw[e7];exact aR _ _
 have b8:s8.heap.get s7.next=some (.cells [.int .i64 0,.int .i64 1,.int .i64 1,.int .i64 2] 0):=by rw[e8];exact aR _ _
 have n0:s.next.toNat<s0.next.toNat:=by rw[e0,jQ,Pos.aG];omega
 have G18:=g2.trans (g3.trans (g4.trans (g5.trans (g6.trans (g7.trans g8)))))
 have c0:s8.heap.get s.next=some (.cells [.aj,.aj,.aj,.aj,.aj] 0):=(g1.trans G18).get b0
 have l0:=g8.wf _ _ c0
 obtain ⟨V1,SD⟩: ∃V,V=AV.slice s1.next 0 2 (some 2) 7:=⟨_,rfl⟩
 obtain ⟨V2,U4⟩: ∃V,V=AV.slice s5.next 0 4 (some 4) 9:=⟨_,rfl⟩
 obtain ⟨V3,U5⟩: ∃V,V=AV.slice s6.next 0 1 (some 1) 3:=⟨_,rfl⟩
 obtain ⟨V4,U6⟩: ∃V,V=AV.slice s7.next 0 4 (some 4) 1:=⟨_,rfl⟩
 have o14:cS [V1,V2,V3,V4,V5]=true:=by
   have a1:V1.one=true:=by rw[SD];rfl
   have a2:V2.one=true:=by rw[U4];rfl
   have a3:V3.one=true:=by rw[U5];rfl
   have a4:V4.one=true:=by rw[U6];rfl
   simp only[cS,a1,a2,a3,a4,o5,Bool.and_self]
 have sE:=fun (K:AV->St->Option (AV×St))=>wo c K s8 5 s.next 0 (.agg [V1,V2,V3,V4,V5]) [.aj,.aj,.aj,.aj,.aj] c0 rfl (by simp) o14
 have gE:Grew s (rP s8 s.next (.cells [V1,V2,V3,V4,V5] 0)):=aap hw ((g0.trans g1).trans G18) (Nat.le_refl _) l0 _
 have kE: ∀(p:Pos) (x:AB),s.next.toNat<p.toNat->s8.heap.get p=some x->(rP s8 s.next (.cells [V1,V2,V3,V4,V5] 0)).heap.get p=some x:=fun p x hp hx=>by
   rw[rf (fun e=>by subst e;omega)];exact hx
 have bp: ∀(K:AV->St->Option (AV×St)) (s:St),af c (.build [.aj,.aj,.aj,.aj,.aj] [(0,1),(1,1),(2,1),(3,1),(4,1)]) [V1,V2,V3,V4,V5] s K=K (.agg [V1,V2,V3,V4,V5]) s:=fun K s=>by
   have a1:V1.cells=[V1]:=by rw[SD];rfl
   have a2:V2.cells=[V2]:=by rw[U4];rfl
   have a3:V3.cells=[V3]:=by rw[U5];rfl
   have a4:V4.cells=[V4]:=by rw[U6];rfl
   rw[Iw]
   simp[dY,h5,a1,a2,a3,a4,jK,gb,aV]
 have run:ry c 1 V5 s=some (.agg [V1,V2,V3,V4,V5],rP s8 s.next (.cells [V1,V2,V3,V4,V5] 0)):=by
   rw[ry,C8, <-e0,bs1, <-e1,btr,bt2,bs2, <-e2]
   rw[show ([108,97,116,105,110]:List Nat)=oB from rfl,show ([97,110,110,97]:List Nat)=nL from rfl,show ([98,111,114,105,115]:List Nat)=kL from rfl]
   rw[bla, <-e3,bg1,bla, <-e4,bg2,bla, <-e5,bg3,bg4,bs4, <-e6,by1,bs5, <-e7,bs6, <-e8,aP, <-SD, <-U4, <-U5, <-U6,bp,sE]
   rw[show aV [AV.aj,.aj,.aj,.aj,.aj] 0 (AV.agg [V1,V2,V3,V4,V5]).cells=[V1,V2,V3,V4,V5] from rfl,Z0,Jo]
   rfl
 have ins: ∀v∈[V1,V2,V3,V4,V5],oQ v:=fun v hv=>by
   simp only[List.mem_cons,List.not_mem_nil,or_false] at hv
   rcases hv with rfl|rfl|rfl|rfl|rfl
   . rw[SD];exact oQ.Mt _ _ _ _
   . rw[U4];exact oQ.Mt _ _ _ _
   . rw[U5];exact oQ.Mt _ _ _ _
   . rw[U6];exact oQ.Mt _ _ _ _
   . exact i5
 refine ⟨V1,V2,V3,V4,rP s8 s.next (.cells [V1,V2,V3,V4,V5] 0),?_,gE,?_,?_,o14⟩
 . rw[Ck hc 1 run]
   unfold tidy
   rw[if_neg]
   intro h
   exact Nr (n:=2) ins (by omega) (by rw[<-SD];simp) h.1
 . intro s' g z rs h3
   have k1:=g.get (kE _ _ (by omega) (G18.get b1))
   have k2:=g.get (kE s1.next _ (by have:=g1.next;omega) ((g3.trans (g4.trans (g5.trans (g6.trans (g7.trans g8))))).get b2))
   have q2:s.next.toNat<s2.next.toNat:=by have:=g1.next;have:=g2.next;omega
   have k3:=g.get (kE s2.next _ q2 ((g4.trans (g5.trans (g6.trans (g7.trans g8)))).get b3))
   have k4:=g.get (kE s3.next _ (by have:=g3.next;omega) ((g5.trans (g6.trans (g7.trans g8))).get b4))
   have k5:=g.get (kE s4.next _ (by have:=g3.next;have:=g4.next;omega) ((g6.trans (g7.trans g8)).get b5))
   have q5:s.next.toNat<s5.next.toNat:=by have:=g3.next;have:=g4.next;have:=g5.next;omega
   have k6:=g.get (kE s5.next _ q5 ((g7.trans g8).get b6))
   have k7:=g.get (kE s6.next _ (by have:=g6.next;omega) (g8.get b7))
   have k8:=g.get (kE s7.next _ (by have:=g6.next;have:=g7.next;omega) b8)
   have F1:eC s' 2 (.slice s0.next 0 1 (some 1) 1)=ints false [1]:=by rw[nT,k1];rfl
   have L3:eC s' 2 (.slice s2.next 0 1 (some 1) 1)=KP false [oB]:=by rw[nT,k3];rfl
   have L4:eC s' 2 (.slice s3.next 0 1 (some 1) 1)=KP false [oB]:=by rw[nT,k4];rfl
   have L5:eC s' 2 (.slice s4.next 0 1 (some 1) 1)=KP false [oB]:=by rw[nT,k5];rfl
   have F2:eC s' 3 V1=tabs false Wi:=by
     rw[SD,nT,k2]
     show AV.fl [[.str [114],.int .u8 1,.int .i64 6,.int .i64 0,eC s' 2 (.slice s0.next 0 1 (some 1) 1),.int .i64 0,.int .i64 0],tW] 7=_
     rw[F1];rfl
   have F3:eC s' 3 V2=ko false yR:=by
     rw[U4,nT,k6]
     show AV.fl [gC nL 1 true false (eC s' 2 (.slice s2.next 0 1 (some 1) 1)),gC kL 1 false false (eC s' 2 (.slice s3.next 0 1 (some 1) 1)),gC [99,97,114,108] 2 false true (eC s' 2 (.slice s4.next 0 1 (some 1) 1)),gC [100,111,114,97] 0 false false .aj] 9=_
     rw[L3,L4,L5];rfl
   have F4:eC s' 3 V3=Aj false yS:=by rw[U5,nT,k7];rfl
   have F5:eC s' 3 V4=ints false [0,1,1,2]:=by rw[U6,nT,k8];rfl
   rw[UH]
   simp only[List.map_cons,List.map_nil,F2,F3,F4,F5,h3]
   rfl
 . rw[SD,U4,U5,U6]
   simp[kB,oU,iY,Pos.beq_eq.2 rfl]
end Go.Proofs.YtehbdakjkjkekaaGreatDoor
end
section
set_option maxRecDepth 100000
namespace Go.Proofs.YtehbdakjkjkekaaGreatDoor
open Go Go.Ai Go.Proofs
variable {c : ai}
theorem NO {z:Bool} {rs:List Rl} (hl:rs.length<=100):(Cj z rs).sS:=by
 refine ⟨show Wi.length<=100 by decide,show yR.length<=100 by decide,show yS.length<=100 by decide,show [0,1,1,2].length<=100 by decide,hl,fun t ht=> ?_⟩
 simp only[Cj,Wi,List.mem_cons,List.not_mem_nil,or_false] at ht
 rcases ht with rfl|rfl<;>exact ⟨by decide,by decide⟩
theorem NP (z:Bool) (rs:List Rl):ED (run uT gg) (Cj z rs):=by
 have e:mK yR yS=(0,0):=by kernel_rfl
 have l: ∀st:St,DK vD DW [.agg [ko false yR,Aj false yS]] st=some (.tuple [.int .i64 0,.int .i64 0],st):=fun st=>by
   unfold DK
   have b:u0 [.agg [ko false yR,Aj false yS]] vD=true:=by kernel_rfl
   rw[b];rfl
 refine ⟨fun st _=> ?_,fun st _=> ?_⟩
 . show run uT gg 113 [.agg [ko false yR,Aj false yS]] st=some (.tuple [.int .i64 (mK yR yS).1,.int .i64 (mK yR yS).2],st)
   rw[e]
   exact q9 (O:=uT) (s:=DK vD DW) rfl (l st)
 . show run uT gg 119 [.agg [ko false yR,Aj false yS]] st=some (.tuple [.int .i64 (mK yR yS).1,.int .i64 (mK yR yS).2],st)
   rw[e]
   exact q9 (O:=uT) (s:=DK vD DW) rfl (l st)
theorem MR (hc:iR c) {s0 s:St} {Vs:List AV} {V5:AV} {z:Bool} {rs:List Rl} (hE:Ex s0 Vs V5) (g:Grew s0 s) (h5:eC s 3 V5=eV z rs) (hl:rs.length<=100) (r:Rl) (hr:r.Ok):
  c 15 [.agg Vs,.agg r.cells] s=some (.int .i64 (ud (Cj z rs) r),s):=by
 refine hc.at (s:=DX 15) rfl (w6 ?_ (eZ.int _ _))
 have e:[AV.agg Vs,.agg r.cells].map (eC s 4)=[.agg (Cj z rs).cells,.agg r.cells]:=by
  simp only[List.map_cons,List.map_nil,hE s g z rs h5]
  rfl
 rw[e]
 exact Sq rfl _ (NO hl) (NP _ _) r hr (emptyAt s) (w4 s)
theorem Hg (hc:iR c) {s0 s:St} {Vs:List AV} {V5:AV} {z:Bool} {rs:List Rl} (hE:Ex s0 Vs V5) (g:Grew s0 s) (h5:eC s 3 V5=eV z rs) (hl:rs.length<=100) (r:Rl) (hr:r.Ok):
  c 16 [.agg Vs,.agg r.cells] s=some (.int .i64 (ud (Cj z rs) r),s):=by
 refine hc.at (s:=DX 16) rfl (w6 ?_ (eZ.int _ _))
 have e:[AV.agg Vs,.agg r.cells].map (eC s 4)=[.agg (Cj z rs).cells,.agg r.cells]:=by
  simp only[List.map_cons,List.map_nil,hE s g z rs h5]
  rfl
 rw[e]
 exact MI rfl _ (NO hl) (NP _ _) r hr (emptyAt s) (w4 s)
theorem Yg (hc:iR c) {s0 s:St} {Vs:List AV} {V5:AV} {z:Bool} {rs:List Rl} (hE:Ex s0 Vs V5) (g:Grew s0 s) (h5:eC s 3 V5=eV z rs) (hl:rs.length<=100) (hr: ∀r∈rs,r.Ok):
  c 17 [.agg Vs] s=some (.tuple [.int .i64 (nu (Cj z rs)).1,.int .i64 (nu (Cj z rs)).2],s):=by
 refine hc.at (s:=DX 17) rfl (w6 ?_ (eZ.tuple fun v hv=>by
  simp only[List.mem_cons,List.not_mem_nil,or_false] at hv
  rcases hv with rfl|rfl<;>exact eZ.int _ _))
 have e:[AV.agg Vs].map (eC s 4)=[.agg (Cj z rs).cells]:=by
  simp only[List.map_cons,List.map_nil,hE s g z rs h5]
 rw[e]
 exact Po rfl _ (NO hl) (NP _ _) hr (emptyAt s) (w4 s)
theorem GJ {s:St} {W:AV} {rs:List Rl} (h:QS 6 s W (rs.map Rl.cells)) (d:Nat): ∃z,eC s (d+2) W=eV z rs:=by
 obtain ⟨z,hz⟩:=QS.eC (d:=d+1) h (fun r hr=>by simp only[List.mem_map] at hr;obtain ⟨t,_,rfl⟩:=hr;rfl)
 refine ⟨z,?_⟩
 rw[hz]
 unfold eV
 rw[List.map_map]
 rfl
theorem NQ (hc:iR c) {s:St} {W:AV} {rs:List Rl} (h:QS 6 s W (rs.map Rl.cells)) (hl:rs.length<=1048576) (hn: ∀r∈rs,r.GG):c 7 [W] s=some (.str (fmtS rs),s):=by
 refine hc.at (s:=DX 7) rfl (w6 ?_ (eZ.str _))
 obtain ⟨z,hz⟩:=GJ h 2
 rw[List.map_singleton,hz]
 exact XU rfl z rs hl (fun _ r hr=>(hn r hr).fit) (emptyAt s) (w4 s)
theorem Wj (hc:iR c) {s:St} {W:AV} {rs:List Rl} (h:QS 6 s W (rs.map Rl.cells)) (hl:rs.length<=1048576) (hn: ∀r∈rs,r.GG):c 8 [W] s=some (.str (fmtS rs),s):=by
 rw[ab5 fun r hr=>(hn r hr).k]
 refine hc.at (s:=DX 8) rfl (w6 ?_ (eZ.str _))
 obtain ⟨z,hz⟩:=GJ h 2
 rw[List.map_singleton,hz]
 exact Ro rfl z rs hl (fun _ r hr=>(hn r hr).short) (emptyAt s) (w4 s)
theorem Yh (hc:iR c) (s:St):c 6 [] s=some (.bool true,s):=hc.at (s:=Jp) rfl rfl
theorem NR (hc:iR c) (F:Nat) {x0:AV} {s:St} {r:AV×St} (h:rB c F x0 s=some r):c 11 [x0] s=some (tidy s r):=hc.of (A:=jI) (by kernel_rfl) (by kernel_rfl) (DY _ F) (by rw[DZ];exact h)
theorem Wl (hc:iR c) {rs:List Rl} (hl:rs.length<=1000) {V:AV} {s:St} (hw:Wf s) (h:QS 6 s V (rs.map Rl.cells)): ∃W s',c 11 [V] s=some (W,s')/\Mk 6 s s' W (rs.map Rl.cells):=by
 obtain ⟨k2,hk⟩: ∃k2:List AV->St->Option (AV×St),k2=(fun vs cP=>ay vs fun x3 vs=>bw vs (af c .move [x3] cP fun bn cQ=>af c .move [bn] cQ fun x2 eD=>some (x2,eD))):=⟨_,rfl⟩
 obtain ⟨s',W,h1,h2⟩:=Hw (c:=c) hl h (rs.length+1) k2 rs.length 0 (rs.length+1) s .aj (by omega) (by omega) (Mk.start hw (Grew.refl hw))
 obtain ⟨UJ,t1,t2⟩:=h1.tidy
 refine ⟨W,UJ,?_,t2⟩
 have WI:fe c (rs.length+1) k2 (rs.length+1) [V,.aj,.int .i64 0] s=k2 [W] s':=h2
 rw[NR hc (rs.length+1) (r:=(W,s')),t1]
 rw[rB,aP,aP,aP, <-hk,WI,hk]
 simp
end Go.Proofs.YtehbdakjkjkekaaGreatDoor
end
section
set_option maxRecDepth 100000
namespace Go.Proofs.YtehbdakjkjkekaaGreatDoor
open Go Go.Ai Go.Proofs
variable {c : ai}
theorem EP {k:Nat} (h:k<=1000000):aY .i64 ((k:Int)+1)=((k+1:Nat):Int):=wrap64 (by omega) (by omega)
def zP (n:Nat):List Nat:=if n % 2=1 then nL else []
def At (n:Nat):List Nat:=if n / 2 % 2=1 then kL else []
def Cl (n:Nat):List Nat:=if n / 4 % 2=1 then [119] else []
def Kh (i:Nat):Int:=match i with|0=>0|1=>1|2=>2|3=>24|4=>25|5=> -1|6=>5|_=>6
def IP (n:Nat):Int:=if n / 64=1 then 7 else 0
def SE (k n:Nat):Rl:=⟨k,IP n,zP n,At n,Cl n,Kh (n / 8 % 8)⟩
theorem aax {k n:Nat} (hk:k<256):(SE k n).GG:=by
 have hw:0<=IP n/\IP n<=7:=by unfold IP;split<;>omega
 have hi: -1<=Kh (n / 8 % 8)/\Kh (n / 8 % 8)<=25:=by unfold Kh;split<;>omega
 have a:(zP n).length<=4/\ ∀x∈zP n,x<256:=by unfold zP nL;split<;>simp
 have b:(At n).length<=5/\ ∀x∈At n,x<256:=by unfold At kL;split<;>simp
 have t:(Cl n).length<=1/\ ∀x∈Cl n,x<256:=by unfold Cl;split<;>simp
 refine ⟨?_,?_,?_,?_,fun x hx=> ?_⟩
 . show 0<=(k:Int)/\(k:Int)<256;omega
 . show -9223372036854775808<=IP n/\IP n<=9223372036854775807;omega
 . show -9223372036854775808<=Kh (n / 8 % 8)/\Kh (n / 8 % 8)<=9223372036854775807;omega
 . show (zP n).length+(At n).length+(Cl n).length<=1048576;omega
 . have hx:x∈zP n++(At n++Cl n):=hx
   rcases List.mem_append.1 hx with hx|hx
   . exact a.2 x hx
   . rcases List.mem_append.1 hx with hx|hx
     . exact b.2 x hx
     . exact t.2 x hx
abbrev Ki:List AV:=[.int .i64 0,.int .i64 1,.int .i64 2,.int .i64 24,.int .i64 25,.int .i64 (-1),.int .i64 5,.int .i64 6]
theorem bs8 (s:St) (K:AV->St->Option (AV×St)):af c (.buildSlice 1 8 [.int .i64 0] [0,1,2,3,4,5,6,7]) Ki s K=K (.slice s.next 0 8 (some 8) 1) (au s (.cells Ki 0)):=rfl
theorem af4 {i:Nat} (h:i<8):Ki[0+i*1]? =some (.int .i64 (Kh i)):=by
 have:i=0\/i=1\/i=2\/i=3\/i=4\/i=5\/i=6\/i=7:=by omega
 rcases this with rfl|rfl|rfl|rfl|rfl|rfl|rfl|rfl<;>rfl
theorem Yi (s:St) (r:Rl):QS 6 (au s (.cells r.cells 0)) (.slice s.next 0 1 (some 1) 6) ([r].map Rl.cells):= .inr (.inl ⟨s.next,0,some 1,r.cells,rfl,aR _ _,by simp[Rl.cells],by simp[Rl.cells],.inr rfl⟩)
set_option maxHeartbeats 4000000 in
theorem TO (hc:iR c) {sE sP:St} {q:Pos} {Vs:List AV} (hE:Ex sE Vs .aj) (gP:Grew sE sP) (hq:sP.heap.get q=some (.cells Vs 0)) (hV:Vs.length=5) (SG:fN (.agg Vs) (.agg Vs)=true) {k:Nat} (hk:k<21) {n:Nat} (hn:n<128) (F m:Nat) (k1 k4) (Q:Option (AV×St)->Prop)
   (hQ: ∀s',Grew sP s'->Q (dD c F k1 k4 m [.ptr q 0,.int .i64 (k:Int),.int .i64 ((n+1:Nat):Int)] s')) (s:St) (g:Grew sP s):
   Q (dD c F k1 k4 (m+1) [.ptr q 0,.int .i64 (k:Int),.int .i64 (n:Int)] s):=by
 have nM:n<=1000000:=by omega
 have hd:(n:Int)<128:=by omega
 have w8:aY .u8 (k:Int)=(k:Int):=VJ (by omega) (by omega)
 have hw:=g.wf
 have Ri: ∀(k':Int) (s':St) (K:AV->St->Option (AV×St)),af c (.build [.int .u8 0,.int .i64 0,.str [],.str [],.str [],.int .i64 0] [(0,1)]) [.int .u8 k'] s' K=K (.agg (pJ k' 0 [] [] [] 0)) s':=fun k' s' K=>rfl
 have sto0: ∀(k':Int) (K:AV->St->Option (AV×St)),af c (.store 6) [.ptr s.next 0,.agg (pJ k' 0 [] [] [] 0)] (au s (.cells (pJ 0 0 [] [] [] 0) 0)) K=K .undef (au s (.cells (pJ k' 0 [] [] [] 0) 0)):=fun k' K=>bW c K s 6 (.agg (pJ k' 0 [] [] [] 0)) (pJ 0 0 [] [] [] 0) rfl rfl rfl
 have su2: ∀(k w n:Int) (a b t u:List Nat) (K:AV->St->Option (AV×St)),af c (.store 1) [.ptr s.next (0+2),.str u] (au s (.cells (pJ k w a b t n) 0)) K=K .undef (au s (.cells (pJ k w u b t n) 0)):=fun k w n a b t u K=>ab6 k w n a b t u s K
 have su3: ∀(k w n:Int) (a b t u:List Nat) (K:AV->St->Option (AV×St)),af c (.store 1) [.ptr s.next (0+3),.str u] (au s (.cells (pJ k w a b t n) 0)) K=K .undef (au s (.cells (pJ k w a u t n) 0)):=fun k w n a b t u K=>ab7 k w n a b t u s K
 have su4: ∀(k w n:Int) (a b t u:List Nat) (K:AV->St->Option (AV×St)),af c (.store 1) [.ptr s.next (0+4),.str u] (au s (.cells (pJ k w a b t n) 0)) K=K .undef (au s (.cells (pJ k w a b u n) 0)):=fun k w n a b t u K=>ab8 k w n a b t u s K
 have tF: ∀(x:AB) (p:Pos) (b:AB),p=s.next->(au (au s b) x).heap.get p=some b:=fun x p b e=>by subst e;exact BA
 have su5: ∀(x:AB) (k w n n':Int) (a b t:List Nat) (K:AV->St->Option (AV×St)),af c (.store 1) [.ptr s.next (0+5),.int .i64 n'] (au (au s (.cells (pJ k w a b t n) 0)) x) K=K .undef (au (au s (.cells (pJ k w a b t n') 0)) x):=fun x k w n n' a b t K=>by
   rw[wo c K _ 1 s.next (0+5) (.int .i64 n') _ (tF x _ _ rfl) rfl (by simp) rfl,QY];rfl
 have su1: ∀(x:AB) (k w n w':Int) (a b t:List Nat) (K:AV->St->Option (AV×St)),af c (.store 1) [.ptr s.next (0+1),.int .i64 w'] (au (au s (.cells (pJ k w a b t n) 0)) x) K=K .undef (au (au s (.cells (pJ k w' a b t n) 0)) x):=fun x k w n w' a b t K=>by
   rw[wo c K _ 1 s.next (0+1) (.int .i64 w') _ (tF x _ _ rfl) rfl (by simp) rfl,QY];rfl
 rw[dD,aT,aT,aT,fP,aP,sr,decide_eq_true hd,pn]
 refine kJ (P:=fun j=> ∀s',Grew sP s'->Q (j [.ptr q 0,.int .i64 (k:Int),.int .i64 (n:Int)] s')) ?_ ?_
 . intro s' g'
   rw[aT,aT,aT,fP,aP,Jn,EP nM,aP]
   exact hQ s' g'
 intro zQ hj10
 rw[aP,ZY,w8,Ri,C8,sto0]
 refine kJ (P:=fun j=>Q (j [.ptr q 0,.int .i64 (k:Int),.int .i64 (n:Int),.ptr s.next 0] (au s (.cells (pJ k 0 (zP n) [] [] 0) 0)))) ?_ ?_
 rotate_left
 . intro j hj
   rw[aP,FN (by omega) (by omega),Jm]
   by_cases h:n % 2=1
   . rw[show zP n=nL by unfold zP;rw[if_pos h]] at hj
     rw[decide_eq_true (show (n:Int) % 2=1 by omega),pn,tM,su2]
     exact hj
   . rw[show zP n=[] by unfold zP;rw[if_neg h]] at hj
     rw[decide_eq_false (show ¬(n:Int) % 2=1 by omega),kG]
     exact hj
 rw[aT,aT,aT,aT,fP]
 refine kJ (P:=fun j=>Q (j [.ptr q 0,.int .i64 (k:Int),.int .i64 (n:Int),.ptr s.next 0] (au s (.cells (pJ k 0 (zP n) (At n) [] 0) 0)))) ?_ ?_
 rotate_left
 . intro j hj
   rw[aP,FO (by omega) (by omega) (by omega),FN (by omega) (by omega),Jm]
   by_cases h:n / 2 % 2=1
   . rw[show At n=kL by unfold At;rw[if_pos h]] at hj
     rw[decide_eq_true (show (n:Int) / 2 % 2=1 by omega),pn,tM,su3]
     exact hj
   . rw[show At n=[] by unfold At;rw[if_neg h]] at hj
     rw[decide_eq_false (show ¬(n:Int) / 2 % 2=1 by omega),kG]
     exact hj
 rw[aT,aT,aT,aT,fP]
 refine kJ (P:=fun j=>Q (j [.ptr q 0,.int .i64 (k:Int),.int .i64 (n:Int),.ptr s.next 0] (au s (.cells (pJ k 0 (zP n) (At n) (Cl n) 0) 0)))) ?_ ?_
 rotate_left
 . intro j hj
   rw[aP,FO (by omega) (by omega) (by omega),FN (by omega) (by omega),Jm]
   by_cases h:n / 4 % 2=1
   . rw[show Cl n=[119] by unfold Cl;rw[if_pos h]] at hj
     rw[decide_eq_true (show (n:Int) / 4 % 2=1 by omega),pn,tM,su4]
     exact hj
   . rw[show Cl n=[] by unfold Cl;rw[if_neg h]] at hj
     rw[decide_eq_false (show ¬(n:Int) / 4 % 2=1 by omega),kG]
     exact hj
 rw[aT,aT,aT,aT,fP]
 obtain ⟨i,hi⟩: ∃i:Nat,i=n / 8 % 8:=⟨_,rfl⟩
 have E8:(n:Int) / 8 % 8=(i:Int):=by omega
 have i8:i<8:=by omega
 have ld: ∀(K:AV->St->Option (AV×St)),af c (.load none) [.ptr (au s (.cells (pJ k 0 (zP n) (At n) (Cl n) 0) 0)).next (0+i*1)] (au (au s (.cells (pJ k 0 (zP n) (At n) (Cl n) 0) 0)) (.cells Ki 0)) K=K (.int .i64 (Kh i)) (au (au s (.cells (pJ k 0 (zP n) (At n) (Cl n) 0) 0)) (.cells Ki 0)):=fun K=>by
   rw[Mn,aR,show (cellsOf (some (.cells Ki 0))).bind (fun cs=>cs[0+i*1]?)=some (.int .i64 (Kh i)) from af4 i8];rfl
 rw[bs8,aP,FO (by omega) (by omega) (by omega),FN (by omega) (by omega),E8,BC c _ _ i8,ld,tM,su5]
 refine kJ (P:=fun j=>Q (j [.ptr q 0,.int .i64 (k:Int),.int .i64 (n:Int),.ptr s.next 0] (au (au s (.cells (SE k n).cells 0)) (.cells Ki 0)))) ?_ ?_
 rotate_left
 . intro j hj
   have e:(SE k n).cells=pJ k (IP n) (zP n) (At n) (Cl n) (Kh i):=by rw[hi];rfl
   rw[e] at hj
   rw[aP,FO (by omega) (by omega) (by omega),Jm]
   by_cases h:n / 64=1
   . rw[show IP n=7 by unfold IP;rw[if_pos h]] at hj
     rw[decide_eq_true (show (n:Int) / 64=1 by omega),pn,tM,su1]
     exact hj
   . rw[show IP n=0 by unfold IP;rw[if_neg h]] at hj
     rw[decide_eq_false (show ¬(n:Int) / 64=1 by omega),kG]
     exact hj
 have NN:=aax (k:=k) (n:=n) (by omega)
 have gR:=(Grew.au hw (.cells (SE k n).cells 0)).trans (Grew.au (eB hw) (.cells Ki 0))
 have hx:(au (au s (.cells (SE k n).cells 0)) (.cells Ki 0)).heap.get s.next=some (.cells (SE k n).cells 0):=BA
 generalize SE k n=R at*
 obtain ⟨s9,h9⟩: ∃s9,s9=au (au s (.cells R.cells 0)) (.cells Ki 0):=⟨_,rfl⟩
 rw[<-h9] at gR hx ⊢
 have g9:=g.trans gR
 have SH:=g9.get hq
 have w9:=g9.wf
 have C1:=MR hc hE (gP.trans g9) (z:=true) (rs:=[]) rfl (by simp) R NN.k
 have C2:=Hg hc hE (gP.trans g9) (z:=true) (rs:=[]) rfl (by simp) R NN.k
 have rV: ∀(K:AV->Option (AV×St)),fE (.load (some 5)) [.ptr q 0] s9.heap (fun _=>true) K=K (.agg Vs):=fun K=>by rw[yZ,SH,show (cellsOf (some (.cells Vs 0))).bind (fun cs=>cut cs 0 5)=some Vs from fB hV];rfl
 have rR: ∀(K:AV->Option (AV×St)),fE (.load (some 6)) [.ptr s.next 0] s9.heap (fun _=>true) K=K (.agg R.cells):=fun K=>by rw[yZ,hx];rfl
 have cV: ∀(K:AV->Option (AV×St)),fE (.load (some 5)) [.ptr q 0] s9.heap (fun v=>dH (.load (some 5)) [.ptr q 0] v (eo [] s9.heap)&&true) K=K (.agg Vs):=fun K=>by
   simp only[Bool.and_true]
   exact vQ K (by rw[SH];exact fB hV) (by rw[SH];exact fB hV) SG
 have cR: ∀(b:AB) (K:AV->Option (AV×St)),fE (.load (some 6)) [.ptr s.next 0] (au s9 b).heap (fun v=>dH (.load (some 6)) [.ptr s.next 0] v (eo [] s9.heap)&&true) K=K (.agg R.cells):=fun b K=>by
   simp only[Bool.and_true]
   exact vQ K (by rw[(Grew.au w9 b).get hx];rfl) (by rw[hx];rfl) (MH R)
 have cR0: ∀(K:AV->Option (AV×St)),fE (.load (some 6)) [.ptr s.next 0] s9.heap (fun v=>dH (.load (some 6)) [.ptr s.next 0] v (eo [] s9.heap)&&true) K=K (.agg R.cells):=fun K=>by
   simp only[Bool.and_true]
   exact vQ K (by rw[hx];rfl) (by rw[hx];rfl) (MH R)
 have nw: ∀(s':St) (K:AV->AB->Option (AV×St)),By (.buildSlice 6 1 [.int .u8 0,.int .i64 0,.str [],.str [],.str [],.int .i64 0] [0]) [.agg R.cells] s' K=K (.slice s'.next 0 1 (some 1) 6) (.cells R.cells 0):=fun s' K=>rfl
 have h1: ∀r∈[R],r.GG:=fun r hr=>by simp at hr;subst hr;exact NN
 have F1:=NQ hc (Yi s9 R) (by simp) h1
 have F2:=Wj hc (Yi (au s9 (.cells R.cells 0)) R) (by simp) h1
 have gf:=g9.trans ((Grew.au w9 (.cells R.cells 0)).trans (Grew.au (eB w9) (.cells R.cells 0)))
 have fin:=hj10 _ gf
 generalize ud (Cj true []) R=v at*
 generalize fmtS [R]=T at*
 rw[aT,aT,aT,aT,fP,rV,rR,j7,C1,kT,cV,cR0,j7,C2,kT,UC,decide_eq_true rfl,Bool.not_true,ZT,Uw,rR,nw,Jl,Jl,j7,F1,kT,Uw,cR,nw,Jl,Jl,j7,F2,kT,abA,ZU,decide_eq_true rfl,Bool.not_true,VL,kG]
 exact fin
end Go.Proofs.YtehbdakjkjkekaaGreatDoor
end
section
set_option maxRecDepth 100000
namespace Go.Proofs.YtehbdakjkjkekaaGreatDoor
open Go Go.Ai Go.Proofs
variable {c : ai}
def rC (i:Nat):Rl:=⟨18,(i:Int),[],[],[],0⟩
def mX (k:Nat):List Rl:=(List.range k).map rC
theorem Yj (k:Nat):mX (k+1)=mX k++[rC k]:=by unfold mX;rw[List.range_succ,List.map_append];rfl
theorem pU (k:Nat):(mX k).length=k:=by simp[mX]
theorem ck64 (z:Bool):nu (Cj z (mX 64))=(0,0):=by cases z<;>kernel_rfl
theorem ck65 (z:Bool):nu (Cj z (mX 64++[rC 0]))=(64,7):=by cases z<;>kernel_rfl
theorem SI {k:Nat} (hk:k<=1000):uE (rC k):=by
 refine ⟨18,rfl,by omega,by omega,?_⟩
 show (0<=(k:Int)/\(k:Int)<=1000)/\_
 refine ⟨by omega,⟨show (0:Int)<=0 by omega,show (0:Int)<=999999999 by omega⟩,fun _=>rfl,?_,?_,?_⟩
 . simp[iE,kd,rC]
 . simp[kd,rC]
 . simp[iE,kd,rC]
theorem Dr: ∀r∈mX 64,uE r:=fun r hr=>by
 unfold mX at hr
 simp only[List.mem_map,List.mem_range] at hr
 obtain ⟨i,hi,rfl⟩:=hr
 exact SI (by omega)
theorem aay (hc:iR c) {sE sP:St} {q:Pos} {Vs:List AV} (hE:Ex sE Vs .aj) (gP:Grew sE sP) (hq:sP.heap.get q=some (.cells Vs 0)) (hV:Vs.length=5) (SG:fN (.agg Vs) (.agg Vs)=true) {k:Nat} (hk:k<21) (F:Nat) (k1 k4) (Q:Option (AV×St)->Prop)
  (hQ: ∀s',Grew sP s'->Q (k4 [.ptr q 0,.int .i64 (k:Int)] s')): ∀(m n f:Nat) (s:St),n+m=128->m<f->Grew sP s->Q (dD c F k1 k4 f [.ptr q 0,.int .i64 (k:Int),.int .i64 (n:Int)] s):=by
 intro m
 induction m with
 |zero=>
  intro n f s hn hf g
  obtain ⟨f,rfl⟩: ∃g,f=g+1:=⟨f - 1,by omega⟩
  rw[dD,aT,aT,aT,fP,aP,sr,decide_eq_false (show ¬(n:Int)<128 by omega),kG]
  exact hQ s g
 |succ m ih=>
  intro n f s hn hf g
  obtain ⟨f,rfl⟩: ∃g,f=g+1:=⟨f - 1,by omega⟩
  exact TO hc hE gP hq hV SG hk (by omega) F f k1 k4 Q (fun s' g'=>ih (n+1) f s' (by omega) (by omega) g') s g
theorem aaz (hc:iR c) {sE sP:St} {q:Pos} {Vs:List AV} (hE:Ex sE Vs .aj) (gP:Grew sE sP) (hq:sP.heap.get q=some (.cells Vs 0)) (hV:Vs.length=5) (SG:fN (.agg Vs) (.agg Vs)=true) (F:Nat) (hF:128<F) (k1 k2) (Q:Option (AV×St)->Prop)
  (hQ: ∀s',Grew sP s'->Q (k2 [.ptr q 0] s')): ∀(m k f:Nat) (s:St),k+m=21->m<f->Grew sP s->Q (fC c F k1 k2 f [.ptr q 0,.int .i64 (k:Int)] s):=by
 intro m
 induction m with
 |zero=>
  intro k f s hn hf g
  obtain ⟨f,rfl⟩: ∃g,f=g+1:=⟨f - 1,by omega⟩
  rw[fC,aT,aT,fP,aP,sr,decide_eq_false (show ¬(k:Int)<21 by omega),kG]
  exact hQ s g
 |succ m ih=>
  intro k f s hn hf g
  obtain ⟨f,rfl⟩: ∃g,f=g+1:=⟨f - 1,by omega⟩
  rw[fC,aT,aT,fP,aP,sr,decide_eq_true (show (k:Int)<21 by omega),pn,aP]
  refine aay hc hE gP hq hV SG (by omega) F _ _ Q (fun s' g'=> ?_) 128 0 F s (by omega) hF g
  have kM:k<=1000000:=by omega
  rw[aT,aT,fP,aP,Jn,EP kM,aP]
  exact ih (k+1) f s' (by omega) (by omega) g'
theorem aaA (hc:iR c) {sE sP sX:St} {q:Pos} {Vs:List AV} (hE:Ex sE Vs .aj) (gP:Grew sE sP) (hq:sP.heap.get q=some (.cells Vs 0)) (hV:Vs.length=5) (SG:fN (.agg Vs) (.agg Vs)=true) (gX:Grew sP sX) {X:AV} {rs:List Rl} (hX:QS 6 sX X (rs.map Rl.cells)) (hr: ∀r∈rs,r.Ok) (hl:rs.length<=1000) (F:Nat) (k1 k6) (Q:Option (AV×St)->Prop)
  (hQ: ∀s',Grew sX s'->Q (k6 [] s')): ∀(m k f:Nat) (s:St),k+m=rs.length->m<f->Grew sX s->Q (fD c F k1 k6 f [.ptr q 0,X,.int .i64 (rs.length:Int),.int .i64 (k:Int)] s):=by
 intro m
 induction m with
 |zero=>
  intro k f s hn hf g
  obtain ⟨f,rfl⟩: ∃g,f=g+1:=⟨f - 1,by omega⟩
  rw[fD,aT,aT,aT,aT,fP,sr,decide_eq_false (show ¬(k:Int)<(rs.length:Int) by omega),kG]
  exact hQ s g
 |succ m ih=>
  intro k f s hn hf g
  obtain ⟨f,rfl⟩: ∃g,f=g+1:=⟨f - 1,by omega⟩
  have hk:k<rs.length:=by omega
  have tE:k<(rs.map Rl.cells).length:=by rw[List.length_map];exact hk
  have kM:k<=1000000:=by omega
  have hd:(k:Int)<(rs.length:Int):=by omega
  have hs:QS 6 s X (rs.map Rl.cells):=hX.mono fun b x _ hx=>g.get hx
  obtain ⟨b,o,a1,_,a3,_,_⟩:=QS.rowAt (c:=c) hs (fun r hr=>by simp only[List.mem_map] at hr;obtain ⟨t,_,rfl⟩:=hr;rfl) (by omega) tE
  rw[List.getElem_map] at a3
  have ok:=hr _ (List.getElem_mem hk)
  generalize rs[k]=R at*
  have hw:=g.wf
  have sto: ∀(K:AV->St->Option (AV×St)),af c (.store 6) [.ptr s.next 0,.agg R.cells] (au s (.cells [.int .u8 0,.int .i64 0,.str [],.str [],.str [],.int .i64 0] 0)) K=K .undef (au s (.cells R.cells 0)):=fun K=>bW c K s 6 (.agg R.cells) [.int .u8 0,.int .i64 0,.str [],.str [],.str [],.int .i64 0] rfl rfl rfl
  have g1:=Grew.au hw (.cells R.cells 0)
  have hx:=aR s (.cells R.cells 0)
  have ldR: ∀(K:AV->St->Option (AV×St)),af c (.load (some 6)) [.ptr b o] s K=K (.agg R.cells) s:=fun K=>by rw[TA,a3];rfl
  generalize au s (.cells R.cells 0)=s9 at*
  have g9:=(gX.trans g).trans g1
  have SH:=g9.get hq
  have C1:=MR hc hE (gP.trans g9) (z:=true) (rs:=[]) rfl (by simp) R ok
  have C2:=Hg hc hE (gP.trans g9) (z:=true) (rs:=[]) rfl (by simp) R ok
  have rV: ∀(K:AV->Option (AV×St)),fE (.load (some 5)) [.ptr q 0] s9.heap (fun _=>true) K=K (.agg Vs):=fun K=>by rw[yZ,SH,show (cellsOf (some (.cells Vs 0))).bind (fun cs=>cut cs 0 5)=some Vs from fB hV];rfl
  have rR: ∀(K:AV->Option (AV×St)),fE (.load (some 6)) [.ptr s.next 0] s9.heap (fun _=>true) K=K (.agg R.cells):=fun K=>by rw[yZ,hx];rfl
  have cV: ∀(K:AV->Option (AV×St)),fE (.load (some 5)) [.ptr q 0] s9.heap (fun v=>dH (.load (some 5)) [.ptr q 0] v (eo [] s9.heap)&&true) K=K (.agg Vs):=fun K=>by
   simp only[Bool.and_true]
   exact vQ K (by rw[SH];exact fB hV) (by rw[SH];exact fB hV) SG
  have cR0: ∀(K:AV->Option (AV×St)),fE (.load (some 6)) [.ptr s.next 0] s9.heap (fun v=>dH (.load (some 6)) [.ptr s.next 0] v (eo [] s9.heap)&&true) K=K (.agg R.cells):=fun K=>by
   simp only[Bool.and_true]
   exact vQ K (by rw[hx];rfl) (by rw[hx];rfl) (MH R)
  have fin:=ih (k+1) f s9 (by omega) (by omega) (g.trans g1)
  generalize ud (Cj true []) R=v at*
  rw[fD,aT,aT,aT,aT,fP,sr,decide_eq_true hd,pn,a1,ldR,C8,sto,rV,rR,j7,C1,kT,cV,cR0,j7,C2,kT,UC,decide_eq_true rfl,Bool.not_true,kG,Jn,EP kM,aP]
  exact fin
theorem aaB {s0:St} (h0:Wf s0): ∀(m k:Nat) (s:St) (W:AV),k+m=64->Mk 6 s0 s W ((mX k).map Rl.cells)->
  ∃s' W',Mk 6 s0 s' W' ((mX 64).map Rl.cells)/\ ∀(F:Nat) (k8:List AV->St->Option (AV×St)) (f:Nat),m<f->ez c F k8 f [W,.int .i64 (k:Int)] s=k8 [W'] s':=by
 intro m
 induction m with
 |zero=>
  intro k s W hk h
  obtain rfl:k=64:=by omega
  refine ⟨s,W,h,fun F k8 f hf=> ?_⟩
  obtain ⟨f,rfl⟩: ∃g,f=g+1:=⟨f - 1,by omega⟩
  rw[ez,aT,aT,fP,aP,sr,decide_eq_false (show ¬((64:Nat):Int)<64 by omega),kG]
 |succ m ih=>
  intro k s W hk h
  have kM:k<=1000000:=by omega
  obtain ⟨s5,W5,b1,b2,_,_⟩:=h.push (c:=c) (R:=AV×St) (bytes:=72) (z:=[.int .u8 0,.int .i64 0,.str [],.str [],.str [],.int .i64 0]) (x:= .agg (rC k).cells) rfl rfl rfl (by decide) (by rw[List.length_map,pU];omega) (by rw[List.length_map,pU];omega)
  have e:(mX k).map Rl.cells++[(.agg (rC k).cells:AV).cells]=(mX (k+1)).map Rl.cells:=by rw[Yj,List.map_append];rfl
  rw[e] at b2
  obtain ⟨s',W',c1,c2⟩:=ih (k+1) s5 W5 (by omega) b2
  refine ⟨s',W',c1,fun F k8 f hf=> ?_⟩
  obtain ⟨f,rfl⟩: ∃g,f=g+1:=⟨f - 1,by omega⟩
  have Ri: ∀(K:AV->St->Option (AV×St)) (s':St),af c (.build [.int .u8 0,.int .i64 0,.str [],.str [],.str [],.int .i64 0] [(0,1),(1,1)]) [.int .u8 18,.int .i64 (k:Int)] s' K=K (.agg (rC k).cells) s':=fun K s'=>rfl
  rw[<-c2 F k8 f (by omega),ez,aT,aT,fP,aP,sr,decide_eq_true (show (k:Int)<64 by omega),pn,aP,aP,Ri,b1,aP,aP,Jn,EP kM,aP]
theorem SJ (hc:iR c) {s:St} (hw:Wf s) {X:AV} {j:AV} {k n:Nat} (hk:k<n) (kM:k<=1000000) (hj:zO s j) {b:Pos} {o:Nat} (a1: ∀(K:AV->St->Option (AV×St)) (s':St),af c (.idxA 1 none) [X,.int .i64 (k:Int)] s' K=K (.ptr b o) s') (a2:((cellsOf (s.heap.get b)).bind fun cs=>cs[o]?)=some j) (F f:Nat) (k1 wD):
  c9 c F k1 wD (f+1) [X,.int .i64 (n:Int),.int .i64 (k:Int)] s=c9 c F k1 wD f [X,.int .i64 (n:Int),.int .i64 ((k+1:Nat):Int)] s:=by
 have A1:=ab9 hc hj
 have A2:=aar hc hj
 have A3:=aas hc hj
 have A4:=Yd hc hj
 have A5:=aat hc hj
 have A6:=acd hc hj
 have A7:=aau hc hj
 have A8:=aav hc hj
 have A9:=Ye hc hj
 have B1:=aaw hc hj
 have B2:=Wh hc hj
 have B3:=MQ hc s
 have bl: ∀(K:AV->St->Option (AV×St)) (s:St),af c (.build [.aj,.aj,.aj,.aj,.aj] []) [] s K=K (.agg [.aj,.aj,.aj,.aj,.aj]) s:=fun K s=>rfl
 have ld: ∀(K:AV->St->Option (AV×St)),af c (.load none) [.ptr b o] s K=K j s:=fun K=>by rw[Mn,a2];rfl
 have w0:aY .i64 0=0:=rfl
 have hd:decide ((k:Int)<(n:Int))=true:=decide_eq_true (by omega)
 have w:=EP kM
 rw[c9,aT,aT,aT,fP,sr,hd,pn,a1,ld]
 simp[A1,A2,A3,A4,A5,A6,A7,A8,A9,B1,B2,B3,bl,w0,Yf,w]
end Go.Proofs.YtehbdakjkjkekaaGreatDoor
end
section
set_option maxRecDepth 100000
namespace Go.Proofs.YtehbdakjkjkekaaGreatDoor
open Go Go.Ai Go.Proofs
variable {c : ai}
abbrev MS:List AV:=[.int .u8 0,.int .i64 0,.str [],.str [],.str [],.int .i64 0]
theorem rW (w:Int) (s:St) (K:AV->St->Option (AV×St)):af c (.build MS [(0,1),(1,1)]) [.int .u8 18,.int .i64 w] s K=K (.agg (Rl.cells ⟨18,w,[],[],[],0⟩)) s:=rfl
theorem rAB (a b:List Nat) (s:St) (K:AV->St->Option (AV×St)):af c (.build MS [(0,1),(2,1),(3,1)]) [.int .u8 1,.str a,.str b] s K=K (.agg (Rl.cells ⟨1,0,a,b,[],0⟩)) s:=rfl
theorem rAN (a t:List Nat) (n:Int) (s:St) (K:AV->St->Option (AV×St)):af c (.build MS [(0,1),(2,1),(4,1),(5,1)]) [.int .u8 7,.str a,.str t,.int .i64 n] s K=K (.agg (Rl.cells ⟨7,0,a,[],t,n⟩)) s:=rfl
theorem rAT (a t:List Nat) (s:St) (K:AV->St->Option (AV×St)):af c (.build MS [(0,1),(2,1),(4,1)]) [.int .u8 17,.str a,.str t] s K=K (.agg (Rl.cells ⟨17,0,a,[],t,0⟩)) s:=rfl
theorem rT (t:List Nat) (s:St) (K:AV->St->Option (AV×St)):af c (.build MS [(0,1),(4,1)]) [.int .u8 17,.str t] s K=K (.agg (Rl.cells ⟨17,0,[],[],t,0⟩)) s:=rfl
theorem rA (a:List Nat) (s:St) (K:AV->St->Option (AV×St)):af c (.build MS [(0,1),(2,1)]) [.int .u8 6,.str a] s K=K (.agg (Rl.cells ⟨6,0,a,[],[],0⟩)) s:=rfl
theorem rM (s:St) (K:AV->St->Option (AV×St)):af c (.build MS [(0,1)]) [.int .u8 18] s K=K (.agg (rC 0).cells) s:=rfl
theorem rTen (r0 r1 r2 r3 r4 r5 r6 r7 r8 r9:Rl) (s:St) (K:AV->St->Option (AV×St)):af c (.buildSlice 6 10 MS [0,1,2,3,4,5,6,7,8,9]) [.agg r0.cells,.agg r1.cells,.agg r2.cells,.agg r3.cells,.agg r4.cells,.agg r5.cells,.agg r6.cells,.agg r7.cells,.agg r8.cells,.agg r9.cells] s K=
 K (.slice s.next 0 10 (some 10) 6) (au s (.cells ([r0,r1,r2,r3,r4,r5,r6,r7,r8,r9].map Rl.cells).flatten 0)):=rfl
theorem SK (a b:AV) (s:St) (K:AV->St->Option (AV×St)):af c (.extract 0) [.tuple [a,b]] s K=K a s:=rfl
theorem SL (a b:AV) (s:St) (K:AV->St->Option (AV×St)):af c (.extract 1) [.tuple [a,b]] s K=K b s:=rfl
theorem zJ (s:St) (K:AV->St->Option (AV×St)):af c (.build [.aj,.aj,.aj,.aj,.aj,.gA,.aj,.aj,.aj,.aj,.aj,.aj,.aj,.aj] []) [] s K=K (.agg [.aj,.aj,.aj,.aj,.aj,.gA,.aj,.aj,.aj,.aj,.aj,.aj,.aj,.aj]) s:=rfl
theorem bJ (p:Pos) (s:St) (K:AV->St->Option (AV×St)):af c (.buildSlice 1 2 [.bq] [0,1]) [.bq,.ptr p 0] s K=K (.slice s.next 0 2 (some 2) 1) (au s (.cells [.bq,.ptr p 0] 0)):=rfl
set_option maxHeartbeats 4000000 in
theorem SM (hc:iR c) (st:St) (hw:Wf st):c 5 [] st=some (.bool true,st):=by
 suffices key: ∃s',gT c 200 st=some (.bool true,s')/\cB st s' by
  obtain ⟨s',k1,k2⟩:=key
  rw[Af hc 200 (x:= .aj) (r:=(.bool true,s')) k1,aX (Plain.bool _) k2]
 obtain ⟨Q,hQ⟩: ∃Q:Option (AV×St)->Prop,Q=fun o=> ∃s',o=some (.bool true,s')/\cB st s':=⟨_,rfl⟩
 have abe:Q (gT c 200 st)-> ∃s',gT c 200 st=some (.bool true,s')/\cB st s':=fun h=>by rw[hQ] at h;exact h
 apply abe
 clear abe
 obtain ⟨V1,V2,V3,V4,sE,E,gE,hE,hb,ho⟩:=GI hc (V5:= .aj) rfl rfl oQ.aj st hw
 have MT:fN (.agg [V1,V2,V3,V4,.aj]) (.agg [V1,V2,V3,V4,.aj])=true:=by
  show kB [V1,V2,V3,V4,.aj] [V1,V2,V3,V4,.aj]=true
  simp only[kB,Bool.and_eq_true] at hb ⊢
  simp_all [oU,iY]
 have gP:=Grew.au gE.wf (.cells [V1,V2,V3,V4,.aj] 0)
 have hq:=aR sE (.cells [V1,V2,V3,V4,.aj] 0)
 have sto5: ∀(K:AV->St->Option (AV×St)),af c (.store 5) [.ptr sE.next 0,.agg [V1,V2,V3,V4,.aj]] (au sE (.cells [.aj,.aj,.aj,.aj,.aj] 0)) K=K .undef (au sE (.cells [V1,V2,V3,V4,.aj] 0)):=fun K=>bW c K sE 5 (.agg [V1,V2,V3,V4,.aj]) [.aj,.aj,.aj,.aj,.aj] rfl rfl ho
 rw[gT,aP,j7,E,kT,C8,sto5,aP]
 refine aaz hc hE gP hq rfl MT 200 (by omega) _ _ Q (fun s1 g1=> ?_) 21 0 200 _ (by omega) (by omega) (Grew.refl gP.wf)
 have gX:=Grew.au g1.wf (.cells ([⟨18,-1,[],[],[],0⟩,⟨18,1000,[],[],[],0⟩,⟨18,1001,[],[],[],0⟩,⟨1,0,[97,110,110,97],[97,110,110,97],[],0⟩,⟨7,0,[97,110,110,97],[],[114],5⟩,⟨7,0,[97,110,110,97],[],[114],6⟩,⟨7,0,[101,118,101],[],[120],6⟩,⟨17,0,[86,101,103,97,110],[],[120],0⟩,⟨17,0,[],[],[114],0⟩,⟨6,0,[97,110,110,97],[],[],0⟩].map Rl.cells).flatten 0)
 have bX:=aR s1 (.cells ([⟨18,-1,[],[],[],0⟩,⟨18,1000,[],[],[],0⟩,⟨18,1001,[],[],[],0⟩,⟨1,0,[97,110,110,97],[97,110,110,97],[],0⟩,⟨7,0,[97,110,110,97],[],[114],5⟩,⟨7,0,[97,110,110,97],[],[114],6⟩,⟨7,0,[101,118,101],[],[120],6⟩,⟨17,0,[86,101,103,97,110],[],[120],0⟩,⟨17,0,[],[],[114],0⟩,⟨6,0,[97,110,110,97],[],[],0⟩].map Rl.cells).flatten 0)
 rw[aT,fP,rW,rW,rW,rAB,rAN,rAN,rAN,rAT,rT,rA,rTen,BD,aP]
 obtain ⟨rs,Ig⟩: ∃rs:List Rl,rs=[⟨18,-1,[],[],[],0⟩,⟨18,1000,[],[],[],0⟩,⟨18,1001,[],[],[],0⟩,⟨1,0,[97,110,110,97],[97,110,110,97],[],0⟩,⟨7,0,[97,110,110,97],[],[114],5⟩,⟨7,0,[97,110,110,97],[],[114],6⟩,⟨7,0,[101,118,101],[],[120],6⟩,⟨17,0,[86,101,103,97,110],[],[120],0⟩,⟨17,0,[],[],[114],0⟩,⟨6,0,[97,110,110,97],[],[],0⟩]:=⟨_,rfl⟩
 rw[<-Ig] at gX bX ⊢
 have l10:rs.length=10:=by rw[Ig];rfl
 have ok10: ∀r∈rs,r.Ok:=fun r hr=>by
  rw[Ig] at hr
  simp only[List.mem_cons,List.not_mem_nil,or_false] at hr
  rcases hr with rfl|rfl|rfl|rfl|rfl|rfl|rfl|rfl|rfl|rfl<;>exact ⟨by decide,by decide⟩
 have fl10:((rs.map Rl.cells).flatten).length=60:=by rw[Ig];rfl
 have hX:QS 6 (au s1 (.cells (rs.map Rl.cells).flatten 0)) (.slice s1.next 0 10 (some 10) 6) (rs.map Rl.cells):= .inr (.inl ⟨s1.next,0,some 10,(rs.map Rl.cells).flatten,by rw[List.length_map,l10],bX,by rw[List.length_map,l10,fl10];omega,by rw[List.drop_zero,List.length_map,l10];exact List.take_of_length_le (by omega),.inr (by rw[List.length_map,l10])⟩)
 generalize au s1 (.cells (rs.map Rl.cells).flatten 0)=sX at*
 rw[show ((10:Nat):Int)=(rs.length:Int) by rw[l10]]
 refine aaA hc hE gP hq rfl MT (g1.trans gX) hX ok10 (by omega) 200 _ _ Q (fun s2 g2=> ?_) 10 0 200 sX (by omega) (by omega) (Grew.refl gX.wf)
 have G2:Grew st s2:=((gE.trans gP).trans (g1.trans gX)).trans g2
 obtain ⟨s3,W,hW,e3⟩:=aaB (c:=c) G2.wf 64 0 s2 .aj (by omega) (Mk.start G2.wf (Grew.refl G2.wf))
 have e3': ∀(k8:List AV->St->Option (AV×St)),ez c 200 k8 200 [.aj,.int .i64 0] s2=k8 [W] s3:=fun k8=>e3 200 k8 200 (by omega)
 obtain ⟨W2,s4,C,hW2⟩:=Wl hc (rs:=mX 64) (by rw[pU];omega) hW.vR.wf hW.own
 obtain ⟨s5,M,p1,p2,p3,p4⟩:=hW2.push (c:=c) (R:=AV×St) (bytes:=72) (z:=MS) (x:= .agg (rC 0).cells) rfl rfl rfl (by decide) (by rw[List.length_map,pU];omega) (by rw[List.length_map,pU];omega)
 have eM:(mX 64).map Rl.cells++[(.agg (rC 0).cells:AV).cells]=(mX 64++[rC 0]).map Rl.cells:=by rw[List.map_append];rfl
 rw[eM] at p2
 have UR:QS 6 s5 W ((mX 64).map Rl.cells):=hW.own.mono fun b x hb hx=>p2.vR.get hx
 obtain ⟨A1,A2,A3,A4,s6,E6,g6,x6,_,_⟩:=GI hc (V5:=W) hW.cells.1 (XF hW.cells.2) hW.inst s5 p2.vR.wf
 obtain ⟨z6,f6⟩:=GJ (UR.mono fun b x _ hx=>g6.get hx) 1
 have K6:=Yg hc x6 (Grew.refl g6.wf) f6 (by rw[pU];omega) (fun r hr=>(Dr r hr).range.1)
 rw[ck64] at K6
 have Yk: ∀r∈mX 64++[rC 0],uE r:=fun r hr=>by
  rcases List.mem_append.1 hr with hr|hr
  . exact Dr r hr
  . simp at hr;subst hr;exact SI (by omega)
 have l65:(mX 64++[rC 0]).length=65:=by rw[List.length_append,pU];rfl
 have hM6:QS 6 s6 M ((mX 64++[rC 0]).map Rl.cells):=p2.own.mono fun b x _ hx=>g6.get hx
 obtain ⟨B1,B2,B3,B4,s7,E7,g7,x7,_,_⟩:=GI hc (V5:=M) p2.cells.1 (XF p2.cells.2) p2.inst s6 g6.wf
 have hM7:QS 6 s7 M ((mX 64++[rC 0]).map Rl.cells):=hM6.mono fun b x _ hx=>g7.get hx
 obtain ⟨z7,f7⟩:=GJ hM7 1
 have K7:=Yg hc x7 (Grew.refl g7.wf) f7 (by rw[l65];omega) (fun r hr=>(Yk r hr).range.1)
 rw[ck65] at K7
 have F7:=NQ hc hM7 (by rw[l65];omega) (fun r hr=>(Yk r hr).NN)
 rw[show fmtS (mX 64++[rC 0])=[] by unfold fmtS;rw[if_pos (by rw[l65];omega)]] at F7
 have Rk:QS 6 s7 W ((mX 64).map Rl.cells):=UR.mono fun b x _ hx=>g7.get (g6.get hx)
 have F8:=NQ hc Rk (by rw[pU];omega) (fun r hr=>(Dr r hr).NN)
 have ne8:=Yb Dr (by intro e;have:=congrArg List.length e;rw[pU] at this;simp at this) (by rw[pU];omega)
 have nl8: ¬((fmtS (mX 64)).length:Int)=0:=fun e=>ne8 (List.eq_nil_of_length_eq_zero (by omega))
 generalize fmtS (mX 64)=T at*
 have gJ1:=Grew.au g7.wf (.cells [.aj,.aj,.aj,.aj,.aj,.gA,.aj,.aj,.aj,.aj,.aj,.aj,.aj,.aj] 0)
 obtain ⟨s8,e8⟩: ∃s8,s8=au s7 (.cells [.aj,.aj,.aj,.aj,.aj,.gA,.aj,.aj,.aj,.aj,.aj,.aj,.aj,.aj] 0):=⟨_,rfl⟩
 have hJ8:=aR s7 (.cells [.aj,.aj,.aj,.aj,.aj,.gA,.aj,.aj,.aj,.aj,.aj,.aj,.aj,.aj] 0)
 rw[<-e8] at gJ1 hJ8
 have gJ2:=Grew.au gJ1.wf (.cells [.bq,.ptr s7.next 0] 0)
 obtain ⟨s9,e9⟩: ∃s9,s9=au s8 (.cells [.bq,.ptr s7.next 0] 0):=⟨_,rfl⟩
 have hL9:=aR s8 (.cells [.bq,.ptr s7.next 0] 0)
 rw[<-e9] at gJ2 hL9
 have w9:=gJ2.wf
 have J1:=fun (k1 wD:List AV->St->Option (AV×St))=>SJ hc w9 (X:= .slice s8.next 0 2 (some 2) 1) (j:= .bq) (k:=0) (n:=2) (by omega) (by omega) (.inl rfl) (b:=s8.next) (o:=0+0*1) (fun K s'=>BC c K s' (by omega)) (by rw[hL9];rfl) 200 199 k1 wD
 have J2:=fun (k1 wD:List AV->St->Option (AV×St))=>SJ hc w9 (X:= .slice s8.next 0 2 (some 2) 1) (j:= .ptr s7.next 0) (k:=1) (n:=2) (by omega) (by omega) (.inr ⟨s7.next,rfl,gJ2.get hJ8⟩) (b:=s8.next) (o:=0+1*1) (fun K s'=>BC c K s' (by omega)) (by rw[hL9];rfl) 200 198 k1 wD
 have J3: ∀(k1 wD:List AV->St->Option (AV×St)),c9 c 200 k1 wD 198 [.slice s8.next 0 2 (some 2) 1,.int .i64 ((2:Nat):Int),.int .i64 ((1+1:Nat):Int)] s9=wD [] s9:=fun k1 wD=>by
  rw[c9,aT,aT,aT,fP,sr,decide_eq_false (by omega),kG]
 have JJ: ∀(k1 wD:List AV->St->Option (AV×St)),c9 c 200 k1 wD 200 [.slice s8.next 0 2 (some 2) 1,.int .i64 ((2:Nat):Int),.int .i64 0] s9=wD [] s9:=fun k1 wD=>(J1 k1 wD).trans ((J2 k1 wD).trans (J3 k1 wD))
 have aw:=Yh hc s9
 have fin:Q (some (.bool true,s9)):=by
  rw[hQ]
  exact ⟨s9,rfl,((((G2.trans hW.vR).trans p2.vR).trans (g6.trans g7)).trans (gJ1.trans gJ2)).keeps⟩
 rw[fP,aP,aP,e3',aT,fP,aP,j7,C,kT,rM,p1,aP,aP,j7,E6,kT,j7,K6,kT,aP,SK,SL,aP,aP,aP,abE,decide_eq_true rfl,Bool.not_true,kG,
  aP,j7,E7,kT,j7,K7,kT,aP,SK,SL,aP,aP]
 simp[-iZ,-Iw,F7,F8,ne8,zJ]
 rw[<-e8,bJ, <-e9,BD]
 rw[JJ]
 simp[aw]
 exact fin
end Go.Proofs.YtehbdakjkjkekaaGreatDoor
end
