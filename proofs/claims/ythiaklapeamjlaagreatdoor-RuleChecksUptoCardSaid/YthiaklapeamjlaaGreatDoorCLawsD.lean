/- Copies of a problem, and when two problems are told to be the same; lists that rule.New makes. -/
import Derived.Test.YthiaklapeamjlaaGreatDoorCLawsC
import Derived.Test.YthiaklapeamjlaaGreatDoorCPlainB
import Derived.Test.YthiaklapeamjlaaGreatDoorCEvalE
import Derived.Test.YthiaklapeamjlaaGreatDoorCLawsB
import Derived.Test.YthiaklapeamjlaaGreatDoorCLawsA
import Derived.Test.YthiaklapeamjlaaGreatDoorRows
set_option linter.all false
set_option linter.unusedSectionVars false
set_option linter.deprecated false
namespace Go.Proofs.YthiaklapeamjlaaGreatDoor
section
set_option maxRecDepth 100000
open Go Go.Ai Go.Proofs
variable {c : ak}
theorem YD (z:Bool) (l:List (Int)) (hl:l.length<=jk) (F:Nat) (k2) {s0:St}: ∀(m k:Nat) (s:St) (v:AV),Mk 1 s0 s v ((l.take k).map eO)->l.length<=k+m->k<=l.length->
  ∃s' v',Mk 1 s0 s' v' (l.map eO)/\iu c F k2 (m+1) [ints z l,v,.int .i64 (k:Int)] s=k2 [v'] s':=by
 have hl:l.length<=1048576:=hl
 have lI: ∀(K:AV->St->Option (AV×St)) (s:St),aj c (.lenB .l) [ints z l] s K=K (.int .i64 (l.length:Int)) s:=fun K s=>by unfold ints;rw[bV];simp
 intro m
 induction m with
 |zero=>
  intro k s v hM h1 h2
  obtain rfl:k=l.length:=by omega
  refine ⟨s,v,by simpa using hM,?_⟩
  rw[mP]
  simp[lI]
 |succ m ih=>
  intro k s v hM h1 h2
  by_cases h:k<l.length
  . have w:ay .i64 ((k:Int)+1)=((k+1:Nat):Int):=wrap64 (by omega) (by omega)
    have hlen:((l.take k).map eO).length=k:=by simp;omega
    obtain ⟨s5,v5,a1,a2,a3,_⟩:=hM.push (c:=c) (R:=AV×St) (bytes:=8) (z:=[.int .i64 0]) (x:= .int .i64 l[k]) rfl rfl rfl (by decide) (by rw[hlen];omega) (by rw[hlen];omega)
    have e:(l.take (k+1)).map eO=(l.take k).map eO++[(.int .i64 l[k]:AV).cells]:=by rw[List.take_succ_eq_append_getElem h,List.map_append];rfl
    rw[<-e] at a2
    obtain ⟨s',v',b1,b2⟩:=ih (k+1) s5 v5 a2 (by omega) (by omega)
    refine ⟨s',v',b1,?_⟩
    rw[<-b2,mP]
    simp[-cB,lI,ints,h,w,a1]
  . obtain rfl:k=l.length:=by omega
    refine ⟨s,v,by simpa using hM,?_⟩
    rw[mP]
    simp[lI]
theorem Sf (hc:Sem c) (z:Bool) (l:List (Int)) (hl:l.length<=jk) (s:St) (hw:Wf s): ∃v s',c 17 [ints z l] s=some (v,s')/\Mk 1 s s' v (l.map eO):=by
 obtain ⟨s',v,hM,L⟩:=YD (c:=c) z l hl (l.length+1) (fun vs rY=>cQ vs fun x3 vs=>eT vs (aj c .move [x3] rY fun JP E7=>aj c .move [JP] E7 fun x2 E8=>some (x2,E8))) (s0:=s) l.length 0 s .ah (Mk.start hw (Grew.refl hw)) (by omega) (by omega)
 obtain ⟨dK,t1,t2⟩:=hM.tidy
 refine ⟨v,dK,?_,t2⟩
 rw[Gj hc (l.length+1) (r:=(v,s')),t1]
 rw[JW]
 simp at L
 simp[L]
theorem WB (z:Bool) (l:List (List Nat)) (hl:l.length<=jk) (F:Nat) (k2) {s0:St}: ∀(m k:Nat) (s:St) (v:AV),Mk 1 s0 s v ((l.take k).map uz)->l.length<=k+m->k<=l.length->
  ∃s' v',Mk 1 s0 s' v' (l.map uz)/\gR c F k2 (m+1) [cR z l,v,.int .i64 (k:Int)] s=k2 [v'] s':=by
 have hl:l.length<=1048576:=hl
 have lI: ∀(K:AV->St->Option (AV×St)) (s:St),aj c (.lenB .l) [cR z l] s K=K (.int .i64 (l.length:Int)) s:=fun K s=>by unfold cR;rw[bV];simp
 intro m
 induction m with
 |zero=>
  intro k s v hM h1 h2
  obtain rfl:k=l.length:=by omega
  refine ⟨s,v,by simpa using hM,?_⟩
  rw[lZ]
  simp[lI]
 |succ m ih=>
  intro k s v hM h1 h2
  by_cases h:k<l.length
  . have w:ay .i64 ((k:Int)+1)=((k+1:Nat):Int):=wrap64 (by omega) (by omega)
    have hlen:((l.take k).map uz).length=k:=by simp;omega
    obtain ⟨s5,v5,a1,a2,a3,_⟩:=hM.push (c:=c) (R:=AV×St) (bytes:=16) (z:=[.str []]) (x:= .str l[k]) rfl rfl rfl (by decide) (by rw[hlen];omega) (by rw[hlen];omega)
    have e:(l.take (k+1)).map uz=(l.take k).map uz++[(.str l[k]:AV).cells]:=by rw[List.take_succ_eq_append_getElem h,List.map_append];rfl
    rw[<-e] at a2
    obtain ⟨s',v',b1,b2⟩:=ih (k+1) s5 v5 a2 (by omega) (by omega)
    refine ⟨s',v',b1,?_⟩
    rw[<-b2,lZ]
    simp[-cB,lI,cR,h,w,a1]
  . obtain rfl:k=l.length:=by omega
    refine ⟨s,v,by simpa using hM,?_⟩
    rw[lZ]
    simp[lI]
theorem aba (hc:Sem c) (z:Bool) (l:List (List Nat)) (hl:l.length<=jk) (s:St) (hw:Wf s): ∃v s',c 224 [cR z l] s=some (v,s')/\Mk 1 s s' v (l.map uz):=by
 obtain ⟨s',v,hM,L⟩:=WB (c:=c) z l hl (l.length+1) (fun vs rY=>cQ vs fun x3 vs=>eT vs (aj c .move [x3] rY fun JP E7=>aj c .move [JP] E7 fun x2 E8=>some (x2,E8))) (s0:=s) l.length 0 s .ah (Mk.start hw (Grew.refl hw)) (by omega) (by omega)
 obtain ⟨dK,t1,t2⟩:=hM.tidy
 refine ⟨v,dK,?_,t2⟩
 rw[Fi hc (l.length+1) (r:=(v,s')),t1]
 rw[IC]
 simp at L
 simp[L]
theorem YE (z:Bool) (l:List (Ty)) (hl:l.length<=jk) (F:Nat) (k2) {s0:St}: ∀(m k:Nat) (s:St) (v:AV),Mk 3 s0 s v ((l.take k).map Ty.cells)->l.length<=k+m->k<=l.length->
  ∃s' v',Mk 3 s0 s' v' (l.map Ty.cells)/\iw c F k2 (m+1) [bH z l,v,.int .i64 (k:Int)] s=k2 [v'] s':=by
 have hl:l.length<=1048576:=hl
 have lI: ∀(K:AV->St->Option (AV×St)) (s:St),aj c (.lenB .l) [bH z l] s K=K (.int .i64 (l.length:Int)) s:=fun K s=>by unfold bH;rw[bV];simp
 intro m
 induction m with
 |zero=>
  intro k s v hM h1 h2
  obtain rfl:k=l.length:=by omega
  refine ⟨s,v,by simpa using hM,?_⟩
  rw[mQ]
  simp[lI]
 |succ m ih=>
  intro k s v hM h1 h2
  by_cases h:k<l.length
  . have w:ay .i64 ((k:Int)+1)=((k+1:Nat):Int):=wrap64 (by omega) (by omega)
    have hlen:((l.take k).map Ty.cells).length=k:=by simp;omega
    obtain ⟨s5,v5,a1,a2,a3,_⟩:=hM.push (c:=c) (R:=AV×St) (bytes:=40) (z:=[.str [],.str [],.int .u8 0]) (x:= .agg l[k].cells) rfl rfl (by simp) (by decide) (by rw[hlen];omega) (by rw[hlen];omega)
    have e:(l.take (k+1)).map Ty.cells=(l.take k).map Ty.cells++[(.agg l[k].cells:AV).cells]:=by rw[List.take_succ_eq_append_getElem h,List.map_append];rfl
    rw[<-e] at a2
    obtain ⟨s',v',b1,b2⟩:=ih (k+1) s5 v5 a2 (by omega) (by omega)
    refine ⟨s',v',b1,?_⟩
    rw[<-b2,mQ]
    simp[-cB,lI,bH,h,w,a1,Ty.len]
  . obtain rfl:k=l.length:=by omega
    refine ⟨s,v,by simpa using hM,?_⟩
    rw[mQ]
    simp[lI]
theorem ab9 (hc:Sem c) (z:Bool) (l:List (Ty)) (hl:l.length<=jk) (s:St) (hw:Wf s): ∃v s',c 64 [bH z l] s=some (v,s')/\Mk 3 s s' v (l.map Ty.cells):=by
 obtain ⟨s',v,hM,L⟩:=YE (c:=c) z l hl (l.length+1) (fun vs rY=>cQ vs fun x3 vs=>eT vs (aj c .move [x3] rY fun JP E7=>aj c .move [JP] E7 fun x2 E8=>some (x2,E8))) (s0:=s) l.length 0 s .ah (Mk.start hw (Grew.refl hw)) (by omega) (by omega)
 obtain ⟨dK,t1,t2⟩:=hM.tidy
 refine ⟨v,dK,?_,t2⟩
 rw[Gk hc (l.length+1) (r:=(v,s')),t1]
 rw[JX]
 simp at L
 simp[L]
theorem WC (z:Bool) (l:List (Rl)) (hl:l.length<=jk) (F:Nat) (k2) {s0:St}: ∀(m k:Nat) (s:St) (v:AV),Mk 6 s0 s v ((l.take k).map Rl.cells)->l.length<=k+m->k<=l.length->
  ∃s' v',Mk 6 s0 s' v' (l.map Rl.cells)/\gS c F k2 (m+1) [dG z l,v,.int .i64 (k:Int)] s=k2 [v'] s':=by
 have hl:l.length<=1048576:=hl
 have lI: ∀(K:AV->St->Option (AV×St)) (s:St),aj c (.lenB .l) [dG z l] s K=K (.int .i64 (l.length:Int)) s:=fun K s=>by unfold dG;rw[bV];simp
 intro m
 induction m with
 |zero=>
  intro k s v hM h1 h2
  obtain rfl:k=l.length:=by omega
  refine ⟨s,v,by simpa using hM,?_⟩
  rw[l6]
  simp[lI]
 |succ m ih=>
  intro k s v hM h1 h2
  by_cases h:k<l.length
  . have w:ay .i64 ((k:Int)+1)=((k+1:Nat):Int):=wrap64 (by omega) (by omega)
    have hlen:((l.take k).map Rl.cells).length=k:=by simp;omega
    obtain ⟨s5,v5,a1,a2,a3,_⟩:=hM.push (c:=c) (R:=AV×St) (bytes:=72) (z:=[.int .u8 0,.int .i64 0,.str [],.str [],.str [],.int .i64 0]) (x:= .agg l[k].cells) rfl rfl (by simp) (by decide) (by rw[hlen];omega) (by rw[hlen];omega)
    have e:(l.take (k+1)).map Rl.cells=(l.take k).map Rl.cells++[(.agg l[k].cells:AV).cells]:=by rw[List.take_succ_eq_append_getElem h,List.map_append];rfl
    rw[<-e] at a2
    obtain ⟨s',v',b1,b2⟩:=ih (k+1) s5 v5 a2 (by omega) (by omega)
    refine ⟨s',v',b1,?_⟩
    rw[<-b2,l6]
    simp[-cB,lI,dG,h,w,a1]
  . obtain rfl:k=l.length:=by omega
    refine ⟨s,v,by simpa using hM,?_⟩
    rw[l6]
    simp[lI]
theorem abb (hc:Sem c) (z:Bool) (l:List (Rl)) (hl:l.length<=jk) (s:St) (hw:Wf s): ∃v s',c 65 [dG z l] s=some (v,s')/\Mk 6 s s' v (l.map Rl.cells):=by
 obtain ⟨s',v,hM,L⟩:=WC (c:=c) z l hl (l.length+1) (fun vs rY=>cQ vs fun x3 vs=>eT vs (aj c .move [x3] rY fun JP E7=>aj c .move [JP] E7 fun x2 E8=>some (x2,E8))) (s0:=s) l.length 0 s .ah (Mk.start hw (Grew.refl hw)) (by omega) (by omega)
 obtain ⟨dK,t1,t2⟩:=hM.tidy
 refine ⟨v,dK,?_,t2⟩
 rw[Fj hc (l.length+1) (r:=(v,s')),t1]
 rw[ID]
 simp at L
 simp[L]
end
section
set_option maxRecDepth 100000
open Go Go.Ai Go.Proofs
variable {c : ak}
theorem abc (hc:Sem c) (t:az) (ht:t.Real) (s:St) (hw:Wf s): ∃v s',c 128 [.agg t.cells] s=some (.agg (t.aq v),s')/\Mk 1 s s' v (t.bZ.map eO):=by
 have aX:Wf (ai s (.cells t.cells 0)):=aQ hw
 have g1:=Grew.ai hw (.cells t.cells 0)
 have eP:Wf (ai (ai s (.cells t.cells 0)) (.cells [.str [],.int .u8 0,.int .i64 0,.int .i64 0,.ah,.int .i64 0,.int .i64 0] 0)):=aQ aX
 have g2:=Grew.ai aX (.cells [.str [],.int .u8 0,.int .i64 0,.int .i64 0,.ah,.int .i64 0,.int .i64 0] 0)
 have x1:(ai (ai s (.cells t.cells 0)) (.cells [.str [],.int .u8 0,.int .i64 0,.int .i64 0,.ah,.int .i64 0,.int .i64 0] 0)).heap.get s.next=some (.cells t.cells 0):=g2.get (aH _ _)
 have x2:=aH (ai s (.cells t.cells 0)) (.cells [.str [],.int .u8 0,.int .i64 0,.int .i64 0,.ah,.int .i64 0,.int .i64 0] 0)
 have n12:s.next≠(ai s (.cells t.cells 0)).next:=by rw[bG];exact Pos.QD _
 have eT:s.next.toNat<(ai s (.cells t.cells 0)).next.toNat:=by rw[bG,Pos.ax];omega
 have nl2:(ai s (.cells t.cells 0)).next.toNat<(ai (ai s (.cells t.cells 0)) (.cells [.str [],.int .u8 0,.int .i64 0,.int .i64 0,.ah,.int .i64 0,.int .i64 0] 0)).next.toNat:=by rw[bG (ai s (.cells t.cells 0)),Pos.ax];omega
 have gg:=g1.trans g2
 have c4:t.cells[4]? =some (ints t.oz t.bZ):=rfl
 generalize CU:ai (ai s (.cells t.cells 0)) (.cells [.str [],.int .u8 0,.int .i64 0,.int .i64 0,.ah,.int .i64 0,.int .i64 0] 0)=s2 at eP g2 x1 x2 nl2 gg
 generalize Jo:(ai s (.cells t.cells 0)).next=p2 at x2 n12 eT nl2
 obtain ⟨v,s3,C,M⟩:=Sf hc t.oz t.bZ ht.bZ s2 eP
 obtain ⟨vc,v1⟩:=M.cells
 have y1:=M.aB.get x1
 have y2:=M.aB.get x2
 have cJ: ∀b,bf v=some b->s2.next.toNat<=b.toNat:=M.new
 have bk: ∀(K:AV->St->Option (AV×St)),aj c (.store 1) [.ptr s.next 4,v] s3 K=K .undef (bt s3 s.next (.cells (t.aq v) 0)):=fun K=>by
  rw[cu c K s3 1 s.next 4 v t.cells y1 (by rw[vc];rfl) (by rw[az.len];omega) (by rw[vc];exact v1),vc];rfl
 have nx3:=M.aB.next
 have M1:Mk 1 s s3 v (t.bZ.map eO):=M.back hw gg
 have M2:=M1.store (p:=s.next) (b:= .cells (t.aq v) 0) (Nat.le_refl _) (by omega) (fun e=>by have:=cJ _ e;omega)
 have z1:(bt s3 s.next (.cells (t.aq v) 0)).heap.get s.next=some (.cells (t.aq v) 0):=dM _ _ _
 have z2:(bt s3 s.next (.cells (t.aq v) 0)).heap.get p2=some (.cells [.str [],.int .u8 0,.int .i64 0,.int .i64 0,.ah,.int .i64 0,.int .i64 0] 0):=by rw[aF n12];exact y2
 have nz:(bt s3 s.next (.cells (t.aq v) 0)).next=s3.next:=rfl
 generalize hs4:bt s3 s.next (.cells (t.aq v) 0)=s4 at bk M2 z1 z2 nz
 have one:aK (t.aq v)=true:=by
  simp only[aK] at v1
  unfold az.aq
  simp only[aK,AV.one,v1,Bool.and_self,Bool.and_true] at*
 have hcut:cut (t.aq v) 0 7=some (t.aq v):=cD rfl
 have yh: ∀(K:AV->St->Option (AV×St)),aj c (.store 7) [.ptr p2 0,.agg (t.aq v)] s4 K=K .undef (bt s4 p2 (.cells (t.aq v) 0)):=fun K=>by
  rw[cu c K s4 7 p2 0 (.agg (t.aq v)) _ z2 rfl (by simp) one]
  rfl
 have M3:=M2.store (p:=p2) (b:= .cells (t.aq v) 0) (by omega) (by rw[nz];omega) (fun e=>by have:=cJ _ e;omega)
 have mem:v∈t.aq v:=by simp[az.aq]
 obtain ⟨dK,t1,_,t3⟩:=M3.Ti mem (fun u hu=>by
  simp only[az.aq,List.mem_cons,List.not_mem_nil,or_false] at hu
  rcases hu with rfl|rfl|rfl|rfl|rfl|rfl|rfl<;>first|exact ct.str ht.name|exact ct.int _ _|exact M.inst)
 refine ⟨v,dK,?_,t3⟩
 rw[Fk hc 1 (r:=(.agg (t.aq v),bt s4 p2 (.cells (t.aq v) 0))),t1]
 rw[IE]
 simp[CU,Jo,x1,c4,C,bk,z1,hcut,yh]
theorem abd (hc:Sem c) (t:aJ) (ht:t.Real) (s:St) (hw:Wf s): ∃v s',c 129 [.agg t.cells] s=some (.agg (t.aq v),s')/\Mk 1 s s' v (t.tg.map uz):=by
 have aX:Wf (ai s (.cells t.cells 0)):=aQ hw
 have g1:=Grew.ai hw (.cells t.cells 0)
 have eP:Wf (ai (ai s (.cells t.cells 0)) (.cells [.str [],.str [],.str [],.int .i64 0,.int .i64 0,.str [],.bool false,.bool false,.ah] 0)):=aQ aX
 have g2:=Grew.ai aX (.cells [.str [],.str [],.str [],.int .i64 0,.int .i64 0,.str [],.bool false,.bool false,.ah] 0)
 have x1:(ai (ai s (.cells t.cells 0)) (.cells [.str [],.str [],.str [],.int .i64 0,.int .i64 0,.str [],.bool false,.bool false,.ah] 0)).heap.get s.next=some (.cells t.cells 0):=g2.get (aH _ _)
 have x2:=aH (ai s (.cells t.cells 0)) (.cells [.str [],.str [],.str [],.int .i64 0,.int .i64 0,.str [],.bool false,.bool false,.ah] 0)
 have n12:s.next≠(ai s (.cells t.cells 0)).next:=by rw[bG];exact Pos.QD _
 have eT:s.next.toNat<(ai s (.cells t.cells 0)).next.toNat:=by rw[bG,Pos.ax];omega
 have nl2:(ai s (.cells t.cells 0)).next.toNat<(ai (ai s (.cells t.cells 0)) (.cells [.str [],.str [],.str [],.int .i64 0,.int .i64 0,.str [],.bool false,.bool false,.ah] 0)).next.toNat:=by rw[bG (ai s (.cells t.cells 0)),Pos.ax];omega
 have gg:=g1.trans g2
 have c4:t.cells[8]? =some (cR t.tz t.tg):=rfl
 generalize CU:ai (ai s (.cells t.cells 0)) (.cells [.str [],.str [],.str [],.int .i64 0,.int .i64 0,.str [],.bool false,.bool false,.ah] 0)=s2 at eP g2 x1 x2 nl2 gg
 generalize Jo:(ai s (.cells t.cells 0)).next=p2 at x2 n12 eT nl2
 obtain ⟨v,s3,C,M⟩:=aba hc t.tz t.tg ht.tg s2 eP
 obtain ⟨vc,v1⟩:=M.cells
 have y1:=M.aB.get x1
 have y2:=M.aB.get x2
 have cJ: ∀b,bf v=some b->s2.next.toNat<=b.toNat:=M.new
 have bk: ∀(K:AV->St->Option (AV×St)),aj c (.store 1) [.ptr s.next 8,v] s3 K=K .undef (bt s3 s.next (.cells (t.aq v) 0)):=fun K=>by
  rw[cu c K s3 1 s.next 8 v t.cells y1 (by rw[vc];rfl) (by rw[aJ.len];omega) (by rw[vc];exact v1),vc];rfl
 have nx3:=M.aB.next
 have M1:Mk 1 s s3 v (t.tg.map uz):=M.back hw gg
 have M2:=M1.store (p:=s.next) (b:= .cells (t.aq v) 0) (Nat.le_refl _) (by omega) (fun e=>by have:=cJ _ e;omega)
 have z1:(bt s3 s.next (.cells (t.aq v) 0)).heap.get s.next=some (.cells (t.aq v) 0):=dM _ _ _
 have z2:(bt s3 s.next (.cells (t.aq v) 0)).heap.get p2=some (.cells [.str [],.str [],.str [],.int .i64 0,.int .i64 0,.str [],.bool false,.bool false,.ah] 0):=by rw[aF n12];exact y2
 have nz:(bt s3 s.next (.cells (t.aq v) 0)).next=s3.next:=rfl
 generalize hs4:bt s3 s.next (.cells (t.aq v) 0)=s4 at bk M2 z1 z2 nz
 have one:aK (t.aq v)=true:=by
  simp only[aK] at v1
  unfold aJ.aq
  simp only[aK,AV.one,v1,Bool.and_self,Bool.and_true] at*
 have hcut:cut (t.aq v) 0 9=some (t.aq v):=cD rfl
 have yh: ∀(K:AV->St->Option (AV×St)),aj c (.store 9) [.ptr p2 0,.agg (t.aq v)] s4 K=K .undef (bt s4 p2 (.cells (t.aq v) 0)):=fun K=>by
  rw[cu c K s4 9 p2 0 (.agg (t.aq v)) _ z2 rfl (by simp) one]
  rfl
 have M3:=M2.store (p:=p2) (b:= .cells (t.aq v) 0) (by omega) (by rw[nz];omega) (fun e=>by have:=cJ _ e;omega)
 have mem:v∈t.aq v:=by simp[aJ.aq]
 obtain ⟨dK,t1,_,t3⟩:=M3.Ti mem (fun u hu=>by
  simp only[aJ.aq,List.mem_cons,List.not_mem_nil,or_false] at hu
  rcases hu with rfl|rfl|rfl|rfl|rfl|rfl|rfl|rfl|rfl<;>first|exact ct.str ht.name|exact ct.str ht.mL|exact ct.str ht.jy|exact ct.str ht.mM|exact ct.int _ _|exact ct.bool _|exact M.inst)
 refine ⟨v,dK,?_,t3⟩
 rw[Fl hc 1 (r:=(.agg (t.aq v),bt s4 p2 (.cells (t.aq v) 0))),t1]
 rw[IF]
 simp[CU,Jo,x1,c4,C,bk,z1,hcut,yh]
end
section
set_option maxRecDepth 100000
open Go Go.Ai Go.Proofs
variable {c : ak}
theorem U9 (hc:Sem c) (z:Bool) (ts:List az) (hl:ts.length<=1000) (hr: ∀t∈ts,t.Real) (F:Nat) (k2) {s0:St}: ∀(m k f:Nat) (s:St) (V:AV) (rows:List (List AV)),m<f->k+m=ts.length->TS s0 s V (ts.take k) rows->
  ∃s' V' qT,TS s0 s' V' ts qT/\gy c F k2 f [tabs z ts,V,.int .i64 (k:Int)] s=k2 [V'] s':=by
 have lI: ∀(K:AV->St->Option (AV×St)) (s:St),aj c (.lenB .l) [tabs z ts] s K=K (.int .i64 (ts.length:Int)) s:=fun K s=>by unfold tabs;rw[bV];simp
 intro m
 induction m with
 |zero=>
  intro k f s V rows hf h1 hT
  obtain ⟨f,rfl⟩: ∃g,f=g+1:=⟨f - 1,by omega⟩
  obtain rfl:k=ts.length:=by omega
  refine ⟨s,V,rows,by simpa using hT,?_⟩
  rw[r9]
  simp[lI]
 |succ m ih=>
  intro k f s V rows hf h1 hT
  obtain ⟨f,rfl⟩: ∃g,f=g+1:=⟨f - 1,by omega⟩
  have h:k<ts.length:=by omega
  have w:ay .i64 ((k:Int)+1)=((k+1:Nat):Int):=wrap64 (by omega) (by omega)
  have hw:=hT.out.aB.wf
  obtain ⟨v,s1,C,M⟩:=abc hc ts[k] (hr _ (List.getElem_mem h)) s hw
  have O1:=hT.out.grow M.aB
  have rl:rows.length=k:=by rw[hT.len];simp;omega
  obtain ⟨s5,V5,a1,a2,a3,a4⟩:=O1.push (c:=c) (R:=AV×St) (bytes:=80) (z:=[.str [],.int .u8 0,.int .i64 0,.int .i64 0,.ah,.int .i64 0,.int .i64 0]) (x:= .agg (ts[k].aq v)) rfl rfl (az.Ip _ M.cells.2) (by decide) (by rw[rl];omega) (by rw[rl];omega)
  have Mv:=M.back hT.out.jf hT.out.aB
  have vV: ∀b,bf v=some b->bf V≠some b:=fun b hb e=>by
   have p1:=M.new b hb
   have p2:=hT.out.own.lt hw e
   omega
  have T5:TS s0 s5 V5 (ts.take (k+1)) (rows++[ts[k].aq v]):=by
   refine ⟨a2,by simp[rl];omega,fun i t r hi Fm=> ?_⟩
   have small: ∀u:AV,∀(rw:List (List AV)),Mk 1 s0 s1 u rw->(∀b,bf u=some b->bf V≠some b)->Mk 1 s0 s5 u rw/\ ∀b,bf u=some b->bf V5≠some b:=fun u rw hu bX=>by
        refine ⟨Mk.He hu a2.aB fun b x hb hx=>a3 b x (bX b hb) hx,fun b hb e=> ?_⟩
        have p1:=a4 b e
        have p2:=hu.own.lt hu.aB.wf hb
        omega
   by_cases GJ:i<k
   .    rw[List.getElem?_append_left (by omega)] at Fm
        have kJ:(ts.take k)[i]? =some t:=by
         rw[List.getElem?_take] at hi ⊢
         rw[if_pos (by omega)] at hi;rw[if_pos GJ];exact hi
        obtain ⟨u,e1,e2,e3⟩:=hT.iq i t r kJ Fm
        obtain ⟨f1,f2⟩:=small u _ (e2.grow M.aB) e3
        exact ⟨u,e1,f1,f2⟩
   .    have ahE:i=k:=by
         have:=(List.getElem?_eq_some_iff.1 hi).1
         simp at this;omega
        subst ahE
        rw[List.getElem?_append_right (by omega)] at Fm
        simp[rl] at Fm
        rw[List.getElem?_take,if_pos (by omega),List.getElem?_eq_getElem h] at hi
        cases hi
        obtain ⟨f1,f2⟩:=small v _ Mv vV
        exact ⟨v,Fm.symm,f1,f2⟩
  obtain ⟨s',V',qT,b1,b2⟩:=ih (k+1) f s5 V5 _ (by omega) (by omega) T5
  refine ⟨s',V',qT,b1,?_⟩
  rw[<-b2,r9]
  unfold tabs at lI ⊢
  simp[-cB,lI,h,w,az.len,C,a1]
theorem YF (hc:Sem c) (z:Bool) (ts:List az) (hl:ts.length<=1000) (hr: ∀t∈ts,t.Real) (s:St) (hw:Wf s): ∃V s' rows,c 62 [tabs z ts] s=some (V,s')/\TS s s' V ts rows:=by
 obtain ⟨s',V,rows,hT,L⟩:=U9 hc z ts hl hr (ts.length+1) (fun vs rY=>cQ vs fun x3 vs=>eT vs (aj c .move [x3] rY fun JP E7=>aj c .move [JP] E7 fun x2 E8=>some (x2,E8))) ts.length 0 (ts.length+1) s .ah [] (by omega) (by omega) ⟨Mk.start hw (Grew.refl hw),by simp,fun i t r h=>by simp at h⟩
 have fin: ∃dK,tidy s (V,s')=(V,dK)/\TS s dK V ts rows:=by
  unfold tidy
  by_cases hp:Plain (V,s').1/\aM s (V,s').2
  . rw[if_pos hp]
    refine ⟨s,rfl,?_⟩
    rcases hT.out.loose with ⟨b,off,n,e⟩|⟨jF,e⟩
    .   rw[e] at hp
        exact (Go.Ai.oo hp.1).elim
    .   exact ⟨jF s hw,hT.len,fun i t r _ h=>by rw[e] at h;simp at h⟩
  . rw[if_neg hp];exact ⟨s',rfl,hT⟩
 obtain ⟨dK,t1,t2⟩:=fin
 refine ⟨V,dK,rows,?_,t2⟩
 rw[Ee hc (ts.length+1) (r:=(V,s')),t1]
 rw[Gl]
 simp at L
 simp[L]
theorem Va (hc:Sem c) (z:Bool) (ts:List aJ) (hl:ts.length<=1000) (hr: ∀t∈ts,t.Real) (F:Nat) (k2) {s0:St}: ∀(m k f:Nat) (s:St) (V:AV) (rows:List (List AV)),m<f->k+m=ts.length->GS s0 s V (ts.take k) rows->
  ∃s' V' qT,GS s0 s' V' ts qT/\gC c F k2 f [aT z ts,V,.int .i64 (k:Int)] s=k2 [V'] s':=by
 have lI: ∀(K:AV->St->Option (AV×St)) (s:St),aj c (.lenB .l) [aT z ts] s K=K (.int .i64 (ts.length:Int)) s:=fun K s=>by unfold aT;rw[bV];simp
 intro m
 induction m with
 |zero=>
  intro k f s V rows hf h1 hT
  obtain ⟨f,rfl⟩: ∃g,f=g+1:=⟨f - 1,by omega⟩
  obtain rfl:k=ts.length:=by omega
  refine ⟨s,V,rows,by simpa using hT,?_⟩
  rw[se]
  simp[lI]
 |succ m ih=>
  intro k f s V rows hf h1 hT
  obtain ⟨f,rfl⟩: ∃g,f=g+1:=⟨f - 1,by omega⟩
  have h:k<ts.length:=by omega
  have w:ay .i64 ((k:Int)+1)=((k+1:Nat):Int):=wrap64 (by omega) (by omega)
  have hw:=hT.out.aB.wf
  obtain ⟨v,s1,C,M⟩:=abd hc ts[k] (hr _ (List.getElem_mem h)) s hw
  have O1:=hT.out.grow M.aB
  have rl:rows.length=k:=by rw[hT.len];simp;omega
  obtain ⟨s5,V5,a1,a2,a3,a4⟩:=O1.push (c:=c) (R:=AV×St) (bytes:=112) (z:=[.str [],.str [],.str [],.int .i64 0,.int .i64 0,.str [],.bool false,.bool false,.ah]) (x:= .agg (ts[k].aq v)) rfl rfl (aJ.Ip _ M.cells.2) (by decide) (by rw[rl];omega) (by rw[rl];omega)
  have Mv:=M.back hT.out.jf hT.out.aB
  have vV: ∀b,bf v=some b->bf V≠some b:=fun b hb e=>by
   have p1:=M.new b hb
   have p2:=hT.out.own.lt hw e
   omega
  have T5:GS s0 s5 V5 (ts.take (k+1)) (rows++[ts[k].aq v]):=by
   refine ⟨a2,by simp[rl];omega,fun i t r hi Fm=> ?_⟩
   have small: ∀u:AV,∀(rw:List (List AV)),Mk 1 s0 s1 u rw->(∀b,bf u=some b->bf V≠some b)->Mk 1 s0 s5 u rw/\ ∀b,bf u=some b->bf V5≠some b:=fun u rw hu bX=>by
        refine ⟨Mk.He hu a2.aB fun b x hb hx=>a3 b x (bX b hb) hx,fun b hb e=> ?_⟩
        have p1:=a4 b e
        have p2:=hu.own.lt hu.aB.wf hb
        omega
   by_cases GJ:i<k
   .    rw[List.getElem?_append_left (by omega)] at Fm
        have kJ:(ts.take k)[i]? =some t:=by
         rw[List.getElem?_take] at hi ⊢
         rw[if_pos (by omega)] at hi;rw[if_pos GJ];exact hi
        obtain ⟨u,e1,e2,e3⟩:=hT.iq i t r kJ Fm
        obtain ⟨f1,f2⟩:=small u _ (e2.grow M.aB) e3
        exact ⟨u,e1,f1,f2⟩
   .    have ahE:i=k:=by
         have:=(List.getElem?_eq_some_iff.1 hi).1
         simp at this;omega
        subst ahE
        rw[List.getElem?_append_right (by omega)] at Fm
        simp[rl] at Fm
        rw[List.getElem?_take,if_pos (by omega),List.getElem?_eq_getElem h] at hi
        cases hi
        obtain ⟨f1,f2⟩:=small v _ Mv vV
        exact ⟨v,Fm.symm,f1,f2⟩
  obtain ⟨s',V',qT,b1,b2⟩:=ih (k+1) f s5 V5 _ (by omega) (by omega) T5
  refine ⟨s',V',qT,b1,?_⟩
  rw[<-b2,se]
  unfold aT at lI ⊢
  simp[-cB,lI,h,w,aJ.len,C,a1]
theorem YG (hc:Sem c) (z:Bool) (ts:List aJ) (hl:ts.length<=1000) (hr: ∀t∈ts,t.Real) (s:St) (hw:Wf s): ∃V s' rows,c 63 [aT z ts] s=some (V,s')/\GS s s' V ts rows:=by
 obtain ⟨s',V,rows,hT,L⟩:=Va hc z ts hl hr (ts.length+1) (fun vs rY=>cQ vs fun x3 vs=>eT vs (aj c .move [x3] rY fun JP E7=>aj c .move [JP] E7 fun x2 E8=>some (x2,E8))) ts.length 0 (ts.length+1) s .ah [] (by omega) (by omega) ⟨Mk.start hw (Grew.refl hw),by simp,fun i t r h=>by simp at h⟩
 have fin: ∃dK,tidy s (V,s')=(V,dK)/\GS s dK V ts rows:=by
  unfold tidy
  by_cases hp:Plain (V,s').1/\aM s (V,s').2
  . rw[if_pos hp]
    refine ⟨s,rfl,?_⟩
    rcases hT.out.loose with ⟨b,off,n,e⟩|⟨jF,e⟩
    .   rw[e] at hp
        exact (Go.Ai.oo hp.1).elim
    .   exact ⟨jF s hw,hT.len,fun i t r _ h=>by rw[e] at h;simp at h⟩
  . rw[if_neg hp];exact ⟨s',rfl,hT⟩
 obtain ⟨dK,t1,t2⟩:=fin
 refine ⟨V,dK,rows,?_,t2⟩
 rw[Ef hc (ts.length+1) (r:=(V,s')),t1]
 rw[Gm]
 simp at L
 simp[L]
end
section
set_option maxRecDepth 100000
open Go Go.Ai Go.Proofs
variable {c : ak}
def az.cK (t t':az):Prop:= ∃z,t'={ t with oz:=z }
def aJ.cK (g g':aJ):Prop:= ∃z,g'={ g with tz:=z }
theorem abe {α:Type} (f:α->AV) (s:St) (d:Nat) (l:List α) (hf: ∀a∈l,cV s d (f a)=f a):(l.map fun a=>[f a]).map (fun r=>r.map (cV s d))=l.map fun a=>[f a]:=by
 rw[List.map_map]
 refine List.map_congr_left fun a ha=> ?_
 simp only[Function.comp,List.map_cons,List.map_nil,hf a ha]
theorem JY (s:St) (d:Nat) (k:IntKind) (i:Int):cV s d (.int k i)= .int k i:=by cases d<;>rfl
theorem JZ (s:St) (d:Nat) (l:List Nat):cV s d (.str l)= .str l:=by cases d<;>rfl
theorem ahF (s:St) (d:Nat) (b:Bool):cV s d (.bool b)= .bool b:=by cases d<;>rfl
theorem abf {s0 s:St} {v:AV} {l:List Int} (h:Mk 1 s0 s v (l.map eO)) (d:Nat): ∃z,cV s (d+1) v=ints z l:=by
 obtain ⟨z,hz⟩:=h.own.cV (d:=d) h.row
 refine ⟨z,?_⟩
 rw[hz];unfold ints
 rw[abe (fun i=>AV.int .i64 i) s d l fun a _=>JY s d _ _]
theorem ahG {s0 s:St} {v:AV} {l:List (List Nat)} (h:Mk 1 s0 s v (l.map uz)) (d:Nat): ∃z,cV s (d+1) v=cR z l:=by
 obtain ⟨z,hz⟩:=h.own.cV (d:=d) h.row
 refine ⟨z,?_⟩
 rw[hz];unfold cR
 rw[abe (fun i=>AV.str i) s d l fun a _=>JZ s d _]
theorem ajf {s0 s:St} {v:AV} {l:List Ty} (h:Mk 3 s0 s v (l.map Ty.cells)) (d:Nat): ∃z,cV s (d+1) v=bH z l:=by
 obtain ⟨z,hz⟩:=h.own.cV (d:=d) h.row
 refine ⟨z,?_⟩
 rw[hz];unfold bH
 rw[List.map_map]
 congr 1
 refine List.map_congr_left fun a _=> ?_
 simp only[Function.comp,Ty.cells,List.map_cons,List.map_nil,JZ,JY]
theorem ajg {s0 s:St} {v:AV} {l:List Rl} (h:Mk 6 s0 s v (l.map Rl.cells)) (d:Nat): ∃z,cV s (d+1) v=dG z l:=by
 obtain ⟨z,hz⟩:=h.own.cV (d:=d) h.row
 refine ⟨z,?_⟩
 rw[hz];unfold dG
 rw[List.map_map]
 congr 1
 refine List.map_congr_left fun a _=> ?_
 simp only[Function.comp,Rl.cells,List.map_cons,List.map_nil,JZ,JY]
theorem Tv {α:Type} (P:α->α->Prop) (cells:α->List AV) (g:List AV->List AV): ∀(ts:List α) (rows:List (List AV)),rows.length=ts.length->(∀(i:Nat) (t:α) (r:List AV),ts[i]? =some t->rows[i]? =some r-> ∃t',P t t'/\g r=cells t')->
  ∃zL:List α,rows.map g=zL.map cells/\zL.length=ts.length/\ ∀(i:Nat) (t t':α),ts[i]? =some t->zL[i]? =some t'->P t t'
 |[],rows,hl,_=>⟨[],by rw[List.eq_nil_of_length_eq_zero hl];rfl,rfl,fun i t t' h=>by simp at h⟩
 |t::ts,[],hl,_=>by simp at hl
 |t::ts,r::rows,hl,h=>by
  obtain ⟨t',h1,h2⟩:=h 0 t r rfl rfl
  obtain ⟨zL,k1,k2,k3⟩:=Tv P cells g ts rows (by simpa using hl) (fun i t r h3 h4=>h (i+1) t r (by simpa using h3) (by simpa using h4))
  refine ⟨t'::zL,by simp[h2,k1],by simp[k2],fun i u u' h3 h4=> ?_⟩
  cases i with
  |zero=>simp at h3 h4;subst h3;subst h4;exact h1
  |succ i=>exact k3 i u u' (by simpa using h3) (by simpa using h4)
theorem TS.cV {s0 s:St} {V:AV} {ts:List az} {rows:List (List AV)} (h:TS s0 s V ts rows) (d:Nat): ∃z zL,Go.Ai.cV s (d+2) V=tabs z zL/\zL.length=ts.length/\ ∀(i:Nat) (t t':az),ts[i]? =some t->zL[i]? =some t'->t.cK t':=by
 obtain ⟨z,hz⟩:=h.out.own.cV (d:=d+1) h.out.row
 obtain ⟨zL,k1,k2,k3⟩:=Tv az.cK az.cells (fun r=>r.map (Go.Ai.cV s (d+1))) ts rows h.len fun i t r hi hr=>by
  obtain ⟨v,rfl,hM,_⟩:=h.iq i t r hi hr
  obtain ⟨z2,Hu⟩:=abf hM d
  refine ⟨{ t with oz:=z2 },⟨z2,rfl⟩,?_⟩
  simp only[az.aq,az.cells,List.map_cons,List.map_nil,JZ,JY,Hu]
 refine ⟨z,zL,?_,k2,k3⟩
 rw[hz,k1];rfl
theorem GS.cV {s0 s:St} {V:AV} {ts:List aJ} {rows:List (List AV)} (h:GS s0 s V ts rows) (d:Nat): ∃z zL,Go.Ai.cV s (d+2) V=aT z zL/\zL.length=ts.length/\ ∀(i:Nat) (t t':aJ),ts[i]? =some t->zL[i]? =some t'->t.cK t':=by
 obtain ⟨z,hz⟩:=h.out.own.cV (d:=d+1) h.out.row
 obtain ⟨zL,k1,k2,k3⟩:=Tv aJ.cK aJ.cells (fun r=>r.map (Go.Ai.cV s (d+1))) ts rows h.len fun i t r hi hr=>by
  obtain ⟨v,rfl,hM,_⟩:=h.iq i t r hi hr
  obtain ⟨z2,Hu⟩:=ahG hM d
  refine ⟨{ t with tz:=z2 },⟨z2,rfl⟩,?_⟩
  simp only[aJ.aq,aJ.cells,List.map_cons,List.map_nil,JZ,JY,ahF,Hu]
 refine ⟨z,zL,?_,k2,k3⟩
 rw[hz,k1];rfl
end
section
set_option maxRecDepth 100000
open Go Go.Ai Go.Proofs
variable {c : ak}
theorem WD (hc:Sem c) (p:aZ) (hp:p.Real) (s:St) (hw:Wf s): ∃Vs s',c 20 [.agg p.cells] s=some (.agg Vs,s')/\PS s s' Vs p:=by
 have aX:Wf (ai s (.cells p.cells 0)):=aQ hw
 have eP:Wf (ai (ai s (.cells p.cells 0)) (.cells [.ah,.ah,.ah,.ah,.ah] 0)):=aQ aX
 have g2:=(Grew.ai hw (.cells p.cells 0)).trans (Grew.ai aX (.cells [.ah,.ah,.ah,.ah,.ah] 0))
 have x1:(ai (ai s (.cells p.cells 0)) (.cells [.ah,.ah,.ah,.ah,.ah] 0)).heap.get s.next=some (.cells p.cells 0):=(Grew.ai aX _).get (aH _ _)
 have x2:=aH (ai s (.cells p.cells 0)) (.cells [.ah,.ah,.ah,.ah,.ah] 0)
 have nl:s.next.toNat<(ai s (.cells p.cells 0)).next.toNat:=by rw[bG,Pos.ax];omega
 generalize CY:ai (ai s (.cells p.cells 0)) (.cells [.ah,.ah,.ah,.ah,.ah] 0)=s1 at eP g2 x1 x2
 generalize Jo:(ai s (.cells p.cells 0)).next=p2 at x2 nl
 obtain ⟨V1,s2,r1,C1,T1⟩:=YF hc p.tz p.ts hp.ts hp.tab s1 eP
 obtain ⟨V2,s3,r2,C2,T2⟩:=YG hc p.gz p.gs hp.gs hp.bB s2 T1.out.aB.wf
 obtain ⟨V3,s4,C3,T3⟩:=ab9 hc p.yz p.ys hp.ys s3 T2.out.aB.wf
 obtain ⟨V4,s5,C4,T4⟩:=Sf hc p.cz p.cs hp.cs s4 T3.aB.wf
 obtain ⟨V5,s6,C5,T5⟩:=abb hc p.rz p.rs hp.rs s5 T4.aB.wf
 have Pa:=T1.out.aB
 have Sg:=T2.out.aB
 have Vb:=T3.aB
 have XK:=T4.aB
 have G56:=T5.aB
 have y2:=Pa.get x1
 have y3:=Sg.get y2
 have y4:=Vb.get y3
 have y5:=XK.get y4
 have z6:=G56.get (XK.get (Vb.get (Sg.get (Pa.get x2))))
 have lt2:=eP _ _ x2
 have L0: ∀(ok:AV->Bool) (K:AV->Option (AV×St)),ok (tabs p.tz p.ts)=true->jT (.load none) [.ptr s.next 0] s1.heap ok K=K (tabs p.tz p.ts):=fun ok K h=>pS (by rw[x1];rfl) ok h K
 have L1: ∀(ok:AV->Bool) (K:AV->Option (AV×St)),ok (aT p.gz p.gs)=true->jT (.load none) [.ptr s.next 1] s2.heap ok K=K (aT p.gz p.gs):=fun ok K h=>pS (by rw[y2];rfl) ok h K
 have L2: ∀(ok:AV->Bool) (K:AV->Option (AV×St)),ok (bH p.yz p.ys)=true->jT (.load none) [.ptr s.next 2] s3.heap ok K=K (bH p.yz p.ys):=fun ok K h=>pS (by rw[y3];rfl) ok h K
 have L3: ∀(ok:AV->Bool) (K:AV->Option (AV×St)),ok (ints p.cz p.cs)=true->jT (.load none) [.ptr s.next 3] s4.heap ok K=K (ints p.cz p.cs):=fun ok K h=>pS (by rw[y4];rfl) ok h K
 have L4: ∀(ok:AV->Bool) (K:AV->Option (AV×St)),ok (dG p.rz p.rs)=true->jT (.load none) [.ptr s.next 4] s5.heap ok K=K (dG p.rz p.rs):=fun ok K h=>pS (by rw[y5];rfl) ok h K
 have b1:=qE (Ea p.gz p.gs)
 have b2:=qE (aec p.yz p.ys)
 have b3:=qE (zG (d:=2) p.cz p.cs)
 have b4:=qE (OJ p.rz p.rs)
 have q11:=iJ (p:=s.next) (o:=1) (h:=s1.heap) (v:=aT p.gz p.gs) (by rw[x1];rfl) b1
 have q21:=iJ (p:=s.next) (o:=2) (h:=s1.heap) (v:=bH p.yz p.ys) (by rw[x1];rfl) b2
 have q22:=iJ (p:=s.next) (o:=2) (h:=s2.heap) (v:=bH p.yz p.ys) (by rw[y2];rfl) b2
 have q31:=iJ (p:=s.next) (o:=3) (h:=s1.heap) (v:=ints p.cz p.cs) (by rw[x1];rfl) b3
 have q32:=iJ (p:=s.next) (o:=3) (h:=s2.heap) (v:=ints p.cz p.cs) (by rw[y2];rfl) b3
 have q33:=iJ (p:=s.next) (o:=3) (h:=s3.heap) (v:=ints p.cz p.cs) (by rw[y3];rfl) b3
 have q41:=iJ (p:=s.next) (o:=4) (h:=s1.heap) (v:=dG p.rz p.rs) (by rw[x1];rfl) b4
 have q42:=iJ (p:=s.next) (o:=4) (h:=s2.heap) (v:=dG p.rz p.rs) (by rw[y2];rfl) b4
 have q43:=iJ (p:=s.next) (o:=4) (h:=s3.heap) (v:=dG p.rz p.rs) (by rw[y3];rfl) b4
 have q44:=iJ (p:=s.next) (o:=4) (h:=s4.heap) (v:=dG p.rz p.rs) (by rw[y4];rfl) b4
 obtain ⟨c1,o1⟩:=T1.out.cells
 obtain ⟨c2,o2⟩:=T2.out.cells
 obtain ⟨c3,o3⟩:=T3.cells
 obtain ⟨c4,o4⟩:=T4.cells
 obtain ⟨c5,o5⟩:=T5.cells
 have vg:bJ [AV.ah,.ah,.ah,.ah,.ah] [(0,1),(1,1),(2,1),(3,1),(4,1)] [V1,V2,V3,V4,V5]=some [V1,V2,V3,V4,V5]:=by
  simp[bJ,cN,cM,aG,c1,c2,c3,c4,c5]
 have one:aK [V1,V2,V3,V4,V5]=true:=by
  simp only[aK,Bool.and_true] at o1 o2 o3 o4 o5
  simp only[aK,o1,o2,o3,o4,o5,Bool.and_self]
 have lf: ∀(K:AV->St->Option (AV×St)),aj c (.store 5) [.ptr p2 0,.agg [V1,V2,V3,V4,V5]] s6 K=K .undef (bt s6 p2 (.cells [V1,V2,V3,V4,V5] 0)):=fun K=>by
  rw[cu c K s6 5 p2 0 (.agg [V1,V2,V3,V4,V5]) _ z6 rfl (by simp) one];rfl
 have G16:=Pa.trans (Sg.trans (Vb.trans (XK.trans G56)))
 have G7:Grew s (bt s6 p2 (.cells [V1,V2,V3,V4,V5] 0)):=⟨ij G16.wf (by have:=G16.next;omega),fun q b hq=>by
  have:=hw _ _ hq
  rw[aF (fun e=>by rw[e] at nl;omega)];exact (g2.trans G16).get hq,by rw[cg];exact (g2.trans G16).next⟩
 have tI: ∀q b,s1.next.toNat<=q.toNat->s6.heap.get q=some b->(bt s6 p2 (.cells [V1,V2,V3,V4,V5] 0)).heap.get q=some b:=fun q b hq h=>by
  rw[aF (fun e=>by rw[e] at lt2;omega)];exact h
 have F1:=T1.ja hw g2 G7 fun q b hq h=>tI q b hq ((Sg.trans (Vb.trans (XK.trans G56))).get h)
 have F2:=T2.ja hw (g2.trans Pa) G7 fun q b hq h=>tI q b (Nat.le_trans Pa.next hq) ((Vb.trans (XK.trans G56)).get h)
 have F3:=T3.ja hw (g2.trans (Pa.trans Sg)) G7 fun q b hq h=>tI q b (Nat.le_trans (Pa.trans Sg).next hq) ((XK.trans G56).get h)
 have F4:=T4.ja hw (g2.trans (Pa.trans (Sg.trans Vb))) G7 fun q b hq h=>tI q b (Nat.le_trans (Pa.trans (Sg.trans Vb)).next hq) (G56.get h)
 have F5:=T5.ja hw (g2.trans (Pa.trans (Sg.trans (Vb.trans XK)))) G7 fun q b hq h=>tI q b (Nat.le_trans (Pa.trans (Sg.trans (Vb.trans XK))).next hq) h
 have fin: ∃dK,tidy s (.agg [V1,V2,V3,V4,V5],bt s6 p2 (.cells [V1,V2,V3,V4,V5] 0))=(.agg [V1,V2,V3,V4,V5],dK)/\PS s dK [V1,V2,V3,V4,V5] p:=by
  unfold tidy
  by_cases hP:Plain (AV.agg [V1,V2,V3,V4,V5],bt s6 p2 (.cells [V1,V2,V3,V4,V5] 0)).1/\aM s (AV.agg [V1,V2,V3,V4,V5],bt s6 p2 (.cells [V1,V2,V3,V4,V5] 0)).2
  . rw[if_pos hP]
    have inst: ∀v∈[V1,V2,V3,V4,V5],ct v:=fun v hv=>by
        simp only[List.mem_cons,List.not_mem_nil,or_false] at hv
        rcases hv with rfl|rfl|rfl|rfl|rfl
        . exact F1.out.inst
        . exact F2.out.inst
        . exact F3.inst
        . exact F4.inst
        . exact F5.inst
    have k1:=F1.out.loose.resolve_left fun ⟨b,off,n,e⟩=>absurd hP.1 (cE inst (b:=b) (off:=off) (n:=n) (es:=7) (by rw[<-e];simp))
    have k2:=F2.out.loose.resolve_left fun ⟨b,off,n,e⟩=>absurd hP.1 (cE inst (b:=b) (off:=off) (n:=n) (es:=9) (by rw[<-e];simp))
    have k3:=F3.loose.resolve_left fun ⟨b,off,n,e⟩=>absurd hP.1 (cE inst (b:=b) (off:=off) (n:=n) (es:=3) (by rw[<-e];simp))
    have k4:=F4.loose.resolve_left fun ⟨b,off,n,e⟩=>absurd hP.1 (cE inst (b:=b) (off:=off) (n:=n) (es:=1) (by rw[<-e];simp))
    have k5:=F5.loose.resolve_left fun ⟨b,off,n,e⟩=>absurd hP.1 (cE inst (b:=b) (off:=off) (n:=n) (es:=6) (by rw[<-e];simp))
    exact ⟨s,rfl,Grew.refl hw,V1,V2,V3,V4,V5,r1,r2,rfl,⟨k1.1 s hw,F1.len,fun i t r _ h=>by rw[k1.2] at h;simp at h⟩,⟨k2.1 s hw,F2.len,fun i t r _ h=>by rw[k2.2] at h;simp at h⟩,k3.1 s hw,k4.1 s hw,k5.1 s hw⟩
  . rw[if_neg hP]
    exact ⟨_,rfl,G7,V1,V2,V3,V4,V5,r1,r2,rfl,F1,F2,F3,F4,F5⟩
 obtain ⟨dK,t1,t2⟩:=fin
 refine ⟨_,dK,?_,t2⟩
 rw[CD hc 1 (r:=(.agg [V1,V2,V3,V4,V5],bt s6 p2 (.cells [V1,V2,V3,V4,V5] 0))),t1]
 rw[Fo]
 have hcut:cut [V1,V2,V3,V4,V5] 0 5=some [V1,V2,V3,V4,V5]:=cD rfl
 simp[CY,Jo,L0,L1,L2,L3,L4,q11,q21,q22,q31,q32,q33,q41,q42,q43,q44,C1,C2,C3,C4,C5,vg,lf,hcut]
end
section
set_option maxRecDepth 100000
open Go Go.Ai Go.Proofs
variable {c : ak}
theorem aj7 (t:Ty) (H:Pos->Option AB) (n:Pos):aC.run H n (.bin .neq (.struct [(0,.s),(1,.s),(2,.i)])) [.agg t.cells,.agg t.cells]=some (.val (.bool false)):=by
 simp[aC.run,gP,nB,Kn,eqFields,Ty.cells,nth,tU,cw,gL,eF]
theorem aj8 (t:Rl) (H:Pos->Option AB) (n:Pos):aC.run H n (.bin .neq (.struct [(0,.i),(1,.i),(2,.s),(3,.s),(4,.s),(5,.i)])) [.agg t.cells,.agg t.cells]=some (.val (.bool false)):=by
 simp[aC.run,gP,nB,Kn,eqFields,Rl.cells,nth,tU,cw,gL,eF]
theorem ajh (t:Ty) (K:AV->Option (AV×St)):fM (.bin .neq (.struct [(0,.s),(1,.s),(2,.i)])) [.agg t.cells,.agg t.cells] K=K (.bool false):=cP K (aj7 t)
theorem aji (t:Rl) (K:AV->Option (AV×St)):fM (.bin .neq (.struct [(0,.i),(1,.i),(2,.s),(3,.s),(4,.s),(5,.i)])) [.agg t.cells,.agg t.cells] K=K (.bool false):=cP K (aj8 t)
theorem YH (z z':Bool) (l:List (Int)) (hl:l.length<cO) (F:Nat) (k1 k2) (s:St): ∀(m k f:Nat),m<f->k+m=l.length->iy c F k1 k2 f [ints z l,ints z' l,.int .i64 (k:Int)] s=k2 [] s:=by
 have lI: ∀(z:Bool) (K:AV->St->Option (AV×St)) (s:St),aj c (.lenB .l) [ints z l] s K=K (.int .i64 (l.length:Int)) s:=fun z K s=>by unfold ints;rw[bV];simp
 intro m
 induction m with
 |zero=>
  intro k f hf h1
  obtain ⟨f,rfl⟩: ∃g,f=g+1:=⟨f - 1,by omega⟩
  obtain rfl:k=l.length:=by omega
  rw[uB]
  simp[lI]
 |succ m ih=>
  intro k f hf h1
  obtain ⟨f,rfl⟩: ∃g,f=g+1:=⟨f - 1,by omega⟩
  have h:k<l.length:=by omega
  have w:ay .i64 ((k:Int)+1)=((k+1:Nat):Int):=wrap64 (by omega) (by unfold cO at hl;omega)
  rw[<-ih (k+1) f (by omega) (by omega),uB]
  unfold ints at lI ⊢
  simp[lI,h,w]
theorem Si (hc:Sem c) (z z':Bool) (l:List (Int)) (hl:l.length<cO) (s:St):c 40 [ints z l,ints z' l] s=some (.bool true,s):=by
 have lI: ∀(z:Bool) (K:AV->St->Option (AV×St)) (s:St),aj c (.lenB .l) [ints z l] s K=K (.int .i64 (l.length:Int)) s:=fun z K s=>by unfold ints;rw[bV];simp
 have L:=YH (c:=c) z z' l hl (l.length+1) (fun vs JQ=>cQ vs fun x4 vs=>eT vs (some (x4,JQ))) (fun vs JR=>eT vs (aj c .move [.bool true] JR fun x4 rY=>some (x4,rY))) s l.length 0 (l.length+1) (by omega) (by omega)
 rw[Gn hc (l.length+1) (r:=(.bool true,s)),au (Plain.bool _) (aM.refl s)]
 rw[J5]
 simp at L
 simp[lI,L]
theorem WE (z z':Bool) (l:List (List Nat)) (hl:l.length<cO) (F:Nat) (k1 k2) (s:St): ∀(m k f:Nat),m<f->k+m=l.length->gU c F k1 k2 f [cR z l,cR z' l,.int .i64 (k:Int)] s=k2 [] s:=by
 have lI: ∀(z:Bool) (K:AV->St->Option (AV×St)) (s:St),aj c (.lenB .l) [cR z l] s K=K (.int .i64 (l.length:Int)) s:=fun z K s=>by unfold cR;rw[bV];simp
 intro m
 induction m with
 |zero=>
  intro k f hf h1
  obtain ⟨f,rfl⟩: ∃g,f=g+1:=⟨f - 1,by omega⟩
  obtain rfl:k=l.length:=by omega
  rw[tJ]
  simp[lI]
 |succ m ih=>
  intro k f hf h1
  obtain ⟨f,rfl⟩: ∃g,f=g+1:=⟨f - 1,by omega⟩
  have h:k<l.length:=by omega
  have w:ay .i64 ((k:Int)+1)=((k+1:Nat):Int):=wrap64 (by omega) (by unfold cO at hl;omega)
  rw[<-ih (k+1) f (by omega) (by omega),tJ]
  unfold cR at lI ⊢
  simp[lI,h,w]
theorem abg (hc:Sem c) (z z':Bool) (l:List (List Nat)) (hl:l.length<cO) (s:St):c 259 [cR z l,cR z' l] s=some (.bool true,s):=by
 have lI: ∀(z:Bool) (K:AV->St->Option (AV×St)) (s:St),aj c (.lenB .l) [cR z l] s K=K (.int .i64 (l.length:Int)) s:=fun z K s=>by unfold cR;rw[bV];simp
 have L:=WE (c:=c) z z' l hl (l.length+1) (fun vs JQ=>cQ vs fun x4 vs=>eT vs (some (x4,JQ))) (fun vs JR=>eT vs (aj c .move [.bool true] JR fun x4 rY=>some (x4,rY))) s l.length 0 (l.length+1) (by omega) (by omega)
 rw[Fp hc (l.length+1) (r:=(.bool true,s)),au (Plain.bool _) (aM.refl s)]
 rw[IG]
 simp at L
 simp[lI,L]
theorem YI (z z':Bool) (l:List (Ty)) (hl:l.length<cO) (F:Nat) (k1 k2) (s:St): ∀(m k f:Nat),m<f->k+m=l.length->iz c F k1 k2 f [bH z l,bH z' l,.int .i64 (k:Int)] s=k2 [] s:=by
 have lI: ∀(z:Bool) (K:AV->St->Option (AV×St)) (s:St),aj c (.lenB .l) [bH z l] s K=K (.int .i64 (l.length:Int)) s:=fun z K s=>by unfold bH;rw[bV];simp
 intro m
 induction m with
 |zero=>
  intro k f hf h1
  obtain ⟨f,rfl⟩: ∃g,f=g+1:=⟨f - 1,by omega⟩
  obtain rfl:k=l.length:=by omega
  rw[uC]
  simp[lI]
 |succ m ih=>
  intro k f hf h1
  obtain ⟨f,rfl⟩: ∃g,f=g+1:=⟨f - 1,by omega⟩
  have h:k<l.length:=by omega
  have w:ay .i64 ((k:Int)+1)=((k+1:Nat):Int):=wrap64 (by omega) (by unfold cO at hl;omega)
  rw[<-ih (k+1) f (by omega) (by omega),uC]
  unfold bH at lI ⊢
  simp[lI,h,w,ajh,Ty.len]
theorem acd (hc:Sem c) (z z':Bool) (l:List (Ty)) (hl:l.length<cO) (s:St):c 87 [bH z l,bH z' l] s=some (.bool true,s):=by
 have lI: ∀(z:Bool) (K:AV->St->Option (AV×St)) (s:St),aj c (.lenB .l) [bH z l] s K=K (.int .i64 (l.length:Int)) s:=fun z K s=>by unfold bH;rw[bV];simp
 have L:=YI (c:=c) z z' l hl (l.length+1) (fun vs JQ=>cQ vs fun x4 vs=>eT vs (some (x4,JQ))) (fun vs JR=>eT vs (aj c .move [.bool true] JR fun x4 rY=>some (x4,rY))) s l.length 0 (l.length+1) (by omega) (by omega)
 rw[Gp hc (l.length+1) (r:=(.bool true,s)),au (Plain.bool _) (aM.refl s)]
 rw[J6]
 simp at L
 simp[lI,L]
theorem WG (z z':Bool) (l:List (Rl)) (hl:l.length<cO) (F:Nat) (k1 k2) (s:St): ∀(m k f:Nat),m<f->k+m=l.length->gV c F k1 k2 f [dG z l,dG z' l,.int .i64 (k:Int)] s=k2 [] s:=by
 have lI: ∀(z:Bool) (K:AV->St->Option (AV×St)) (s:St),aj c (.lenB .l) [dG z l] s K=K (.int .i64 (l.length:Int)) s:=fun z K s=>by unfold dG;rw[bV];simp
 intro m
 induction m with
 |zero=>
  intro k f hf h1
  obtain ⟨f,rfl⟩: ∃g,f=g+1:=⟨f - 1,by omega⟩
  obtain rfl:k=l.length:=by omega
  rw[tK]
  simp[lI]
 |succ m ih=>
  intro k f hf h1
  obtain ⟨f,rfl⟩: ∃g,f=g+1:=⟨f - 1,by omega⟩
  have h:k<l.length:=by omega
  have w:ay .i64 ((k:Int)+1)=((k+1:Nat):Int):=wrap64 (by omega) (by unfold cO at hl;omega)
  rw[<-ih (k+1) f (by omega) (by omega),tK]
  unfold dG at lI ⊢
  simp[lI,h,w,aji]
theorem abh (hc:Sem c) (z z':Bool) (l:List (Rl)) (hl:l.length<cO) (s:St):c 61 [dG z l,dG z' l] s=some (.bool true,s):=by
 have lI: ∀(z:Bool) (K:AV->St->Option (AV×St)) (s:St),aj c (.lenB .l) [dG z l] s K=K (.int .i64 (l.length:Int)) s:=fun z K s=>by unfold dG;rw[bV];simp
 have L:=WG (c:=c) z z' l hl (l.length+1) (fun vs JQ=>cQ vs fun x4 vs=>eT vs (some (x4,JQ))) (fun vs JR=>eT vs (aj c .move [.bool true] JR fun x4 rY=>some (x4,rY))) s l.length 0 (l.length+1) (by omega) (by omega)
 rw[Fq hc (l.length+1) (r:=(.bool true,s)),au (Plain.bool _) (aM.refl s)]
 rw[II]
 simp at L
 simp[lI,L]
theorem abi (hc:Sem c) (t t':az) (h:t.cK t') (hl:t.bZ.length<cO) (s:St) (hw:Wf s):c 189 [.agg t.cells,.agg t'.cells] s=some (.bool true,s):=by
 obtain ⟨z,rfl⟩:=h
 have aX:Wf (ai s (.cells t.cells 0)):=aQ hw
 have x1:=(Grew.ai aX (.cells ({ t with oz:=z }:az).cells 0)).get (aH s (.cells t.cells 0))
 have x2:=aH (ai s (.cells t.cells 0)) (.cells ({ t with oz:=z }:az).cells 0)
 have S:=Si hc t.oz z t.bZ hl (ai (ai s (.cells t.cells 0)) (.cells ({ t with oz:=z }:az).cells 0))
 rw[Fs hc 1 (r:=(.bool true,ai (ai s (.cells t.cells 0)) (.cells ({ t with oz:=z }:az).cells 0))),au (Plain.bool _) ((aU hw).trans (aU aX))]
 rw[IJ]
 have a0:t.cells[0]? =some (.str t.name):=rfl
 have a1:t.cells[1]? =some (.int .u8 t.sh):=rfl
 have a2:t.cells[2]? =some (.int .i64 t.a):=rfl
 have a3:t.cells[3]? =some (.int .i64 t.b):=rfl
 have a4:t.cells[4]? =some (ints t.oz t.bZ):=rfl
 have a5:t.cells[5]? =some (.int .i64 t.x):=rfl
 have a6:t.cells[6]? =some (.int .i64 t.y):=rfl
 have b0:({ t with oz:=z }:az).cells[0]? =some (.str t.name):=rfl
 have b1:({ t with oz:=z }:az).cells[1]? =some (.int .u8 t.sh):=rfl
 have b2:({ t with oz:=z }:az).cells[2]? =some (.int .i64 t.a):=rfl
 have b3:({ t with oz:=z }:az).cells[3]? =some (.int .i64 t.b):=rfl
 have b4:({ t with oz:=z }:az).cells[4]? =some (ints z t.bZ):=rfl
 have b5:({ t with oz:=z }:az).cells[5]? =some (.int .i64 t.x):=rfl
 have b6:({ t with oz:=z }:az).cells[6]? =some (.int .i64 t.y):=rfl
 simp[x1,x2,a0,a1,a2,a3,a4,a5,a6,b0,b1,b2,b3,b4,b5,b6,S]
theorem abj (hc:Sem c) (t t':aJ) (h:t.cK t') (hl:t.tg.length<cO) (s:St) (hw:Wf s):c 190 [.agg t.cells,.agg t'.cells] s=some (.bool true,s):=by
 obtain ⟨z,rfl⟩:=h
 have aX:Wf (ai s (.cells t.cells 0)):=aQ hw
 have x1:=(Grew.ai aX (.cells ({ t with tz:=z }:aJ).cells 0)).get (aH s (.cells t.cells 0))
 have x2:=aH (ai s (.cells t.cells 0)) (.cells ({ t with tz:=z }:aJ).cells 0)
 have S:=abg hc t.tz z t.tg hl (ai (ai s (.cells t.cells 0)) (.cells ({ t with tz:=z }:aJ).cells 0))
 rw[Ft hc 1 (r:=(.bool true,ai (ai s (.cells t.cells 0)) (.cells ({ t with tz:=z }:aJ).cells 0))),au (Plain.bool _) ((aU hw).trans (aU aX))]
 rw[IK]
 have a0:t.cells[0]? =some (.str t.name):=rfl
 have b0:({ t with tz:=z }:aJ).cells[0]? =some (.str t.name):=rfl
 have a1:t.cells[1]? =some (.str t.mL):=rfl
 have b1:({ t with tz:=z }:aJ).cells[1]? =some (.str t.mL):=rfl
 have a2:t.cells[2]? =some (.str t.jy):=rfl
 have b2:({ t with tz:=z }:aJ).cells[2]? =some (.str t.jy):=rfl
 have a3:t.cells[3]? =some (.int .i64 t.since):=rfl
 have b3:({ t with tz:=z }:aJ).cells[3]? =some (.int .i64 t.since):=rfl
 have a4:t.cells[4]? =some (.int .i64 t.side):=rfl
 have b4:({ t with tz:=z }:aJ).cells[4]? =some (.int .i64 t.side):=rfl
 have a5:t.cells[5]? =some (.str t.mM):=rfl
 have b5:({ t with tz:=z }:aJ).cells[5]? =some (.str t.mM):=rfl
 have a6:t.cells[6]? =some (.bool t.host):=rfl
 have b6:({ t with tz:=z }:aJ).cells[6]? =some (.bool t.host):=rfl
 have a7:t.cells[7]? =some (.bool t.access):=rfl
 have b7:({ t with tz:=z }:aJ).cells[7]? =some (.bool t.access):=rfl
 have a8:t.cells[8]? =some (cR t.tz t.tg):=rfl
 have b8:({ t with tz:=z }:aJ).cells[8]? =some (cR z t.tg):=rfl
 simp[x1,x2,a0,a1,a2,a3,a4,a5,a6,a7,a8,b0,b1,b2,b3,b4,b5,b6,b7,b8,S]
theorem Vc (hc:Sem c) (z z':Bool) (l l':List (az)) (hl:l.length<cO) (XL:l'.length=l.length) (hs: ∀(i:Nat) (t t':az),l[i]? =some t->l'[i]? =some t'->t.cK t') (hr: ∀t∈l,t.bZ.length<cO) (F:Nat) (k1 k2) (s:St) (hw:Wf s): ∀(m k f:Nat),m<f->k+m=l.length->gD c F k1 k2 f [tabs z l,tabs z' l',.int .i64 (k:Int)] s=k2 [] s:=by
 have lI: ∀(z:Bool) (l:List (az)) (K:AV->St->Option (AV×St)) (s:St),aj c (.lenB .l) [tabs z l] s K=K (.int .i64 (l.length:Int)) s:=fun z l K s=>by unfold tabs;rw[bV];simp
 intro m
 induction m with
 |zero=>
  intro k f hf h1
  obtain ⟨f,rfl⟩: ∃g,f=g+1:=⟨f - 1,by omega⟩
  obtain rfl:k=l.length:=by omega
  rw[sg]
  simp[lI]
 |succ m ih=>
  intro k f hf h1
  obtain ⟨f,rfl⟩: ∃g,f=g+1:=⟨f - 1,by omega⟩
  have h:k<l.length:=by omega
  have h':k<l'.length:=by omega
  have w:ay .i64 ((k:Int)+1)=((k+1:Nat):Int):=wrap64 (by omega) (by unfold cO at hl;omega)
  have S:=abi hc l[k] l'[k] (hs k _ _ (List.getElem?_eq_getElem h) (List.getElem?_eq_getElem h')) (hr _ (List.getElem_mem h)) s hw
  rw[<-ih (k+1) f (by omega) (by omega),sg]
  unfold tabs at lI ⊢
  simp[lI,h,h',w,S,az.len]
theorem YJ (hc:Sem c) (z z':Bool) (l l':List (az)) (hl:l.length<cO) (XL:l'.length=l.length) (hs: ∀(i:Nat) (t t':az),l[i]? =some t->l'[i]? =some t'->t.cK t') (hr: ∀t∈l,t.bZ.length<cO) (s:St) (hw:Wf s):c 85 [tabs z l,tabs z' l'] s=some (.bool true,s):=by
 have lI: ∀(z:Bool) (l:List (az)) (K:AV->St->Option (AV×St)) (s:St),aj c (.lenB .l) [tabs z l] s K=K (.int .i64 (l.length:Int)) s:=fun z l K s=>by unfold tabs;rw[bV];simp
 have L:=Vc hc z z' l l' hl XL hs hr (l.length+1) (fun vs JQ=>cQ vs fun x4 vs=>eT vs (some (x4,JQ))) (fun vs JR=>eT vs (aj c .move [.bool true] JR fun x4 rY=>some (x4,rY))) s hw l.length 0 (l.length+1) (by omega) (by omega)
 rw[Eg hc (l.length+1) (r:=(.bool true,s)),au (Plain.bool _) (aM.refl s)]
 rw[Gq]
 simp at L
 simp[lI,XL,L]
theorem Vd (hc:Sem c) (z z':Bool) (l l':List (aJ)) (hl:l.length<cO) (XL:l'.length=l.length) (hs: ∀(i:Nat) (t t':aJ),l[i]? =some t->l'[i]? =some t'->t.cK t') (hr: ∀t∈l,t.tg.length<cO) (F:Nat) (k1 k2) (s:St) (hw:Wf s): ∀(m k f:Nat),m<f->k+m=l.length->gF c F k1 k2 f [aT z l,aT z' l',.int .i64 (k:Int)] s=k2 [] s:=by
 have lI: ∀(z:Bool) (l:List (aJ)) (K:AV->St->Option (AV×St)) (s:St),aj c (.lenB .l) [aT z l] s K=K (.int .i64 (l.length:Int)) s:=fun z l K s=>by unfold aT;rw[bV];simp
 intro m
 induction m with
 |zero=>
  intro k f hf h1
  obtain ⟨f,rfl⟩: ∃g,f=g+1:=⟨f - 1,by omega⟩
  obtain rfl:k=l.length:=by omega
  rw[si]
  simp[lI]
 |succ m ih=>
  intro k f hf h1
  obtain ⟨f,rfl⟩: ∃g,f=g+1:=⟨f - 1,by omega⟩
  have h:k<l.length:=by omega
  have h':k<l'.length:=by omega
  have w:ay .i64 ((k:Int)+1)=((k+1:Nat):Int):=wrap64 (by omega) (by unfold cO at hl;omega)
  have S:=abj hc l[k] l'[k] (hs k _ _ (List.getElem?_eq_getElem h) (List.getElem?_eq_getElem h')) (hr _ (List.getElem_mem h)) s hw
  rw[<-ih (k+1) f (by omega) (by omega),si]
  unfold aT at lI ⊢
  simp[lI,h,h',w,S,aJ.len]
theorem YK (hc:Sem c) (z z':Bool) (l l':List (aJ)) (hl:l.length<cO) (XL:l'.length=l.length) (hs: ∀(i:Nat) (t t':aJ),l[i]? =some t->l'[i]? =some t'->t.cK t') (hr: ∀t∈l,t.tg.length<cO) (s:St) (hw:Wf s):c 86 [aT z l,aT z' l'] s=some (.bool true,s):=by
 have lI: ∀(z:Bool) (l:List (aJ)) (K:AV->St->Option (AV×St)) (s:St),aj c (.lenB .l) [aT z l] s K=K (.int .i64 (l.length:Int)) s:=fun z l K s=>by unfold aT;rw[bV];simp
 have L:=Vd hc z z' l l' hl XL hs hr (l.length+1) (fun vs JQ=>cQ vs fun x4 vs=>eT vs (some (x4,JQ))) (fun vs JR=>eT vs (aj c .move [.bool true] JR fun x4 rY=>some (x4,rY))) s hw l.length 0 (l.length+1) (by omega) (by omega)
 rw[Eh hc (l.length+1) (r:=(.bool true,s)),au (Plain.bool _) (aM.refl s)]
 rw[Gr]
 simp at L
 simp[lI,XL,L]
end
section
set_option maxRecDepth 100000
open Go Go.Ai Go.Proofs
variable {c : ak}
structure aZ.cK (p p':aZ):Prop where
 tl:p'.ts.length=p.ts.length
 ts: ∀(i:Nat) (t t':az),p.ts[i]? =some t->p'.ts[i]? =some t'->t.cK t'
 gl:p'.gs.length=p.gs.length
 gs: ∀(i:Nat) (t t':aJ),p.gs[i]? =some t->p'.gs[i]? =some t'->t.cK t'
 ys:p'.ys=p.ys
 cs:p'.cs=p.cs
 rs:p'.rs=p.rs
theorem PS.cV {s0 s:St} {Vs:List AV} {p:aZ} (h:PS s0 s Vs p) (d:Nat): ∃p',Go.Ai.cV s (d+3) (.agg Vs)= .agg p'.cells/\p.cK p':=by
 obtain ⟨V1,V2,V3,V4,V5,r1,r2,rfl,h1,h2,h3,h4,h5⟩:=h.all
 obtain ⟨z1,zL,e1,l1,k1⟩:=h1.cV d
 obtain ⟨z2,gs',e2,l2,k2⟩:=h2.cV d
 obtain ⟨z3,e3⟩:=ajf h3 (d+1)
 obtain ⟨z4,e4⟩:=abf h4 (d+1)
 obtain ⟨z5,e5⟩:=ajg h5 (d+1)
 refine ⟨⟨z1,zL,z2,gs',z3,p.ys,z4,p.cs,z5,p.rs⟩,?_,⟨l1,k1,l2,k2,rfl,rfl,rfl⟩⟩
 rw[QF]
 simp only[List.map_cons,List.map_nil,e1,e2,e3,e4,e5]
 rfl
structure aZ.Big (p:aZ):Prop where
 ts:p.ts.length<cO
 bZ: ∀t∈p.ts,t.bZ.length<cO
 gs:p.gs.length<cO
 tg: ∀t∈p.gs,t.tg.length<cO
 ys:p.ys.length<cO
 cs:p.cs.length<cO
 rs:p.rs.length<cO
theorem WH (hc:Sem c) (p p':aZ) (h:p.cK p') (hb:p.Big) (s:St) (hw:Wf s):c 24 [.agg p.cells,.agg p'.cells] s=some (.bool true,s):=by
 have aX:Wf (ai s (.cells p.cells 0)):=aQ hw
 have eP:Wf (ai (ai s (.cells p.cells 0)) (.cells p'.cells 0)):=aQ aX
 have x1:=(Grew.ai aX (.cells p'.cells 0)).get (aH s (.cells p.cells 0))
 have x2:=aH (ai s (.cells p.cells 0)) (.cells p'.cells 0)
 have S1:=YJ hc p.tz p'.tz p.ts p'.ts hb.ts h.tl h.ts hb.bZ _ eP
 have S2:=YK hc p.gz p'.gz p.gs p'.gs hb.gs h.gl h.gs hb.tg _ eP
 have S3:=acd hc p.yz p'.yz p.ys hb.ys (ai (ai s (.cells p.cells 0)) (.cells p'.cells 0))
 have S4:=Si hc p.cz p'.cz p.cs hb.cs (ai (ai s (.cells p.cells 0)) (.cells p'.cells 0))
 have S5:=abh hc p.rz p'.rz p.rs hb.rs (ai (ai s (.cells p.cells 0)) (.cells p'.cells 0))
 rw[CE hc 1 (r:=(.bool true,ai (ai s (.cells p.cells 0)) (.cells p'.cells 0))),au (Plain.bool _) ((aU hw).trans (aU aX))]
 rw[Fu]
 have y3:p'.cells[2]? =some (bH p'.yz p.ys):=by rw[<-h.ys];rfl
 have y4:p'.cells[3]? =some (ints p'.cz p.cs):=by rw[<-h.cs];rfl
 have y5:p'.cells[4]? =some (dG p'.rz p.rs):=by rw[<-h.rs];rfl
 simp[-aZ.c2,-aZ.c3,-aZ.c4,x1,x2,S1,S2,S3,S4,S5,y3,y4,y5,show p.cells[2]? =some (bH p.yz p.ys) from rfl,show p.cells[3]? =some (ints p.cz p.cs) from rfl,show p.cells[4]? =some (dG p.rz p.rs) from rfl]
end
section
set_option maxRecDepth 100000
open Go Go.Ai Go.Proofs
variable {c : ak}
theorem QK {α β:Type} {P:α->α->Prop} {l l':List α} (hl:l'.length=l.length) (hs: ∀(i:Nat) (t t':α),l[i]? =some t->l'[i]? =some t'->P t t') (f:α->β) (hf: ∀t t',P t t'->f t'=f t) (i:Nat):l'[i]?.map f=l[i]?.map f:=by
 by_cases h:i<l.length
 . have h':i<l'.length:=by omega
   rw[List.getElem?_eq_getElem h,List.getElem?_eq_getElem h']
   simp only[Option.map_some,Option.some.injEq]
   exact hf _ _ (hs i _ _ (List.getElem?_eq_getElem h) (List.getElem?_eq_getElem h'))
 . rw[List.getElem?_eq_none (by omega),List.getElem?_eq_none (by omega)]
theorem ahH {t t':az} (h:t.cK t'):mJ t'=mJ t:=by obtain ⟨z,rfl⟩:=h;rfl
theorem ac5 {t t':az} (h:t.cK t'):bl t'=bl t:=by obtain ⟨z,rfl⟩:=h;rfl
theorem afE {t t':aJ} (h:t.cK t'):fI t'=fI t:=by obtain ⟨z,rfl⟩:=h;rfl
variable {p p' : aZ}
theorem aZ.cK.nm (h:p.cK p') (s:List Nat):iX p'.ts s=iX p.ts s:=funext fun i=>by
 unfold iX;rw[QK h.tl h.ts az.name (fun t t' k=>by obtain ⟨z,rfl⟩:=k;rfl)]
theorem aZ.cK.gm (h:p.cK p') (s:List Nat):ir p'.gs s=ir p.gs s:=funext fun i=>by
 unfold ir;rw[QK h.gl h.gs aJ.name (fun t t' k=>by obtain ⟨z,rfl⟩:=k;rfl)]
theorem aZ.cK.at (h:p.cK p'): ∀(m k:Nat),dB p'.ts m k=dB p.ts m k
 |0,_=>rfl
 |m +1,k=>by
  have ih:=h.at m (k+1)
  unfold dB
  by_cases hk:k<p.ts.length
  . have kM:k<p'.ts.length:=by rw[h.tl];exact hk
    have hs:=h.ts k _ _ (List.getElem?_eq_getElem hk) (List.getElem?_eq_getElem kM)
    have hn:p'.ts[k].name=p.ts[k].name:=by obtain ⟨z,e⟩:=hs;rw[e]
    rw[List.getElem?_eq_getElem hk,List.getElem?_eq_getElem kM]
    simp only[ahH hs,hn,h.nm,ih]
  . have kM: ¬k<p'.ts.length:=by rw[h.tl];exact hk
    rw[List.getElem?_eq_none (by omega),List.getElem?_eq_none (by omega)]
theorem aZ.cK.yq (h:p.cK p'):bh p'.ts=bh p.ts:=by unfold bh;rw[h.tl,h.at]
theorem aZ.cK.gsAt (h:p.cK p'): ∀(m k:Nat),ia p'.gs m k=ia p.gs m k
 |0,_=>rfl
 |m +1,k=>by
  have ih:=h.gsAt m (k+1)
  unfold ia
  by_cases hk:k<p.gs.length
  . have kM:k<p'.gs.length:=by rw[h.gl];exact hk
    have hs:=h.gs k _ _ (List.getElem?_eq_getElem hk) (List.getElem?_eq_getElem kM)
    have hn:p'.gs[k].name=p.gs[k].name:=by obtain ⟨z,e⟩:=hs;rw[e]
    rw[List.getElem?_eq_getElem hk,List.getElem?_eq_getElem kM]
    simp only[afE hs,hn,h.gm,ih]
  . have kM: ¬k<p'.gs.length:=by rw[h.gl];exact hk
    rw[List.getElem?_eq_none (by omega),List.getElem?_eq_none (by omega)]
theorem aZ.cK.unk (h:p.cK p') (t:Ty):ku p'.gs t=ku p.gs t:=by unfold ku;rw[h.gm,h.gm,h.gl]
theorem aZ.cK.tyAt (h:p.cK p') (ts:List Ty): ∀(m k:Nat),fj p'.gs ts m k=fj p.gs ts m k
 |0,_=>rfl
 |m+1,k=>by
  have ih:=h.tyAt ts m (k+1)
  unfold fj
  cases ts[k]? with
  |none=>rfl
  |some t=>simp only[h.gl,h.unk,ih]
theorem aZ.cK.roll (h:p.cK p'):bI p'.gs p'.ys=bI p.gs p.ys:=by unfold bI;rw[h.ys,h.gsAt,h.tyAt]
theorem aZ.cK.sum (h:p.cK p'):bw p'.ts=bw p.ts:=by
 unfold bw
 congr 1
 refine List.ext_getElem? fun i=> ?_
 rw[List.getElem?_map,List.getElem?_map]
 exact QK h.tl h.ts bl (fun t t' k=>ac5 k) i
theorem aZ.cK.basis (h:p.cK p'):e9 p'=e9 p:=by unfold e9;rw[h.yq,h.roll,h.cs,h.gl,h.sum]
theorem aZ.cK.gi (h:p.cK p') (s:List Nat):Go.Proofs.YthiaklapeamjlaaGreatDoor.gi p' s=Go.Proofs.YthiaklapeamjlaaGreatDoor.gi p s:=by unfold Go.Proofs.YthiaklapeamjlaaGreatDoor.gi;rw[h.gm,h.gl]
theorem aZ.cK.ti (h:p.cK p') (s:List Nat):Go.Proofs.YthiaklapeamjlaaGreatDoor.ti p' s=Go.Proofs.YthiaklapeamjlaaGreatDoor.ti p s:=by unfold Go.Proofs.YthiaklapeamjlaaGreatDoor.ti;rw[h.nm,h.tl]
theorem aZ.cK.uy (h:p.cK p') (i:Int):Go.Proofs.YthiaklapeamjlaaGreatDoor.uy p' i=Go.Proofs.YthiaklapeamjlaaGreatDoor.uy p i:=by
 unfold Go.Proofs.YthiaklapeamjlaaGreatDoor.uy
 have:=QK h.tl h.ts bl (fun t t' k=>ac5 k) i.toNat
 cases h1:p.ts[i.toNat]? with
 |none=>rw[h1] at this;cases h2:p'.ts[i.toNat]? with
  |none=>rfl
  |some t=>rw[h2] at this;cases this
 |some t=>rw[h1] at this;cases h2:p'.ts[i.toNat]? with
  |none=>rw[h2] at this;cases this
  |some t'=>rw[h2] at this;simp only[Option.map_some,Option.some.injEq] at this;simp only[this]
theorem aZ.cK.rule (h:p.cK p') (r:Rl):xy p' r=xy p r:=by
 unfold xy Iv aaP UY
 simp only[h.gi,h.ti,h.uy]
theorem aZ.cK.dG (h:p.cK p'): ∀(m k:Nat),fc p' m k=fc p m k
 |0,_=>rfl
 |m+1,k=>by
  have ih:=h.dG m (k+1)
  unfold fc
  rw[h.rs]
  cases p.rs[k]? with
  |none=>rfl
  |some r=>simp only[h.rule,ih]
theorem aZ.cK.check (h:p.cK p'):bN p'=bN p:=by unfold bN;rw[h.basis,h.dG]
end
section
set_option maxRecDepth 100000
open Go Go.Ai Go.Proofs
variable {c : ak}
theorem Bt {es bytes:Nat} {z:List AV} (rows:List (List AV)) (hr: ∀r∈rows,r.length=es) (ei:es≠0) (hb:(2*rows.length+768)*bytes<=281474976710656) (hn:rows.length<=4000000) (s:St) (hw:Wf s):
  ∃v s',(∀(K:AV->St->Option (AV×St)),aj c (.buildSlice es 0 z []) [] s (fun y t=>aj c (.append es bytes) [y,.fl rows es] t K)=K v s')/\Mk es s s' v rows:=
 Xu hr ei hb hn s hw (.inl rfl)
theorem Ev (c:ak) (K:AV->St->Option (AV×St)) (s:St):aj c (.bin .eql .slice) [.ah,.ah] s K=K (.bool true) s:=aI c K (fun H n=>rfl) s
theorem QL (c:ak) (K:AV->St->Option (AV×St)) (s:St) (rows:List (List AV)) (es:Nat):aj c (.bin .eql .slice) [.fl rows es,.ah] s K=K (.bool false) s:=aI c K (fun H n=>rfl) s
theorem XM (hc:Sem c) (z:Bool) (l:List (Int)) (hl:l.length<=jk) (s:St) (hw:Wf s): ∃v s',c 155 [ints z l] s=some (v,s')/\Mk 1 s s' v (l.map eO):=by
 have hl:l.length<=1048576:=hl
 have hr: ∀r∈l.map eO,r.length=1:=fun r hr=>by simp only[List.mem_map] at hr;obtain ⟨i,_,rfl⟩:=hr;rfl
 by_cases h:ints z l= .ah
 . have h0:l=[]:=by
    cases l with
    |nil=>rfl
    |cons a l=>unfold ints at h;cases z<;>cases h
   subst h0
   refine ⟨.ah,s,?_,Mk.start hw (Grew.refl hw)⟩
   rw[h,uD hc 1 (r:=(.ah,s)),au Plain.ah (aM.refl s)]
   rw[wE]
   simp[Ev]
 . have e:ints z l= .fl (l.map eO) 1:=by
    cases l with
    |nil=>    unfold ints at h ⊢; cases z
              . rfl
              . exact absurd rfl h
    |cons a l=>unfold ints;cases z<;>rfl
   obtain ⟨v,s',a1,a2⟩:=Bt (c:=c) (bytes:=8) (z:=[.int .i64 0]) (l.map eO) hr (by decide) (by simp;omega) (by simp;omega) s hw
   obtain ⟨dK,t1,t2⟩:=a2.tidy
   refine ⟨v,dK,?_,t2⟩
   rw[e,uD hc 1 (r:=(v,s')),t1]
   rw[wE]
   simp only[aY,QL,jO]
   rw[a1]
theorem afF (hc:Sem c) (z:Bool) (l:List (List Nat)) (hl:l.length<=jk) (s:St) (hw:Wf s): ∃v s',c 157 [cR z l] s=some (v,s')/\Mk 1 s s' v (l.map uz):=by
 have hl:l.length<=1048576:=hl
 have hr: ∀r∈l.map uz,r.length=1:=fun r hr=>by simp only[List.mem_map] at hr;obtain ⟨i,_,rfl⟩:=hr;rfl
 by_cases h:cR z l= .ah
 . have h0:l=[]:=by
    cases l with
    |nil=>rfl
    |cons a l=>unfold cR at h;cases z<;>cases h
   subst h0
   refine ⟨.ah,s,?_,Mk.start hw (Grew.refl hw)⟩
   rw[h,fU hc 1 (r:=(.ah,s)),au Plain.ah (aM.refl s)]
   rw[gO]
   simp[Ev]
 . have e:cR z l= .fl (l.map uz) 1:=by
    cases l with
    |nil=>unfold cR at h ⊢; cases z
          . rfl
          . exact absurd rfl h
    |cons a l=>unfold cR;cases z<;>rfl
   obtain ⟨v,s',a1,a2⟩:=Bt (c:=c) (bytes:=16) (z:=[.str []]) (l.map uz) hr (by decide) (by simp;omega) (by simp;omega) s hw
   obtain ⟨dK,t1,t2⟩:=a2.tidy
   refine ⟨v,dK,?_,t2⟩
   rw[e,fU hc 1 (r:=(v,s')),t1]
   rw[gO]
   simp only[aY,QL,jO]
   rw[a1]
theorem afG (hc:Sem c) (z:Bool) (l:List (Ty)) (hl:l.length<=jk) (s:St) (hw:Wf s): ∃v s',c 158 [bH z l] s=some (v,s')/\Mk 3 s s' v (l.map Ty.cells):=by
 have hl:l.length<=1048576:=hl
 have hr: ∀r∈l.map Ty.cells,r.length=3:=fun r hr=>by simp only[List.mem_map] at hr;obtain ⟨i,_,rfl⟩:=hr;rfl
 by_cases h:bH z l= .ah
 . have h0:l=[]:=by
    cases l with
    |nil=>rfl
    |cons a l=>unfold bH at h;cases z<;>cases h
   subst h0
   refine ⟨.ah,s,?_,Mk.start hw (Grew.refl hw)⟩
   rw[h,mR hc 1 (r:=(.ah,s)),au Plain.ah (aM.refl s)]
   rw[oA]
   simp[Ev]
 . have e:bH z l= .fl (l.map Ty.cells) 3:=by
    cases l with
    |nil=>unfold bH at h ⊢; cases z
          . rfl
          . exact absurd rfl h
    |cons a l=>unfold bH;cases z<;>rfl
   obtain ⟨v,s',a1,a2⟩:=Bt (c:=c) (bytes:=40) (z:=[.str [],.str [],.int .u8 0]) (l.map Ty.cells) hr (by decide) (by simp;omega) (by simp;omega) s hw
   obtain ⟨dK,t1,t2⟩:=a2.tidy
   refine ⟨v,dK,?_,t2⟩
   rw[e,mR hc 1 (r:=(v,s')),t1]
   rw[oA]
   simp only[aY,QL,jO]
   rw[a1]
theorem afH (hc:Sem c) (z:Bool) (l:List (Rl)) (hl:l.length<=jk) (s:St) (hw:Wf s): ∃v s',c 159 [dG z l] s=some (v,s')/\Mk 6 s s' v (l.map Rl.cells):=by
 have hl:l.length<=1048576:=hl
 have hr: ∀r∈l.map Rl.cells,r.length=6:=fun r hr=>by simp only[List.mem_map] at hr;obtain ⟨i,_,rfl⟩:=hr;rfl
 by_cases h:dG z l= .ah
 . have h0:l=[]:=by
    cases l with
    |nil=>rfl
    |cons a l=>unfold dG at h;cases z<;>cases h
   subst h0
   refine ⟨.ah,s,?_,Mk.start hw (Grew.refl hw)⟩
   rw[h,lu hc 1 (r:=(.ah,s)),au Plain.ah (aM.refl s)]
   rw[mS]
   simp[Ev]
 . have e:dG z l= .fl (l.map Rl.cells) 6:=by
    cases l with
    |nil=>unfold dG at h ⊢; cases z
          . rfl
          . exact absurd rfl h
    |cons a l=>unfold dG;cases z<;>rfl
   obtain ⟨v,s',a1,a2⟩:=Bt (c:=c) (bytes:=72) (z:=[.int .u8 0,.int .i64 0,.str [],.str [],.str [],.int .i64 0]) (l.map Rl.cells) hr (by decide) (by simp;omega) (by simp;omega) s hw
   obtain ⟨dK,t1,t2⟩:=a2.tidy
   refine ⟨v,dK,?_,t2⟩
   rw[e,lu hc 1 (r:=(v,s')),t1]
   rw[mS]
   simp only[aY,QL,jO]
   rw[a1]
theorem afI (hc:Sem c) (z:Bool) (l:List (az)) (hl:l.length<=jk) (s:St) (hw:Wf s): ∃v s',c 154 [tabs z l] s=some (v,s')/\Mk 7 s s' v (l.map az.cells):=by
 have hl:l.length<=1048576:=hl
 have hr: ∀r∈l.map az.cells,r.length=7:=fun r hr=>by simp only[List.mem_map] at hr;obtain ⟨i,_,rfl⟩:=hr;rfl
 by_cases h:tabs z l= .ah
 . have h0:l=[]:=by
    cases l with
    |nil=>rfl
    |cons a l=>unfold tabs at h;cases z<;>cases h
   subst h0
   refine ⟨.ah,s,?_,Mk.start hw (Grew.refl hw)⟩
   rw[h,kF hc 1 (r:=(.ah,s)),au Plain.ah (aM.refl s)]
   rw[lz]
   simp[Ev]
 . have e:tabs z l= .fl (l.map az.cells) 7:=by
    cases l with
    |nil=>unfold tabs at h ⊢; cases z
          . rfl
          . exact absurd rfl h
    |cons a l=>unfold tabs;cases z<;>rfl
   obtain ⟨v,s',a1,a2⟩:=Bt (c:=c) (bytes:=80) (z:=[.str [],.int .u8 0,.int .i64 0,.int .i64 0,.ah,.int .i64 0,.int .i64 0]) (l.map az.cells) hr (by decide) (by simp;omega) (by simp;omega) s hw
   obtain ⟨dK,t1,t2⟩:=a2.tidy
   refine ⟨v,dK,?_,t2⟩
   rw[e,kF hc 1 (r:=(v,s')),t1]
   rw[lz]
   simp only[aY,QL,jO]
   rw[a1]
theorem afJ (hc:Sem c) (z:Bool) (l:List (aJ)) (hl:l.length<=jk) (s:St) (hw:Wf s): ∃v s',c 156 [aT z l] s=some (v,s')/\Mk 9 s s' v (l.map aJ.cells):=by
 have hl:l.length<=1048576:=hl
 have hr: ∀r∈l.map aJ.cells,r.length=9:=fun r hr=>by simp only[List.mem_map] at hr;obtain ⟨i,_,rfl⟩:=hr;rfl
 by_cases h:aT z l= .ah
 . have h0:l=[]:=by
    cases l with
    |nil=>rfl
    |cons a l=>unfold aT at h;cases z<;>cases h
   subst h0
   refine ⟨.ah,s,?_,Mk.start hw (Grew.refl hw)⟩
   rw[h,kG hc 1 (r:=(.ah,s)),au Plain.ah (aM.refl s)]
   rw[lC]
   simp[Ev]
 . have e:aT z l= .fl (l.map aJ.cells) 9:=by
    cases l with
    |nil=>unfold aT at h ⊢; cases z
          . rfl
          . exact absurd rfl h
    |cons a l=>unfold aT;cases z<;>rfl
   obtain ⟨v,s',a1,a2⟩:=Bt (c:=c) (bytes:=112) (z:=[.str [],.str [],.str [],.int .i64 0,.int .i64 0,.str [],.bool false,.bool false,.ah]) (l.map aJ.cells) hr (by decide) (by simp;omega) (by simp;omega) s hw
   obtain ⟨dK,t1,t2⟩:=a2.tidy
   refine ⟨v,dK,?_,t2⟩
   rw[e,kG hc 1 (r:=(v,s')),t1]
   rw[lC]
   simp only[aY,QL,jO]
   rw[a1]
end
section
set_option maxRecDepth 100000
open Go Go.Ai Go.Proofs
variable {c : ak}
theorem _root_.Go.Ai.Mk.beq {es:Nat} {s s':St} {v:AV} {rows:List (List AV)} (h:Mk es s s' v rows):eC v v=true:=by
 rcases h.own with ⟨rfl,_⟩|⟨b,off,cap,cs,rfl,_⟩|⟨b,off,rfl,_⟩
 . rfl
 . cases cap<;>simp[eC,kK,fJ,Pos.beq_eq.2 rfl]
 . simp[eC,kK,fJ,Pos.beq_eq.2 rfl]
structure CT (n0:Nat) (s0 s:St) (q:Pos) (rest:List AV) (V:AV) (ts:List az) (k:Nat) (rows:List (List AV)):Prop where
 out:Mk 7 s0 s V rows
 box:s.heap.get q=some (.cells (V::rest) 0)
 Bs:q.toNat<n0
 lo:n0<=s.next.toNat
 ne: ∀b,bf V=some b->n0<=b.toNat
 len:rows.length=ts.length
 c9: ∀(i:Nat) (t:az) (r:List AV),k<=i->ts[i]? =some t->rows[i]? =some r->r=t.cells
 iq: ∀(i:Nat) (t:az) (r:List AV),i<k->ts[i]? =some t->rows[i]? =some r-> ∃v,r=t.aq v/\Mk 1 s0 s v (t.bZ.map eO)/\(∀b,bf v=some b->bf V≠some b)/\ ∀b,bf v=some b->n0<=b.toNat
theorem afK (hc:Sem c) {n0:Nat} {s0:St} {q:Pos} {rest:List AV} (x2:AV) (ts:List az) (hl:ts.length<=1000) (hr: ∀t∈ts,t.Real) (F:Nat): ∀(m k f:Nat) (s:St) (V:AV) (rows:List (List AV)),m<f->k+m=ts.length->CT n0 s0 s q rest V ts k rows->
  ∃s' qT,CT n0 s0 s' q rest V ts ts.length qT/\(∀p x,bf V≠some p->s.heap.get p=some x->s'.heap.get p=some x)/\ ∀k2,pU c F k2 f [.ptr q 0,x2,.int .i64 (ts.length:Int),.int .i64 (k:Int)] s=k2 [.ptr q 0,x2] s':=by
 intro m
 induction m with
 |zero=>
  intro k f s V rows hf h1 hT
  obtain ⟨f,rfl⟩: ∃g,f=g+1:=⟨f - 1,by omega⟩
  obtain rfl:k=ts.length:=by omega
  refine ⟨s,rows,hT,fun _ _ _ h=>h,fun k2=> ?_⟩
  rw[Fv]
  simp
 |succ m ih=>
  intro k f s V rows hf h1 hT
  obtain ⟨f,rfl⟩: ∃g,f=g+1:=⟨f - 1,by omega⟩
  have h:k<ts.length:=by omega
  have hk:k<rows.length:=by rw[hT.len];exact h
  have w:ay .i64 ((k:Int)+1)=((k+1:Nat):Int):=wrap64 (by omega) (by omega)
  have hw:=hT.out.aB.wf
  obtain ⟨b,o,cs,a1,a2,a3,a4,a5,a6,a7,a8⟩:=hT.out.own.set (c:=c) (R:=AV×St) hT.out.row (by decide) hk
  have eJ:rows[k]=ts[k].cells:=hT.c9 k _ _ (Nat.le_refl _) (List.getElem?_eq_getElem h) (List.getElem?_eq_getElem hk)
  have c4:cs[o+4]? =some (ints ts[k].oz ts[k].bZ):=a6 4 _ (by rw[eJ];rfl)
  obtain ⟨v,s1,C,M⟩:=XM hc ts[k].oz ts[k].bZ (hr _ (List.getElem_mem h)).bZ s hw
  have b4:=M.aB.get a4
  have q4:=M.aB.get hT.box
  obtain ⟨vc,v1⟩:=M.cells
  have hbq:b≠q:=fun e=>by have:=hT.ne _ a3;have:=hT.Bs;subst e;omega
  have rR:=hT.out.new b a3
  have tQ:=hw _ _ a4
  have bk: ∀(K:AV->St->Option (AV×St)),aj c (.store 1) [.ptr b (o+4),v] s1 K=K .undef (bt s1 b (.cells (aG cs (o+4) [v]) 0)):=fun K=>by
   rw[cu c K s1 1 b (o+4) v cs b4 (by rw[vc];rfl) (by omega) (by rw[vc];exact v1),vc]
  have G2:Grew s0 (bt s1 b (.cells (aG cs (o+4) [v]) 0)):=⟨ij M.aB.wf (by have:=M.aB.next;omega),fun p x hp=>by
   have:=hT.out.jf _ _ hp
   rw[aF (fun e=>by rw[e] at rR;omega)];exact (hT.out.aB.trans M.aB).get hp,by rw[cg];exact (hT.out.aB.trans M.aB).next⟩
  have tI: ∀p x,p≠b->s1.heap.get p=some x->(bt s1 b (.cells (aG cs (o+4) [v]) 0)).heap.get p=some x:=fun p x hp hx=>by rw[aF (fun e=>hp e.symm)];exact hx
  have T5:CT n0 s0 (bt s1 b (.cells (aG cs (o+4) [v]) 0)) q rest V ts (k+1) (rows.set k (rows[k].set 4 v)):=by
   refine ⟨⟨hT.out.jf,G2,a7 4 v _ (by omega) (dM _ _ _),hT.out.new,fun r Fm=> ?_,hT.out.cap,fun p hp=>by rw[a3] at hp;cases hp;rw[dM];rw[a8 4 v (by omega) (AB.cells.inj (Option.some.inj (a4.symm.trans (hT.out.tight b a3)))).1]⟩,tI q _ (fun e=>hbq e.symm) q4,hT.Bs,by rw[cg];exact Nat.le_trans hT.lo M.aB.next,hT.ne,by rw[List.length_set];exact hT.len,fun i t r hi h3 h4=> ?_,fun i t r hi h3 h4=> ?_⟩
   .    rcases List.mem_or_eq_of_mem_set Fm with h5|h5
        . exact hT.out.row r h5
        . rw[h5,List.length_set];exact hT.out.row _ (List.getElem_mem hk)
   .    rw[List.getElem?_set_ne (by omega)] at h4
        exact hT.c9 i t r (by omega) h3 h4
   .    by_cases GJ:i=k
        . subst GJ
          rw[List.getElem?_eq_getElem h] at h3
          cases h3
          rw[List.getElem?_set_self hk] at h4
          cases h4
          refine ⟨v,by rw[eJ];rfl,Mk.He (M.back hT.out.jf hT.out.aB) G2 fun p x hp hx=>tI p x (fun e=>by subst e;have:=M.new _ hp;omega) hx,fun p hp e=> ?_,fun p hp=> ?_⟩
          . rw[a3] at e;cases e;have:=M.new _ hp;omega
          . have:=M.new _ hp;have:=hT.lo;omega
        . rw[List.getElem?_set_ne (by omega)] at h4
          obtain ⟨u,e1,e2,e3,e4⟩:=hT.iq i t r (by omega) h3 h4
          refine ⟨u,e1,Mk.He (e2.grow M.aB) G2 fun p x hp hx=>tI p x (fun e=>by subst e;exact e3 _ hp a3) hx,e3,e4⟩
  obtain ⟨s',qT,d1,d3,d2⟩:=ih (k+1) f _ V _ (by omega) (by omega) T5
  refine ⟨s',qT,d1,fun p x hp hx=>d3 p x hp (tI p x (fun e=>hp (by rw[a3,e])) (M.aB.get hx)),fun k2=> ?_⟩
  rw[<-d2 k2,Fv]
  have L1: ∀(ok:AV->Bool) (K:AV->Option (AV×St)),ok V=true->jT (.load none) [.ptr q 0] s.heap ok K=K V:=fun ok K h=>pS (by rw[hT.box];rfl) ok h K
  have L2: ∀(ok:AV->Bool) (K:AV->Option (AV×St)),ok V=true->jT (.load none) [.ptr q 0] s1.heap ok K=K V:=fun ok K h=>pS (by rw[q4];rfl) ok h K
  have L3: ∀(ok:AV->Bool) (K:AV->Option (AV×St)),ok (ints ts[k].oz ts[k].bZ)=true->jT (.load none) [.ptr b (o+4)] s.heap ok K=K (ints ts[k].oz ts[k].bZ):=fun ok K h=>pS (by rw[a4];exact c4) ok h K
  have q1:=iJ (p:=q) (o:=0) (h:=s.heap) (v:=V) (by rw[hT.box];rfl) hT.out.beq
  simp[h,hT.box,a4,c4,L2,a2,C,q1,bk,w]
structure CG (n0:Nat) (s0 s:St) (q:Pos) (V1:AV) (rest:List AV) (V:AV) (ts:List aJ) (k:Nat) (rows:List (List AV)):Prop where
 out:Mk 9 s0 s V rows
 box:s.heap.get q=some (.cells (V1::V::rest) 0)
 Bs:q.toNat<n0
 lo:n0<=s.next.toNat
 ne: ∀b,bf V=some b->n0<=b.toNat
 len:rows.length=ts.length
 c9: ∀(i:Nat) (t:aJ) (r:List AV),k<=i->ts[i]? =some t->rows[i]? =some r->r=t.cells
 iq: ∀(i:Nat) (t:aJ) (r:List AV),i<k->ts[i]? =some t->rows[i]? =some r-> ∃v,r=t.aq v/\Mk 1 s0 s v (t.tg.map uz)/\(∀b,bf v=some b->bf V≠some b)/\ ∀b,bf v=some b->n0<=b.toNat
theorem afL (hc:Sem c) {n0:Nat} {s0:St} {q:Pos} {V1:AV} {rest:List AV} (x2:AV) (ts:List aJ) (hl:ts.length<=1000) (hr: ∀t∈ts,t.Real) (F:Nat): ∀(m k f:Nat) (s:St) (V:AV) (rows:List (List AV)),m<f->k+m=ts.length->CG n0 s0 s q V1 rest V ts k rows->
  ∃s' qT,CG n0 s0 s' q V1 rest V ts ts.length qT/\(∀p x,bf V≠some p->s.heap.get p=some x->s'.heap.get p=some x)/\ ∀k2,pV c F k2 f [.ptr q 0,x2,.int .i64 (ts.length:Int),.int .i64 (k:Int)] s=k2 [.ptr q 0,x2] s':=by
 intro m
 induction m with
 |zero=>
  intro k f s V rows hf h1 hT
  obtain ⟨f,rfl⟩: ∃g,f=g+1:=⟨f - 1,by omega⟩
  obtain rfl:k=ts.length:=by omega
  refine ⟨s,rows,hT,fun _ _ _ h=>h,fun k2=> ?_⟩
  rw[Fw]
  simp
 |succ m ih=>
  intro k f s V rows hf h1 hT
  obtain ⟨f,rfl⟩: ∃g,f=g+1:=⟨f - 1,by omega⟩
  have h:k<ts.length:=by omega
  have hk:k<rows.length:=by rw[hT.len];exact h
  have w:ay .i64 ((k:Int)+1)=((k+1:Nat):Int):=wrap64 (by omega) (by omega)
  have hw:=hT.out.aB.wf
  obtain ⟨b,o,cs,a1,a2,a3,a4,a5,a6,a7,a8⟩:=hT.out.own.set (c:=c) (R:=AV×St) hT.out.row (by decide) hk
  have eJ:rows[k]=ts[k].cells:=hT.c9 k _ _ (Nat.le_refl _) (List.getElem?_eq_getElem h) (List.getElem?_eq_getElem hk)
  have c4:cs[o+8]? =some (cR ts[k].tz ts[k].tg):=a6 8 _ (by rw[eJ];rfl)
  obtain ⟨v,s1,C,M⟩:=afF hc ts[k].tz ts[k].tg (hr _ (List.getElem_mem h)).tg s hw
  have b4:=M.aB.get a4
  have q4:=M.aB.get hT.box
  obtain ⟨vc,v1⟩:=M.cells
  have hbq:b≠q:=fun e=>by have:=hT.ne _ a3;have:=hT.Bs;subst e;omega
  have rR:=hT.out.new b a3
  have tQ:=hw _ _ a4
  have bk: ∀(K:AV->St->Option (AV×St)),aj c (.store 1) [.ptr b (o+8),v] s1 K=K .undef (bt s1 b (.cells (aG cs (o+8) [v]) 0)):=fun K=>by
   rw[cu c K s1 1 b (o+8) v cs b4 (by rw[vc];rfl) (by omega) (by rw[vc];exact v1),vc]
  have G2:Grew s0 (bt s1 b (.cells (aG cs (o+8) [v]) 0)):=⟨ij M.aB.wf (by have:=M.aB.next;omega),fun p x hp=>by
   have:=hT.out.jf _ _ hp
   rw[aF (fun e=>by rw[e] at rR;omega)];exact (hT.out.aB.trans M.aB).get hp,by rw[cg];exact (hT.out.aB.trans M.aB).next⟩
  have tI: ∀p x,p≠b->s1.heap.get p=some x->(bt s1 b (.cells (aG cs (o+8) [v]) 0)).heap.get p=some x:=fun p x hp hx=>by rw[aF (fun e=>hp e.symm)];exact hx
  have T5:CG n0 s0 (bt s1 b (.cells (aG cs (o+8) [v]) 0)) q V1 rest V ts (k+1) (rows.set k (rows[k].set 8 v)):=by
   refine ⟨⟨hT.out.jf,G2,a7 8 v _ (by omega) (dM _ _ _),hT.out.new,fun r Fm=> ?_,hT.out.cap,fun p hp=>by rw[a3] at hp;cases hp;rw[dM];rw[a8 8 v (by omega) (AB.cells.inj (Option.some.inj (a4.symm.trans (hT.out.tight b a3)))).1]⟩,tI q _ (fun e=>hbq e.symm) q4,hT.Bs,by rw[cg];exact Nat.le_trans hT.lo M.aB.next,hT.ne,by rw[List.length_set];exact hT.len,fun i t r hi h3 h4=> ?_,fun i t r hi h3 h4=> ?_⟩
   .    rcases List.mem_or_eq_of_mem_set Fm with h5|h5
        . exact hT.out.row r h5
        . rw[h5,List.length_set];exact hT.out.row _ (List.getElem_mem hk)
   .    rw[List.getElem?_set_ne (by omega)] at h4
        exact hT.c9 i t r (by omega) h3 h4
   .    by_cases GJ:i=k
        . subst GJ
          rw[List.getElem?_eq_getElem h] at h3
          cases h3
          rw[List.getElem?_set_self hk] at h4
          cases h4
          refine ⟨v,by rw[eJ];rfl,Mk.He (M.back hT.out.jf hT.out.aB) G2 fun p x hp hx=>tI p x (fun e=>by subst e;have:=M.new _ hp;omega) hx,fun p hp e=> ?_,fun p hp=> ?_⟩
          . rw[a3] at e;cases e;have:=M.new _ hp;omega
          . have:=M.new _ hp;have:=hT.lo;omega
        . rw[List.getElem?_set_ne (by omega)] at h4
          obtain ⟨u,e1,e2,e3,e4⟩:=hT.iq i t r (by omega) h3 h4
          refine ⟨u,e1,Mk.He (e2.grow M.aB) G2 fun p x hp hx=>tI p x (fun e=>by subst e;exact e3 _ hp a3) hx,e3,e4⟩
  obtain ⟨s',qT,d1,d3,d2⟩:=ih (k+1) f _ V _ (by omega) (by omega) T5
  refine ⟨s',qT,d1,fun p x hp hx=>d3 p x hp (tI p x (fun e=>hp (by rw[a3,e])) (M.aB.get hx)),fun k2=> ?_⟩
  rw[<-d2 k2,Fw]
  have L1: ∀(ok:AV->Bool) (K:AV->Option (AV×St)),ok V=true->jT (.load none) [.ptr q 1] s.heap ok K=K V:=fun ok K h=>pS (by rw[hT.box];rfl) ok h K
  have L2: ∀(ok:AV->Bool) (K:AV->Option (AV×St)),ok V=true->jT (.load none) [.ptr q 1] s1.heap ok K=K V:=fun ok K h=>pS (by rw[q4];rfl) ok h K
  have L3: ∀(ok:AV->Bool) (K:AV->Option (AV×St)),ok (cR ts[k].tz ts[k].tg)=true->jT (.load none) [.ptr b (o+8)] s.heap ok K=K (cR ts[k].tz ts[k].tg):=fun ok K h=>pS (by rw[a4];exact c4) ok h K
  have q1:=iJ (p:=q) (o:=1) (h:=s.heap) (v:=V) (by rw[hT.box];rfl) hT.out.beq
  simp[h,hT.box,a4,c4,L2,a2,C,q1,bk,w]
end
section
set_option maxRecDepth 100000
open Go Go.Ai Go.Proofs
variable {c : ak}
theorem ld {p:Pos} {o:Nat} {t:St} {cs:List AV} {v:AV} (h:t.heap.get p=some (.cells cs 0)) (hv:cs[o]? =some v):((cellsOf (t.heap.get p)).bind fun cs=>cs[o]?)=some v:=by rw[h];exact hv
set_option maxHeartbeats 1000000 in
theorem Ve (hc:Sem c) (p:aZ) (hp:p.Real) (s:St) (hw:Wf s): ∃Vs s',c 69 [.agg p.cells] s=some (.agg Vs,s')/\PS s s' Vs p:=by
 have aX:Wf (ai s (.cells p.cells 0)):=aQ hw
 have hwB:Wf (ai (ai s (.cells p.cells 0)) (.cells [.ah,.ah,.ah,.ah,.ah] 0)):=aQ aX
 have gB:=(Grew.ai hw (.cells p.cells 0)).trans (Grew.ai aX (.cells [.ah,.ah,.ah,.ah,.ah] 0))
 have qB:(ai (ai s (.cells p.cells 0)) (.cells [.ah,.ah,.ah,.ah,.ah] 0)).heap.get s.next=some (.cells p.cells 0):=(Grew.ai aX _).get (aH _ _)
 have pB:=aH (ai s (.cells p.cells 0)) (.cells [.ah,.ah,.ah,.ah,.ah] 0)
 have nl:s.next.toNat<(ai s (.cells p.cells 0)).next.toNat:=by rw[bG,Pos.ax];omega
 generalize hsB:ai (ai s (.cells p.cells 0)) (.cells [.ah,.ah,.ah,.ah,.ah] 0)=sB at hwB gB qB pB
 generalize Jo:(ai s (.cells p.cells 0)).next=p2 at pB nl
 have lt2:=hwB _ _ pB
 have ltq:=hwB _ _ qB
 have nqp:s.next≠p2:=fun e=>by rw[e] at nl;omega
 have hlT:p.ts.length<=jk:=Nat.le_trans hp.ts (by decide)
 have hlG:p.gs.length<=jk:=Nat.le_trans hp.gs (by decide)
 obtain ⟨V1,s1,C1,M1⟩:=afI hc p.tz p.ts hlT sB hwB
 obtain ⟨c1,o1⟩:=M1.cells
 have q1:=M1.aB.get qB
 have b1:p.cells=tabs p.tz p.ts::[aT p.gz p.gs,bH p.yz p.ys,ints p.cz p.cs,dG p.rz p.rs]:=rfl
 have t1: ∀(K:AV->St->Option (AV×St)),aj c (.store 1) [.ptr s.next 0,V1] s1 K=K .undef (bt s1 s.next (.cells (V1::[aT p.gz p.gs,bH p.yz p.ys,ints p.cz p.cs,dG p.rz p.rs]) 0)):=fun K=>by
  rw[cu c K s1 1 s.next 0 V1 p.cells q1 (by rw[c1];rfl) (by rw[b1];simp) (by rw[c1];exact o1),c1];rfl
 have lq1:=M1.aB.wf _ _ q1
 have G2:Grew s (bt s1 s.next (.cells (V1::[aT p.gz p.gs,bH p.yz p.ys,ints p.cz p.cs,dG p.rz p.rs]) 0)):=⟨ij M1.aB.wf lq1,fun r x hr=>by
  have:=hw _ _ hr
  rw[aF (fun e=>by rw[e] at this;omega)];exact (gB.trans M1.aB).get hr,by rw[cg];exact (gB.trans M1.aB).next⟩
 have T2:CT sB.next.toNat s (bt s1 s.next (.cells (V1::[aT p.gz p.gs,bH p.yz p.ys,ints p.cz p.cs,dG p.rz p.rs]) 0)) s.next [aT p.gz p.gs,bH p.yz p.ys,ints p.cz p.cs,dG p.rz p.rs] V1 p.ts 0 (p.ts.map az.cells):=by
  refine ⟨⟨hw,G2,M1.own.mono fun b x hb hx=> ?_,fun b hb=>Nat.le_trans gB.next (M1.new b hb),M1.row,M1.cap,fun b hb=>by rw[aF (fun e=>by have:=M1.new _ hb;rw[<-e] at this;omega)];exact M1.tight b hb⟩,dM _ _ _,ltq,by rw[cg];exact M1.aB.next,M1.new,by simp,fun i t r _ h3 h4=> ?_,fun i t r h=>by omega⟩
  . rw[aF (fun e=>by have:=M1.new _ hb;rw[<-e] at this;omega)];exact hx
  . rw[List.getElem?_map,h3] at h4;simpa using h4.symm
 generalize CU:bt s1 s.next (.cells (V1::[aT p.gz p.gs,bH p.yz p.ys,ints p.cz p.cs,dG p.rz p.rs]) 0)=s2 at t1 G2 T2
 have p2a:s2.heap.get p2=some (.cells [.ah,.ah,.ah,.ah,.ah] 0):=by rw[<-CU,aF nqp];exact M1.aB.get pB
 have l1: ∀(K:AV->St->Option (AV×St)) (t:St),aj c (.lenB .l) [V1] t K=K (.int .i64 (p.ts.length:Int)) t:=fun K t=>by rw[M1.own.lenB];simp
 obtain ⟨s3,r1,D1,D2,D3⟩:=afK hc (.ptr p2 0) p.ts hp.ts hp.tab 2000 p.ts.length 0 2000 s2 V1 _ (by have:=hp.ts;omega) (by omega) T2
 have p3:s3.heap.get p2=some (.cells [.ah,.ah,.ah,.ah,.ah] 0):=D2 p2 _ (fun e=>by have:=M1.new _ e;omega) p2a
 have q3:=D1.box
 obtain ⟨V2,s4,C2,M2⟩:=afJ hc p.gz p.gs hlG s3 D1.out.aB.wf
 obtain ⟨c2,o2⟩:=M2.cells
 have q4:=M2.aB.get q3
 have t2: ∀(K:AV->St->Option (AV×St)),aj c (.store 1) [.ptr s.next 1,V2] s4 K=K .undef (bt s4 s.next (.cells (V1::V2::[bH p.yz p.ys,ints p.cz p.cs,dG p.rz p.rs]) 0)):=fun K=>by
  rw[cu c K s4 1 s.next 1 V2 _ q4 (by rw[c2];rfl) (by simp) (by rw[c2];exact o2),c2];rfl
 have lq4:=M2.aB.wf _ _ q4
 have n3B:sB.next.toNat<=s3.next.toNat:=D1.lo
 have G3:=D1.out.aB
 have G5:Grew s (bt s4 s.next (.cells (V1::V2::[bH p.yz p.ys,ints p.cz p.cs,dG p.rz p.rs]) 0)):=⟨ij M2.aB.wf lq4,fun r x hr=>by
  have:=hw _ _ hr
  rw[aF (fun e=>by rw[e] at this;omega)];exact (G3.trans M2.aB).get hr,by rw[cg];exact (G3.trans M2.aB).next⟩
 have T5:CG s3.next.toNat s (bt s4 s.next (.cells (V1::V2::[bH p.yz p.ys,ints p.cz p.cs,dG p.rz p.rs]) 0)) s.next V1 [bH p.yz p.ys,ints p.cz p.cs,dG p.rz p.rs] V2 p.gs 0 (p.gs.map aJ.cells):=by
  refine ⟨⟨hw,G5,M2.own.mono fun b x hb hx=> ?_,fun b hb=>Nat.le_trans G3.next (M2.new b hb),M2.row,M2.cap,fun b hb=>by rw[aF (fun e=>by have:=M2.new _ hb;rw[<-e] at this;omega)];exact M2.tight b hb⟩,dM _ _ _,by omega,by rw[cg];exact M2.aB.next,M2.new,by simp,fun i t r _ h3 h4=> ?_,fun i t r h=>by omega⟩
  . rw[aF (fun e=>by have:=M2.new _ hb;rw[<-e] at this;omega)];exact hx
  . rw[List.getElem?_map,h3] at h4;simpa using h4.symm
 have aim: ∀r x,r≠s.next->s3.heap.get r=some x->(bt s4 s.next (.cells (V1::V2::[bH p.yz p.ys,ints p.cz p.cs,dG p.rz p.rs]) 0)).heap.get r=some x:=fun r x hr hx=>by rw[aF (fun e=>hr e.symm)];exact M2.aB.get hx
 generalize hs5:bt s4 s.next (.cells (V1::V2::[bH p.yz p.ys,ints p.cz p.cs,dG p.rz p.rs]) 0)=s5 at t2 G5 T5 aim
 have l2: ∀(K:AV->St->Option (AV×St)) (t:St),aj c (.lenB .l) [V2] t K=K (.int .i64 (p.gs.length:Int)) t:=fun K t=>by rw[M2.own.lenB];simp
 obtain ⟨s6,r2,E1,E2,E3⟩:=afL hc (.ptr p2 0) p.gs hp.gs hp.bB 2000 p.gs.length 0 2000 s5 V2 _ (by have:=hp.gs;omega) (by omega) T5
 have q5:=T5.box
 have q6:=E1.box
 have aeo: ∀r x,r≠s.next->r.toNat<s3.next.toNat->s3.heap.get r=some x->s6.heap.get r=some x:=fun r x hr hl hx=>E2 r x (fun e=>by have:=T5.ne _ e;omega) (aim r x hr hx)
 obtain ⟨V3,s7,C3,M3⟩:=afG hc p.yz p.ys hp.ys s6 E1.out.aB.wf
 obtain ⟨V4,s8,C4,M4⟩:=XM hc p.cz p.cs hp.cs s7 M3.aB.wf
 obtain ⟨V5,s9,C5,M5⟩:=afH hc p.rz p.rs hp.rs s8 M4.aB.wf
 obtain ⟨c3,o3⟩:=M3.cells
 obtain ⟨c4,o4⟩:=M4.cells
 obtain ⟨c5,o5⟩:=M5.cells
 have XN:=M3.aB.trans (M4.aB.trans M5.aB)
 have q7:=M3.aB.get q6
 have q8:=M4.aB.get q7
 have q9:=M5.aB.get q8
 have t3: ∀(K:AV->St->Option (AV×St)),aj c (.store 1) [.ptr s.next 2,V3] s9 K=K .undef (bt s9 s.next (.cells [V1,V2,V3,ints p.cz p.cs,dG p.rz p.rs] 0)):=fun K=>by
  rw[cu c K s9 1 s.next 2 V3 _ q9 (by rw[c3];rfl) (by simp) (by rw[c3];exact o3),c3];rfl
 have t4: ∀(K:AV->St->Option (AV×St)),aj c (.store 1) [.ptr s.next 3,V4] (bt s9 s.next (.cells [V1,V2,V3,ints p.cz p.cs,dG p.rz p.rs] 0)) K=K .undef (bt s9 s.next (.cells [V1,V2,V3,V4,dG p.rz p.rs] 0)):=fun K=>by
  rw[cu c K _ 1 s.next 3 V4 _ (dM _ _ _) (by rw[c4];rfl) (by simp) (by rw[c4];exact o4),c4,acP];rfl
 have t5: ∀(K:AV->St->Option (AV×St)),aj c (.store 1) [.ptr s.next 4,V5] (bt s9 s.next (.cells [V1,V2,V3,V4,dG p.rz p.rs] 0)) K=K .undef (bt s9 s.next (.cells [V1,V2,V3,V4,V5] 0)):=fun K=>by
  rw[cu c K _ 1 s.next 4 V5 _ (dM _ _ _) (by rw[c5];rfl) (by simp) (by rw[c5];exact o5),c5,acP];rfl
 have one:aK [V1,V2,V3,V4,V5]=true:=by
  simp only[aK,Bool.and_true] at o1 o2 o3 o4 o5
  simp only[aK,o1,o2,o3,o4,o5,Bool.and_self]
 have p9:(bt s9 s.next (.cells [V1,V2,V3,V4,V5] 0)).heap.get p2=some (.cells [.ah,.ah,.ah,.ah,.ah] 0):=by
  rw[aF nqp];exact XN.get (aeo p2 _ (fun e=>nqp e.symm) (by have:=D1.out.aB.wf _ _ p3;exact this) p3)
 have t6: ∀(K:AV->St->Option (AV×St)),aj c (.store 5) [.ptr p2 0,.agg [V1,V2,V3,V4,V5]] (bt s9 s.next (.cells [V1,V2,V3,V4,V5] 0)) K=K .undef (bt (bt s9 s.next (.cells [V1,V2,V3,V4,V5] 0)) p2 (.cells [V1,V2,V3,V4,V5] 0)):=fun K=>by
  rw[cu c K _ 5 p2 0 (.agg [V1,V2,V3,V4,V5]) _ p9 rfl (by simp) one];rfl
 have G6:=E1.out.aB
 have G9:=G6.trans XN
 have lq9:=XN.wf _ _ q9
 have lp9:=XN.wf _ _ (XN.get (aeo p2 _ (fun e=>nqp e.symm) (D1.out.aB.wf _ _ p3) p3))
 have G13:Grew s (bt (bt s9 s.next (.cells [V1,V2,V3,V4,V5] 0)) p2 (.cells [V1,V2,V3,V4,V5] 0)):=⟨ij (ij XN.wf lq9) lp9,fun r x hr=>by
  have:=hw _ _ hr
  rw[aF (fun e=>by rw[<-e] at this;omega),aF (fun e=>by rw[<-e] at this;omega)];exact G9.get hr,by rw[cg,cg];exact G9.next⟩
 have tI: ∀r x,sB.next.toNat<=r.toNat->s9.heap.get r=some x->(bt (bt s9 s.next (.cells [V1,V2,V3,V4,V5] 0)) p2 (.cells [V1,V2,V3,V4,V5] 0)).heap.get r=some x:=fun r x hr hx=>by
  rw[aF (fun e=>by rw[<-e] at hr;omega),aF (fun e=>by rw[<-e] at hr;omega)];exact hx
 have n36:s3.next.toNat<=s6.next.toNat:=E1.lo
 generalize hs13:bt (bt s9 s.next (.cells [V1,V2,V3,V4,V5] 0)) p2 (.cells [V1,V2,V3,V4,V5] 0)=Hs at t6 G13 tI
 have F1:TS s Hs V1 p.ts r1:=by
  have keep: ∀(es:Nat) (u:AV) (rows:List (List AV)),Mk es s s3 u rows->(∀b,bf u=some b->sB.next.toNat<=b.toNat)->Mk es s Hs u rows:=fun es u rows hu hb=>Mk.He hu G13 fun b x hbu hx=>tI b x (hb b hbu) (XN.get (aeo b x (fun e=>by have:=hb b hbu;rw[e] at this;omega) (hu.aB.wf _ _ hx) hx))
  refine ⟨keep _ _ _ D1.out D1.ne,D1.len,fun i t r hi hr=> ?_⟩
  obtain ⟨v,e1,e2,e3,e4⟩:=D1.iq i t r (List.getElem?_eq_some_iff.1 hi).1 hi hr
  exact ⟨v,e1,keep _ _ _ e2 e4,e3⟩
 have F2:GS s Hs V2 p.gs r2:=by
  have keep: ∀(es:Nat) (u:AV) (rows:List (List AV)),Mk es s s6 u rows->(∀b,bf u=some b->s3.next.toNat<=b.toNat)->Mk es s Hs u rows:=fun es u rows hu hb=>Mk.He hu G13 fun b x hbu hx=>tI b x (Nat.le_trans n3B (hb b hbu)) (XN.get hx)
  refine ⟨keep _ _ _ E1.out E1.ne,E1.len,fun i t r hi hr=> ?_⟩
  obtain ⟨v,e1,e2,e3,e4⟩:=E1.iq i t r (List.getElem?_eq_some_iff.1 hi).1 hi hr
  exact ⟨v,e1,keep _ _ _ e2 e4,e3⟩
 have F3:Mk 3 s Hs V3 (p.ys.map Ty.cells):=M3.ja hw G6 G13 fun r x hr hx=>tI r x (by omega) ((M4.aB.trans M5.aB).get hx)
 have F4:Mk 1 s Hs V4 (p.cs.map eO):=M4.ja hw (G6.trans M3.aB) G13 fun r x hr hx=>tI r x (by have:=M3.aB.next;omega) (M5.aB.get hx)
 have F5:Mk 6 s Hs V5 (p.rs.map Rl.cells):=M5.ja hw (G6.trans (M3.aB.trans M4.aB)) G13 fun r x hr hx=>tI r x (by have:=M3.aB.next;have:=M4.aB.next;omega) hx
 have fin: ∃dK,tidy s (.agg [V1,V2,V3,V4,V5],Hs)=(.agg [V1,V2,V3,V4,V5],dK)/\PS s dK [V1,V2,V3,V4,V5] p:=by
  unfold tidy
  by_cases hP:Plain (AV.agg [V1,V2,V3,V4,V5],Hs).1/\aM s (AV.agg [V1,V2,V3,V4,V5],Hs).2
  . rw[if_pos hP]
    have inst: ∀v∈[V1,V2,V3,V4,V5],ct v:=fun v hv=>by
        simp only[List.mem_cons,List.not_mem_nil,or_false] at hv
        rcases hv with rfl|rfl|rfl|rfl|rfl
        . exact F1.out.inst
        . exact F2.out.inst
        . exact F3.inst
        . exact F4.inst
        . exact F5.inst
    have k1:=F1.out.loose.resolve_left fun ⟨b,off,n,e⟩=>absurd hP.1 (cE inst (b:=b) (off:=off) (n:=n) (es:=7) (by rw[<-e];simp))
    have k2:=F2.out.loose.resolve_left fun ⟨b,off,n,e⟩=>absurd hP.1 (cE inst (b:=b) (off:=off) (n:=n) (es:=9) (by rw[<-e];simp))
    have k3:=F3.loose.resolve_left fun ⟨b,off,n,e⟩=>absurd hP.1 (cE inst (b:=b) (off:=off) (n:=n) (es:=3) (by rw[<-e];simp))
    have k4:=F4.loose.resolve_left fun ⟨b,off,n,e⟩=>absurd hP.1 (cE inst (b:=b) (off:=off) (n:=n) (es:=1) (by rw[<-e];simp))
    have k5:=F5.loose.resolve_left fun ⟨b,off,n,e⟩=>absurd hP.1 (cE inst (b:=b) (off:=off) (n:=n) (es:=6) (by rw[<-e];simp))
    exact ⟨s,rfl,Grew.refl hw,V1,V2,V3,V4,V5,r1,r2,rfl,⟨k1.1 s hw,F1.len,fun i t r _ h=>by rw[k1.2] at h;simp at h⟩,⟨k2.1 s hw,F2.len,fun i t r _ h=>by rw[k2.2] at h;simp at h⟩,k3.1 s hw,k4.1 s hw,k5.1 s hw⟩
  . rw[if_neg hP]
    exact ⟨_,rfl,G13,V1,V2,V3,V4,V5,r1,r2,rfl,F1,F2,F3,F4,F5⟩
 obtain ⟨dK,u1,u2⟩:=fin
 refine ⟨_,dK,?_,u2⟩
 rw[Vf hc 2000 (r:=(.agg [V1,V2,V3,V4,V5],Hs)),u1]
 rw[YL]
 have p13:Hs.heap.get p2=some (.cells [V1,V2,V3,V4,V5] 0):=by rw[<-hs13];exact dM _ _ _
 have hcut:cut [V1,V2,V3,V4,V5] 0 5=some [V1,V2,V3,V4,V5]:=cD rfl
 have L3: ∀(ok:AV->Bool) (K:AV->Option (AV×St)),ok (ints p.cz p.cs)=true->jT (.load none) [.ptr s.next 3] s7.heap ok K=K (ints p.cz p.cs):=fun ok K h=>pS (ld q7 rfl) ok h K
 have L4: ∀(ok:AV->Bool) (K:AV->Option (AV×St)),ok (dG p.rz p.rs)=true->jT (.load none) [.ptr s.next 4] s8.heap ok K=K (dG p.rz p.rs):=fun ok K h=>pS (ld q8 rfl) ok h K
 have b3:=qE (zG (d:=2) p.cz p.cs)
 have b4:=qE (OJ p.rz p.rs)
 have w36:=iJ (p:=s.next) (o:=3) (h:=s6.heap) (v:=ints p.cz p.cs) (ld q6 rfl) b3
 have w46:=iJ (p:=s.next) (o:=4) (h:=s6.heap) (v:=dG p.rz p.rs) (ld q6 rfl) b4
 have w47:=iJ (p:=s.next) (o:=4) (h:=s7.heap) (v:=dG p.rz p.rs) (ld q7 rfl) b4
 have q2:=T2.box
 have D3':=fun k2=>D3 k2
 have E3':=fun k2=>E3 k2
 simp at D3' E3'
 simp[hsB,Jo,qB,C1,t1,q2,l1,D3',q3,C2,t2,q5,l2,E3',q6,C3,L3,w36,C4,L4,w46,w47,C5,t3,t4,t5,hcut,t6,hs13,p13]
end
section
set_option maxRecDepth 100000
open Go Go.Ai Go.Proofs
variable {c : ak}
theorem PS.tidy {s s1:St} {Vs:List AV} {p:aZ} (hw:Wf s) (h:PS s s1 Vs p): ∃dK,Go.Ai.tidy s (.agg Vs,s1)=(.agg Vs,dK)/\PS s dK Vs p:=by
 obtain ⟨G,V1,V2,V3,V4,V5,r1,r2,rfl,F1,F2,F3,F4,F5⟩:=h
 unfold Go.Ai.tidy
 by_cases hP:Plain (AV.agg [V1,V2,V3,V4,V5],s1).1/\aM s (AV.agg [V1,V2,V3,V4,V5],s1).2
 . rw[if_pos hP]
   have inst: ∀v∈[V1,V2,V3,V4,V5],ct v:=fun v hv=>by
    simp only[List.mem_cons,List.not_mem_nil,or_false] at hv
    rcases hv with rfl|rfl|rfl|rfl|rfl
    . exact F1.out.inst
    . exact F2.out.inst
    . exact F3.inst
    . exact F4.inst
    . exact F5.inst
   have k1:=F1.out.loose.resolve_left fun ⟨b,off,n,e⟩=>absurd hP.1 (cE inst (b:=b) (off:=off) (n:=n) (es:=7) (by rw[<-e];simp))
   have k2:=F2.out.loose.resolve_left fun ⟨b,off,n,e⟩=>absurd hP.1 (cE inst (b:=b) (off:=off) (n:=n) (es:=9) (by rw[<-e];simp))
   have k3:=F3.loose.resolve_left fun ⟨b,off,n,e⟩=>absurd hP.1 (cE inst (b:=b) (off:=off) (n:=n) (es:=3) (by rw[<-e];simp))
   have k4:=F4.loose.resolve_left fun ⟨b,off,n,e⟩=>absurd hP.1 (cE inst (b:=b) (off:=off) (n:=n) (es:=1) (by rw[<-e];simp))
   have k5:=F5.loose.resolve_left fun ⟨b,off,n,e⟩=>absurd hP.1 (cE inst (b:=b) (off:=off) (n:=n) (es:=6) (by rw[<-e];simp))
   exact ⟨s,rfl,Grew.refl hw,V1,V2,V3,V4,V5,r1,r2,rfl,⟨k1.1 s hw,F1.len,fun i t r _ h=>by rw[k1.2] at h;simp at h⟩,⟨k2.1 s hw,F2.len,fun i t r _ h=>by rw[k2.2] at h;simp at h⟩,k3.1 s hw,k4.1 s hw,k5.1 s hw⟩
 . rw[if_neg hP]
   exact ⟨_,rfl,G,V1,V2,V3,V4,V5,r1,r2,rfl,F1,F2,F3,F4,F5⟩
theorem PS.ja {s0 s1 s s':St} {Vs:List AV} {p:aZ} (h:PS s1 s Vs p) (h0:Wf s0) (Jv:Grew s0 s1) (hg:Grew s0 s') (hk: ∀q b,s1.next.toNat<=q.toNat->s.heap.get q=some b->s'.heap.get q=some b):PS s0 s' Vs p:=by
 obtain ⟨G,V1,V2,V3,V4,V5,r1,r2,rfl,F1,F2,F3,F4,F5⟩:=h
 exact ⟨hg,V1,V2,V3,V4,V5,r1,r2,rfl,F1.ja h0 Jv hg hk,F2.ja h0 Jv hg hk,F3.ja h0 Jv hg hk,F4.ja h0 Jv hg hk,F5.ja h0 Jv hg hk⟩
theorem PS.cells {s0 s:St} {Vs:List AV} {p:aZ} (h:PS s0 s Vs p):Vs.length=5/\aK Vs=true:=by
 obtain ⟨G,V1,V2,V3,V4,V5,r1,r2,rfl,F1,F2,F3,F4,F5⟩:=h
 have o1:=F1.out.cells.2
 have o2:=F2.out.cells.2
 have o3:=F3.cells.2
 have o4:=F4.cells.2
 have o5:=F5.cells.2
 simp only[aK,Bool.and_true] at o1 o2 o3 o4 o5
 exact ⟨rfl,by simp only[aK,o1,o2,o3,o4,o5,Bool.and_self]⟩
theorem ahI (hc:Sem c) (cs:List AV) (m:Pos) (hk:cs[5]? =some (.map m)) (s:St):c 88 [.fp [cs] 0 0] s=some (.bool false,s):=by
 have e1: ∀(K:AV->St->Option (AV×St)) (s:St),aj c (.bin .eql .ptr) [.fp [cs] 0 0,.dP] s K=K (.bool false) s:=fun K s=>aI c K (fun H n=>rfl) s
 have e2: ∀(K:AV->St->Option (AV×St)) (s:St),aj c (.bin .eql .map) [.map m,.mA] s K=K (.bool false) s:=fun K s=>aI c K (fun H n=>rfl) s
 have e3: ∀(K:AV->St->Option (AV×St)) (s:St),aj c .nilCheck [.fp [cs] 0 0] s K=K (.fp [cs] 0 0) s:=fun K s=>aI c K (fun H n=>rfl) s
 rw[NL hc 1 (r:=(.bool false,s)),au (Plain.bool _) (aM.refl s)]
 rw[Rr]
 simp[e1,e2,e3,hk]
theorem aep (hc:Sem c) (p:aZ) (hp:p.Real) (cs:List AV) (m:Pos) (h5:cut cs 0 5=some p.cells) (hk:cs[5]? =some (.map m)) (s:St) (hw:Wf s): ∃Vs s',c 25 [.fp [cs] 0 0] s=some (.agg Vs,s')/\PS s s' Vs p:=by
 have aX:Wf (ai s (.cells [.ah,.ah,.ah,.ah,.ah] 0)):=aQ hw
 have g1:=Grew.ai hw (.cells [.ah,.ah,.ah,.ah,.ah] 0)
 have pB:=aH s (.cells [.ah,.ah,.ah,.ah,.ah] 0)
 have lt:s.next.toNat<(ai s (.cells [.ah,.ah,.ah,.ah,.ah] 0)).next.toNat:=by rw[bG,Pos.ax];omega
 have N:=ahI hc cs m hk (ai s (.cells [.ah,.ah,.ah,.ah,.ah] 0))
 generalize CY:ai s (.cells [.ah,.ah,.ah,.ah,.ah] 0)=s1 at aX g1 pB lt N
 obtain ⟨Vs,s2,C,P⟩:=Ve hc p hp s1 aX
 obtain ⟨hl,ho⟩:=P.cells
 have p2:=P.aB.get pB
 have e3: ∀(K:AV->St->Option (AV×St)) (s:St),aj c .nilCheck [.fp [cs] 0 0] s K=K (.fp [cs] 0 0) s:=fun K s=>aI c K (fun H n=>rfl) s
 have st: ∀(K:AV->St->Option (AV×St)),aj c (.store 5) [.ptr s.next 0,.agg Vs] s2 K=K .undef (bt s2 s.next (.cells Vs 0)):=fun K=>by
  rw[cu c K s2 5 s.next 0 (.agg Vs) _ p2 hl (by simp) ho]
  have:aG [AV.ah,.ah,.ah,.ah,.ah] 0 (AV.agg Vs).cells=Vs:=by
   show []++(Vs++List.drop (0+Vs.length) [AV.ah,.ah,.ah,.ah,.ah])=Vs
   rw[hl];simp
  rw[this]
 have G3:Grew s (bt s2 s.next (.cells Vs 0)):=⟨ij P.aB.wf (by have:=P.aB.next;omega),fun q b hq=>by
  have:=hw _ _ hq
  rw[aF (fun e=>by rw[<-e] at this;omega)];exact (g1.trans P.aB).get hq,by rw[cg];exact (g1.trans P.aB).next⟩
 have P3:PS s (bt s2 s.next (.cells Vs 0)) Vs p:=P.ja hw g1 G3 fun q b hq h=>by rw[aF (fun e=>by rw[<-e] at hq;omega)];exact h
 obtain ⟨dK,t1,t2⟩:=P3.tidy hw
 refine ⟨Vs,dK,?_,t2⟩
 rw[IL hc 1 (r:=(.agg Vs,bt s2 s.next (.cells Vs 0))),t1]
 rw[LV]
 have hcut:cut Vs 0 5=some Vs:=cD hl
 simp[CY,N,e3,h5,C,st,hcut]
end
section
set_option maxRecDepth 100000
open Go Go.Ai Go.Proofs
variable {c : ak}
def iC (h:Int):List Int->List (Int×Int)->List Int->List (Int×Int)×List Int
 |[],E,q=>(E,q)
 |k::l,E,q=>if oq E k=none then iC h l (E++[(k,ay .i64 ((oq E h).getD 0+1))]) (q++[k]) else iC h l E q
structure WI (s0 s:St) (m:Pos) (E:List (Int×Int)) (v:AV) (q:List Int):Prop where
 jf:Wf s0
 aB:Grew s0 s
 mp:s.heap.get m=some (im E)
 aeq:s0.next.toNat<=m.toNat
 Fe:QS 1 s v (q.map eO)
 Bs: ∀b,bf v=some b->s0.next.toNat<=b.toNat
 nem:bf v≠some m
theorem QM (l:List Int): ∀r∈l.map eO,r.length=1:=fun r hr=>by simp only[List.mem_map] at hr;obtain ⟨m,_,rfl⟩:=hr;rfl
theorem ain {s0:St} {m:Pos} {lv:AV} {l:List Int} (hl:QS 1 s0 lv (l.map eO)) (XL:l.length<=1000) (h:Int) (F:Nat): ∀(r i f:Nat) (s:St) (E:List (Int×Int)) (v:AV) (q:List Int),r<f->i+r=l.length->WI s0 s m E v (h::q)->q.length+r<=100000->
  ∃ s' v' q',iC h (l.drop i) E (h::q)=((iC h (l.drop i) E (h::q)).1,h::q')/\WI s0 s' m (iC h (l.drop i) E (h::q)).1 v' (h::q')/\q'.length<=q.length+r/\(∀p x,p≠m->bf v≠some p->s.heap.get p=some x->s'.heap.get p=some x/\bf v'≠some p)/\
    ∀(x0 E9 U0 ME:AV) (k6),gG c F k6 f [x0,.map m,v,E9,U0,ME,lv,.int .i64 (l.length:Int),.int .i64 (i:Int)] s=k6 [x0,.map m,v',E9,U0,ME] s':=by
 intro r
 induction r with
 |zero=>
  intro i f s E v q hf h1 hI hq
  obtain ⟨f,rfl⟩: ∃g,f=g+1:=⟨f - 1,by omega⟩
  obtain rfl:i=l.length:=by omega
  refine ⟨s,v,q,?_,?_,by omega,fun p x _ hp hx=>⟨hx,hp⟩,fun x0 E9 U0 ME k6=> ?_⟩
  . simp[iC]
  . simpa [iC] using hI
  . rw[qU]
    simp
 |succ r ih=>
  intro i f s E v q hf h1 hI hq
  obtain ⟨f,rfl⟩: ∃g,f=g+1:=⟨f - 1,by omega⟩
  have hi:i<l.length:=by omega
  have w:ay .i64 ((i:Int)+1)=((i+1:Nat):Int):=wrap64 (by omega) (by omega)
  have hls:QS 1 s lv (l.map eO):=hl.mono fun b x _ hx=>hI.aB.get hx
  obtain ⟨b,o,cs,a1,_,a3,a4⟩:=hls.at (c:=c) (R:=AV×St) (QM l) (by decide) (i:=i) (by simpa using hi)
  have gi:cs[o]? =some (.int .i64 l[i]):=by simpa using a4 0 (.int .i64 l[i]) (by simp)
  have LK:=fun (K:AV->St->Option (AV×St))=>ag9 c K hI.mp l[i]
  rw[List.drop_eq_getElem_cons hi]
  cases hk:oq E l[i] with
  | none=>
    obtain ⟨b2,o2,cs2,d1,d0,d3,d4⟩:=hI.Fe.at (c:=c) (R:=AV×St) (QM (h::q)) (by decide) (i:=0) (by simp)
    have g0:cs2[o2]? =some (.int .i64 h):=by simpa using d4 0 (.int .i64 h) rfl
    have i0: ∀(K:AV->St->Option (AV×St)) (s1:St),aj c (.idxA 1 none) [v,.int .i64 0] s1 K=K (.ptr b2 o2) s1:=fun K s1=>d1 K .i64 s1
    have LH:=fun (K:AV->St->Option (AV×St))=>ajV c K hI.mp h
    have MS:=fun (K:AV->St->Option (AV×St))=>aaf c K hI.mp hk (ay .i64 ((oq E h).getD 0+1))
    generalize hd:ay .i64 ((oq E h).getD 0+1)=d at MS
    have lm:=hI.aB.wf _ _ hI.mp
    have G1:Grew s0 (bt s m (im (E++[(l[i],d)]))):=⟨ij hI.aB.wf lm,fun p x hp=>by
        have:=hI.jf _ _ hp
        rw[aF (fun e=>by have:=hI.aeq;rw[e] at this;omega)];exact hI.aB.get hp,by rw[cg];exact hI.aB.next⟩
    have q1:QS 1 (bt s m (im (E++[(l[i],d)]))) v ((h::q).map eO):=hI.Fe.mono fun b x hb hx=>by
        rw[aF (fun e=>hI.nem (by rw[hb,e]))];exact hx
    have m1:=dM s m (im (E++[(l[i],d)]))
    obtain ⟨s5,v5,e1,e2,e3,e4,e5,e6⟩:=q1.push (c:=c) (R:=AV×St) (bytes:=8) G1.wf (QM _) (z:=[.int .i64 0]) (x:= .int .i64 l[i]) rfl rfl rfl (by decide) (by simp;omega) (by simp;omega)
    have I5:WI s0 s5 m (E++[(l[i],d)]) v5 (h::(q++[l[i]])):=by
        refine ⟨hI.jf,⟨e3,fun p x hp=> ?_,Nat.le_trans G1.next e4⟩,e5 m _ hI.nem m1,hI.aeq,by rw[<-List.cons_append,List.map_append];exact e2,fun b hb=> ?_,fun e=> ?_⟩
        . refine e5 p x (fun e=> ?_) (G1.get hp)
          have:=hI.Bs p e;have:=hI.jf _ _ hp;omega
        . have:=e6 b hb;rw[cg] at this;have:=hI.aB.next;omega
        . have:=e6 m e;rw[cg] at this;omega
    obtain ⟨s',v',q',f1,f2,f3,f4,f5⟩:=ih (i+1) f s5 _ v5 (q++[l[i]]) (by omega) (by omega) I5 (by simp;omega)
    have ew:iC h (l[i]::l.drop (i+1)) E (h::q)=iC h (l.drop (i+1)) (E++[(l[i],d)]) (h::(q++[l[i]])):=by
        rw[iC,if_pos hk,hd];rfl
    rw[ew]
    refine ⟨s',v',q',f1,f2,by simp at f3;omega,fun p x dS Jo hx=> ?_,fun x0 E9 U0 ME k6=> ?_⟩
    .   have GG:=e5 p x Jo (by rw[aF (fun e=>dS e.symm)];exact hx)
        refine f4 p x dS (fun e=> ?_) GG
        have:=e6 p e;rw[cg] at this;have:=hI.aB.wf _ _ hx;omega
    .   rw[<-f5 x0 E9 U0 ME k6,qU]
        rw[hk] at LK
        simp[-cB,cm,hi,a1,a3,gi,LK,i0,d3,g0,LH,hd,MS,e1,w]
  | some d0=>
    obtain ⟨s',v',q',f1,f2,f3,f4,f5⟩:=ih (i+1) f s E v q (by omega) (by omega) hI (by omega)
    have ew:iC h (l[i]::l.drop (i+1)) E (h::q)=iC h (l.drop (i+1)) E (h::q):=by
        rw[iC,if_neg (by rw[hk];simp)]
    rw[ew]
    refine ⟨s',v',q',f1,f2,by omega,f4,fun x0 E9 U0 ME k6=> ?_⟩
    rw[<-f5 x0 E9 U0 ME k6,qU]
    rw[hk] at LK
    simp[cm,hi,a1,a3,gi,LK,w]
end
section
set_option maxRecDepth 100000
open Go Go.Ai Go.Proofs
variable {c : ak}
theorem Tw (k d x:Int): ∀E:List (Int×Int),oq (E++[(k,d)]) x=match oq E x with|some e=>some e|none=>if x=k then some d else none
 |[]=>by simp only[List.nil_append,oq]
 |(a,b)::E=>by
  show (if x=a then some b else oq (E++[(k,d)]) x)=_
  rw[Tw k d x E]
  show _=match (if x=a then some b else oq E x) with|some e=>some e|none=>if x=k then some d else none
  by_cases h:x=a
  . simp only[h,if_true]
  . simp only[h,if_false]
theorem abk {α:Type} {P Q:α->Bool} (hPQ: ∀x,P x=true->Q x=true): ∀{l:List α} {a:α},a∈l->Q a=true->P a=false->l.countP P+1<=l.countP Q
 |x ::l,a,ha,h1,h2=>by
  rcases List.mem_cons.1 ha with rfl|ha
  . rw[List.countP_cons,List.countP_cons,h1,h2]
    have:=List.countP_mono_left (l:=l) (p:=P) (q:=Q) (fun x _ h=>hPQ x h)
    simp;omega
  . have ih:=abk hPQ ha h1 h2
    rw[List.countP_cons,List.countP_cons]
    by_cases hx:P x=true
    .   rw[hx,hPQ x hx];simp;omega
    .   have:P x=false:=by simpa using hx
        rw[this]
        cases Q x<;>simp<;>omega
def cnt (n:Nat) (E:List (Int×Int)):Nat:=(List.range n).countP fun (i:Nat)=>(oq E (i:Int)).isNone
theorem ahJ {n:Nat} {E:List (Int×Int)} {k d:Int} (hk:0<=k/\k<(n:Int)) (h:oq E k=none):cnt n (E++[(k,d)])+1<=cnt n E:=by
 unfold cnt
 refine abk (a:=k.toNat) (fun i hi=> ?_) (List.mem_range.2 (by omega)) ?_ ?_
 . rw[Tw] at hi
   cases h2:oq E (i:Int) with
   |none=>rfl
   |some e=>rw[h2] at hi;cases hi
 . have:((k.toNat:Nat):Int)=k:=by omega
   rw[this,h];rfl
 . have:((k.toNat:Nat):Int)=k:=by omega
   rw[this,Tw,h];simp
theorem Ei {n:Nat} (h:Int): ∀(l:List Int) (E:List (Int×Int)) (q:List Int),(∀k∈l,0<=k/\k<(n:Int))->(∀k∈q,0<=k/\k<(n:Int))->
  cnt n (iC h l E q).1+(iC h l E q).2.length<=cnt n E+q.length/\ ∀k∈(iC h l E q).2,0<=k/\k<(n:Int)
 |[],E,q,_,hq=>⟨Nat.le_refl _,hq⟩
 |k ::l,E,q,hl,hq=>by
  have hk:=hl k (by simp)
  by_cases hn:oq E k=none
  . rw[iC,if_pos hn]
    obtain ⟨a,b⟩:=Ei h l (E++[(k,ay .i64 ((oq E h).getD 0+1))]) (q++[k]) (fun x hx=>hl x (List.mem_cons_of_mem _ hx)) (fun x hx=>by
        rcases List.mem_append.1 hx with hx|hx
        . exact hq x hx
        . simp at hx;subst hx;exact hk)
    have:=ahJ (d:=ay .i64 ((oq E h).getD 0+1)) hk hn
    simp only[List.length_append,List.length_cons,List.length_nil] at a
    exact ⟨by omega,b⟩
  . rw[iC,if_neg hn]
    exact Ei h l E q (fun x hx=>hl x (List.mem_cons_of_mem _ hx)) hq
structure RL (s:St) (V:AV) (rows:List (List Int)) (ws:List AV):Prop where
 out:QS 1 s V (ws.map fun w=>[w])
 len:ws.length=rows.length
 iq: ∀(i:Nat) (w:AV) (r:List Int),ws[i]? =some w->rows[i]? =some r->QS 1 s w (r.map eO)
 cel: ∀w∈ws,w.cells=[w]
def QN (rB rA:List (List Int)):Nat->List (Int×Int)->List Int->List (Int×Int)
 |0,E,_=>E
 |_+1,E,[]=>E
 |f+1,E,h::q=>QN rB rA f (iC h (rA.getD h.toNat []) (iC h (rB.getD h.toNat []) E (h::q)).1 (iC h (rB.getD h.toNat []) E (h::q)).2).1 (iC h (rA.getD h.toNat []) (iC h (rB.getD h.toNat []) E (h::q)).1 (iC h (rB.getD h.toNat []) E (h::q)).2).2.tail
set_option maxHeartbeats 2000000 in
theorem ajj (hc:Sem c) {s0:St} {jb m:Pos} {jc:List AV} {VB VA:AV} {rB rA:List (List Int)} {wB wA:List AV} {n:Nat} (hn:n<=10000) (hj:s0.heap.get jb=some (.cells jc 0)) (h9:jc[9]? =some VB) (CV:jc[10]? =some VA)
  (hB:RL s0 VB rB wB) (hA:RL s0 VA rA wA) (lB:rB.length=n) (lA:rA.length=n) (eB: ∀r∈rB,r.length<=1000/\ ∀k∈r,0<=k/\k<(n:Int)) (eA: ∀r∈rA,r.length<=1000/\ ∀k∈r,0<=k/\k<(n:Int)) (F:Nat) (hF:1010<=F) (k2):
  ∀(f g:Nat) (s:St) (E:List (Int×Int)) (v:AV) (q:List Int),f<g->cnt n E+q.length<=f->f<=20000->(∀k∈q,0<=k/\k<(n:Int))->WI s0 s m E v q->
   ∃s',Grew s0 s'/\s'.heap.get m=some (im (QN rB rA f E q))/\kH c F k2 g [.ptr jb 0,.map m,v] s=k2 [.map m] s':=by
 intro f
 induction f with
 |zero=>
  intro g s E v q hg h1 hf h2 hI
  obtain ⟨g,rfl⟩: ∃g',g=g'+1:=⟨g - 1,by omega⟩
  obtain rfl:q=[]:=List.eq_nil_of_length_eq_zero (by omega)
  refine ⟨s,hI.aB,hI.mp,?_⟩
  have hl: ∀(K:AV->St->Option (AV×St)) (t:St),aj c (.lenB .l) [v] t K=K (.int .i64 0) t:=fun K t=>by rw[hI.Fe.lenB];simp
  rw[qV]
  simp[hl]
 |succ f ih=>
  intro g s E v q hg h1 hf h2 hI
  obtain ⟨g,rfl⟩: ∃g',g=g'+1:=⟨g - 1,by omega⟩
  have hl: ∀(K:AV->St->Option (AV×St)) (t:St),aj c (.lenB .l) [v] t K=K (.int .i64 (q.length:Int)) t:=fun K t=>by rw[hI.Fe.lenB];simp
  cases q with
  |nil=>
   refine ⟨s,hI.aB,hI.mp,?_⟩
   rw[qV]
   simp[hl]
  |cons h q=>
   have hh:=h2 h (by simp)
   obtain ⟨i,rfl⟩: ∃i:Nat,h=(i:Int):=⟨h.toNat,by omega⟩
   have hi:i<n:=by omega
   have hw:=hI.aB.wf
   obtain ⟨b0,o0,Sc,_,d2,_,d4,_,d6,_⟩:=hI.Fe.set (c:=c) (R:=AV×St) (QM _) (by decide) (i:=0) (by simp)
   have g0:Sc[o0]? =some (.int .i64 (i:Int)):=by simpa using d6 0 (.int .i64 (i:Int)) rfl
   have j0: ∀(K:AV->Option (AV×St)),fM (.idxA 1 none) [v,.int .i64 0] K=K (.ptr b0 o0):=fun K=>d2 K .i64
   have one: ∀(ws:List AV),∀r∈ws.map (fun w=>[w]),r.length=1:=fun ws r hr=>by simp only[List.mem_map] at hr;obtain ⟨w,_,rfl⟩:=hr;rfl
   have iB:i<wB.length:=by rw[hB.len,lB];exact hi
   have iA:i<wA.length:=by rw[hA.len,lA];exact hi
   obtain ⟨b1,o1,cs1,_,e2,_,e4,_,e6,_⟩:=(hB.out.mono (s':=s) fun b x _ hx=>hI.aB.get hx).set (c:=c) (R:=AV×St) (one wB) (by decide) (i:=i) (by simpa using iB)
   have gB:cs1[o1]? =some wB[i]:=by simpa using e6 0 wB[i] (by simp)
   have jB: ∀(K:AV->Option (AV×St)),fM (.idxA 1 none) [VB,.int .i64 (i:Int)] K=K (.ptr b1 o1):=fun K=>e2 K .i64
   obtain ⟨b2,o2,cs2,_,f2,_,f4,_,f6,_⟩:=(hA.out.mono (s':=s) fun b x _ hx=>hI.aB.get hx).set (c:=c) (R:=AV×St) (one wA) (by decide) (i:=i) (by simpa using iA)
   have gA:cs2[o2]? =some wA[i]:=by simpa using f6 0 wA[i] (by simp)
   have jA: ∀(K:AV->Option (AV×St)),fM (.idxA 1 none) [VA,.int .i64 (i:Int)] K=K (.ptr b2 o2):=fun K=>f2 K .i64
   have jbs:=hI.aB.get hj
   have nc: ∀(K:AV->Option (AV×St)),fM .nilCheck [.ptr jb 0] K=K (.ptr jb 0):=fun K=>cP K (fun H n=>rfl)
   have vg:bJ [AV.ah,.ah] [(0,1),(1,1)] [wB[i],wA[i]]=some [wB[i],wA[i]]:=by
        simp[bJ,cN,cM,aG,hB.cel _ (List.getElem_mem iB),hA.cel _ (List.getElem_mem iA)]
   have aj9:bJ (bC [AV.ah] 2) [(0,1),(1,1)] [wB[i],wA[i]]=some [wB[i],wA[i]]:=vg
   have G1:=Grew.ai hw (.cells [wB[i],wA[i]] 0)
   have I1:WI s0 (ai s (.cells [wB[i],wA[i]] 0)) m E v ((i:Int)::q):=⟨hI.jf,hI.aB.trans G1,G1.get hI.mp,hI.aeq,hI.Fe.mono fun b x _ hx=>G1.get hx,hI.Bs,hI.nem⟩
   have X1:=aH s (.cells [wB[i],wA[i]] 0)
   have lv: ∀b,bf v=some b->b.toNat<s.next.toNat:=fun b hb=>hI.Fe.lt hw hb
   have lm:m.toNat<s.next.toNat:=hw _ _ hI.mp
   have rBi:rB[i]? =some rB[i]:=List.getElem?_eq_getElem (by omega)
   have rAi:rA[i]? =some rA[i]:=List.getElem?_eq_getElem (by omega)
   have QB:=hB.iq i wB[i] rB[i] (List.getElem?_eq_getElem iB) rBi
   have QA:=hA.iq i wA[i] rA[i] (List.getElem?_eq_getElem iA) rAi
   have sB:=eB _ (List.getElem_mem (by omega:i<rB.length))
   have sA:=eA _ (List.getElem_mem (by omega:i<rA.length))
   have hq:q.length<=20000:=by simp only[List.length_cons] at h1;omega
   obtain ⟨s2,v2,q2,k1,k2',k3,k4,k5⟩:=ain (c:=c) QB sB.1 (i:Int) F rB[i].length 0 F _ E v q (by omega) (by omega) I1 (by omega)
   rw[List.drop_zero] at k1 k2'
   obtain ⟨Y1,Z1⟩:=k4 s.next _ (fun e=>by rw[<-e] at lm;omega) (fun e=>by have:=lv _ e;omega) X1
   obtain ⟨s3,v3,q3,l1,l2,l3,l4,l5⟩:=ain (c:=c) QA sA.1 (i:Int) F rA[i].length 0 F _ _ v2 q2 (by omega) (by omega) k2' (by omega)
   rw[List.drop_zero] at l1 l2
   obtain ⟨Y2,Z2⟩:=l4 s.next _ (fun e=>by rw[<-e] at lm;omega) Z1 Y1
   obtain ⟨v4,t1,t2,t3⟩:=QS.tail (R:=AV×St) (c:=c) (r:=eO (i:Int)) (rows:=q3.map eO) l2.Fe rfl
   obtain ⟨n1,n2⟩:=Ei (n:=n) (i:Int) rB[i] E ((i:Int)::q) sB.2 h2
   rw[k1] at n1 n2
   obtain ⟨n3,n4⟩:=Ei (n:=n) (i:Int) rA[i] (iC (i:Int) rB[i] E ((i:Int)::q)).1 ((i:Int)::q2) sA.2 n2
   rw[l1] at n3 n4
   have I4:WI s0 s3 m (iC (i:Int) rA[i] (iC (i:Int) rB[i] E ((i:Int)::q)).1 ((i:Int)::q2)).1 v4 q3:=⟨l2.jf,l2.aB,l2.mp,l2.aeq,t2,fun b hb=>l2.Bs b (t3 b hb),fun e=>l2.nem (t3 _ e)⟩
   obtain ⟨s5,u1,u2,u3⟩:=ih g s3 _ v4 q3 (by omega) (by simp only[List.length_cons] at n1 n3 h1;omega) (by omega) (fun k hk=>n4 k (List.mem_cons_of_mem _ hk)) I4
   have ew:QN rB rA (f+1) E ((i:Int)::q)=QN rB rA f (iC (i:Int) rA[i] (iC (i:Int) rB[i] E ((i:Int)::q)).1 ((i:Int)::q2)).1 q3:=by
        have gb:rB.getD ((i:Int)).toNat []=rB[i]:=by simp[List.getD,rBi]
        have ga:rA.getD ((i:Int)).toNat []=rA[i]:=by simp[List.getD,rAi]
        rw[QN,gb,ga]
        have e1:(iC (i:Int) rB[i] E ((i:Int)::q)).2=(i:Int)::q2:=by rw[k1]
        rw[e1]
        have e2:(iC (i:Int) rA[i] (iC (i:Int) rB[i] E ((i:Int)::q)).1 ((i:Int)::q2)).2=(i:Int)::q3:=by rw[l1]
        rw[e2];rfl
   refine ⟨s5,u1,by rw[ew];exact u2,?_⟩
   obtain ⟨F',rfl⟩: ∃F',F=F'+3:=⟨F - 3,by omega⟩
   have x0: ∀(K:AV->St->Option (AV×St)) (t:St),aj c (.idxA 1 none) [.slice s.next 0 2 (some 2) 1,.int .i64 0] t K=K (.ptr s.next 0) t:=fun K t=>mH c K t (i:=0) (k:= .i64) (es:=1) (by omega)
   have x1: ∀(K:AV->St->Option (AV×St)) (t:St),aj c (.idxA 1 none) [.slice s.next 0 2 (some 2) 1,.int .i64 1] t K=K (.ptr s.next 1) t:=fun K t=>mH c K t (i:=1) (k:= .i64) (es:=1) (by omega)
   have y0: ∀(K:AV->St->Option (AV×St)) (t:St),aj c (.lenB .l) [wB[i]] t K=K (.int .i64 (rB[i].length:Int)) t:=fun K t=>by rw[QB.lenB];simp
   have y1: ∀(K:AV->St->Option (AV×St)) (t:St),aj c (.lenB .l) [wA[i]] t K=K (.int .i64 (rA[i].length:Int)) t:=fun K t=>by rw[QA.lenB];simp
   have y2: ∀(K:AV->Option (AV×St)),fM (.lenB .l) [.slice s.next 0 2 (some 2) 1] K=K (.int .i64 2):=fun K=>cP K (fun H n=>rfl)
   have w1:ay .i64 (1:Int)=1:=rfl
   have w2:ay .i64 (2:Int)=2:=rfl
   have R1: ∀k4,dL c (F'+3) k4 (F'+3) [.ptr jb 0,.map m,v,.slice s.next 0 2 (some 2) 1,.int .i64 2,.int .i64 0] (ai s (.cells [wB[i],wA[i]] 0))=dL c (F'+3) k4 (F'+2) [.ptr jb 0,.map m,v2,.slice s.next 0 2 (some 2) 1,.int .i64 2,.int .i64 1] s2:=fun k4=>by
        rw[qW]
        have:=fun k6=>k5 (.ptr jb 0) (.slice s.next 0 2 (some 2) 1) (.int .i64 2) (.int .i64 0) k6
        simp at this
        simp[x0,X1,y0,this,w1]
   have R2: ∀k4,dL c (F'+3) k4 (F'+2) [.ptr jb 0,.map m,v2,.slice s.next 0 2 (some 2) 1,.int .i64 2,.int .i64 1] s2=dL c (F'+3) k4 (F'+1) [.ptr jb 0,.map m,v3,.slice s.next 0 2 (some 2) 1,.int .i64 2,.int .i64 2] s3:=fun k4=>by
        rw[qW]
        have:=fun k6=>l5 (.ptr jb 0) (.slice s.next 0 2 (some 2) 1) (.int .i64 2) (.int .i64 1) k6
        simp at this
        simp[x1,Y1,y1,this,w2]
   have R3: ∀k4,dL c (F'+3) k4 (F'+1) [.ptr jb 0,.map m,v3,.slice s.next 0 2 (some 2) 1,.int .i64 2,.int .i64 2] s3=k4 [.ptr jb 0,.map m,v3] s3:=fun k4=>by
        rw[qW]
        simp
   rw[<-u3,qV]
   have N4:0<(q.length:Int)+1:=by omega
   simp[hl,N4,nc,jbs,h9,CV,j0,d4,g0,jB,e4,gB,jA,f4,gA,aj9,y2,R1,R2,R3,t1]
def ak6 (rB rA:List (List Int)) (n:Nat) (fr:Int):List (Int×Int):=QN rB rA (n+1) [(fr,0)] [fr]
theorem ajk (hc:Sem c) {jb:Pos} {jc:List AV} {VB VA:AV} {rB rA:List (List Int)} {wB wA:List AV} {n:Nat} (hn:n<=10000) (s:St) (hw:Wf s) (hj:s.heap.get jb=some (.cells jc 0)) (h9:jc[9]? =some VB) (CV:jc[10]? =some VA)
  (hB:RL s VB rB wB) (hA:RL s VA rA wA) (lB:rB.length=n) (lA:rA.length=n) (eB: ∀r∈rB,r.length<=1000/\ ∀k∈r,0<=k/\k<(n:Int)) (eA: ∀r∈rA,r.length<=1000/\ ∀k∈r,0<=k/\k<(n:Int)) (fr:Int) (GF:0<=fr/\fr<(n:Int)):
  ∃m s',c 79 [.ptr jb 0,.int .i64 fr] s=some (.map m,s')/\Grew s s'/\s.next.toNat<=m.toNat/\s'.heap.get m=some (im (ak6 rB rA n fr)):=by
 have aX:Wf (ai s (im [])):=aQ hw
 have g1:=Grew.ai hw (im [])
 have m1:=aH s (im [])
 have MS:=fun (K:AV->St->Option (AV×St))=>aaf c K m1 (x:=fr) rfl 0
 have lm:=aX _ _ m1
 have G2:Grew s (bt (ai s (im [])) s.next (im ([]++[(fr,0)]))):=⟨ij aX lm,fun p x hp=>by
  have:=hw _ _ hp
  rw[aF (fun e=>by rw[<-e] at this;omega)];exact g1.get hp,by rw[cg];exact g1.next⟩
 have m2:=dM (ai s (im [])) s.next (im ([]++[(fr,0)]))
 generalize CU:bt (ai s (im [])) s.next (im ([]++[(fr,0)]))=s2 at MS G2 m2
 have row:=fun (K:AV->St->Option (AV×St))=>Ju (c:=c) (es:=1) (z:=[.int .i64 0]) (x:= .int .i64 fr) rfl rfl s2 K
 have g3:=Grew.ai G2.wf (.cells (AV.cells (.int .i64 fr)) 0)
 have lm2:=G2.wf _ _ m2
 have I:WI s (ai s2 (.cells (AV.cells (.int .i64 fr)) 0)) s.next [(fr,0)] (.slice s2.next 0 1 (some 1) 1) [fr]:=by
  refine ⟨hw,G2.trans g3,g3.get m2,Nat.le_refl _,.inr (.inl ⟨s2.next,0,some 1,[.int .i64 fr],rfl,aH _ _,by simp,by simp,.inr rfl⟩),fun b hb=> ?_,fun e=> ?_⟩
  . obtain rfl:=om hb;exact G2.next
  . have:=congrArg Pos.toNat (om e);omega
 have MG:cnt n [(fr,0)]+[fr].length<=n+1:=by
  have:cnt n [(fr,0)]<=n:=by unfold cnt;exact Nat.le_trans List.countP_le_length (by simp)
  simp;omega
 obtain ⟨s',u1,u2,u3⟩:=ajj hc hn hj h9 CV hB hA lB lA eB eA 20000 (by omega) (fun vs s59=>cQ vs fun x5 vs=>eT vs (aj c .move [x5] s59 fun XE s60=>aj c .move [XE] s60 fun x4 s61=>some (x4,s61))) (n+1) 20000 _ _ _ [fr] (by omega) MG (by omega) (fun k hk=>by simp at hk;subst hk;exact GF) I
 refine ⟨s.next,s',?_,u1,Nat.le_refl _,u2⟩
 rw[NM hc 20000 (r:=(.map s.next,s')),aaQ]
 rw[Rs]
 have hmk: ∀(K:AV->St->Option (AV×St)),aj c .mkMap [] s K=K (.map s.next) (ai s (im [])):=fun K=>by rw[Ov];rfl
 simp at u3
 simp[-cB,-Ov,hmk,MS,row,u3]
end
section
set_option maxRecDepth 100000
open Go Go.Ai Go.Proofs
variable {c : ak}
theorem ajl (hc:Sem c) (z:Bool) (ts:List az) (bu: ∀t∈ts,t.Ok) {pb sb:Pos} {cs:List AV} (h0:cs[0]? =some (tabs z ts)) (a b:Int) (ha:a<=4611686018427387904) (hb:b<=4611686018427387904) (s:St) (hw:Wf s)
  (hp:s.heap.get pb=some (.cells cs 0)) (hs:s.heap.get sb=some (.cells [.int .i64 a] 0)):
  c 75 [.int .i64 b,.ptr pb 0,.ptr sb 0] s=some (.bool (OX ts a b),s):=by
 have B:=afx hc z ts bu a b ha hb s hw
 rw[WJ hc 1 (r:=(.bool (OX ts a b),s)),au (Plain.bool _) (aM.refl s)]
 rw[abl]
 simp[hp,hs,h0,B]
theorem ajm (hc:Sem c) (z:Bool) (ts:List az) (bu: ∀t∈ts,t.Ok) {pb sb:Pos} {cs:List AV} (h0:cs[0]? =some (tabs z ts)) (a b:Int) (ha:a<=4611686018427387904) (hb:b<=4611686018427387904) (s:St) (hw:Wf s)
  (hp:s.heap.get pb=some (.cells cs 0)) (hs:s.heap.get sb=some (.cells [.int .i64 a] 0)):
  c 77 [.int .i64 b,.ptr pb 0,.ptr sb 0] s=some (.bool (OY ts a b),s):=by
 have B:=afy hc z ts bu a b ha hb s hw
 rw[WL hc 1 (r:=(.bool (OY ts a b),s)),au (Plain.bool _) (aM.refl s)]
 rw[abm]
 simp[hp,hs,h0,B]
theorem afM (hc:Sem c) (z:Bool) (ts:List az) (bu: ∀t∈ts,t.Ok) {pb sb:Pos} {cs:List AV} (h0:cs[0]? =some (tabs z ts)) (a:Int) (ha:a<=1000000) {first:Int} (hf:0<=first/\first<=1000000) {n:Nat} (hn:n<=1000000) (s:St) (hw:Wf s)
  (hp:s.heap.get pb=some (.cells cs 0)) (hs:s.heap.get sb=some (.cells [.int .i64 a] 0)):
  ∃v s',c 74 [.int .i64 first,.int .i64 (n:Int),.func 75 [] [.ptr pb 0,.ptr sb 0]] s=some (v,s')/\Mk 1 s s' v ((iZ first n (OX ts a)).map eO):=
 aa8 hc hf hn hw fun k t hg h1 h2=>ajl hc z ts bu h0 a k (by omega) (by omega) t hg.wf (hg.get hp) (hg.get hs)
theorem afN (hc:Sem c) (z:Bool) (ts:List az) (bu: ∀t∈ts,t.Ok) {pb sb:Pos} {cs:List AV} (h0:cs[0]? =some (tabs z ts)) (a:Int) (ha:a<=1000000) {first:Int} (hf:0<=first/\first<=1000000) {n:Nat} (hn:n<=1000000) (s:St) (hw:Wf s)
  (hp:s.heap.get pb=some (.cells cs 0)) (hs:s.heap.get sb=some (.cells [.int .i64 a] 0)):
  ∃v s',c 74 [.int .i64 first,.int .i64 (n:Int),.func 77 [] [.ptr pb 0,.ptr sb 0]] s=some (v,s')/\Mk 1 s s' v ((iZ first n (OY ts a)).map eO):=
 aa8 hc hf hn hw fun k t hg h1 h2=>ajm hc z ts bu h0 a k (by omega) (by omega) t hg.wf (hg.get hp) (hg.get hs)
end
section
set_option maxRecDepth 100000
open Go Go.Ai Go.Proofs
variable {c : ak}
theorem afO (z:Bool) (ts:List az) (k:Nat) (hk:k<ts.length) (K:AV->St->Option (AV×St)) (s:St):aj c (.sliceL 7 true true false) [tabs z ts,.int .i64 (k:Int),.int .i64 ((k+1:Nat):Int)] s K=K (tabs false [ts[k]]) s:=by
 have e:tabs z ts= .fl (ts.map az.cells) 7:=by
  unfold tabs
  exact VL (by intro h;have:=congrArg List.length h;simp at this;subst this;simp at hk)
 have run: ∀(H:Pos->Option AB) (n:Pos),aC.run H n (.sliceL 7 true true false) [tabs z ts,.int .i64 (k:Int),.int .i64 ((k+1:Nat):Int)]=some (.val (tabs false [ts[k]])):=fun H n=>by
  rw[e]
  have hb:bounds true true false [.int .i64 (k:Int),.int .i64 ((k+1:Nat):Int)]=some (some k,some (k+1),none):=rfl
  have h1:k+1<=(ts.map az.cells).length:=by simp;omega
  simp only[aC.run,gY,hb,cN,cM,decide_true,Option.getD_some,decide_eq_true (Nat.le_succ k),decide_eq_true h1]
  have:((ts.map az.cells).take (k+1)).drop k=[ts[k].cells]:=by
   rw[List.take_succ_eq_append_getElem (by simpa using hk),List.drop_append_of_le_length (by simp;omega)]
   simp
  rw[this];rfl
 exact aI c K run s
theorem afP (hc:Sem c) (t:az) (bu:t.Ok) (h:mJ t=0) (s:St) (hw:Wf s):c 71 [tabs false [t]] s=some (.int .i64 (bl t),s):=by
 rw[Bp hc false [t] (fun u hu=>by simp at hu;subst hu;exact bu) s hw,if_pos (B7 h)]
 simp[bw]
end
section
set_option maxRecDepth 100000
open Go Go.Ai Go.Proofs
variable {c : ak}
def XO (a b:List Nat):List Nat:=match aD a b||gK a b with|true=>a|false=>b
def XP (a b:List Nat):List Nat:=match aD a b with|true=>b|false=>a
theorem ahK (hc:Sem c) (a b:List Nat) (k:Int) (st:St) (hw:Wf st):c 252 [.str a,.str b,.int .u8 k] st=some (.agg (Ty.cells ⟨XO a b,XP a b,k⟩),st):=by
 rw[JG hc 1 (r:=(.agg (Ty.cells ⟨XO a b,XP a b,k⟩),ai st (.cells (Ty.cells ⟨XO a b,XP a b,k⟩) 0))),au (Plain.agg (by simp[Ty.cells,Plain.str,Plain.int])) (aU hw)]
 rw[OI]
 have m1: ∀(K:AV->St->Option (AV×St)) (s:St),aj c .minB [.str a,.str b] s K=K (.str (XO a b)) s:=fun K s=>aI c K (fun H n=>rfl) s
 have m2: ∀(K:AV->St->Option (AV×St)) (s:St),aj c .maxB [.str a,.str b] s K=K (.str (XP a b)) s:=fun K s=>aI c K (fun H n=>rfl) s
 simp[m1,m2,bJ,aG,cM,AV.cells,aK,AV.one,cD,Ty.cells]
theorem XQ {ts:List Ty} (hs:CZ ts) (t:Ty): ∀n,n<=ts.length-> ∃q,q<=n/\(∀h (hh:h<ts.length),h<q->dV ts[h] t=true)/\ ∀h (hh:h<ts.length),q<=h->h<n->dV ts[h] t=false
 |0,_=>⟨0,Nat.le_refl _,fun h _ hq=>absurd hq (Nat.not_lt_zero _),fun h _ _ hq=>absurd hq (Nat.not_lt_zero _)⟩
 |n+1,hn=>by
  obtain ⟨q,h1,h2,h3⟩:=XQ hs t n (by omega)
  cases hb:dV (ts[n]'(by omega)) t with
  |true=>
   refine ⟨n+1,Nat.le_refl _,fun h hh hq=> ?_,fun h hh UZ hq2=>by omega⟩
   by_cases e:h=n
   . subst e;exact hb
   . exact D9 (hs h n (by omega) (by omega)) hb
  |false=>
   refine ⟨q,by omega,h2,fun h hh UZ hq2=> ?_⟩
   by_cases e:h=n
   . subst e;exact hb
   . exact h3 h hh UZ (by omega)
theorem afQ (hc:Sem c) {s0 s:St} {bp mp:Pos} {gs:List aJ} {ts:List Ty} {gk tk:Option Pos} (B:dh s0 s bp mp gs ts gk tk) (hl:ts.length<=1000) (a b:List Nat) (hs:CZ ts):
   ∃(q:Nat) (ok:Bool),(ok=true->q<ts.length)/\c 177 [.ptr bp 0,.str a,.str b] s=some (.tuple [.int .i64 (q:Int),.bool ok],s):=by
 obtain ⟨q,h1,h2,h3⟩:=XQ hs ⟨XO a b,XP a b,0⟩ ts.length (Nat.le_refl _)
 refine ⟨q,AO ts ⟨XO a b,XP a b,0⟩ q,fun e=> ?_,?_⟩
 . by_cases h:q<ts.length
   . exact h
   . unfold AO at e;rw[List.getElem?_eq_none (by omega)] at e;cases e
 have XA:=ahK hc a b 0 s B.wf
 have kz:=aii hc ts hl ⟨XO a b,XP a b,0⟩ q h1 h2 (fun h hh hq=>h3 h hh hq hh) tk s B.wf B.tB.1 B.tB.2
 rw[zE hc 1 (r:=(.tuple [.int .i64 (q:Int),.bool (AO ts ⟨XO a b,XP a b,0⟩ q)],s)),au (Plain.tuple (by simp[Plain.int,Plain.bool])) (aM.refl s)]
 rw[B4]
 have bq:eC (iG tk ts.length 3) (iG tk ts.length 3)=true:=by cases tk;exact Lg;exact GZ _ _ _ _
 have yq:=fun (K:AV->Option (AV×St))=>kT K (p:=bp) (o:=1) (h:=s.heap) (h2:=s.heap) (v:=iG tk ts.length 3) (by rw[B.book];rfl) (by rw[B.book];rfl) bq
 simp[XA,yq,kz]
end
section
set_option maxRecDepth 100000
open Go Go.Ai Go.Proofs
variable {c : ak}
theorem ajn (hc:Sem c) {s0 s:St} {bp mp:Pos} {gs:List aJ} {ts:List Ty} {gk tk:Option Pos} (B:dh s0 s bp mp gs ts gk tk) (hl:ts.length<=1000) (hs:CZ ts) (a b:List Nat):
  ∃(k:Int) (ok:Bool),c 82 [.ptr bp 0,.str a,.str b] s=some (.tuple [.int .u8 k,.bool ok],s):=by
 obtain ⟨q,ok,h1,h2⟩:=afQ hc B hl a b hs
 have hn:=QI hc s bp mp _ _ B.book
 cases ok with
 |false=>
  refine ⟨0,false,?_⟩
  rw[AR hc 1 (r:=(.tuple [.int .u8 0,.bool false],s)),au (Plain.tuple (by simp[Plain.int,Plain.bool])) (aM.refl s)]
  rw[C0]
  simp[hn,h2]
 |true=>
  have hq:=h1 rfl
  obtain ⟨t,rfl⟩: ∃t,tk=some t:=by
   cases tk with
   |none=>rw[B.tB.1 rfl] at hq;simp at hq
   |some t=>exact ⟨t,rfl⟩
  have qy:=B.tB.2 t rfl
  obtain ⟨k,hk⟩: ∃k,(ts[q].cells)[2]? =some (.int .u8 k):=⟨_,rfl⟩
  have xo:(ts.flatMap Ty.cells)[q*3+2]? =some (.int .u8 k):=by
   have:=Go.Ai.Bn (rows:=ts.map Ty.cells) (es:=3) (fun r hr=>by simp only[List.mem_map] at hr;obtain ⟨t,_,rfl⟩:=hr;rfl) q 2 ts[q].cells (.int .u8 k) (by rw[List.getElem?_map,List.getElem?_eq_getElem hq];rfl) hk
   exact this
  refine ⟨k,true,?_⟩
  have ix:=fun (K:AV->St->Option (AV×St)) (s:St)=>mH c K s (b:=t) (off:=0) (es:=3) (es':=3) (cap:=none) (k:= .i64) hq
  rw[AR hc 1 (r:=(.tuple [.int .u8 k,.bool true],s)),au (Plain.tuple (by simp[Plain.int,Plain.bool])) (aM.refl s)]
  rw[C0]
  simp[hn,h2,B.book,iG,ix,qy,xo]
theorem XR {k:AV}: ∀{es:List (AV×AV×Nat)} {i j:Nat} {v:AV},fH .s k es i=some (some (j,v))-> ∃e∈es,e.2.1=v
 |[],i,j,v,h=>by cases h
 |(k',v',n)::es,i,j,v,h=>by
  unfold fH at h
  split at h
  . simp only[Option.some.injEq,Prod.mk.injEq] at h;exact ⟨_,List.mem_cons_self,h.2⟩
  . obtain ⟨e,h1,h2⟩:=XR h;exact ⟨e,List.mem_cons_of_mem _ h1,h2⟩
  . cases h
def tL:aJ:=⟨[],[],[],0,0,[],false,false,true,[]⟩
theorem abn (hc:Sem c) {s0 s:St} {bp mp:Pos} {gs:List aJ} {ts:List Ty} {gk tk:Option Pos} (B:dh s0 s bp mp gs ts gk tk) (a:List Nat):
   ∃(g:aJ) (v:AV) (ok:Bool) (s':St),c 172 [.ptr bp 0,.str a] s=some (.tuple [.agg (g.aq v),.bool ok],s')/\Mk 1 s s' v (g.tg.map lW)/\g.tg.length<=4:=by
 have hn:=fun (t:St) (hg:Grew s t)=>QI hc t bp mp _ _ (B.aB hg).book
 obtain ⟨es,cl,m1,m2⟩:=B.zD
 have hw:=B.wf
 have G0:=Grew.ai hw (.cells (tL.aq .ah) 0)
 have EL:=hn _ G0
 rcases BK a gs es 0 m2 with ⟨qx,j,v,hf⟩|⟨qx,hf⟩
 . obtain ⟨e,he,rfl⟩:=XR hf
   obtain ⟨i,hi,aP⟩:=B.Iq es cl m1 e he
   obtain ⟨b,rfl⟩: ∃b,gk=some b:=by
    cases gk with
    |none=>rw[B.ov.1 rfl] at aP;simp at aP
    |some b=>exact ⟨b,rfl⟩
   obtain ⟨cs,c1,c2⟩:=B.ov.2 b rfl
   obtain ⟨lo,l4,w,eJ,w1,w2,Q,_⟩:=B.rows b cs rfl c1 i gs[i] (List.getElem?_eq_getElem aP)
   obtain ⟨v,s3,h3,M⟩:=Xy hc gs[i] lo (by omega) (src:=w) _ (aQ hw) (.inr (Q.mono fun p x _ hx=>G0.get hx)) w1 w2
   have M1:=M.back hw G0
   have hcut:cut cs (i*9) 9=some ((gs[i]).aq w):=by
    unfold cut
    have:i*9+9<=cs.length:=by omega
    rw[cM,decide_eq_true this,eJ]
   have hz:s3.heap.get s.next=some (.cells (tL.aq .ah) 0):=M.aB.get (aH _ _)
   have hv:=M.cells
   have ho:aK ((gs[i]).aq v)=true:=(gs[i]).Ip hv.2
   let s4:=bt s3 s.next (.cells ((gs[i]).aq v) 0)
   have adZ:s.next.toNat<s3.next.toNat:=by have:=M.aB.next;rw[bG,Pos.ax] at this;omega
   have M4:Mk 1 s s4 v ((gs[i]).tg.map lW):=M1.store (Nat.le_refl _) adZ (fun e=>by have:=M.new _ e;rw[bG,Pos.ax] at this;omega)
   have kJ: ∀u∈(gs[i]).aq v,ct u:=fun u hu=>by
    simp only[aJ.aq,List.mem_cons,List.not_mem_nil,or_false] at hu
    rcases hu with rfl|rfl|rfl|rfl|rfl|rfl|rfl|rfl|rfl
    . exact ct.str lo.name
    . exact ct.str lo.mL
    . exact ct.str lo.jy
    . exact ct.int _ _
    . exact ct.int _ _
    . exact ct.str lo.mM
    . exact ct.bool _
    . exact ct.bool _
    . exact M.inst
   obtain ⟨s5,t1,t2⟩:=M4.acU (l:=(gs[i]).aq v) (by simp[aJ.aq]) kJ true
   refine ⟨gs[i],v,true,s5,?_,t2,l4⟩
   have ix:=fun (K:AV->St->Option (AV×St)) (s:St)=>mH c K s (b:=b) (off:=0) (es:=9) (es':=9) (cap:=none) (k:= .i64) aP
   have lk:=fun (K:AV->St->Option (AV×St))=>yo c K (.int .i64 0) (st:=ai s (.cells (tL.aq .ah) 0)) (k:= .str a) (G0.get m1) hf
   have bk:=fun (K:AV->St->Option (AV×St))=>cu c K s3 9 s.next 0 (.agg ((gs[i]).aq v)) _ hz rfl (by simp[tL,aJ.aq]) ho
   have tq:aG (tL.aq .ah) 0 (AV.agg ((gs[i]).aq v)).cells=(gs[i]).aq v:=rfl
   rw[tq] at bk
   have hg4:s4.heap.get s.next=some (.cells ((gs[i]).aq v) 0):=dM _ _ _
   have hca:cut ((gs[i]).aq v) 0 9=some ((gs[i]).aq v):=cD rfl
   have b1:=G0.get B.book
   have c3:=G0.get c1
   rw[AS hc 1 (r:=(.tuple [.agg ((gs[i]).aq v),.bool true],s4)),t1]
   rw[C8]
   have al: ∀(K:AV->St->Option (AV×St)),aj c (.alloc [(.str []),(.str []),(.str []),(.int .i64 0),(.int .i64 0),(.str []),(.bool false),(.bool false),.ah]) [] s K=K (.ptr s.next 0) (ai s (.cells (tL.aq .ah) 0)):=fun K=>by rw[qD];rfl
   rw[al]
   simp only[hi] at lk
   simp[-qD,EL,b1,lk,iG,ix,c3,hcut,h3,bk]
   rw[hca,qA]
 . have lk:=fun (K:AV->St->Option (AV×St))=>yo c K (.int .i64 0) (st:=ai s (.cells (tL.aq .ah) 0)) (k:= .str a) (G0.get m1) hf
   have b1:=G0.get B.book
   have M0:Mk 1 s (ai s (.cells (tL.aq .ah) 0)) .ah (tL.tg.map lW):=Mk.start hw G0
   have kJ: ∀u∈tL.aq .ah,ct u:=fun u hu=>by
    simp only[tL,aJ.aq,List.mem_cons,List.not_mem_nil,or_false] at hu
    rcases hu with rfl|rfl|rfl|rfl|rfl|rfl|rfl|rfl|rfl
    . exact ct.str (by simp)
    . exact ct.str (by simp)
    . exact ct.str (by simp)
    . exact ct.int _ _
    . exact ct.int _ _
    . exact ct.str (by simp)
    . exact ct.bool _
    . exact ct.bool _
    . exact ct.ah
   obtain ⟨s5,t1,t2⟩:=M0.acU (l:=tL.aq .ah) (by simp[aJ.aq]) kJ false
   refine ⟨tL,.ah,false,s5,?_,t2,by simp[tL]⟩
   rw[AS hc 1 (r:=(.tuple [.agg (tL.aq .ah),.bool false],ai s (.cells (tL.aq .ah) 0))),t1]
   rw[C8]
   have al: ∀(K:AV->St->Option (AV×St)),aj c (.alloc [(.str []),(.str []),(.str []),(.int .i64 0),(.int .i64 0),(.str []),(.bool false),(.bool false),.ah]) [] s K=K (.ptr s.next 0) (ai s (.cells (tL.aq .ah) 0)):=fun K=>by rw[qD];rfl
   have bd: ∀(K:AV->St->Option (AV×St)) (s:St),aj c (.build [(.str []),(.str []),(.str []),(.int .i64 0),(.int .i64 0),(.str []),(.bool false),(.bool false),.ah] []) [] s K=K (.agg (tL.aq .ah)) s:=fun K s=>by rw[BW];rfl
   have bk:=fun (K:AV->St->Option (AV×St))=>dy c K s 9 (.agg (tL.aq .ah)) (tL.aq .ah) rfl rfl rfl
   have hca:cut (tL.aq .ah) 0 9=some (tL.aq .ah):=cD rfl
   have ce:(AV.agg (tL.aq .ah)).cells=tL.aq .ah:=rfl
   rw[al]
   simp[-qD,-BW,EL,b1,lk,bd,bk,hca,ce]
end
section
set_option maxRecDepth 100000
open Go Go.Ai Go.Proofs
section
variable {H : Type}
theorem ahL (d:DataW H):1<=Rows.uptoBulk d:=by
 cases d with
 |lit l=>cases l<;>simp[Rows.uptoBulk]
 |_=>simp[Rows.uptoBulk]
theorem Ej: ∀l:List (DataW H),l.length<=Rows.uptoBulkAll l/\ ∀d∈l,Rows.uptoBulk d<=Rows.uptoBulkAll l
 |[]=>⟨Nat.zero_le _,fun d h=>by simp at h⟩
 |d::l=>by
  obtain ⟨h1,h2⟩:=Ej l
  have h3:=ahL d
  have e:Rows.uptoBulkAll (d::l)=Rows.uptoBulk d+Rows.uptoBulkAll l:=by simp[Rows.uptoBulkAll]
  rw[e]
  refine ⟨by simp only[List.length_cons];omega,fun x hx=> ?_⟩
  rcases List.mem_cons.1 hx with rfl|hx
  . omega
  . have:=h2 x hx;omega
abbrev Blk (d:DataW H):Prop:=Rows.uptoBulk d<=jk
theorem J7 (e s:List (DataW H)) (h:Blk (.slice e s)):e.length<=jk/\ ∀d∈e,Blk d:=by
 obtain ⟨h1,h2⟩:=Ej e
 have e1:Rows.uptoBulk (.slice e s)=Rows.uptoBulkAll e+Rows.uptoBulkAll s+1:=by simp[Rows.uptoBulk]
 have h:Rows.uptoBulk (.slice e s)<=1048576:=h
 rw[e1] at h
 exact ⟨show e.length<=1048576 by omega,fun d hd=>show Rows.uptoBulk d<=1048576 by have:=h2 d hd;omega⟩
theorem abo (ps:List (DataW H)) (h:Blk (.agg ps)): ∀d∈ps,Blk d:=fun d hd=>by
 obtain ⟨h1,h2⟩:=Ej ps
 have e1:Rows.uptoBulk (.agg ps)=Rows.uptoBulkAll ps+1:=by simp[Rows.uptoBulk]
 have h:Rows.uptoBulk (.agg ps)<=1048576:=h
 rw[e1] at h
 show Rows.uptoBulk d<=1048576
 have:=h2 d hd;omega
end
section
variable {H : Type} {enc : TypeId × Value -> H} {w : World} {base : Nat} {spare : Nat -> Bool} {held : Bool}
abbrev zM (enc:TypeId×Value->H) (w:World) (base:Nat) (spare:Nat->Bool) (held:Bool) (t:TypeId) (Q:List AV->Prop):Prop:=cF Blk enc Tryz.prog w base spare held t Q
theorem xT {α:Type} {P:α->Prop} {cells:α->List AV}: ∀(rs:List (List AV)),(∀r∈rs,∃t,r=cells t/\P t)-> ∃l:List α,rs=l.map cells/\ ∀t∈l,P t
 |[],_=>⟨[],rfl,by simp⟩
 |r::rs,h=>by
  obtain ⟨t,rfl,ht⟩:=h r (by simp)
  obtain ⟨l,rfl,hl⟩:=xT rs (fun q hq=>h q (List.mem_cons_of_mem _ hq))
  exact ⟨t::l,rfl,fun q hq=>by
   rcases List.mem_cons.1 hq with rfl|hq
   . exact ht
   . exact hl q hq⟩
theorem ac6:zM enc w base spare held 27 fun vs=> ∃z l,vs=[ints z l]/\l.length<=jk:=by
 refine cF.mono (pM (N:=jk) (es:=1) (Q:=pq .i64) (by kernel_rfl) (by kernel_rfl) (by omega) (fun vs h=>by obtain ⟨i,rfl,_⟩:=h;rfl) J7 (cF.of Eb)) fun vs h=> ?_
 obtain ⟨z,rs,rfl,h1,h2⟩:=h
 obtain ⟨l,rfl,_⟩:=xT (P:=fun _:Int=>True) (cells:=fun i=>[AV.int .i64 i]) rs (fun r hr=>by obtain ⟨i,e,_⟩:=h1 r hr;exact ⟨i,e,trivial⟩)
 exact ⟨z,l,rfl,by simpa using h2⟩
theorem ajo:zM enc w base spare held 85 fun vs=> ∃z l,vs=[cR z l]/\l.length<=jk:=by
 refine cF.mono (pM (N:=jk) (es:=1) (Q:=xz) (by kernel_rfl) (by kernel_rfl) (by omega) (fun vs h=>by obtain ⟨i,rfl,_⟩:=h;rfl) J7 (cF.of zI)) fun vs h=> ?_
 obtain ⟨z,rs,rfl,h1,h2⟩:=h
 obtain ⟨l,rfl,_⟩:=xT (P:=fun _:List Nat=>True) (cells:=fun i=>[AV.str i]) rs (fun r hr=>by obtain ⟨i,e,_⟩:=h1 r hr;exact ⟨i,e,trivial⟩)
 exact ⟨z,l,rfl,by simpa using h2⟩
theorem aka:zM enc w base spare held 60 fun vs=> ∃t:az,vs=t.cells/\t.Ok/\t.Real:=by
 refine cF.mono (Cy [9,58,3,3,27,3,3] (Qs:=[xz,pq .u8,pq .i64,pq .i64,fun vs=> ∃z l,vs=[ints z l]/\l.length<=jk,pq .i64,pq .i64]) (by kernel_rfl) (by kernel_rfl) (by kernel_rfl) abo ⟨cF.of zI,cF.of ai3,cF.of Eb,cF.of Eb,ac6,cF.of Eb,cF.of Eb,trivial⟩) fun vs h=> ?_
 obtain ⟨ps,rfl,m0⟩:=h
 obtain ⟨p0,q0,rfl,⟨s,rfl,hs,CU⟩,m1⟩:=bO m0
 obtain ⟨p0,q0,rfl,⟨k,rfl,_⟩,m2⟩:=bO m1
 obtain ⟨p0,q0,rfl,⟨a,rfl,_⟩,m3⟩:=bO m2
 obtain ⟨p0,q0,rfl,⟨b,rfl,_⟩,m4⟩:=bO m3
 obtain ⟨p0,q0,rfl,⟨z,l,rfl,hl⟩,m5⟩:=bO m4
 obtain ⟨p0,q0,rfl,⟨x,rfl,_⟩,m6⟩:=bO m5
 obtain ⟨p0,q0,rfl,⟨y,rfl,_⟩,m7⟩:=bO m6
 obtain rfl:=Fa m7
 have jF:l.length<=1048576:=hl
 exact ⟨⟨s,k,a,b,z,l,x,y⟩,rfl,⟨by show s.length<cO;unfold maxLen at hs;unfold cO;omega,by show l.length<cO;unfold cO;omega⟩,⟨CU,hl⟩⟩
theorem akb:zM enc w base spare held 87 fun vs=> ∃t:aJ,vs=t.cells/\t.Real:=by
 refine cF.mono (Cy [9,9,9,3,3,9,4,4,85] (Qs:=[xz,xz,xz,pq .i64,pq .i64,xz,aaY,aaY,fun vs=> ∃z l,vs=[cR z l]/\l.length<=jk]) (by kernel_rfl) (by kernel_rfl) (by kernel_rfl) abo ⟨cF.of zI,cF.of zI,cF.of zI,cF.of Eb,cF.of Eb,cF.of zI,cF.of afv,cF.of afv,ajo,trivial⟩) fun vs h=> ?_
 obtain ⟨ps,rfl,m0⟩:=h
 obtain ⟨p0,q0,rfl,⟨name,rfl,_,qJ⟩,m1⟩:=bO m0
 obtain ⟨p0,q0,rfl,⟨mL,rfl,_,ak7⟩,m2⟩:=bO m1
 obtain ⟨p0,q0,rfl,⟨jy,rfl,_,akc⟩,m3⟩:=bO m2
 obtain ⟨p0,q0,rfl,⟨since,rfl,_⟩,m4⟩:=bO m3
 obtain ⟨p0,q0,rfl,⟨side,rfl,_⟩,m5⟩:=bO m4
 obtain ⟨p0,q0,rfl,⟨mM,rfl,_,ak8⟩,m6⟩:=bO m5
 obtain ⟨p0,q0,rfl,⟨host,rfl⟩,m7⟩:=bO m6
 obtain ⟨p0,q0,rfl,⟨access,rfl⟩,m8⟩:=bO m7
 obtain ⟨p0,q0,rfl,⟨ztg,tg,rfl,htg⟩,m9⟩:=bO m8
 obtain rfl:=Fa m9
 exact ⟨⟨name,mL,jy,since,side,mM,host,access,ztg,tg⟩,rfl,⟨qJ,ak7,akc,ak8,htg⟩⟩
theorem ajp:zM enc w base spare held 29 fun vs=> ∃(z:Bool) (l:List az),vs=[tabs z l]/\(∀t∈l,t.Ok/\t.Real)/\l.length<=jk:=by
 refine cF.mono (pM (N:=jk) (es:=7) (by kernel_rfl) (by kernel_rfl) (by omega) (fun vs h=>by obtain ⟨t,rfl,_⟩:=h;rfl) J7 aka) fun vs h=> ?_
 obtain ⟨z,rs,rfl,h1,h2⟩:=h
 obtain ⟨l,rfl,hl⟩:=xT (P:=fun t:az=>t.Ok/\t.Real) (cells:=az.cells) rs h1
 exact ⟨z,l,rfl,hl,by simpa using h2⟩
theorem ajq:zM enc w base spare held 30 fun vs=> ∃(z:Bool) (l:List aJ),vs=[aT z l]/\(∀t∈l,t.Real)/\l.length<=jk:=by
 refine cF.mono (pM (N:=jk) (es:=9) (by kernel_rfl) (by kernel_rfl) (by omega) (fun vs h=>by obtain ⟨t,rfl,_⟩:=h;rfl) J7 akb) fun vs h=> ?_
 obtain ⟨z,rs,rfl,h1,h2⟩:=h
 obtain ⟨l,rfl,hl⟩:=xT (P:=fun t:aJ=>t.Real) (cells:=aJ.cells) rs h1
 exact ⟨z,l,rfl,hl,by simpa using h2⟩
theorem akd:zM enc w base spare held 31 fun vs=> ∃(z:Bool) (l:List Ty),vs=[bH z l]/\l.length<=jk:=by
 refine cF.mono (pM (N:=jk) (es:=3) (by kernel_rfl) (by kernel_rfl) (by omega) (fun vs h=>by obtain ⟨t,rfl⟩:=h;rfl) J7 (cF.of o_ty)) fun vs h=> ?_
 obtain ⟨z,rs,rfl,h1,h2⟩:=h
 obtain ⟨l,rfl,_⟩:=xT (P:=fun _:Ty=>True) (cells:=Ty.cells) rs (fun r hr=>by obtain ⟨t,e⟩:=h1 r hr;exact ⟨t,e,trivial⟩)
 exact ⟨z,l,rfl,by simpa using h2⟩
theorem ake:zM enc w base spare held 32 fun vs=> ∃(z:Bool) (l:List Rl),vs=[dG z l]/\(∀t∈l,t.Ok)/\l.length<=jk:=by
 refine cF.mono (pM (N:=jk) (es:=6) (by kernel_rfl) (by kernel_rfl) (by omega) (fun vs h=>by obtain ⟨t,rfl,_⟩:=h;rfl) J7 (cF.of o_rl)) fun vs h=> ?_
 obtain ⟨z,rs,rfl,h1,h2⟩:=h
 obtain ⟨l,rfl,hl⟩:=xT (P:=fun t:Rl=>t.Ok) (cells:=Rl.cells) rs h1
 exact ⟨z,l,rfl,hl,by simpa using h2⟩
structure aZ.Laid (p:aZ):Prop where
 tab: ∀t∈p.ts,t.Ok/\t.Real
 bB: ∀t∈p.gs,t.Real
 rul: ∀r∈p.rs,r.Ok
 ys:p.ys.length<=jk
 cs:p.cs.length<=jk
 rs:p.rs.length<=jk
theorem akf:zM enc w base spare held 34 fun vs=> ∃p:aZ,vs=p.cells/\p.Laid:=by
 refine cF.mono (Cy [29,30,31,27,32] (Qs:=[_,_,_,_,_]) (by kernel_rfl) (by kernel_rfl) (by kernel_rfl) abo ⟨ajp,ajq,akd,ac6,ake,trivial⟩) fun vs h=> ?_
 obtain ⟨ps,rfl,m0⟩:=h
 obtain ⟨p0,q0,rfl,⟨z1,l1,rfl,h1,_⟩,m1⟩:=bO m0
 obtain ⟨p0,q0,rfl,⟨z2,l2,rfl,h2,_⟩,m2⟩:=bO m1
 obtain ⟨p0,q0,rfl,⟨z3,l3,rfl,h3⟩,m3⟩:=bO m2
 obtain ⟨p0,q0,rfl,⟨z4,l4,rfl,h4⟩,m4⟩:=bO m3
 obtain ⟨p0,q0,rfl,⟨z5,l5,rfl,h5,h6⟩,m5⟩:=bO m4
 obtain rfl:=Fa m5
 exact ⟨⟨z1,l1,z2,l2,z3,l3,z4,l4,z5,l5⟩,rfl,⟨h1,h2,h5,h3,h4,h6⟩⟩
end
end
end Go.Proofs.YthiaklapeamjlaaGreatDoor
