/- Copies and lists. -/
import Derived.Test.YtgihekklfnjkiaaGreatDoorTLawsB
set_option linter.all false
set_option linter.unusedSectionVars false
set_option linter.deprecated false
namespace Go.Proofs.YtgihekklfnjkiaaGreatDoor
section
set_option maxRecDepth 100000
open Go Go.Ai Go.Proofs
variable{c : au}
theorem afZ(z:Bool)(l:List (Int))(hl:l.length<=uq)(F:Nat)(k2){s0:St}:∀(m k:Nat)(s:St)(v:AV),Mk 1 s0 s v ((l.take k).map bV)->l.length<=k+m->k<=l.length->
  ∃s' v',Mk 1 s0 s' v' (l.map bV)/\kH c F k2 (m+1) [ints z l,v,.int .i64 (k:Int)] s=k2 [v'] s':=by
 have hl:l.length<=1048576:=hl;have lI:∀(K:AV->St->Option (AV×St))(s:St),aq c (.lenB .l) [ints z l] s K=K (.int .i64 (l.length:Int)) s:=λK s=>by unfold ints;rw[fE];simp
 intro m;induction m with
 |zero=>
  intro k s v hM h1 h2;obtain rfl:k=l.length:=by omega
  refine⟨s,v,by simpa using hM,?_⟩;rw[qR];simp[lI]
 |succ m ih=>
  intro k s v hM h1 h2;by_cases h:k<l.length
  . have w:ax .i64 ((k:Int)+1)=((k+1:Nat):Int):=wrap64 (by omega) (by omega);have hlen:((l.take k).map bV).length=k:=(by simp;omega);obtain⟨s5,v5,a1,a2,a3,_⟩:=hM.push (c:=c) (R:=AV×St) (bytes:=8) (z:=[.int .i64 0]) (x:= .int .i64 l[k]) rfl rfl rfl (by decide) (by rw[hlen];omega) (by rw[hlen];omega);have e:(l.take (k+1)).map bV=(l.take k).map bV++[(.int .i64 l[k]:AV).cells]:=(by rw[Zc6 h,Zc8];rfl);rw[<-e]at a2;obtain⟨s',v',b1,b2⟩:=ih (k+1) s5 v5 a2 (by omega) (by omega);refine⟨s',v',b1,?_⟩;rw[<-b2,qR];simp[-av,lI,ints,h,w,a1]
  . obtain rfl:k=l.length:=(by omega);refine⟨s,v,by simpa using hM,?_⟩;rw[qR];simp[lI]
theorem aak(hc:Sem c)(z:Bool)(l:List (Int))(hl:l.length<=uq)(s:St)(hw:Wf s):∃v s',c 13 [ints z l] s=some (v,s')/\Mk 1 s s' v (l.map bV):=by
 obtain⟨s',v,hM,L⟩:=afZ (c:=c) z l hl (l.length+1) (λvs NY=>fO vs λx3 vs=>iT vs (aq c .move [x3] NY λHz Q8=>aq c .move [Hz] Q8 λx2 Q9=>some (x2,Q9))) (s0:=s) l.length 0 s .af (Mk.start hw (Grew.refl hw)) (by omega) (by omega);obtain⟨cY,t1,t2⟩:=hM.tidy;refine⟨v,cY,?_,t2⟩;rw[Ny hc (l.length+1) (r:=(v,s')),t1];rw[Rc];simp at L;simp[L]
theorem aei(z:Bool)(l:List (List Nat))(hl:l.length<=uq)(F:Nat)(k2){s0:St}:∀(m k:Nat)(s:St)(v:AV),Mk 1 s0 s v ((l.take k).map zl)->l.length<=k+m->k<=l.length->
  ∃s' v',Mk 1 s0 s' v' (l.map zl)/\j7 c F k2 (m+1) [iW z l,v,.int .i64 (k:Int)] s=k2 [v'] s':=by
 have hl:l.length<=1048576:=hl;have lI:∀(K:AV->St->Option (AV×St))(s:St),aq c (.lenB .l) [iW z l] s K=K (.int .i64 (l.length:Int)) s:=λK s=>by unfold iW;rw[fE];simp
 intro m;induction m with
 |zero=>
  intro k s v hM h1 h2;obtain rfl:k=l.length:=by omega
  refine⟨s,v,by simpa using hM,?_⟩;rw[qg];simp[lI]
 |succ m ih=>
  intro k s v hM h1 h2;by_cases h:k<l.length
  . have w:ax .i64 ((k:Int)+1)=((k+1:Nat):Int):=wrap64 (by omega) (by omega);have hlen:((l.take k).map zl).length=k:=(by simp;omega);obtain⟨s5,v5,a1,a2,a3,_⟩:=hM.push (c:=c) (R:=AV×St) (bytes:=16) (z:=[.str []]) (x:= .str l[k]) rfl rfl rfl (by decide) (by rw[hlen];omega) (by rw[hlen];omega);have e:(l.take (k+1)).map zl=(l.take k).map zl++[(.str l[k]:AV).cells]:=(by rw[Zc6 h,Zc8];rfl);rw[<-e]at a2;obtain⟨s',v',b1,b2⟩:=ih (k+1) s5 v5 a2 (by omega) (by omega);refine⟨s',v',b1,?_⟩;rw[<-b2,qg];simp[-av,lI,iW,h,w,a1]
  . obtain rfl:k=l.length:=(by omega);refine⟨s,v,by simpa using hM,?_⟩;rw[qg];simp[lI]
theorem aiv(hc:Sem c)(z:Bool)(l:List (List Nat))(hl:l.length<=uq)(s:St)(hw:Wf s):∃v s',c 179 [iW z l] s=some (v,s')/\Mk 1 s s' v (l.map zl):=by
 obtain⟨s',v,hM,L⟩:=aei (c:=c) z l hl (l.length+1) (λvs NY=>fO vs λx3 vs=>iT vs (aq c .move [x3] NY λHz Q8=>aq c .move [Hz] Q8 λx2 Q9=>some (x2,Q9))) (s0:=s) l.length 0 s .af (Mk.start hw (Grew.refl hw)) (by omega) (by omega);obtain⟨cY,t1,t2⟩:=hM.tidy;refine⟨v,cY,?_,t2⟩;rw[Mw hc (l.length+1) (r:=(v,s')),t1];rw[Ph];simp at L;simp[L]
theorem af0(z:Bool)(l:List (Ty))(hl:l.length<=uq)(F:Nat)(k2){s0:St}:∀(m k:Nat)(s:St)(v:AV),Mk 3 s0 s v ((l.take k).map Ty.cells)->l.length<=k+m->k<=l.length->
  ∃s' v',Mk 3 s0 s' v' (l.map Ty.cells)/\kJ c F k2 (m+1) [eX z l,v,.int .i64 (k:Int)] s=k2 [v'] s':=by
 have hl:l.length<=1048576:=hl;have lI:∀(K:AV->St->Option (AV×St))(s:St),aq c (.lenB .l) [eX z l] s K=K (.int .i64 (l.length:Int)) s:=λK s=>by unfold eX;rw[fE];simp
 intro m;induction m with
 |zero=>
  intro k s v hM h1 h2;obtain rfl:k=l.length:=by omega
  refine⟨s,v,by simpa using hM,?_⟩;rw[qU];simp[lI]
 |succ m ih=>
  intro k s v hM h1 h2;by_cases h:k<l.length
  . have w:ax .i64 ((k:Int)+1)=((k+1:Nat):Int):=wrap64 (by omega) (by omega);have hlen:((l.take k).map Ty.cells).length=k:=(by simp;omega);obtain⟨s5,v5,a1,a2,a3,_⟩:=hM.push (c:=c) (R:=AV×St) (bytes:=40) (z:=[.str [],.str [],.int .u8 0]) (x:= .agg l[k].cells) rfl rfl (by simp) (by decide) (by rw[hlen];omega) (by rw[hlen];omega);have e:(l.take (k+1)).map Ty.cells=(l.take k).map Ty.cells++[(.agg l[k].cells:AV).cells]:=(by rw[Zc6 h,Zc8];rfl);rw[<-e]at a2;obtain⟨s',v',b1,b2⟩:=ih (k+1) s5 v5 a2 (by omega) (by omega);refine⟨s',v',b1,?_⟩;rw[<-b2,qU];simp[-av,lI,eX,h,w,a1,Ty.len]
  . obtain rfl:k=l.length:=(by omega);refine⟨s,v,by simpa using hM,?_⟩;rw[qU];simp[lI]
theorem ajC(hc:Sem c)(z:Bool)(l:List (Ty))(hl:l.length<=uq)(s:St)(hw:Wf s):∃v s',c 54 [eX z l] s=some (v,s')/\Mk 3 s s' v (l.map Ty.cells):=by
 obtain⟨s',v,hM,L⟩:=af0 (c:=c) z l hl (l.length+1) (λvs NY=>fO vs λx3 vs=>iT vs (aq c .move [x3] NY λHz Q8=>aq c .move [Hz] Q8 λx2 Q9=>some (x2,Q9))) (s0:=s) l.length 0 s .af (Mk.start hw (Grew.refl hw)) (by omega) (by omega);obtain⟨cY,t1,t2⟩:=hM.tidy;refine⟨v,cY,?_,t2⟩;rw[Nz hc (l.length+1) (r:=(v,s')),t1];rw[Re];simp at L;simp[L]
theorem aej(z:Bool)(l:List (Rl))(hl:l.length<=uq)(F:Nat)(k2){s0:St}:∀(m k:Nat)(s:St)(v:AV),Mk 6 s0 s v ((l.take k).map Rl.cells)->l.length<=k+m->k<=l.length->
  ∃s' v',Mk 6 s0 s' v' (l.map Rl.cells)/\j8 c F k2 (m+1) [gK z l,v,.int .i64 (k:Int)] s=k2 [v'] s':=by
 have hl:l.length<=1048576:=hl;have lI:∀(K:AV->St->Option (AV×St))(s:St),aq c (.lenB .l) [gK z l] s K=K (.int .i64 (l.length:Int)) s:=λK s=>by unfold gK;rw[fE];simp
 intro m;induction m with
 |zero=>
  intro k s v hM h1 h2;obtain rfl:k=l.length:=by omega
  refine⟨s,v,by simpa using hM,?_⟩;rw[qh];simp[lI]
 |succ m ih=>
  intro k s v hM h1 h2;by_cases h:k<l.length
  . have w:ax .i64 ((k:Int)+1)=((k+1:Nat):Int):=wrap64 (by omega) (by omega);have hlen:((l.take k).map Rl.cells).length=k:=(by simp;omega);obtain⟨s5,v5,a1,a2,a3,_⟩:=hM.push (c:=c) (R:=AV×St) (bytes:=72) (z:=[.int .u8 0,.int .i64 0,.str [],.str [],.str [],.int .i64 0]) (x:= .agg l[k].cells) rfl rfl (by simp) (by decide) (by rw[hlen];omega) (by rw[hlen];omega);have e:(l.take (k+1)).map Rl.cells=(l.take k).map Rl.cells++[(.agg l[k].cells:AV).cells]:=(by rw[Zc6 h,Zc8];rfl);rw[<-e]at a2;obtain⟨s',v',b1,b2⟩:=ih (k+1) s5 v5 a2 (by omega) (by omega);refine⟨s',v',b1,?_⟩;rw[<-b2,qh];simp[-av,lI,gK,h,w,a1]
  . obtain rfl:k=l.length:=(by omega);refine⟨s,v,by simpa using hM,?_⟩;rw[qh];simp[lI]
theorem aiw(hc:Sem c)(z:Bool)(l:List (Rl))(hl:l.length<=uq)(s:St)(hw:Wf s):∃v s',c 55 [gK z l] s=some (v,s')/\Mk 6 s s' v (l.map Rl.cells):=by
 obtain⟨s',v,hM,L⟩:=aej (c:=c) z l hl (l.length+1) (λvs NY=>fO vs λx3 vs=>iT vs (aq c .move [x3] NY λHz Q8=>aq c .move [Hz] Q8 λx2 Q9=>some (x2,Q9))) (s0:=s) l.length 0 s .af (Mk.start hw (Grew.refl hw)) (by omega) (by omega);obtain⟨cY,t1,t2⟩:=hM.tidy;refine⟨v,cY,?_,t2⟩;rw[Mx hc (l.length+1) (r:=(v,s')),t1];rw[Pj];simp at L;simp[L]
theorem aix(hc:Sem c)(t:aB)(ht:t.Real)(s:St)(hw:Wf s):∃v s',c 112 [.agg t.cells] s=some (.agg (t.aj v),s')/\Mk 1 s s' v (t.jr.map bV):=by
 have cg:Wf (ah s (.cells t.cells 0)):=bn hw;have g1:=Grew.ah hw (.cells t.cells 0);have kW:Wf (ah (ah s (.cells t.cells 0)) (.cells [.str [],.int .u8 0,.int .i64 0,.int .i64 0,.af,.int .i64 0,.int .i64 0] 0)):=bn cg;have g2:=Grew.ah cg (.cells [.str [],.int .u8 0,.int .i64 0,.int .i64 0,.af,.int .i64 0,.int .i64 0] 0);have x1:(ah (ah s (.cells t.cells 0)) (.cells [.str [],.int .u8 0,.int .i64 0,.int .i64 0,.af,.int .i64 0,.int .i64 0] 0)).heap.get s.next=some (.cells t.cells 0):=g2.get (az _ _);have x2:=az (ah s (.cells t.cells 0)) (.cells [.str [],.int .u8 0,.int .i64 0,.int .i64 0,.af,.int .i64 0,.int .i64 0] 0);have XN:s.next≠(ah s (.cells t.cells 0)).next:=by rw[bD];exact Pos.Ll _
 have iT:s.next.toNat<(ah s (.cells t.cells 0)).next.toNat:=by rw[bD,Pos.aC];omega
 have nl2:(ah s (.cells t.cells 0)).next.toNat<(ah (ah s (.cells t.cells 0)) (.cells [.str [],.int .u8 0,.int .i64 0,.int .i64 0,.af,.int .i64 0,.int .i64 0] 0)).next.toNat:=by rw[bD (ah s (.cells t.cells 0)),Pos.aC];omega
 have gg:=g1.trans g2;have c4:t.cells[4]? =some (ints t.oz t.jr):=rfl;generalize rJ:ah (ah s (.cells t.cells 0)) (.cells [.str [],.int .u8 0,.int .i64 0,.int .i64 0,.af,.int .i64 0,.int .i64 0] 0)=s2 at kW g2 x1 x2 nl2 gg;generalize yM:(ah s (.cells t.cells 0)).next=p2 at x2 XN iT nl2;obtain⟨v,s3,C,M⟩:=aak hc t.oz t.jr ht.jr s2 kW;obtain⟨vc,v1⟩:=M.cells;have y1:=M.ai.get x1;have y2:=M.ai.get x2;have jy:∀b,aK v=some b->s2.next.toNat<=b.toNat:=M.new;have bw:∀(K:AV->St->Option (AV×St)),aq c (.store 1) [.ptr s.next 4,v] s3 K=K .undef (aY s3 s.next (.cells (t.aj v) 0)):=λK=>by rw[bP c K s3 1 s.next 4 v t.cells y1 (by rw[vc];rfl) (by rw[aB.len];omega) (by rw[vc];exact v1),vc];rfl
 have nx3:=M.ai.next;have M1:Mk 1 s s3 v (t.jr.map bV):=M.back hw gg;have M2:=M1.store (p:=s.next) (b:= .cells (t.aj v) 0) (Za3 _) (by omega) (λe=>by have:=jy _ e;omega);have z1:(aY s3 s.next (.cells (t.aj v) 0)).heap.get s.next=some (.cells (t.aj v) 0):=bN _ _ _;have z2:(aY s3 s.next (.cells (t.aj v) 0)).heap.get p2=some (.cells [.str [],.int .u8 0,.int .i64 0,.int .i64 0,.af,.int .i64 0,.int .i64 0] 0):=by rw[aG XN];exact y2
 have nz:(aY s3 s.next (.cells (t.aj v) 0)).next=s3.next:=rfl;generalize hs4:aY s3 s.next (.cells (t.aj v) 0)=s4 at bw M2 z1 z2 nz;have one:aM (t.aj v)=true:=by
  simp only[aM]at v1;unfold aB.aj;simp only[aM,AV.one,v1,Zi2,Zi1]at*
 have hcut:cut (t.aj v) 0 7=some (t.aj v):=cM rfl;have w7:∀(K:AV->St->Option (AV×St)),aq c (.store 7) [.ptr p2 0,.agg (t.aj v)] s4 K=K .undef (aY s4 p2 (.cells (t.aj v) 0)):=λK=>by rw[bP c K s4 7 p2 0 (.agg (t.aj v)) _ z2 rfl (by simp) one];rfl
 have M3:=M2.store (p:=p2) (b:= .cells (t.aj v) 0) (by omega) (by rw[nz];omega) (λe=>by have:=jy _ e;omega);have mem:v∈t.aj v:=by simp[aB.aj]
 obtain⟨cY,t1,_,t3⟩:=M3.Gc mem (λu hu=>by simp only[aB.aj,Za8,Zb7,Ze4]at hu;rcases hu with rfl|rfl|rfl|rfl|rfl|rfl|rfl<;>first|exact dm.str ht.name|exact dm.int _ _|exact M.inst);refine⟨v,cY,?_,t3⟩;rw[My hc 1 (r:=(.agg (t.aj v),aY s4 p2 (.cells (t.aj v) 0))),t1];rw[Pk];simp[rJ,yM,x1,c4,C,bw,z1,hcut,w7]
theorem aiy(hc:Sem c)(t:aQ)(ht:t.Real)(s:St)(hw:Wf s):∃v s',c 113 [.agg t.cells] s=some (.agg (t.aj v),s')/\Mk 1 s s' v (t.tg.map zl):=by
 have cg:Wf (ah s (.cells t.cells 0)):=bn hw;have g1:=Grew.ah hw (.cells t.cells 0);have kW:Wf (ah (ah s (.cells t.cells 0)) (.cells [.str [],.str [],.str [],.int .i64 0,.int .i64 0,.str [],.bool false,.bool false,.af] 0)):=bn cg;have g2:=Grew.ah cg (.cells [.str [],.str [],.str [],.int .i64 0,.int .i64 0,.str [],.bool false,.bool false,.af] 0);have x1:(ah (ah s (.cells t.cells 0)) (.cells [.str [],.str [],.str [],.int .i64 0,.int .i64 0,.str [],.bool false,.bool false,.af] 0)).heap.get s.next=some (.cells t.cells 0):=g2.get (az _ _);have x2:=az (ah s (.cells t.cells 0)) (.cells [.str [],.str [],.str [],.int .i64 0,.int .i64 0,.str [],.bool false,.bool false,.af] 0);have XN:s.next≠(ah s (.cells t.cells 0)).next:=by rw[bD];exact Pos.Ll _
 have iT:s.next.toNat<(ah s (.cells t.cells 0)).next.toNat:=by rw[bD,Pos.aC];omega
 have nl2:(ah s (.cells t.cells 0)).next.toNat<(ah (ah s (.cells t.cells 0)) (.cells [.str [],.str [],.str [],.int .i64 0,.int .i64 0,.str [],.bool false,.bool false,.af] 0)).next.toNat:=by rw[bD (ah s (.cells t.cells 0)),Pos.aC];omega
 have gg:=g1.trans g2;have c4:t.cells[8]? =some (iW t.tz t.tg):=rfl;generalize rJ:ah (ah s (.cells t.cells 0)) (.cells [.str [],.str [],.str [],.int .i64 0,.int .i64 0,.str [],.bool false,.bool false,.af] 0)=s2 at kW g2 x1 x2 nl2 gg;generalize yM:(ah s (.cells t.cells 0)).next=p2 at x2 XN iT nl2;obtain⟨v,s3,C,M⟩:=aiv hc t.tz t.tg ht.tg s2 kW;obtain⟨vc,v1⟩:=M.cells;have y1:=M.ai.get x1;have y2:=M.ai.get x2;have jy:∀b,aK v=some b->s2.next.toNat<=b.toNat:=M.new;have bw:∀(K:AV->St->Option (AV×St)),aq c (.store 1) [.ptr s.next 8,v] s3 K=K .undef (aY s3 s.next (.cells (t.aj v) 0)):=λK=>by rw[bP c K s3 1 s.next 8 v t.cells y1 (by rw[vc];rfl) (by rw[aQ.len];omega) (by rw[vc];exact v1),vc];rfl
 have nx3:=M.ai.next;have M1:Mk 1 s s3 v (t.tg.map zl):=M.back hw gg;have M2:=M1.store (p:=s.next) (b:= .cells (t.aj v) 0) (Za3 _) (by omega) (λe=>by have:=jy _ e;omega);have z1:(aY s3 s.next (.cells (t.aj v) 0)).heap.get s.next=some (.cells (t.aj v) 0):=bN _ _ _;have z2:(aY s3 s.next (.cells (t.aj v) 0)).heap.get p2=some (.cells [.str [],.str [],.str [],.int .i64 0,.int .i64 0,.str [],.bool false,.bool false,.af] 0):=by rw[aG XN];exact y2
 have nz:(aY s3 s.next (.cells (t.aj v) 0)).next=s3.next:=rfl;generalize hs4:aY s3 s.next (.cells (t.aj v) 0)=s4 at bw M2 z1 z2 nz;have one:aM (t.aj v)=true:=by
  simp only[aM]at v1;unfold aQ.aj;simp only[aM,AV.one,v1,Zi2,Zi1]at*
 have hcut:cut (t.aj v) 0 9=some (t.aj v):=cM rfl;have w7:∀(K:AV->St->Option (AV×St)),aq c (.store 9) [.ptr p2 0,.agg (t.aj v)] s4 K=K .undef (aY s4 p2 (.cells (t.aj v) 0)):=λK=>by rw[bP c K s4 9 p2 0 (.agg (t.aj v)) _ z2 rfl (by simp) one];rfl
 have M3:=M2.store (p:=p2) (b:= .cells (t.aj v) 0) (by omega) (by rw[nz];omega) (λe=>by have:=jy _ e;omega);have mem:v∈t.aj v:=by simp[aQ.aj]
 obtain⟨cY,t1,_,t3⟩:=M3.Gc mem (λu hu=>by simp only[aQ.aj,Za8,Zb7,Ze4]at hu;rcases hu with rfl|rfl|rfl|rfl|rfl|rfl|rfl|rfl|rfl<;>first|exact dm.str ht.name|exact dm.str ht.zf|exact dm.str ht.jP|exact dm.str ht.o8|exact dm.int _ _|exact dm.bool _|exact M.inst);refine⟨v,cY,?_,t3⟩;rw[Mz hc 1 (r:=(.agg (t.aj v),aY s4 p2 (.cells (t.aj v) 0))),t1];rw[Pm];simp[rJ,yM,x1,c4,C,bw,z1,hcut,w7]
theorem ac3(hc:Sem c)(z:Bool)(ts:List aB)(hl:ts.length<=1000)(hr:∀t∈ts,t.Real)(F:Nat)(k2){s0:St}:∀(m k f:Nat)(s:St)(V:AV)(rows:List (List AV)),m<f->k+m=ts.length->TS s0 s V (ts.take k) rows->
  ∃s' V' mQ,TS s0 s' V' ts mQ/\jI c F k2 f [tabs z ts,V,.int .i64 (k:Int)] s=k2 [V'] s':=by
 have lI:∀(K:AV->St->Option (AV×St))(s:St),aq c (.lenB .l) [tabs z ts] s K=K (.int .i64 (ts.length:Int)) s:=λK s=>by unfold tabs;rw[fE];simp
 intro m;induction m with
 |zero=>
  intro k f s V rows hf h1 hT;obtain⟨f,rfl⟩:∃g,f=g+1:=⟨f - 1,by omega⟩
  obtain rfl:k=ts.length:=by omega
  refine⟨s,V,rows,by simpa using hT,?_⟩;rw[xz];simp[lI]
 |succ m ih=>
  intro k f s V rows hf h1 hT;obtain⟨f,rfl⟩:∃g,f=g+1:=⟨f - 1,by omega⟩
  have h:k<ts.length:=by omega
  have w:ax .i64 ((k:Int)+1)=((k+1:Nat):Int):=wrap64 (by omega) (by omega);have hw:=hT.out.ai.wf;obtain⟨v,s1,C,M⟩:=aix hc ts[k] (hr _ (Zc2 h)) s hw;have O1:=hT.out.grow M.ai;have rl:rows.length=k:=by rw[hT.len];simp;omega
  obtain⟨s5,V5,a1,a2,a3,a4⟩:=O1.push (c:=c) (R:=AV×St) (bytes:=80) (z:=[.str [],.int .u8 0,.int .i64 0,.int .i64 0,.af,.int .i64 0,.int .i64 0]) (x:= .agg (ts[k].aj v)) rfl rfl (aB.Gi _ M.cells.2) (by decide) (by rw[rl];omega) (by rw[rl];omega);have Mv:=M.back hT.out.jq hT.out.ai;have vV:∀b,aK v=some b->aK V≠some b:=λb hb e=>by have p1:=M.new b hb;have p2:=hT.out.own.lt hw e;omega
  have T5:TS s0 s5 V5 (ts.take (k+1)) (rows++[ts[k].aj v]):=by
   (refine⟨a2,by simp[rl];omega,λi t r hi zn=> ?_⟩;have small:∀u:AV,∀(rw:List (List AV)),Mk 1 s0 s1 u rw->(∀b,aK u=some b->aK V≠some b)->Mk 1 s0 s5 u rw/\∀b,aK u=some b->aK V5≠some b:=λu rw hu cZ=>by refine⟨Mk.oP hu a2.ai λb x hb hx=>a3 b x (cZ b hb) hx,λb hb e=> ?_⟩;have p1:=a4 b e;have p2:=hu.own.lt hu.ai.wf hb;omega);by_cases Ad:i<k
   .    (rw[Zc1 (by omega)]at zn;have Ak:(ts.take k)[i]? =some t:=by rw[Zd5]at hi ⊢;rw[Zb3 (by omega)]at hi;rw[Zb3 Ad];exact hi);obtain⟨u,e1,e2,e3⟩:=hT.dV i t r Ak zn;obtain⟨f1,f2⟩:=small u _ (e2.grow M.ai) e3;exact⟨u,e1,f1,f2⟩
   .    have aqK:i=k:=(by have:=(Za1.1 hi).1;simp at this;omega);subst aqK;rw[Zb9 (by omega)]at zn;simp[rl]at zn;rw[Zd5,Zb3 (by omega),H0 h]at hi;cases hi;obtain⟨f1,f2⟩:=small v _ Mv vV;exact⟨v,zn.symm,f1,f2⟩
  obtain⟨s',V',mQ,b1,b2⟩:=ih (k+1) f s5 V5 _ (by omega) (by omega) T5;refine⟨s',V',mQ,b1,?_⟩;rw[<-b2,xz];unfold tabs at lI ⊢;simp[-av,lI,h,w,aB.len,C,a1]
theorem af1(hc:Sem c)(z:Bool)(ts:List aB)(hl:ts.length<=1000)(hr:∀t∈ts,t.Real)(s:St)(hw:Wf s):∃V s' rows,c 52 [tabs z ts] s=some (V,s')/\TS s s' V ts rows:=by
 obtain⟨s',V,rows,hT,L⟩:=ac3 hc z ts hl hr (ts.length+1) (λvs NY=>fO vs λx3 vs=>iT vs (aq c .move [x3] NY λHz Q8=>aq c .move [Hz] Q8 λx2 Q9=>some (x2,Q9))) ts.length 0 (ts.length+1) s .af [] (by omega) (by omega) ⟨Mk.start hw (Grew.refl hw),by simp,λi t r h=>by simp at h⟩;have fin:∃cY,tidy s (V,s')=(V,cY)/\TS s cY V ts rows:=by
  unfold tidy;by_cases hp:Plain (V,s').1/\aT s (V,s').2
  . rw[Zb3 hp];refine⟨s,rfl,?_⟩;rcases hT.out.loose with⟨b,off,n,e⟩|⟨rI,e⟩
    .   rw[e]at hp;exact(Go.Ai.th hp.1).elim
    .   exact⟨rI s hw,hT.len,λi t r _ h=>by rw[e]at h;simp at h⟩
  . rw[Za7 hp];exact⟨s',rfl,hT⟩
 obtain⟨cY,t1,t2⟩:=fin;refine⟨V,cY,rows,?_,t2⟩;rw[K7 hc (ts.length+1) (r:=(V,s')),t1];rw[NA];simp at L;simp[L]
theorem ac4(hc:Sem c)(z:Bool)(ts:List aQ)(hl:ts.length<=1000)(hr:∀t∈ts,t.Real)(F:Nat)(k2){s0:St}:∀(m k f:Nat)(s:St)(V:AV)(rows:List (List AV)),m<f->k+m=ts.length->GS s0 s V (ts.take k) rows->
  ∃s' V' mQ,GS s0 s' V' ts mQ/\jJ c F k2 f [cK z ts,V,.int .i64 (k:Int)] s=k2 [V'] s':=by
 have lI:∀(K:AV->St->Option (AV×St))(s:St),aq c (.lenB .l) [cK z ts] s K=K (.int .i64 (ts.length:Int)) s:=λK s=>by unfold cK;rw[fE];simp
 intro m;induction m with
 |zero=>
  intro k f s V rows hf h1 hT;obtain⟨f,rfl⟩:∃g,f=g+1:=⟨f - 1,by omega⟩
  obtain rfl:k=ts.length:=by omega
  refine⟨s,V,rows,by simpa using hT,?_⟩;rw[xA];simp[lI]
 |succ m ih=>
  intro k f s V rows hf h1 hT;obtain⟨f,rfl⟩:∃g,f=g+1:=⟨f - 1,by omega⟩
  have h:k<ts.length:=by omega
  have w:ax .i64 ((k:Int)+1)=((k+1:Nat):Int):=wrap64 (by omega) (by omega);have hw:=hT.out.ai.wf;obtain⟨v,s1,C,M⟩:=aiy hc ts[k] (hr _ (Zc2 h)) s hw;have O1:=hT.out.grow M.ai;have rl:rows.length=k:=by rw[hT.len];simp;omega
  obtain⟨s5,V5,a1,a2,a3,a4⟩:=O1.push (c:=c) (R:=AV×St) (bytes:=112) (z:=[.str [],.str [],.str [],.int .i64 0,.int .i64 0,.str [],.bool false,.bool false,.af]) (x:= .agg (ts[k].aj v)) rfl rfl (aQ.Gi _ M.cells.2) (by decide) (by rw[rl];omega) (by rw[rl];omega);have Mv:=M.back hT.out.jq hT.out.ai;have vV:∀b,aK v=some b->aK V≠some b:=λb hb e=>by have p1:=M.new b hb;have p2:=hT.out.own.lt hw e;omega
  have T5:GS s0 s5 V5 (ts.take (k+1)) (rows++[ts[k].aj v]):=by
   (refine⟨a2,by simp[rl];omega,λi t r hi zn=> ?_⟩;have small:∀u:AV,∀(rw:List (List AV)),Mk 1 s0 s1 u rw->(∀b,aK u=some b->aK V≠some b)->Mk 1 s0 s5 u rw/\∀b,aK u=some b->aK V5≠some b:=λu rw hu cZ=>by refine⟨Mk.oP hu a2.ai λb x hb hx=>a3 b x (cZ b hb) hx,λb hb e=> ?_⟩;have p1:=a4 b e;have p2:=hu.own.lt hu.ai.wf hb;omega);by_cases Ad:i<k
   .    (rw[Zc1 (by omega)]at zn;have Ak:(ts.take k)[i]? =some t:=by rw[Zd5]at hi ⊢;rw[Zb3 (by omega)]at hi;rw[Zb3 Ad];exact hi);obtain⟨u,e1,e2,e3⟩:=hT.dV i t r Ak zn;obtain⟨f1,f2⟩:=small u _ (e2.grow M.ai) e3;exact⟨u,e1,f1,f2⟩
   .    have aqK:i=k:=(by have:=(Za1.1 hi).1;simp at this;omega);subst aqK;rw[Zb9 (by omega)]at zn;simp[rl]at zn;rw[Zd5,Zb3 (by omega),H0 h]at hi;cases hi;obtain⟨f1,f2⟩:=small v _ Mv vV;exact⟨v,zn.symm,f1,f2⟩
  obtain⟨s',V',mQ,b1,b2⟩:=ih (k+1) f s5 V5 _ (by omega) (by omega) T5;refine⟨s',V',mQ,b1,?_⟩;rw[<-b2,xA];unfold cK at lI ⊢;simp[-av,lI,h,w,aQ.len,C,a1]
theorem af2(hc:Sem c)(z:Bool)(ts:List aQ)(hl:ts.length<=1000)(hr:∀t∈ts,t.Real)(s:St)(hw:Wf s):∃V s' rows,c 53 [cK z ts] s=some (V,s')/\GS s s' V ts rows:=by
 obtain⟨s',V,rows,hT,L⟩:=ac4 hc z ts hl hr (ts.length+1) (λvs NY=>fO vs λx3 vs=>iT vs (aq c .move [x3] NY λHz Q8=>aq c .move [Hz] Q8 λx2 Q9=>some (x2,Q9))) ts.length 0 (ts.length+1) s .af [] (by omega) (by omega) ⟨Mk.start hw (Grew.refl hw),by simp,λi t r h=>by simp at h⟩;have fin:∃cY,tidy s (V,s')=(V,cY)/\GS s cY V ts rows:=by
  unfold tidy;by_cases hp:Plain (V,s').1/\aT s (V,s').2
  . rw[Zb3 hp];refine⟨s,rfl,?_⟩;rcases hT.out.loose with⟨b,off,n,e⟩|⟨rI,e⟩
    .   rw[e]at hp;exact(Go.Ai.th hp.1).elim
    .   exact⟨rI s hw,hT.len,λi t r _ h=>by rw[e]at h;simp at h⟩
  . rw[Za7 hp];exact⟨s',rfl,hT⟩
 obtain⟨cY,t1,t2⟩:=fin;refine⟨V,cY,rows,?_,t2⟩;rw[K8 hc (ts.length+1) (r:=(V,s')),t1];rw[NB];simp at L;simp[L]
def aB.gD(t t':aB):Prop:=∃z,t'={ t with oz:=z }
def aQ.gD(g g':aQ):Prop:=∃z,g'={ g with tz:=z }
theorem aiz{α:Type}(f:α->AV)(s:St)(d:Nat)(l:List α)(hf:∀a∈l,ey s d (f a)=f a):(l.map λa=>[f a]).map (λr=>r.map (ey s d))=l.map λa=>[f a]:=by
 rw[Zh4];refine Zj2 λa ha=> ?_
 simp only[Function.comp,Zd2,Zg3,hf a ha]
theorem Lq(s:St)(d:Nat)(k:IntKind)(i:Int):ey s d (.int k i)= .int k i:=by cases d<;>rfl
theorem Lp(s:St)(d:Nat)(l:List Nat):ey s d (.str l)= .str l:=by cases d<;>rfl
theorem aqL(s:St)(d:Nat)(b:Bool):ey s d (.bool b)= .bool b:=by cases d<;>rfl
theorem aiA{s0 s:St}{v:AV}{l:List Int}(h:Mk 1 s0 s v (l.map bV))(d:Nat):∃z,ey s (d+1) v=ints z l:=by
 obtain⟨z,hz⟩:=h.own.ey (d:=d) h.row;refine⟨z,?_⟩;rw[hz];unfold ints;rw[aiz (λi=>AV.int .i64 i) s d l λa _=>Lq s d _ _]
theorem aqM{s0 s:St}{v:AV}{l:List (List Nat)}(h:Mk 1 s0 s v (l.map zl))(d:Nat):∃z,ey s (d+1) v=iW z l:=by
 obtain⟨z,hz⟩:=h.own.ey (d:=d) h.row;refine⟨z,?_⟩;rw[hz];unfold iW;rw[aiz (λi=>AV.str i) s d l λa _=>Lp s d _]
theorem as6{s0 s:St}{v:AV}{l:List Ty}(h:Mk 3 s0 s v (l.map Ty.cells))(d:Nat):∃z,ey s (d+1) v=eX z l:=by
 obtain⟨z,hz⟩:=h.own.ey (d:=d) h.row;refine⟨z,?_⟩;rw[hz];unfold eX;rw[Zh4];congr 1;refine Zj2 λa _=> ?_
 simp only[Function.comp,Ty.cells,Zd2,Zg3,Lp,Lq]
theorem as7{s0 s:St}{v:AV}{l:List Rl}(h:Mk 6 s0 s v (l.map Rl.cells))(d:Nat):∃z,ey s (d+1) v=gK z l:=by
 obtain⟨z,hz⟩:=h.own.ey (d:=d) h.row;refine⟨z,?_⟩;rw[hz];unfold gK;rw[Zh4];congr 1;refine Zj2 λa _=> ?_
 simp only[Function.comp,Rl.cells,Zd2,Zg3,Lp,Lq]
theorem abw{α:Type}(P:α->α->Prop)(cells:α->List AV)(g:List AV->List AV):∀(ts:List α)(rows:List (List AV)),rows.length=ts.length->(∀(i:Nat)(t:α)(r:List AV),ts[i]? =some t->rows[i]? =some r->∃t',P t t'/\g r=cells t')->
  ∃DW:List α,rows.map g=DW.map cells/\DW.length=ts.length/\∀(i:Nat)(t t':α),ts[i]? =some t->DW[i]? =some t'->P t t'
 |[],rows,hl,_=>⟨[],by rw[Zc5 hl];rfl,rfl,λi t t' h=>by simp at h⟩
 |t::ts,[],hl,_=>by simp at hl
 |t::ts,r::rows,hl,h=>by
  obtain⟨t',h1,h2⟩:=h 0 t r rfl rfl;obtain⟨DW,k1,k2,k3⟩:=abw P cells g ts rows (by simpa using hl) (λi t r h3 h4=>h (i+1) t r (by simpa using h3) (by simpa using h4));refine⟨t'::DW,by simp[h2,k1],by simp[k2],λi u u' h3 h4=> ?_⟩;cases i with
  |zero=>simp at h3 h4;subst h3;subst h4;exact h1
  |succ i=>exact k3 i u u' (by simpa using h3) (by simpa using h4)
theorem TS.ey{s0 s:St}{V:AV}{ts:List aB}{rows:List (List AV)}(h:TS s0 s V ts rows)(d:Nat):∃z DW,Go.Ai.ey s (d+2) V=tabs z DW/\DW.length=ts.length/\∀(i:Nat)(t t':aB),ts[i]? =some t->DW[i]? =some t'->t.gD t':=by
 obtain⟨z,hz⟩:=h.out.own.ey (d:=d+1) h.out.row;obtain⟨DW,k1,k2,k3⟩:=abw aB.gD aB.cells (λr=>r.map (Go.Ai.ey s (d+1))) ts rows h.len λi t r hi hr=>by
  obtain⟨v,rfl,hM,_⟩:=h.dV i t r hi hr;obtain⟨z2,hz2⟩:=aiA hM d;refine⟨{ t with oz:=z2 },⟨z2,rfl⟩,?_⟩;simp only[aB.aj,aB.cells,Zd2,Zg3,Lp,Lq,hz2]
 refine⟨z,DW,?_,k2,k3⟩;rw[hz,k1];rfl
theorem GS.ey{s0 s:St}{V:AV}{ts:List aQ}{rows:List (List AV)}(h:GS s0 s V ts rows)(d:Nat):∃z DW,Go.Ai.ey s (d+2) V=cK z DW/\DW.length=ts.length/\∀(i:Nat)(t t':aQ),ts[i]? =some t->DW[i]? =some t'->t.gD t':=by
 obtain⟨z,hz⟩:=h.out.own.ey (d:=d+1) h.out.row;obtain⟨DW,k1,k2,k3⟩:=abw aQ.gD aQ.cells (λr=>r.map (Go.Ai.ey s (d+1))) ts rows h.len λi t r hi hr=>by
  obtain⟨v,rfl,hM,_⟩:=h.dV i t r hi hr;obtain⟨z2,hz2⟩:=aqM hM d;refine⟨{ t with tz:=z2 },⟨z2,rfl⟩,?_⟩;simp only[aQ.aj,aQ.cells,Zd2,Zg3,Lp,Lq,aqL,hz2]
 refine⟨z,DW,?_,k2,k3⟩;rw[hz,k1];rfl
theorem adV(hc:Sem c)(p:bM)(hp:p.Real)(s:St)(hw:Wf s):∃Vs s',c 17 [.agg p.cells] s=some (.agg Vs,s')/\PS s s' Vs p:=by
 have cg:Wf (ah s (.cells p.cells 0)):=bn hw;have kW:Wf (ah (ah s (.cells p.cells 0)) (.cells [.af,.af,.af,.af,.af] 0)):=bn cg;have g2:=(Grew.ah hw (.cells p.cells 0)).trans (Grew.ah cg (.cells [.af,.af,.af,.af,.af] 0));have x1:(ah (ah s (.cells p.cells 0)) (.cells [.af,.af,.af,.af,.af] 0)).heap.get s.next=some (.cells p.cells 0):=(Grew.ah cg _).get (az _ _);have x2:=az (ah s (.cells p.cells 0)) (.cells [.af,.af,.af,.af,.af] 0);have nl:s.next.toNat<(ah s (.cells p.cells 0)).next.toNat:=by rw[bD,Pos.aC];omega
 generalize Fm:ah (ah s (.cells p.cells 0)) (.cells [.af,.af,.af,.af,.af] 0)=s1 at kW g2 x1 x2;generalize yM:(ah s (.cells p.cells 0)).next=p2 at x2 nl;obtain⟨V1,s2,r1,C1,T1⟩:=af1 hc p.tz p.ts hp.ts hp.tab s1 kW;obtain⟨V2,s3,r2,C2,T2⟩:=af2 hc p.gz p.gs hp.gs hp.qj s2 T1.out.ai.wf;obtain⟨V3,s4,C3,T3⟩:=ajC hc p.yz p.ys hp.ys s3 T2.out.ai.wf;obtain⟨V4,s5,C4,T4⟩:=aak hc p.cz p.cs hp.cs s4 T3.ai.wf;obtain⟨V5,s6,C5,T5⟩:=aiw hc p.rz p.rs hp.rs s5 T4.ai.wf;have XO:=T1.out.ai;have G23:=T2.out.ai;have G34:=T3.ai;have G45:=T4.ai;have G56:=T5.ai;have y2:=XO.get x1;have y3:=G23.get y2;have y4:=G34.get y3;have y5:=G45.get y4;have z6:=G56.get (G45.get (G34.get (G23.get (XO.get x2))));have lt2:=kW _ _ x2;have L0:∀(ok:AV->Bool)(K:AV->Option (AV×St)),ok (tabs p.tz p.ts)=true->ia (.load none) [.ptr s.next 0] s1.heap ok K=K (tabs p.tz p.ts):=λok K h=>uP (by rw[x1];rfl) ok h K
 have L1:∀(ok:AV->Bool)(K:AV->Option (AV×St)),ok (cK p.gz p.gs)=true->ia (.load none) [.ptr s.next 1] s2.heap ok K=K (cK p.gz p.gs):=λok K h=>uP (by rw[y2];rfl) ok h K
 have L2:∀(ok:AV->Bool)(K:AV->Option (AV×St)),ok (eX p.yz p.ys)=true->ia (.load none) [.ptr s.next 2] s3.heap ok K=K (eX p.yz p.ys):=λok K h=>uP (by rw[y3];rfl) ok h K
 have L3:∀(ok:AV->Bool)(K:AV->Option (AV×St)),ok (ints p.cz p.cs)=true->ia (.load none) [.ptr s.next 3] s4.heap ok K=K (ints p.cz p.cs):=λok K h=>uP (by rw[y4];rfl) ok h K
 have L4:∀(ok:AV->Bool)(K:AV->Option (AV×St)),ok (gK p.rz p.rs)=true->ia (.load none) [.ptr s.next 4] s5.heap ok K=K (gK p.rz p.rs):=λok K h=>uP (by rw[y5];rfl) ok h K
 have b1:=vD (Tq p.gz p.gs);have b2:=vD (alZ p.yz p.ys);have b3:=vD (DQ (d:=2) p.cz p.cs);have b4:=vD (XB p.rz p.rs);have q11:=lu (p:=s.next) (o:=1) (h:=s1.heap) (v:=cK p.gz p.gs) (by rw[x1];rfl) b1;have q21:=lu (p:=s.next) (o:=2) (h:=s1.heap) (v:=eX p.yz p.ys) (by rw[x1];rfl) b2;have q22:=lu (p:=s.next) (o:=2) (h:=s2.heap) (v:=eX p.yz p.ys) (by rw[y2];rfl) b2;have q31:=lu (p:=s.next) (o:=3) (h:=s1.heap) (v:=ints p.cz p.cs) (by rw[x1];rfl) b3;have q32:=lu (p:=s.next) (o:=3) (h:=s2.heap) (v:=ints p.cz p.cs) (by rw[y2];rfl) b3;have q33:=lu (p:=s.next) (o:=3) (h:=s3.heap) (v:=ints p.cz p.cs) (by rw[y3];rfl) b3;have q41:=lu (p:=s.next) (o:=4) (h:=s1.heap) (v:=gK p.rz p.rs) (by rw[x1];rfl) b4;have q42:=lu (p:=s.next) (o:=4) (h:=s2.heap) (v:=gK p.rz p.rs) (by rw[y2];rfl) b4;have q43:=lu (p:=s.next) (o:=4) (h:=s3.heap) (v:=gK p.rz p.rs) (by rw[y3];rfl) b4;have q44:=lu (p:=s.next) (o:=4) (h:=s4.heap) (v:=gK p.rz p.rs) (by rw[y4];rfl) b4;obtain⟨c1,o1⟩:=T1.out.cells;obtain⟨c2,o2⟩:=T2.out.cells;obtain⟨c3,o3⟩:=T3.cells;obtain⟨c4,o4⟩:=T4.cells;obtain⟨c5,o5⟩:=T5.cells;have zS:bY [AV.af,.af,.af,.af,.af] [(0,1),(1,1),(2,1),(3,1),(4,1)] [V1,V2,V3,V4,V5]=some [V1,V2,V3,V4,V5]:=by
  simp[bY,cV,cU,aU,c1,c2,c3,c4,c5]
 have one:aM [V1,V2,V3,V4,V5]=true:=by
  simp only[aM,Zi1]at o1 o2 o3 o4 o5;simp only[aM,o1,o2,o3,o4,o5,Zi2]
 have gJ:∀(K:AV->St->Option (AV×St)),aq c (.store 5) [.ptr p2 0,.agg [V1,V2,V3,V4,V5]] s6 K=K .undef (aY s6 p2 (.cells [V1,V2,V3,V4,V5] 0)):=λK=>by rw[bP c K s6 5 p2 0 (.agg [V1,V2,V3,V4,V5]) _ z6 rfl (by simp) one];rfl
 have G16:=XO.trans (G23.trans (G34.trans (G45.trans G56)));have G7:Grew s (aY s6 p2 (.cells [V1,V2,V3,V4,V5] 0)):=⟨jD G16.wf (by have:=G16.next;omega),λq b hq=>by have:=hw _ _ hq;rw[aG (λe=>by rw[e]at nl;omega)];exact(g2.trans G16).get hq,by rw[dH];exact(g2.trans G16).next⟩
 have sY:∀q b,s1.next.toNat<=q.toNat->s6.heap.get q=some b->(aY s6 p2 (.cells [V1,V2,V3,V4,V5] 0)).heap.get q=some b:=λq b hq h=>by rw[aG (λe=>by rw[e]at lt2;omega)];exact h
 have F1:=T1.oo hw g2 G7 λq b hq h=>sY q b hq ((G23.trans (G34.trans (G45.trans G56))).get h)
 have F2:=T2.oo hw (g2.trans XO) G7 λq b hq h=>sY q b (Zb0 XO.next hq) ((G34.trans (G45.trans G56)).get h)
 have F3:=T3.oo hw (g2.trans (XO.trans G23)) G7 λq b hq h=>sY q b (Zb0 (XO.trans G23).next hq) ((G45.trans G56).get h)
 have F4:=T4.oo hw (g2.trans (XO.trans (G23.trans G34))) G7 λq b hq h=>sY q b (Zb0 (XO.trans (G23.trans G34)).next hq) (G56.get h)
 have F5:=T5.oo hw (g2.trans (XO.trans (G23.trans (G34.trans G45)))) G7 λq b hq h=>sY q b (Zb0 (XO.trans (G23.trans (G34.trans G45))).next hq) h
 have fin:∃cY,tidy s (.agg [V1,V2,V3,V4,V5],aY s6 p2 (.cells [V1,V2,V3,V4,V5] 0))=(.agg [V1,V2,V3,V4,V5],cY)/\PS s cY [V1,V2,V3,V4,V5] p:=by
  unfold tidy;by_cases hP:Plain (AV.agg [V1,V2,V3,V4,V5],aY s6 p2 (.cells [V1,V2,V3,V4,V5] 0)).1/\aT s (AV.agg [V1,V2,V3,V4,V5],aY s6 p2 (.cells [V1,V2,V3,V4,V5] 0)).2
  . rw[Zb3 hP];have inst:∀v∈[V1,V2,V3,V4,V5],dm v:=λv hv=>by
        simp only[Za8,Zb7,Ze4]at hv;rcases hv with rfl|rfl|rfl|rfl|rfl
        . exact F1.out.inst
        . exact F2.out.inst
        . exact F3.inst
        . exact F4.inst
        . exact F5.inst
    have k1:=F1.out.loose.resolve_left λ⟨b,off,n,e⟩=>absurd hP.1 (fT inst (b:=b) (off:=off) (n:=n) (es:=7) (by rw[<-e];simp))
    have k2:=F2.out.loose.resolve_left λ⟨b,off,n,e⟩=>absurd hP.1 (fT inst (b:=b) (off:=off) (n:=n) (es:=9) (by rw[<-e];simp))
    have k3:=F3.loose.resolve_left λ⟨b,off,n,e⟩=>absurd hP.1 (fT inst (b:=b) (off:=off) (n:=n) (es:=3) (by rw[<-e];simp))
    have k4:=F4.loose.resolve_left λ⟨b,off,n,e⟩=>absurd hP.1 (fT inst (b:=b) (off:=off) (n:=n) (es:=1) (by rw[<-e];simp))
    have k5:=F5.loose.resolve_left λ⟨b,off,n,e⟩=>absurd hP.1 (fT inst (b:=b) (off:=off) (n:=n) (es:=6) (by rw[<-e];simp))
    exact⟨s,rfl,Grew.refl hw,V1,V2,V3,V4,V5,r1,r2,rfl,⟨k1.1 s hw,F1.len,λi t r _ h=>by rw[k1.2]at h;simp at h⟩,⟨k2.1 s hw,F2.len,λi t r _ h=>by rw[k2.2]at h;simp at h⟩,k3.1 s hw,k4.1 s hw,k5.1 s hw⟩
  . rw[Za7 hP];exact⟨_,rfl,G7,V1,V2,V3,V4,V5,r1,r2,rfl,F1,F2,F3,F4,F5⟩
 obtain⟨cY,t1,t2⟩:=fin;refine⟨_,cY,?_,t2⟩;rw[IZ hc 1 (r:=(.agg [V1,V2,V3,V4,V5],aY s6 p2 (.cells [V1,V2,V3,V4,V5] 0))),t1];rw[MA];have hcut:cut [V1,V2,V3,V4,V5] 0 5=some [V1,V2,V3,V4,V5]:=cM rfl;simp[Fm,yM,L0,L1,L2,L3,L4,q11,q21,q22,q31,q32,q33,q41,q42,q43,q44,C1,C2,C3,C4,C5,zS,gJ,hcut]
structure bM.gD(p p':bM):Prop where
 tl:p'.ts.length=p.ts.length
 ts:∀(i:Nat)(t t':aB),p.ts[i]? =some t->p'.ts[i]? =some t'->t.gD t'
 gl:p'.gs.length=p.gs.length
 gs:∀(i:Nat)(t t':aQ),p.gs[i]? =some t->p'.gs[i]? =some t'->t.gD t'
 ys:p'.ys=p.ys
 cs:p'.cs=p.cs
 rs:p'.rs=p.rs
theorem PS.ey{s0 s:St}{Vs:List AV}{p:bM}(h:PS s0 s Vs p)(d:Nat):∃p',Go.Ai.ey s (d+3) (.agg Vs)= .agg p'.cells/\p.gD p':=by obtain⟨V1,V2,V3,V4,V5,r1,r2,rfl,h1,h2,h3,h4,h5⟩:=h.all;obtain⟨z1,DW,e1,l1,k1⟩:=h1.ey d;obtain⟨z2,gs',e2,l2,k2⟩:=h2.ey d;obtain⟨z3,e3⟩:=as6 h3 (d+1);obtain⟨z4,e4⟩:=aiA h4 (d+1);obtain⟨z5,e5⟩:=as7 h5 (d+1);refine⟨⟨z1,DW,z2,gs',z3,p.ys,z4,p.cs,z5,p.rs⟩,?_,⟨l1,k1,l2,k2,rfl,rfl,rfl⟩⟩;rw[YW];simp only[Zd2,Zg3,e1,e2,e3,e4,e5];rfl
theorem Y5{α β:Type}{P:α->α->Prop}{l l':List α}(hl:l'.length=l.length)(hs:∀(i:Nat)(t t':α),l[i]? =some t->l'[i]? =some t'->P t t')(f:α->β)(hf:∀t t',P t t'->f t'=f t)(i:Nat):l'[i]?.map f=l[i]?.map f:=by
 by_cases h:i<l.length
 . have h':i<l'.length:=(by omega);rw[H0 h,H0 h'];simp only[Ze2,H5];exact hf _ _ (hs i _ _ (H0 h) (H0 h'))
 . rw[Zc4 (by omega),Zc4 (by omega)]
theorem aqN{t t':aB}(h:t.gD t'):rZ t'=rZ t:=by obtain⟨z,rfl⟩:=h;rfl
theorem akw{t t':aB}(h:t.gD t'):bJ t'=bJ t:=by obtain⟨z,rfl⟩:=h;rfl
theorem aod{t t':aQ}(h:t.gD t'):jQ t'=jQ t:=by obtain⟨z,rfl⟩:=h;rfl
variable{p p' : bM}
theorem bM.gD.nm(h:p.gD p')(s:List Nat):xk p'.ts s=xk p.ts s:=funext λi=>by
 unfold xk;rw[Y5 h.tl h.ts aB.name (λt t' k=>by obtain⟨z,rfl⟩:=k;rfl)]
theorem bM.gD.gm(h:p.gD p')(s:List Nat):oF p'.gs s=oF p.gs s:=funext λi=>by
 unfold oF;rw[Y5 h.gl h.gs aQ.name (λt t' k=>by obtain⟨z,rfl⟩:=k;rfl)]
theorem bM.gD.at(h:p.gD p'):∀(m k:Nat),iF p'.ts m k=iF p.ts m k
 |0,_=>rfl
 |m +1,k=>by
  have ih:=h.at m (k+1);unfold iF;by_cases hk:k<p.ts.length
  . have uj:k<p'.ts.length:=(by rw[h.tl];exact hk);have hs:=h.ts k _ _ (H0 hk) (H0 uj);have hn:p'.ts[k].name=p.ts[k].name:=(by obtain⟨z,e⟩:=hs;rw[e]);rw[H0 hk,H0 uj];simp only[aqN hs,hn,h.nm,ih]
  . have uj:¬k<p'.ts.length:=(by rw[h.tl];exact hk);rw[Zc4 (by omega),Zc4 (by omega)]
theorem bM.gD.Mn(h:p.gD p'):bR p'.ts=bR p.ts:=by unfold bR;rw[h.tl,h.at]
theorem bM.gD.gsAt(h:p.gD p'):∀(m k:Nat),ov p'.gs m k=ov p.gs m k
 |0,_=>rfl
 |m +1,k=>by
  have ih:=h.gsAt m (k+1);unfold ov;by_cases hk:k<p.gs.length
  . have uj:k<p'.gs.length:=(by rw[h.gl];exact hk);have hs:=h.gs k _ _ (H0 hk) (H0 uj);have hn:p'.gs[k].name=p.gs[k].name:=(by obtain⟨z,e⟩:=hs;rw[e]);rw[H0 hk,H0 uj];simp only[aod hs,hn,h.gm,ih]
  . have uj:¬k<p'.gs.length:=(by rw[h.gl];exact hk);rw[Zc4 (by omega),Zc4 (by omega)]
theorem bM.gD.unk(h:p.gD p')(t:Ty):ry p'.gs t=ry p.gs t:=by unfold ry;rw[h.gm,h.gm,h.gl]
theorem bM.gD.tyAt(h:p.gD p')(ts:List Ty):∀(m k:Nat),jR p'.gs ts m k=jR p.gs ts m k
 |0,_=>rfl
 |m+1,k=>by
  have ih:=h.tyAt ts m (k+1);unfold jR;cases ts[k]? with
  |none=>rfl
  |some t=>simp only[h.gl,h.unk,ih]
theorem bM.gD.roll(h:p.gD p'):dU p'.gs p'.ys=dU p.gs p.ys:=by unfold dU;rw[h.ys,h.gsAt,h.tyAt]
theorem bM.gD.sum(h:p.gD p'):aW p'.ts=aW p.ts:=by
 unfold aW;congr 1;refine Zi7 λi=> ?_
 rw[Zb4,Zb4];exact Y5 h.tl h.ts bJ (λt t' k=>akw k) i
theorem bM.gD.basis(h:p.gD p'):gX p'=gX p:=by unfold gX;rw[h.Mn,h.roll,h.cs,h.gl,h.sum]
theorem bM.gD.gi(h:p.gD p')(s:List Nat):Go.Proofs.YtgihekklfnjkiaaGreatDoor.gi p' s=Go.Proofs.YtgihekklfnjkiaaGreatDoor.gi p s:=by unfold Go.Proofs.YtgihekklfnjkiaaGreatDoor.gi;rw[h.gm,h.gl]
theorem bM.gD.ti(h:p.gD p')(s:List Nat):Go.Proofs.YtgihekklfnjkiaaGreatDoor.ti p' s=Go.Proofs.YtgihekklfnjkiaaGreatDoor.ti p s:=by unfold Go.Proofs.YtgihekklfnjkiaaGreatDoor.ti;rw[h.nm,h.tl]
theorem bM.gD.DR(h:p.gD p')(i:Int):Go.Proofs.YtgihekklfnjkiaaGreatDoor.DR p' i=Go.Proofs.YtgihekklfnjkiaaGreatDoor.DR p i:=by
 unfold Go.Proofs.YtgihekklfnjkiaaGreatDoor.DR;have:=Y5 h.tl h.ts bJ (λt t' k=>akw k) i.toNat;cases h1:p.ts[i.toNat]? with
 |none=>rw[h1]at this;cases h2:p'.ts[i.toNat]? with
  |none=>rfl
  |some t=>rw[h2]at this;cases this
 |some t=>rw[h1]at this;cases h2:p'.ts[i.toNat]? with
  |none=>rw[h2]at this;cases this
  |some t'=>rw[h2]at this;simp only[Ze2,H5]at this;simp only[this]
theorem bM.gD.rule(h:p.gD p')(r:Rl):fY p' r=fY p r:=by
 unfold fY IP Xo Ob;simp only[h.gi,h.ti,h.DR]
theorem Gr{es bytes:Nat}{z:List AV}(rows:List (List AV))(hr:∀r∈rows,r.length=es)(dY:es≠0)(hb:(2*rows.length+768)*bytes<=281474976710656)(hn:rows.length<=4000000)(s:St)(hw:Wf s):
  ∃v s',(∀(K:AV->St->Option (AV×St)),aq c (.buildSlice es 0 z []) [] s (λy t=>aq c (.append es bytes) [y,.fl rows es] t K)=K v s')/\Mk es s s' v rows:=
 aeS hr dY hb hn s hw (.inl rfl)
theorem Lr(c:au)(K:AV->St->Option (AV×St))(s:St):aq c (.bin .eql .slice) [.af,.af] s K=K (.bool true) s:=aR c K (λH n=>rfl) s
theorem Y6(c:au)(K:AV->St->Option (AV×St))(s:St)(rows:List (List AV))(es:Nat):aq c (.bin .eql .slice) [.fl rows es,.af] s K=K (.bool false) s:=aR c K (λH n=>rfl) s
theorem afc(hc:Sem c)(z:Bool)(l:List (Int))(hl:l.length<=uq)(s:St)(hw:Wf s):∃v s',c 115 [ints z l] s=some (v,s')/\Mk 1 s s' v (l.map bV):=by
 have hl:l.length<=1048576:=hl;have hr:∀r∈l.map bV,r.length=1:=λr hr=>by simp only[Zc7]at hr;obtain⟨i,_,rfl⟩:=hr;rfl
 by_cases h:ints z l= .af
 . have h0:l=[]:=by
    cases l with
    |nil=>rfl
    |cons a l=>unfold ints at h;cases z<;>cases h
   subst h0;refine⟨.af,s,?_,Mk.start hw (Grew.refl hw)⟩;rw[h,zo hc 1 (r:=(.af,s)),aE Plain.af (aT.refl s)];rw[Bi];simp[Lr]
 . have e:ints z l= .fl (l.map bV) 1:=by
    cases l with
    |nil=>unfold ints at h ⊢; cases z
          . rfl
          . exact absurd rfl h
    |cons a l=>unfold ints;cases z<;>rfl
   obtain⟨v,s',a1,a2⟩:=Gr (c:=c) (bytes:=8) (z:=[.int .i64 0]) (l.map bV) hr (by decide) (by simp;omega) (by simp;omega) s hw;obtain⟨cY,t1,t2⟩:=a2.tidy;refine⟨v,cY,?_,t2⟩;rw[e,zo hc 1 (r:=(v,s')),t1];rw[Bi];simp only[aA,Y6,dQ];rw[a1]
theorem aoe(hc:Sem c)(z:Bool)(l:List (List Nat))(hl:l.length<=uq)(s:St)(hw:Wf s):∃v s',c 117 [iW z l] s=some (v,s')/\Mk 1 s s' v (l.map zl):=by
 have hl:l.length<=1048576:=hl;have hr:∀r∈l.map zl,r.length=1:=λr hr=>by simp only[Zc7]at hr;obtain⟨i,_,rfl⟩:=hr;rfl
 by_cases h:iW z l= .af
 . have h0:l=[]:=by
    cases l with
    |nil=>rfl
    |cons a l=>unfold iW at h;cases z<;>cases h
   subst h0;refine⟨.af,s,?_,Mk.start hw (Grew.refl hw)⟩;rw[h,jf hc 1 (r:=(.af,s)),aE Plain.af (aT.refl s)];rw[jS];simp[Lr]
 . have e:iW z l= .fl (l.map zl) 1:=by
    cases l with
    |nil=>unfold iW at h ⊢; cases z
          . rfl
          . exact absurd rfl h
    |cons a l=>unfold iW;cases z<;>rfl
   obtain⟨v,s',a1,a2⟩:=Gr (c:=c) (bytes:=16) (z:=[.str []]) (l.map zl) hr (by decide) (by simp;omega) (by simp;omega) s hw;obtain⟨cY,t1,t2⟩:=a2.tidy;refine⟨v,cY,?_,t2⟩;rw[e,jf hc 1 (r:=(v,s')),t1];rw[jS];simp only[aA,Y6,dQ];rw[a1]
theorem aof(hc:Sem c)(z:Bool)(l:List (Ty))(hl:l.length<=uq)(s:St)(hw:Wf s):∃v s',c 118 [eX z l] s=some (v,s')/\Mk 3 s s' v (l.map Ty.cells):=by
 have hl:l.length<=1048576:=hl;have hr:∀r∈l.map Ty.cells,r.length=3:=λr hr=>by simp only[Zc7]at hr;obtain⟨i,_,rfl⟩:=hr;rfl
 by_cases h:eX z l= .af
 . have h0:l=[]:=by
    cases l with
    |nil=>rfl
    |cons a l=>unfold eX at h;cases z<;>cases h
   subst h0;refine⟨.af,s,?_,Mk.start hw (Grew.refl hw)⟩;rw[h,qV hc 1 (r:=(.af,s)),aE Plain.af (aT.refl s)];rw[tu];simp[Lr]
 . have e:eX z l= .fl (l.map Ty.cells) 3:=by
    cases l with
    |nil=>unfold eX at h ⊢; cases z
          . rfl
          . exact absurd rfl h
    |cons a l=>unfold eX;cases z<;>rfl
   obtain⟨v,s',a1,a2⟩:=Gr (c:=c) (bytes:=40) (z:=[.str [],.str [],.int .u8 0]) (l.map Ty.cells) hr (by decide) (by simp;omega) (by simp;omega) s hw;obtain⟨cY,t1,t2⟩:=a2.tidy;refine⟨v,cY,?_,t2⟩;rw[e,qV hc 1 (r:=(v,s')),t1];rw[tu];simp only[aA,Y6,dQ];rw[a1]
theorem aog(hc:Sem c)(z:Bool)(l:List (Rl))(hl:l.length<=uq)(s:St)(hw:Wf s):∃v s',c 119 [gK z l] s=some (v,s')/\Mk 6 s s' v (l.map Rl.cells):=by
 have hl:l.length<=1048576:=hl;have hr:∀r∈l.map Rl.cells,r.length=6:=λr hr=>by simp only[Zc7]at hr;obtain⟨i,_,rfl⟩:=hr;rfl
 by_cases h:gK z l= .af
 . have h0:l=[]:=by
    cases l with
    |nil=>rfl
    |cons a l=>unfold gK at h;cases z<;>cases h
   subst h0;refine⟨.af,s,?_,Mk.start hw (Grew.refl hw)⟩;rw[h,pM hc 1 (r:=(.af,s)),aE Plain.af (aT.refl s)];rw[qW];simp[Lr]
 . have e:gK z l= .fl (l.map Rl.cells) 6:=by
    cases l with
    |nil=>unfold gK at h ⊢; cases z
          . rfl
          . exact absurd rfl h
    |cons a l=>unfold gK;cases z<;>rfl
   obtain⟨v,s',a1,a2⟩:=Gr (c:=c) (bytes:=72) (z:=[.int .u8 0,.int .i64 0,.str [],.str [],.str [],.int .i64 0]) (l.map Rl.cells) hr (by decide) (by simp;omega) (by simp;omega) s hw;obtain⟨cY,t1,t2⟩:=a2.tidy;refine⟨v,cY,?_,t2⟩;rw[e,pM hc 1 (r:=(v,s')),t1];rw[qW];simp only[aA,Y6,dQ];rw[a1]
theorem aoh(hc:Sem c)(z:Bool)(l:List (aB))(hl:l.length<=uq)(s:St)(hw:Wf s):∃v s',c 114 [tabs z l] s=some (v,s')/\Mk 7 s s' v (l.map aB.cells):=by
 have hl:l.length<=1048576:=hl;have hr:∀r∈l.map aB.cells,r.length=7:=λr hr=>by simp only[Zc7]at hr;obtain⟨i,_,rfl⟩:=hr;rfl
 by_cases h:tabs z l= .af
 . have h0:l=[]:=by
    cases l with
    |nil=>rfl
    |cons a l=>unfold tabs at h;cases z<;>cases h
   subst h0;refine⟨.af,s,?_,Mk.start hw (Grew.refl hw)⟩;rw[h,oG hc 1 (r:=(.af,s)),aE Plain.af (aT.refl s)];rw[pN];simp[Lr]
 . have e:tabs z l= .fl (l.map aB.cells) 7:=by
    cases l with
    |nil=>unfold tabs at h ⊢; cases z
          . rfl
          . exact absurd rfl h
    |cons a l=>unfold tabs;cases z<;>rfl
   obtain⟨v,s',a1,a2⟩:=Gr (c:=c) (bytes:=80) (z:=[.str [],.int .u8 0,.int .i64 0,.int .i64 0,.af,.int .i64 0,.int .i64 0]) (l.map aB.cells) hr (by decide) (by simp;omega) (by simp;omega) s hw;obtain⟨cY,t1,t2⟩:=a2.tidy;refine⟨v,cY,?_,t2⟩;rw[e,oG hc 1 (r:=(v,s')),t1];rw[pN];simp only[aA,Y6,dQ];rw[a1]
theorem aoi(hc:Sem c)(z:Bool)(l:List (aQ))(hl:l.length<=uq)(s:St)(hw:Wf s):∃v s',c 116 [cK z l] s=some (v,s')/\Mk 9 s s' v (l.map aQ.cells):=by
 have hl:l.length<=1048576:=hl;have hr:∀r∈l.map aQ.cells,r.length=9:=λr hr=>by simp only[Zc7]at hr;obtain⟨i,_,rfl⟩:=hr;rfl
 by_cases h:cK z l= .af
 . have h0:l=[]:=by
    cases l with
    |nil=>rfl
    |cons a l=>unfold cK at h;cases z<;>cases h
   subst h0;refine⟨.af,s,?_,Mk.start hw (Grew.refl hw)⟩;rw[h,oH hc 1 (r:=(.af,s)),aE Plain.af (aT.refl s)];rw[pO];simp[Lr]
 . have e:cK z l= .fl (l.map aQ.cells) 9:=by
    cases l with
    |nil=>unfold cK at h ⊢; cases z
          . rfl
          . exact absurd rfl h
    |cons a l=>unfold cK;cases z<;>rfl
   obtain⟨v,s',a1,a2⟩:=Gr (c:=c) (bytes:=112) (z:=[.str [],.str [],.str [],.int .i64 0,.int .i64 0,.str [],.bool false,.bool false,.af]) (l.map aQ.cells) hr (by decide) (by simp;omega) (by simp;omega) s hw;obtain⟨cY,t1,t2⟩:=a2.tidy;refine⟨v,cY,?_,t2⟩;rw[e,oH hc 1 (r:=(v,s')),t1];rw[pO];simp only[aA,Y6,dQ];rw[a1]
structure CT(n0:Nat)(s0 s:St)(q:Pos)(rest:List AV)(V:AV)(ts:List aB)(k:Nat)(rows:List (List AV)):Prop where
 out:Mk 7 s0 s V rows
 box:s.heap.get q=some (.cells (V::rest) 0)
 Gq:q.toNat<n0
 lo:n0<=s.next.toNat
 ne:∀b,aK V=some b->n0<=b.toNat
 len:rows.length=ts.length
 gL:∀(i:Nat)(t:aB)(r:List AV),k<=i->ts[i]? =some t->rows[i]? =some r->r=t.cells
 dV:∀(i:Nat)(t:aB)(r:List AV),i<k->ts[i]? =some t->rows[i]? =some r->∃v,r=t.aj v/\Mk 1 s0 s v (t.jr.map bV)/\(∀b,aK v=some b->aK V≠some b)/\∀b,aK v=some b->n0<=b.toNat
theorem aoj(hc:Sem c){n0:Nat}{s0:St}{q:Pos}{rest:List AV}(x2:AV)(ts:List aB)(hl:ts.length<=1000)(hr:∀t∈ts,t.Real)(F:Nat):∀(m k f:Nat)(s:St)(V:AV)(rows:List (List AV)),m<f->k+m=ts.length->CT n0 s0 s q rest V ts k rows->
  ∃s' mQ,CT n0 s0 s' q rest V ts ts.length mQ/\(∀p x,aK V≠some p->s.heap.get p=some x->s'.heap.get p=some x)/\∀k2,uR c F k2 f [.ptr q 0,x2,.int .i64 (ts.length:Int),.int .i64 (k:Int)] s=k2 [.ptr q 0,x2] s':=by
 intro m;induction m with
 |zero=>
  intro k f s V rows hf h1 hT;obtain⟨f,rfl⟩:∃g,f=g+1:=⟨f - 1,by omega⟩
  obtain rfl:k=ts.length:=by omega
  refine⟨s,rows,hT,λ_ _ _ h=>h,λk2=> ?_⟩;rw[MB];simp
 |succ m ih=>
  intro k f s V rows hf h1 hT;obtain⟨f,rfl⟩:∃g,f=g+1:=⟨f - 1,by omega⟩
  have h:k<ts.length:=by omega
  have hk:k<rows.length:=by rw[hT.len];exact h
  have w:ax .i64 ((k:Int)+1)=((k+1:Nat):Int):=wrap64 (by omega) (by omega);have hw:=hT.out.ai.wf;obtain⟨b,o,cs,a1,a2,a3,a4,a5,a6,a7,a8⟩:=hT.out.own.set (c:=c) (R:=AV×St) hT.out.row (by decide) hk;have gF:rows[k]=ts[k].cells:=hT.gL k _ _ (Za3 _) (H0 h) (H0 hk);have c4:cs[o+4]? =some (ints ts[k].oz ts[k].jr):=a6 4 _ (by rw[gF];rfl);obtain⟨v,s1,C,M⟩:=afc hc ts[k].oz ts[k].jr (hr _ (Zc2 h)).jr s hw;have b4:=M.ai.get a4;have q4:=M.ai.get hT.box;obtain⟨vc,v1⟩:=M.cells;have hbq:b≠q:=λe=>by have:=hT.ne _ a3;have:=hT.Gq;subst e;omega
  have yJ:=hT.out.new b a3;have Af:=hw _ _ a4;have bw:∀(K:AV->St->Option (AV×St)),aq c (.store 1) [.ptr b (o+4),v] s1 K=K .undef (aY s1 b (.cells (aU cs (o+4) [v]) 0)):=λK=>by
   rw[bP c K s1 1 b (o+4) v cs b4 (by rw[vc];rfl) (by omega) (by rw[vc];exact v1),vc]
  have G2:Grew s0 (aY s1 b (.cells (aU cs (o+4) [v]) 0)):=⟨jD M.ai.wf (by have:=M.ai.next;omega),λp x hp=>by have:=hT.out.jq _ _ hp;rw[aG (λe=>by rw[e]at yJ;omega)];exact(hT.out.ai.trans M.ai).get hp,by rw[dH];exact(hT.out.ai.trans M.ai).next⟩
  have sY:∀p x,p≠b->s1.heap.get p=some x->(aY s1 b (.cells (aU cs (o+4) [v]) 0)).heap.get p=some x:=λp x hp hx=>by rw[aG (λe=>hp e.symm)];exact hx
  have T5:CT n0 s0 (aY s1 b (.cells (aU cs (o+4) [v]) 0)) q rest V ts (k+1) (rows.set k (rows[k].set 4 v)):=by
   refine⟨⟨hT.out.jq,G2,a7 4 v _ (by omega) (bN _ _ _),hT.out.new,λr zn=> ?_,hT.out.cap,λp hp=>by rw[a3]at hp;cases hp;rw[bN];rw[a8 4 v (by omega) (AB.cells.inj (Zi3 (a4.symm.trans (hT.out.tight b a3)))).1]⟩,sY q _ (λe=>hbq e.symm) q4,hT.Gq,by rw[dH];exact Zb0 hT.lo M.ai.next,hT.ne,by rw[Zl4];exact hT.len,λi t r hi h3 h4=> ?_,λi t r hi h3 h4=> ?_⟩
   .    rcases Zg6 zn with h5|h5
        . exact hT.out.row r h5
        . rw[h5,Zl4];exact hT.out.row _ (Zc2 hk)
   .    rw[Zf0 (by omega)]at h4;exact hT.gL i t r (by omega) h3 h4
   .    by_cases Ad:i=k
        . subst Ad;rw[H0 h]at h3;cases h3;rw[Zg1 hk]at h4;cases h4;refine⟨v,by rw[gF];rfl,Mk.oP (M.back hT.out.jq hT.out.ai) G2 λp x hp hx=>sY p x (λe=>by subst e;have:=M.new _ hp;omega) hx,λp hp e=> ?_,λp hp=> ?_⟩
          . rw[a3]at e;cases e;have:=M.new _ hp;omega
          . have:=M.new _ hp;have:=hT.lo;omega
        . rw[Zf0 (by omega)]at h4;obtain⟨u,e1,e2,e3,e4⟩:=hT.dV i t r (by omega) h3 h4;refine⟨u,e1,Mk.oP (e2.grow M.ai) G2 λp x hp hx=>sY p x (λe=>by subst e;exact e3 _ hp a3) hx,e3,e4⟩
  obtain⟨s',mQ,d1,d3,d2⟩:=ih (k+1) f _ V _ (by omega) (by omega) T5;refine⟨s',mQ,d1,λp x hp hx=>d3 p x hp (sY p x (λe=>hp (by rw[a3,e])) (M.ai.get hx)),λk2=> ?_⟩;rw[<-d2 k2,MB];have L1:∀(ok:AV->Bool)(K:AV->Option (AV×St)),ok V=true->ia (.load none) [.ptr q 0] s.heap ok K=K V:=λok K h=>uP (by rw[hT.box];rfl) ok h K
  have L2:∀(ok:AV->Bool)(K:AV->Option (AV×St)),ok V=true->ia (.load none) [.ptr q 0] s1.heap ok K=K V:=λok K h=>uP (by rw[q4];rfl) ok h K
  have L3:∀(ok:AV->Bool)(K:AV->Option (AV×St)),ok (ints ts[k].oz ts[k].jr)=true->ia (.load none) [.ptr b (o+4)] s.heap ok K=K (ints ts[k].oz ts[k].jr):=λok K h=>uP (by rw[a4];exact c4) ok h K
  have q1:=lu (p:=q) (o:=0) (h:=s.heap) (v:=V) (by rw[hT.box];rfl) hT.out.beq;simp[h,hT.box,a4,c4,L2,a2,C,q1,bw,w]
structure CG(n0:Nat)(s0 s:St)(q:Pos)(V1:AV)(rest:List AV)(V:AV)(ts:List aQ)(k:Nat)(rows:List (List AV)):Prop where
 out:Mk 9 s0 s V rows
 box:s.heap.get q=some (.cells (V1::V::rest) 0)
 Gq:q.toNat<n0
 lo:n0<=s.next.toNat
 ne:∀b,aK V=some b->n0<=b.toNat
 len:rows.length=ts.length
 gL:∀(i:Nat)(t:aQ)(r:List AV),k<=i->ts[i]? =some t->rows[i]? =some r->r=t.cells
 dV:∀(i:Nat)(t:aQ)(r:List AV),i<k->ts[i]? =some t->rows[i]? =some r->∃v,r=t.aj v/\Mk 1 s0 s v (t.tg.map zl)/\(∀b,aK v=some b->aK V≠some b)/\∀b,aK v=some b->n0<=b.toNat
theorem aok(hc:Sem c){n0:Nat}{s0:St}{q:Pos}{V1:AV}{rest:List AV}(x2:AV)(ts:List aQ)(hl:ts.length<=1000)(hr:∀t∈ts,t.Real)(F:Nat):∀(m k f:Nat)(s:St)(V:AV)(rows:List (List AV)),m<f->k+m=ts.length->CG n0 s0 s q V1 rest V ts k rows->
  ∃s' mQ,CG n0 s0 s' q V1 rest V ts ts.length mQ/\(∀p x,aK V≠some p->s.heap.get p=some x->s'.heap.get p=some x)/\∀k2,uS c F k2 f [.ptr q 0,x2,.int .i64 (ts.length:Int),.int .i64 (k:Int)] s=k2 [.ptr q 0,x2] s':=by
 intro m;induction m with
 |zero=>
  intro k f s V rows hf h1 hT;obtain⟨f,rfl⟩:∃g,f=g+1:=⟨f - 1,by omega⟩
  obtain rfl:k=ts.length:=by omega
  refine⟨s,rows,hT,λ_ _ _ h=>h,λk2=> ?_⟩;rw[MC];simp
 |succ m ih=>
  intro k f s V rows hf h1 hT;obtain⟨f,rfl⟩:∃g,f=g+1:=⟨f - 1,by omega⟩
  have h:k<ts.length:=by omega
  have hk:k<rows.length:=by rw[hT.len];exact h
  have w:ax .i64 ((k:Int)+1)=((k+1:Nat):Int):=wrap64 (by omega) (by omega);have hw:=hT.out.ai.wf;obtain⟨b,o,cs,a1,a2,a3,a4,a5,a6,a7,a8⟩:=hT.out.own.set (c:=c) (R:=AV×St) hT.out.row (by decide) hk;have gF:rows[k]=ts[k].cells:=hT.gL k _ _ (Za3 _) (H0 h) (H0 hk);have c4:cs[o+8]? =some (iW ts[k].tz ts[k].tg):=a6 8 _ (by rw[gF];rfl);obtain⟨v,s1,C,M⟩:=aoe hc ts[k].tz ts[k].tg (hr _ (Zc2 h)).tg s hw;have b4:=M.ai.get a4;have q4:=M.ai.get hT.box;obtain⟨vc,v1⟩:=M.cells;have hbq:b≠q:=λe=>by have:=hT.ne _ a3;have:=hT.Gq;subst e;omega
  have yJ:=hT.out.new b a3;have Af:=hw _ _ a4;have bw:∀(K:AV->St->Option (AV×St)),aq c (.store 1) [.ptr b (o+8),v] s1 K=K .undef (aY s1 b (.cells (aU cs (o+8) [v]) 0)):=λK=>by
   rw[bP c K s1 1 b (o+8) v cs b4 (by rw[vc];rfl) (by omega) (by rw[vc];exact v1),vc]
  have G2:Grew s0 (aY s1 b (.cells (aU cs (o+8) [v]) 0)):=⟨jD M.ai.wf (by have:=M.ai.next;omega),λp x hp=>by have:=hT.out.jq _ _ hp;rw[aG (λe=>by rw[e]at yJ;omega)];exact(hT.out.ai.trans M.ai).get hp,by rw[dH];exact(hT.out.ai.trans M.ai).next⟩
  have sY:∀p x,p≠b->s1.heap.get p=some x->(aY s1 b (.cells (aU cs (o+8) [v]) 0)).heap.get p=some x:=λp x hp hx=>by rw[aG (λe=>hp e.symm)];exact hx
  have T5:CG n0 s0 (aY s1 b (.cells (aU cs (o+8) [v]) 0)) q V1 rest V ts (k+1) (rows.set k (rows[k].set 8 v)):=by
   refine⟨⟨hT.out.jq,G2,a7 8 v _ (by omega) (bN _ _ _),hT.out.new,λr zn=> ?_,hT.out.cap,λp hp=>by rw[a3]at hp;cases hp;rw[bN];rw[a8 8 v (by omega) (AB.cells.inj (Zi3 (a4.symm.trans (hT.out.tight b a3)))).1]⟩,sY q _ (λe=>hbq e.symm) q4,hT.Gq,by rw[dH];exact Zb0 hT.lo M.ai.next,hT.ne,by rw[Zl4];exact hT.len,λi t r hi h3 h4=> ?_,λi t r hi h3 h4=> ?_⟩
   .    rcases Zg6 zn with h5|h5
        . exact hT.out.row r h5
        . rw[h5,Zl4];exact hT.out.row _ (Zc2 hk)
   .    rw[Zf0 (by omega)]at h4;exact hT.gL i t r (by omega) h3 h4
   .    by_cases Ad:i=k
        . subst Ad;rw[H0 h]at h3;cases h3;rw[Zg1 hk]at h4;cases h4;refine⟨v,by rw[gF];rfl,Mk.oP (M.back hT.out.jq hT.out.ai) G2 λp x hp hx=>sY p x (λe=>by subst e;have:=M.new _ hp;omega) hx,λp hp e=> ?_,λp hp=> ?_⟩
          . rw[a3]at e;cases e;have:=M.new _ hp;omega
          . have:=M.new _ hp;have:=hT.lo;omega
        . rw[Zf0 (by omega)]at h4;obtain⟨u,e1,e2,e3,e4⟩:=hT.dV i t r (by omega) h3 h4;refine⟨u,e1,Mk.oP (e2.grow M.ai) G2 λp x hp hx=>sY p x (λe=>by subst e;exact e3 _ hp a3) hx,e3,e4⟩
  obtain⟨s',mQ,d1,d3,d2⟩:=ih (k+1) f _ V _ (by omega) (by omega) T5;refine⟨s',mQ,d1,λp x hp hx=>d3 p x hp (sY p x (λe=>hp (by rw[a3,e])) (M.ai.get hx)),λk2=> ?_⟩;rw[<-d2 k2,MC];have L1:∀(ok:AV->Bool)(K:AV->Option (AV×St)),ok V=true->ia (.load none) [.ptr q 1] s.heap ok K=K V:=λok K h=>uP (by rw[hT.box];rfl) ok h K
  have L2:∀(ok:AV->Bool)(K:AV->Option (AV×St)),ok V=true->ia (.load none) [.ptr q 1] s1.heap ok K=K V:=λok K h=>uP (by rw[q4];rfl) ok h K
  have L3:∀(ok:AV->Bool)(K:AV->Option (AV×St)),ok (iW ts[k].tz ts[k].tg)=true->ia (.load none) [.ptr b (o+8)] s.heap ok K=K (iW ts[k].tz ts[k].tg):=λok K h=>uP (by rw[a4];exact c4) ok h K
  have q1:=lu (p:=q) (o:=1) (h:=s.heap) (v:=V) (by rw[hT.box];rfl) hT.out.beq;simp[h,hT.box,a4,c4,L2,a2,C,q1,bw,w]
theorem ld{p:Pos}{o:Nat}{t:St}{cs:List AV}{v:AV}(h:t.heap.get p=some (.cells cs 0))(hv:cs[o]? =some v):((cellsOf (t.heap.get p)).bind λcs=>cs[o]?)=some v:=by rw[h];exact hv
set_option maxHeartbeats 1000000 in
theorem amd(hc:Sem c)(p:bM)(hp:p.Real)(s:St)(hw:Wf s):∃Vs s',c 57 [.agg p.cells] s=some (.agg Vs,s')/\PS s s' Vs p:=by
 have cg:Wf (ah s (.cells p.cells 0)):=bn hw;have hwB:Wf (ah (ah s (.cells p.cells 0)) (.cells [.af,.af,.af,.af,.af] 0)):=bn cg;have gB:=(Grew.ah hw (.cells p.cells 0)).trans (Grew.ah cg (.cells [.af,.af,.af,.af,.af] 0));have qB:(ah (ah s (.cells p.cells 0)) (.cells [.af,.af,.af,.af,.af] 0)).heap.get s.next=some (.cells p.cells 0):=(Grew.ah cg _).get (az _ _);have pB:=az (ah s (.cells p.cells 0)) (.cells [.af,.af,.af,.af,.af] 0);have nl:s.next.toNat<(ah s (.cells p.cells 0)).next.toNat:=by rw[bD,Pos.aC];omega
 generalize hsB:ah (ah s (.cells p.cells 0)) (.cells [.af,.af,.af,.af,.af] 0)=sB at hwB gB qB pB;generalize yM:(ah s (.cells p.cells 0)).next=p2 at pB nl;have lt2:=hwB _ _ pB;have ltq:=hwB _ _ qB;have nqp:s.next≠p2:=λe=>by rw[e]at nl;omega
 have hlT:p.ts.length<=uq:=Zb0 hp.ts (by decide);have hlG:p.gs.length<=uq:=Zb0 hp.gs (by decide);obtain⟨V1,s1,C1,M1⟩:=aoh hc p.tz p.ts hlT sB hwB;obtain⟨c1,o1⟩:=M1.cells;have q1:=M1.ai.get qB;have b1:p.cells=tabs p.tz p.ts::[cK p.gz p.gs,eX p.yz p.ys,ints p.cz p.cs,gK p.rz p.rs]:=rfl;have t1:∀(K:AV->St->Option (AV×St)),aq c (.store 1) [.ptr s.next 0,V1] s1 K=K .undef (aY s1 s.next (.cells (V1::[cK p.gz p.gs,eX p.yz p.ys,ints p.cz p.cs,gK p.rz p.rs]) 0)):=λK=>by rw[bP c K s1 1 s.next 0 V1 p.cells q1 (by rw[c1];rfl) (by rw[b1];simp) (by rw[c1];exact o1),c1];rfl
 have lq1:=M1.ai.wf _ _ q1;have G2:Grew s (aY s1 s.next (.cells (V1::[cK p.gz p.gs,eX p.yz p.ys,ints p.cz p.cs,gK p.rz p.rs]) 0)):=⟨jD M1.ai.wf lq1,λr x hr=>by have:=hw _ _ hr;rw[aG (λe=>by rw[e]at this;omega)];exact(gB.trans M1.ai).get hr,by rw[dH];exact(gB.trans M1.ai).next⟩
 have T2:CT sB.next.toNat s (aY s1 s.next (.cells (V1::[cK p.gz p.gs,eX p.yz p.ys,ints p.cz p.cs,gK p.rz p.rs]) 0)) s.next [cK p.gz p.gs,eX p.yz p.ys,ints p.cz p.cs,gK p.rz p.rs] V1 p.ts 0 (p.ts.map aB.cells):=by
  refine⟨⟨hw,G2,M1.own.mono λb x hb hx=> ?_,λb hb=>Zb0 gB.next (M1.new b hb),M1.row,M1.cap,λb hb=>by rw[aG (λe=>by have:=M1.new _ hb;rw[<-e]at this;omega)];exact M1.tight b hb⟩,bN _ _ _,ltq,by rw[dH];exact M1.ai.next,M1.new,by simp,λi t r _ h3 h4=> ?_,λi t r h=>by omega⟩
  . rw[aG (λe=>by have:=M1.new _ hb;rw[<-e]at this;omega)];exact hx
  . rw[Zb4,h3]at h4;simpa using h4.symm
 generalize rJ:aY s1 s.next (.cells (V1::[cK p.gz p.gs,eX p.yz p.ys,ints p.cz p.cs,gK p.rz p.rs]) 0)=s2 at t1 G2 T2;have p2a:s2.heap.get p2=some (.cells [.af,.af,.af,.af,.af] 0):=by rw[<-rJ,aG nqp];exact M1.ai.get pB
 have l1:∀(K:AV->St->Option (AV×St))(t:St),aq c (.lenB .l) [V1] t K=K (.int .i64 (p.ts.length:Int)) t:=λK t=>by rw[M1.own.lenB];simp
 obtain⟨s3,r1,D1,D2,D3⟩:=aoj hc (.ptr p2 0) p.ts hp.ts hp.tab 2000 p.ts.length 0 2000 s2 V1 _ (by have:=hp.ts;omega) (by omega) T2;have p3:s3.heap.get p2=some (.cells [.af,.af,.af,.af,.af] 0):=D2 p2 _ (λe=>by have:=M1.new _ e;omega) p2a;have q3:=D1.box;obtain⟨V2,s4,C2,M2⟩:=aoi hc p.gz p.gs hlG s3 D1.out.ai.wf;obtain⟨c2,o2⟩:=M2.cells;have q4:=M2.ai.get q3;have t2:∀(K:AV->St->Option (AV×St)),aq c (.store 1) [.ptr s.next 1,V2] s4 K=K .undef (aY s4 s.next (.cells (V1::V2::[eX p.yz p.ys,ints p.cz p.cs,gK p.rz p.rs]) 0)):=λK=>by rw[bP c K s4 1 s.next 1 V2 _ q4 (by rw[c2];rfl) (by simp) (by rw[c2];exact o2),c2];rfl
 have lq4:=M2.ai.wf _ _ q4;have n3B:sB.next.toNat<=s3.next.toNat:=D1.lo;have G3:=D1.out.ai;have G5:Grew s (aY s4 s.next (.cells (V1::V2::[eX p.yz p.ys,ints p.cz p.cs,gK p.rz p.rs]) 0)):=⟨jD M2.ai.wf lq4,λr x hr=>by have:=hw _ _ hr;rw[aG (λe=>by rw[e]at this;omega)];exact(G3.trans M2.ai).get hr,by rw[dH];exact(G3.trans M2.ai).next⟩
 have T5:CG s3.next.toNat s (aY s4 s.next (.cells (V1::V2::[eX p.yz p.ys,ints p.cz p.cs,gK p.rz p.rs]) 0)) s.next V1 [eX p.yz p.ys,ints p.cz p.cs,gK p.rz p.rs] V2 p.gs 0 (p.gs.map aQ.cells):=by
  refine⟨⟨hw,G5,M2.own.mono λb x hb hx=> ?_,λb hb=>Zb0 G3.next (M2.new b hb),M2.row,M2.cap,λb hb=>by rw[aG (λe=>by have:=M2.new _ hb;rw[<-e]at this;omega)];exact M2.tight b hb⟩,bN _ _ _,by omega,by rw[dH];exact M2.ai.next,M2.new,by simp,λi t r _ h3 h4=> ?_,λi t r h=>by omega⟩
  . rw[aG (λe=>by have:=M2.new _ hb;rw[<-e]at this;omega)];exact hx
  . rw[Zb4,h3]at h4;simpa using h4.symm
 have arK:∀r x,r≠s.next->s3.heap.get r=some x->(aY s4 s.next (.cells (V1::V2::[eX p.yz p.ys,ints p.cz p.cs,gK p.rz p.rs]) 0)).heap.get r=some x:=λr x hr hx=>by rw[aG (λe=>hr e.symm)];exact M2.ai.get hx
 generalize hs5:aY s4 s.next (.cells (V1::V2::[eX p.yz p.ys,ints p.cz p.cs,gK p.rz p.rs]) 0)=s5 at t2 G5 T5 arK;have l2:∀(K:AV->St->Option (AV×St))(t:St),aq c (.lenB .l) [V2] t K=K (.int .i64 (p.gs.length:Int)) t:=λK t=>by rw[M2.own.lenB];simp
 obtain⟨s6,r2,E1,E2,E3⟩:=aok hc (.ptr p2 0) p.gs hp.gs hp.qj 2000 p.gs.length 0 2000 s5 V2 _ (by have:=hp.gs;omega) (by omega) T5;have q5:=T5.box;have q6:=E1.box;have ame:∀r x,r≠s.next->r.toNat<s3.next.toNat->s3.heap.get r=some x->s6.heap.get r=some x:=λr x hr hl hx=>E2 r x (λe=>by have:=T5.ne _ e;omega) (arK r x hr hx)
 obtain⟨V3,s7,C3,M3⟩:=aof hc p.yz p.ys hp.ys s6 E1.out.ai.wf;obtain⟨V4,s8,C4,M4⟩:=afc hc p.cz p.cs hp.cs s7 M3.ai.wf;obtain⟨V5,s9,C5,M5⟩:=aog hc p.rz p.rs hp.rs s8 M4.ai.wf;obtain⟨c3,o3⟩:=M3.cells;obtain⟨c4,o4⟩:=M4.cells;obtain⟨c5,o5⟩:=M5.cells;have G69:=M3.ai.trans (M4.ai.trans M5.ai);have q7:=M3.ai.get q6;have q8:=M4.ai.get q7;have q9:=M5.ai.get q8;have t3:∀(K:AV->St->Option (AV×St)),aq c (.store 1) [.ptr s.next 2,V3] s9 K=K .undef (aY s9 s.next (.cells [V1,V2,V3,ints p.cz p.cs,gK p.rz p.rs] 0)):=λK=>by rw[bP c K s9 1 s.next 2 V3 _ q9 (by rw[c3];rfl) (by simp) (by rw[c3];exact o3),c3];rfl
 have t4:∀(K:AV->St->Option (AV×St)),aq c (.store 1) [.ptr s.next 3,V4] (aY s9 s.next (.cells [V1,V2,V3,ints p.cz p.cs,gK p.rz p.rs] 0)) K=K .undef (aY s9 s.next (.cells [V1,V2,V3,V4,gK p.rz p.rs] 0)):=λK=>by rw[bP c K _ 1 s.next 3 V4 _ (bN _ _ _) (by rw[c4];rfl) (by simp) (by rw[c4];exact o4),c4,Qo];rfl
 have t5:∀(K:AV->St->Option (AV×St)),aq c (.store 1) [.ptr s.next 4,V5] (aY s9 s.next (.cells [V1,V2,V3,V4,gK p.rz p.rs] 0)) K=K .undef (aY s9 s.next (.cells [V1,V2,V3,V4,V5] 0)):=λK=>by rw[bP c K _ 1 s.next 4 V5 _ (bN _ _ _) (by rw[c5];rfl) (by simp) (by rw[c5];exact o5),c5,Qo];rfl
 have one:aM [V1,V2,V3,V4,V5]=true:=by
  simp only[aM,Zi1]at o1 o2 o3 o4 o5;simp only[aM,o1,o2,o3,o4,o5,Zi2]
 have p9:(aY s9 s.next (.cells [V1,V2,V3,V4,V5] 0)).heap.get p2=some (.cells [.af,.af,.af,.af,.af] 0):=by
  rw[aG nqp];exact G69.get (ame p2 _ (λe=>nqp e.symm) (by have:=D1.out.ai.wf _ _ p3;exact this) p3)
 have t6:∀(K:AV->St->Option (AV×St)),aq c (.store 5) [.ptr p2 0,.agg [V1,V2,V3,V4,V5]] (aY s9 s.next (.cells [V1,V2,V3,V4,V5] 0)) K=K .undef (aY (aY s9 s.next (.cells [V1,V2,V3,V4,V5] 0)) p2 (.cells [V1,V2,V3,V4,V5] 0)):=λK=>by rw[bP c K _ 5 p2 0 (.agg [V1,V2,V3,V4,V5]) _ p9 rfl (by simp) one];rfl
 have G6:=E1.out.ai;have G9:=G6.trans G69;have lq9:=G69.wf _ _ q9;have lp9:=G69.wf _ _ (G69.get (ame p2 _ (λe=>nqp e.symm) (D1.out.ai.wf _ _ p3) p3));have G13:Grew s (aY (aY s9 s.next (.cells [V1,V2,V3,V4,V5] 0)) p2 (.cells [V1,V2,V3,V4,V5] 0)):=⟨jD (jD G69.wf lq9) lp9,λr x hr=>by have:=hw _ _ hr;rw[aG (λe=>by rw[<-e]at this;omega),aG (λe=>by rw[<-e]at this;omega)];exact G9.get hr,by rw[dH,dH];exact G9.next⟩
 have sY:∀r x,sB.next.toNat<=r.toNat->s9.heap.get r=some x->(aY (aY s9 s.next (.cells [V1,V2,V3,V4,V5] 0)) p2 (.cells [V1,V2,V3,V4,V5] 0)).heap.get r=some x:=λr x hr hx=>by rw[aG (λe=>by rw[<-e]at hr;omega),aG (λe=>by rw[<-e]at hr;omega)];exact hx
 have n36:s3.next.toNat<=s6.next.toNat:=E1.lo;generalize hs13:aY (aY s9 s.next (.cells [V1,V2,V3,V4,V5] 0)) p2 (.cells [V1,V2,V3,V4,V5] 0)=Ol at t6 G13 sY;have F1:TS s Ol V1 p.ts r1:=by
  have keep:∀(es:Nat)(u:AV)(rows:List (List AV)),Mk es s s3 u rows->(∀b,aK u=some b->sB.next.toNat<=b.toNat)->Mk es s Ol u rows:=λes u rows hu hb=>Mk.oP hu G13 λb x hbu hx=>sY b x (hb b hbu) (G69.get (ame b x (λe=>by have:=hb b hbu;rw[e]at this;omega) (hu.ai.wf _ _ hx) hx))
  refine⟨keep _ _ _ D1.out D1.ne,D1.len,λi t r hi hr=> ?_⟩;obtain⟨v,e1,e2,e3,e4⟩:=D1.dV i t r (Za1.1 hi).1 hi hr;exact⟨v,e1,keep _ _ _ e2 e4,e3⟩
 have F2:GS s Ol V2 p.gs r2:=by
  have keep:∀(es:Nat)(u:AV)(rows:List (List AV)),Mk es s s6 u rows->(∀b,aK u=some b->s3.next.toNat<=b.toNat)->Mk es s Ol u rows:=λes u rows hu hb=>Mk.oP hu G13 λb x hbu hx=>sY b x (Zb0 n3B (hb b hbu)) (G69.get hx)
  refine⟨keep _ _ _ E1.out E1.ne,E1.len,λi t r hi hr=> ?_⟩;obtain⟨v,e1,e2,e3,e4⟩:=E1.dV i t r (Za1.1 hi).1 hi hr;exact⟨v,e1,keep _ _ _ e2 e4,e3⟩
 have F3:Mk 3 s Ol V3 (p.ys.map Ty.cells):=M3.oo hw G6 G13 λr x hr hx=>sY r x (by omega) ((M4.ai.trans M5.ai).get hx)
 have F4:Mk 1 s Ol V4 (p.cs.map bV):=M4.oo hw (G6.trans M3.ai) G13 λr x hr hx=>sY r x (by have:=M3.ai.next;omega) (M5.ai.get hx)
 have F5:Mk 6 s Ol V5 (p.rs.map Rl.cells):=M5.oo hw (G6.trans (M3.ai.trans M4.ai)) G13 λr x hr hx=>sY r x (by have:=M3.ai.next;have:=M4.ai.next;omega) hx
 have fin:∃cY,tidy s (.agg [V1,V2,V3,V4,V5],Ol)=(.agg [V1,V2,V3,V4,V5],cY)/\PS s cY [V1,V2,V3,V4,V5] p:=by
  unfold tidy;by_cases hP:Plain (AV.agg [V1,V2,V3,V4,V5],Ol).1/\aT s (AV.agg [V1,V2,V3,V4,V5],Ol).2
  . rw[Zb3 hP];have inst:∀v∈[V1,V2,V3,V4,V5],dm v:=λv hv=>by
        simp only[Za8,Zb7,Ze4]at hv;rcases hv with rfl|rfl|rfl|rfl|rfl
        . exact F1.out.inst
        . exact F2.out.inst
        . exact F3.inst
        . exact F4.inst
        . exact F5.inst
    have k1:=F1.out.loose.resolve_left λ⟨b,off,n,e⟩=>absurd hP.1 (fT inst (b:=b) (off:=off) (n:=n) (es:=7) (by rw[<-e];simp))
    have k2:=F2.out.loose.resolve_left λ⟨b,off,n,e⟩=>absurd hP.1 (fT inst (b:=b) (off:=off) (n:=n) (es:=9) (by rw[<-e];simp))
    have k3:=F3.loose.resolve_left λ⟨b,off,n,e⟩=>absurd hP.1 (fT inst (b:=b) (off:=off) (n:=n) (es:=3) (by rw[<-e];simp))
    have k4:=F4.loose.resolve_left λ⟨b,off,n,e⟩=>absurd hP.1 (fT inst (b:=b) (off:=off) (n:=n) (es:=1) (by rw[<-e];simp))
    have k5:=F5.loose.resolve_left λ⟨b,off,n,e⟩=>absurd hP.1 (fT inst (b:=b) (off:=off) (n:=n) (es:=6) (by rw[<-e];simp))
    exact⟨s,rfl,Grew.refl hw,V1,V2,V3,V4,V5,r1,r2,rfl,⟨k1.1 s hw,F1.len,λi t r _ h=>by rw[k1.2]at h;simp at h⟩,⟨k2.1 s hw,F2.len,λi t r _ h=>by rw[k2.2]at h;simp at h⟩,k3.1 s hw,k4.1 s hw,k5.1 s hw⟩
  . rw[Za7 hP];exact⟨_,rfl,G13,V1,V2,V3,V4,V5,r1,r2,rfl,F1,F2,F3,F4,F5⟩
 obtain⟨cY,u1,u2⟩:=fin;refine⟨_,cY,?_,u2⟩;rw[ac5 hc 2000 (r:=(.agg [V1,V2,V3,V4,V5],Ol)),u1];rw[af3];have p13:Ol.heap.get p2=some (.cells [V1,V2,V3,V4,V5] 0):=by rw[<-hs13];exact bN _ _ _
 have hcut:cut [V1,V2,V3,V4,V5] 0 5=some [V1,V2,V3,V4,V5]:=cM rfl;have L3:∀(ok:AV->Bool)(K:AV->Option (AV×St)),ok (ints p.cz p.cs)=true->ia (.load none) [.ptr s.next 3] s7.heap ok K=K (ints p.cz p.cs):=λok K h=>uP (ld q7 rfl) ok h K
 have L4:∀(ok:AV->Bool)(K:AV->Option (AV×St)),ok (gK p.rz p.rs)=true->ia (.load none) [.ptr s.next 4] s8.heap ok K=K (gK p.rz p.rs):=λok K h=>uP (ld q8 rfl) ok h K
 have b3:=vD (DQ (d:=2) p.cz p.cs);have b4:=vD (XB p.rz p.rs);have w36:=lu (p:=s.next) (o:=3) (h:=s6.heap) (v:=ints p.cz p.cs) (ld q6 rfl) b3;have w46:=lu (p:=s.next) (o:=4) (h:=s6.heap) (v:=gK p.rz p.rs) (ld q6 rfl) b4;have w47:=lu (p:=s.next) (o:=4) (h:=s7.heap) (v:=gK p.rz p.rs) (ld q7 rfl) b4;have q2:=T2.box;have D3':=λk2=>D3 k2
 have E3':=λk2=>E3 k2
 simp at D3' E3';simp[hsB,yM,qB,C1,t1,q2,l1,D3',q3,C2,t2,q5,l2,E3',q6,C3,L3,w36,C4,L4,w46,w47,C5,t3,t4,t5,hcut,t6,hs13,p13]
theorem PS.oo{s0 s1 s s':St}{Vs:List AV}{p:bM}(h:PS s1 s Vs p)(h0:Wf s0)(N7:Grew s0 s1)(hg:Grew s0 s')(hk:∀q b,s1.next.toNat<=q.toNat->s.heap.get q=some b->s'.heap.get q=some b):PS s0 s' Vs p:=by
 obtain⟨G,V1,V2,V3,V4,V5,r1,r2,rfl,F1,F2,F3,F4,F5⟩:=h;exact⟨hg,V1,V2,V3,V4,V5,r1,r2,rfl,F1.oo h0 N7 hg hk,F2.oo h0 N7 hg hk,F3.oo h0 N7 hg hk,F4.oo h0 N7 hg hk,F5.oo h0 N7 hg hk⟩
theorem PS.cells{s0 s:St}{Vs:List AV}{p:bM}(h:PS s0 s Vs p):Vs.length=5/\aM Vs=true:=by
 obtain⟨G,V1,V2,V3,V4,V5,r1,r2,rfl,F1,F2,F3,F4,F5⟩:=h;have o1:=F1.out.cells.2;have o2:=F2.out.cells.2;have o3:=F3.cells.2;have o4:=F4.cells.2;have o5:=F5.cells.2;simp only[aM,Zi1]at o1 o2 o3 o4 o5;exact⟨rfl,by simp only[aM,o1,o2,o3,o4,o5,Zi2]⟩
def kK(h:Int):List Int->List (Int×Int)->List Int->List (Int×Int)×List Int
 |[],E,q=>(E,q)
 |k::l,E,q=>if jZ E k=none then kK h l (E++[(k,ax .i64 ((jZ E h).getD 0+1))]) (q++[k])else kK h l E q
structure WI(s0 s:St)(m:Pos)(E:List (Int×Int))(v:AV)(q:List Int):Prop where
 jq:Wf s0
 ai:Grew s0 s
 mp:s.heap.get m=some (im E)
 amf:s0.next.toNat<=m.toNat
 Mr:QS 1 s v (q.map bV)
 Gq:∀b,aK v=some b->s0.next.toNat<=b.toNat
 nem:aK v≠some m
theorem Y7(l:List Int):∀r∈l.map bV,r.length=1:=λr hr=>by simp only[Zc7]at hr;obtain⟨m,_,rfl⟩:=hr;rfl
theorem arL{s0:St}{m:Pos}{lv:AV}{l:List Int}(hl:QS 1 s0 lv (l.map bV))(hll:l.length<=1000)(h:Int)(F:Nat):∀(r i f:Nat)(s:St)(E:List (Int×Int))(v:AV)(q:List Int),r<f->i+r=l.length->WI s0 s m E v (h::q)->q.length+r<=100000->
  ∃ s' v' q',kK h (l.drop i) E (h::q)=((kK h (l.drop i) E (h::q)).1,h::q')/\WI s0 s' m (kK h (l.drop i) E (h::q)).1 v' (h::q')/\q'.length<=q.length+r/\(∀p x,p≠m->aK v≠some p->s.heap.get p=some x->s'.heap.get p=some x/\aK v'≠some p)/\
    ∀(x0 Rf x42 x43:AV)(k6),jK c F k6 f [x0,.map m,v,Rf,x42,x43,lv,.int .i64 (l.length:Int),.int .i64 (i:Int)] s=k6 [x0,.map m,v',Rf,x42,x43] s':=by
 intro r;induction r with
 |zero=>
  intro i f s E v q hf h1 hI hq;obtain⟨f,rfl⟩:∃g,f=g+1:=⟨f - 1,by omega⟩
  obtain rfl:i=l.length:=by omega
  refine⟨s,v,q,?_,?_,by omega,λp x _ hp hx=>⟨hx,hp⟩,λx0 Rf x42 x43 k6=> ?_⟩
  . simp[kK]
  . simpa [kK]using hI
  . rw[wz];simp
 |succ r ih=>
  intro i f s E v q hf h1 hI hq;obtain⟨f,rfl⟩:∃g,f=g+1:=⟨f - 1,by omega⟩
  have hi:i<l.length:=by omega
  have w:ax .i64 ((i:Int)+1)=((i+1:Nat):Int):=wrap64 (by omega) (by omega);have hls:QS 1 s lv (l.map bV):=hl.mono λb x _ hx=>hI.ai.get hx
  obtain⟨b,o,cs,a1,_,a3,a4⟩:=hls.at (c:=c) (R:=AV×St) (Y7 l) (by decide) (i:=i) (by simpa using hi);have gi:cs[o]? =some (.int .i64 l[i]):=by simpa using a4 0 (.int .i64 l[i]) (by simp)
  have LK:=λ(K:AV->St->Option (AV×St))=>apN c K hI.mp l[i]
  rw[Zd9 hi];cases hk:jZ E l[i]with
  | none=>
    obtain⟨b2,o2,cs2,d1,d0,d3,d4⟩:=hI.Mr.at (c:=c) (R:=AV×St) (Y7 (h::q)) (by decide) (i:=0) (by simp);have g0:cs2[o2]? =some (.int .i64 h):=(by simpa using d4 0 (.int .i64 h) rfl);have i0:∀(K:AV->St->Option (AV×St))(s1:St),aq c (.idxA 1 none) [v,.int .i64 0] s1 K=K (.ptr b2 o2) s1:=λK s1=>d1 K .i64 s1
    have LH:=λ(K:AV->St->Option (AV×St))=>atK c K hI.mp h
    have MS:=λ(K:AV->St->Option (AV×St))=>ahm c K hI.mp hk (ax .i64 ((jZ E h).getD 0+1))
    generalize hd:ax .i64 ((jZ E h).getD 0+1)=d at MS;have lm:=hI.ai.wf _ _ hI.mp;have G1:Grew s0 (aY s m (im (E++[(l[i],d)]))):=⟨jD hI.ai.wf lm,λp x hp=>by have:=hI.jq _ _ hp;rw[aG (λe=>by have:=hI.amf;rw[e]at this;omega)];exact hI.ai.get hp,by rw[dH];exact hI.ai.next⟩
    have q1:QS 1 (aY s m (im (E++[(l[i],d)]))) v ((h::q).map bV):=hI.Mr.mono λb x hb hx=>by rw[aG (λe=>hI.nem (by rw[hb,e]))];exact hx
    have m1:=bN s m (im (E++[(l[i],d)]));obtain⟨s5,v5,e1,e2,e3,e4,e5,e6⟩:=q1.push (c:=c) (R:=AV×St) (bytes:=8) G1.wf (Y7 _) (z:=[.int .i64 0]) (x:= .int .i64 l[i]) rfl rfl rfl (by decide) (by simp;omega) (by simp;omega);have I5:WI s0 s5 m (E++[(l[i],d)]) v5 (h::(q++[l[i]])):=by
        refine⟨hI.jq,⟨e3,λp x hp=> ?_,Zb0 G1.next e4⟩,e5 m _ hI.nem m1,hI.amf,by rw[<-Zd7,Zc8];exact e2,λb hb=> ?_,λe=> ?_⟩
        . refine e5 p x (λe=> ?_) (G1.get hp);have:=hI.Gq p e;have:=hI.jq _ _ hp;omega
        . have:=e6 b hb;rw[dH]at this;have:=hI.ai.next;omega
        . have:=e6 m e;rw[dH]at this;omega
    obtain⟨s',v',q',f1,f2,f3,f4,f5⟩:=ih (i+1) f s5 _ v5 (q++[l[i]]) (by omega) (by omega) I5 (by simp;omega);have ew:kK h (l[i]::l.drop (i+1)) E (h::q)=kK h (l.drop (i+1)) (E++[(l[i],d)]) (h::(q++[l[i]])):=(by rw[kK,Zb3 hk,hd];rfl);rw[ew];refine⟨s',v',q',f1,f2,by simp at f3;omega,λp x kz yM hx=> ?_,λx0 Rf x42 x43 k6=> ?_⟩
    .   have ZQ:=e5 p x yM (by rw[aG (λe=>kz e.symm)];exact hx);refine f4 p x kz (λe=> ?_) ZQ;have:=e6 p e;rw[dH]at this;have:=hI.ai.wf _ _ hx;omega
    .   rw[<-f5 x0 Rf x42 x43 k6,wz];rw[hk]at LK;simp[-av,je,hi,a1,a3,gi,LK,i0,d3,g0,LH,hd,MS,e1,w]
  | some d0=>
    obtain⟨s',v',q',f1,f2,f3,f4,f5⟩:=ih (i+1) f s E v q (by omega) (by omega) hI (by omega);have ew:kK h (l[i]::l.drop (i+1)) E (h::q)=kK h (l.drop (i+1)) E (h::q):=by
        rw[kK,Za7 (by rw[hk];simp)]
    rw[ew];refine⟨s',v',q',f1,f2,by omega,f4,λx0 Rf x42 x43 k6=> ?_⟩;rw[<-f5 x0 Rf x42 x43 k6,wz];rw[hk]at LK;simp[je,hi,a1,a3,gi,LK,w]
theorem abx(k d x:Int):∀E:List (Int×Int),jZ (E++[(k,d)]) x=match jZ E x with|some e=>some e|none=>if x=k then some d else none
 |[]=>by simp only[Ze1,jZ]
 |(a,b)::E=>by
  show(if x=a then some b else jZ (E++[(k,d)]) x)=_;rw[abx k d x E];show _=match (if x=a then some b else jZ E x)with|some e=>some e|none=>if x=k then some d else none
  by_cases h:x=a
  . simp only[h,Zh7]
  . simp only[h,Zh0]
theorem aiB{α:Type}{P Q:α->Bool}(hPQ:∀x,P x=true->Q x=true):∀{l:List α}{a:α},a∈l->Q a=true->P a=false->l.countP P+1<=l.countP Q
 |x ::l,a,ha,h1,h2=>by
  rcases Za8.1 ha with rfl|ha
  . rw[Zo3,Zo3,h1,h2];have:=List.countP_mono_left (l:=l) (p:=P) (q:=Q) (λx _ h=>hPQ x h);simp;omega
  . have ih:=aiB hPQ ha h1 h2;rw[Zo3,Zo3];by_cases hx:P x=true
    .   rw[hx,hPQ x hx];simp;omega
    .   have:P x=false:=(by simpa using hx);rw[this];cases Q x<;>simp<;>omega
def cnt(n:Nat)(E:List (Int×Int)):Nat:=(List.range n).countP λ(i:Nat)=>(jZ E (i:Int)).isNone
theorem aqO{n:Nat}{E:List (Int×Int)}{k d:Int}(hk:0<=k/\k<(n:Int))(h:jZ E k=none):cnt n (E++[(k,d)])+1<=cnt n E:=by
 unfold cnt;refine aiB (a:=k.toNat) (λi hi=> ?_) (Zh6.2 (by omega)) ?_ ?_
 . rw[abx]at hi;cases h2:jZ E (i:Int)with
   |none=>rfl
   |some e=>rw[h2]at hi;cases hi
 . have:((k.toNat:Nat):Int)=k:=(by omega);rw[this,h];rfl
 . have:((k.toNat:Nat):Int)=k:=(by omega);rw[this,abx,h];simp
theorem K9{n:Nat}(h:Int):∀(l:List Int)(E:List (Int×Int))(q:List Int),(∀k∈l,0<=k/\k<(n:Int))->(∀k∈q,0<=k/\k<(n:Int))->
  cnt n (kK h l E q).1+(kK h l E q).2.length<=cnt n E+q.length/\∀k∈(kK h l E q).2,0<=k/\k<(n:Int)
 |[],E,q,_,hq=>⟨Za3 _,hq⟩
 |k ::l,E,q,hl,hq=>by
  have hk:=hl k (by simp);by_cases hn:jZ E k=none
  . rw[kK,Zb3 hn];obtain⟨a,b⟩:=K9 h l (E++[(k,ax .i64 ((jZ E h).getD 0+1))]) (q++[k]) (λx hx=>hl x (Za9 _ hx)) (λx hx=>by
        rcases Zd8.1 hx with hx|hx
        . exact hq x hx
        . simp at hx;subst hx;exact hk)
    have:=aqO (d:=ax .i64 ((jZ E h).getD 0+1)) hk hn;simp only[Ze6,Zc9,Zi9]at a;exact⟨by omega,b⟩
  . rw[kK,Za7 hn];exact K9 h l E q (λx hx=>hl x (Za9 _ hx)) hq
structure RL(s:St)(V:AV)(rows:List (List Int))(ws:List AV):Prop where
 out:QS 1 s V (ws.map λw=>[w])
 len:ws.length=rows.length
 dV:∀(i:Nat)(w:AV)(r:List Int),ws[i]? =some w->rows[i]? =some r->QS 1 s w (r.map bV)
 oc:∀w∈ws,w.cells=[w]
def Y8(rB rA:List (List Int)):Nat->List (Int×Int)->List Int->List (Int×Int)
 |0,E,_=>E
 |_+1,E,[]=>E
 |f+1,E,h::q=>Y8 rB rA f (kK h (rA.getD h.toNat []) (kK h (rB.getD h.toNat []) E (h::q)).1 (kK h (rB.getD h.toNat []) E (h::q)).2).1 (kK h (rA.getD h.toNat []) (kK h (rB.getD h.toNat []) E (h::q)).1 (kK h (rB.getD h.toNat []) E (h::q)).2).2.tail
set_option maxHeartbeats 2000000 in
theorem as8(hc:Sem c){s0:St}{jb m:Pos}{jc:List AV}{VB VA:AV}{rB rA:List (List Int)}{wB wA:List AV}{n:Nat}(hn:n<=10000)(hj:s0.heap.get jb=some (.cells jc 0))(h9:jc[9]? =some VB)(Xu:jc[10]? =some VA)
  (hB:RL s0 VB rB wB) (hA:RL s0 VA rA wA) (lB:rB.length=n) (lA:rA.length=n) (eB:∀r∈rB,r.length<=1000/\∀k∈r,0<=k/\k<(n:Int)) (eA:∀r∈rA,r.length<=1000/\∀k∈r,0<=k/\k<(n:Int)) (F:Nat) (hF:1010<=F) (k2):
  ∀(f g:Nat)(s:St)(E:List (Int×Int))(v:AV)(q:List Int),f<g->cnt n E+q.length<=f->f<=20000->(∀k∈q,0<=k/\k<(n:Int))->WI s0 s m E v q->
   ∃s',Grew s0 s'/\s'.heap.get m=some (im (Y8 rB rA f E q))/\oI c F k2 g [.ptr jb 0,.map m,v] s=k2 [.map m] s':=by
 intro f;induction f with
 |zero=>
  intro g s E v q hg h1 hf h2 hI;obtain⟨g,rfl⟩:∃g',g=g'+1:=⟨g - 1,by omega⟩
  obtain rfl:q=[]:=Zc5 (by omega);refine⟨s,hI.ai,hI.mp,?_⟩;have hl:∀(K:AV->St->Option (AV×St))(t:St),aq c (.lenB .l) [v] t K=K (.int .i64 0) t:=λK t=>by rw[hI.Mr.lenB];simp
  rw[wC];simp[hl]
 |succ f ih=>
  intro g s E v q hg h1 hf h2 hI;obtain⟨g,rfl⟩:∃g',g=g'+1:=⟨g - 1,by omega⟩
  have hl:∀(K:AV->St->Option (AV×St))(t:St),aq c (.lenB .l) [v] t K=K (.int .i64 (q.length:Int)) t:=λK t=>by rw[hI.Mr.lenB];simp
  cases q with
  |nil=>
   refine⟨s,hI.ai,hI.mp,?_⟩;rw[wC];simp[hl]
  |cons h q=>
   have hh:=h2 h (by simp);obtain⟨i,rfl⟩:∃i:Nat,h=(i:Int):=⟨h.toNat,by omega⟩
   have hi:i<n:=(by omega);have hw:=hI.ai.wf;obtain⟨b0,o0,cs0,_,d2,_,d4,_,d6,_⟩:=hI.Mr.set (c:=c) (R:=AV×St) (Y7 _) (by decide) (i:=0) (by simp);have g0:cs0[o0]? =some (.int .i64 (i:Int)):=(by simpa using d6 0 (.int .i64 (i:Int)) rfl);have j0:∀(K:AV->Option (AV×St)),fD (.idxA 1 none) [v,.int .i64 0] K=K (.ptr b0 o0):=λK=>d2 K .i64
   have one:∀(ws:List AV),∀r∈ws.map (λw=>[w]),r.length=1:=λws r hr=>by simp only[Zc7]at hr;obtain⟨w,_,rfl⟩:=hr;rfl
   have iB:i<wB.length:=(by rw[hB.len,lB];exact hi);have iA:i<wA.length:=(by rw[hA.len,lA];exact hi);obtain⟨b1,o1,cs1,_,e2,_,e4,_,e6,_⟩:=(hB.out.mono (s':=s) λb x _ hx=>hI.ai.get hx).set (c:=c) (R:=AV×St) (one wB) (by decide) (i:=i) (by simpa using iB);have gB:cs1[o1]? =some wB[i]:=(by simpa using e6 0 wB[i] (by simp));have jB:∀(K:AV->Option (AV×St)),fD (.idxA 1 none) [VB,.int .i64 (i:Int)] K=K (.ptr b1 o1):=λK=>e2 K .i64
   obtain⟨b2,o2,cs2,_,f2,_,f4,_,f6,_⟩:=(hA.out.mono (s':=s) λb x _ hx=>hI.ai.get hx).set (c:=c) (R:=AV×St) (one wA) (by decide) (i:=i) (by simpa using iA);have gA:cs2[o2]? =some wA[i]:=(by simpa using f6 0 wA[i] (by simp));have jA:∀(K:AV->Option (AV×St)),fD (.idxA 1 none) [VA,.int .i64 (i:Int)] K=K (.ptr b2 o2):=λK=>f2 K .i64
   have jbs:=hI.ai.get hj;have nc:∀(K:AV->Option (AV×St)),fD .nilCheck [.ptr jb 0] K=K (.ptr jb 0):=λK=>dB K (λH n=>rfl)
   have zS:bY [AV.af,.af] [(0,1),(1,1)] [wB[i],wA[i]]=some [wB[i],wA[i]]:=by
        simp[bY,cV,cU,aU,hB.oc _ (Zc2 iB),hA.oc _ (Zc2 iA)]
   have aua:bY (bU [AV.af] 2) [(0,1),(1,1)] [wB[i],wA[i]]=some [wB[i],wA[i]]:=zS;have G1:=Grew.ah hw (.cells [wB[i],wA[i]] 0);have I1:WI s0 (ah s (.cells [wB[i],wA[i]] 0)) m E v ((i:Int)::q):=⟨hI.jq,hI.ai.trans G1,G1.get hI.mp,hI.amf,hI.Mr.mono λb x _ hx=>G1.get hx,hI.Gq,hI.nem⟩
   have X1:=az s (.cells [wB[i],wA[i]] 0);have lv:∀b,aK v=some b->b.toNat<s.next.toNat:=λb hb=>hI.Mr.lt hw hb
   have lm:m.toNat<s.next.toNat:=hw _ _ hI.mp;have rBi:rB[i]? =some rB[i]:=H0 (by omega);have rAi:rA[i]? =some rA[i]:=H0 (by omega);have QB:=hB.dV i wB[i] rB[i] (H0 iB) rBi;have QA:=hA.dV i wA[i] rA[i] (H0 iA) rAi;have sB:=eB _ (Zc2 (by omega:i<rB.length));have sA:=eA _ (Zc2 (by omega:i<rA.length));have hq:q.length<=20000:=(by simp only[Zc9]at h1;omega);obtain⟨s2,v2,q2,k1,k2',k3,k4,k5⟩:=arL (c:=c) QB sB.1 (i:Int) F rB[i].length 0 F _ E v q (by omega) (by omega) I1 (by omega);rw[Zf3]at k1 k2';obtain⟨Y1,Z1⟩:=k4 s.next _ (λe=>by rw[<-e]at lm;omega) (λe=>by have:=lv _ e;omega) X1;obtain⟨s3,v3,q3,l1,l2,l3,l4,l5⟩:=arL (c:=c) QA sA.1 (i:Int) F rA[i].length 0 F _ _ v2 q2 (by omega) (by omega) k2' (by omega);rw[Zf3]at l1 l2;obtain⟨Y2,Z2⟩:=l4 s.next _ (λe=>by rw[<-e]at lm;omega) Z1 Y1;obtain⟨v4,t1,t2,t3⟩:=QS.tail (R:=AV×St) (c:=c) (r:=bV (i:Int)) (rows:=q3.map bV) l2.Mr rfl;obtain⟨n1,n2⟩:=K9 (n:=n) (i:Int) rB[i] E ((i:Int)::q) sB.2 h2;rw[k1]at n1 n2;obtain⟨n3,n4⟩:=K9 (n:=n) (i:Int) rA[i] (kK (i:Int) rB[i] E ((i:Int)::q)).1 ((i:Int)::q2) sA.2 n2;rw[l1]at n3 n4;have I4:WI s0 s3 m (kK (i:Int) rA[i] (kK (i:Int) rB[i] E ((i:Int)::q)).1 ((i:Int)::q2)).1 v4 q3:=⟨l2.jq,l2.ai,l2.mp,l2.amf,t2,λb hb=>l2.Gq b (t3 b hb),λe=>l2.nem (t3 _ e)⟩
   obtain⟨s5,u1,u2,u3⟩:=ih g s3 _ v4 q3 (by omega) (by simp only[Zc9]at n1 n3 h1;omega) (by omega) (λk hk=>n4 k (Za9 _ hk)) I4;have ew:Y8 rB rA (f+1) E ((i:Int)::q)=Y8 rB rA f (kK (i:Int) rA[i] (kK (i:Int) rB[i] E ((i:Int)::q)).1 ((i:Int)::q2)).1 q3:=(by have gb:rB.getD ((i:Int)).toNat []=rB[i]:=(by simp[List.getD,rBi]);have ga:rA.getD ((i:Int)).toNat []=rA[i]:=(by simp[List.getD,rAi]);rw[Y8,gb,ga];have e1:(kK (i:Int) rB[i] E ((i:Int)::q)).2=(i:Int)::q2:=(by rw[k1]);rw[e1];have e2:(kK (i:Int) rA[i] (kK (i:Int) rB[i] E ((i:Int)::q)).1 ((i:Int)::q2)).2=(i:Int)::q3:=(by rw[l1]);rw[e2];rfl);refine⟨s5,u1,by rw[ew];exact u2,?_⟩;obtain⟨F',rfl⟩:∃F',F=F'+3:=⟨F - 3,by omega⟩
   have x0:∀(K:AV->St->Option (AV×St))(t:St),aq c (.idxA 1 none) [.slice s.next 0 2 (some 2) 1,.int .i64 0] t K=K (.ptr s.next 0) t:=λK t=>iV c K t (i:=0) (k:= .i64) (es:=1) (by omega)
   have x1:∀(K:AV->St->Option (AV×St))(t:St),aq c (.idxA 1 none) [.slice s.next 0 2 (some 2) 1,.int .i64 1] t K=K (.ptr s.next 1) t:=λK t=>iV c K t (i:=1) (k:= .i64) (es:=1) (by omega)
   have y0:∀(K:AV->St->Option (AV×St))(t:St),aq c (.lenB .l) [wB[i]] t K=K (.int .i64 (rB[i].length:Int)) t:=λK t=>by rw[QB.lenB];simp
   have y1:∀(K:AV->St->Option (AV×St))(t:St),aq c (.lenB .l) [wA[i]] t K=K (.int .i64 (rA[i].length:Int)) t:=λK t=>by rw[QA.lenB];simp
   have y2:∀(K:AV->Option (AV×St)),fD (.lenB .l) [.slice s.next 0 2 (some 2) 1] K=K (.int .i64 2):=λK=>dB K (λH n=>rfl)
   have w1:ax .i64 (1:Int)=1:=rfl;have w2:ax .i64 (2:Int)=2:=rfl;have R1:∀k4,fq c (F'+3) k4 (F'+3) [.ptr jb 0,.map m,v,.slice s.next 0 2 (some 2) 1,.int .i64 2,.int .i64 0] (ah s (.cells [wB[i],wA[i]] 0))=fq c (F'+3) k4 (F'+2) [.ptr jb 0,.map m,v2,.slice s.next 0 2 (some 2) 1,.int .i64 2,.int .i64 1] s2:=λk4=>by
        (rw[wD];have:=λk6=>k5 (.ptr jb 0) (.slice s.next 0 2 (some 2) 1) (.int .i64 2) (.int .i64 0) k6);simp at this;simp[x0,X1,y0,this,w1]
   have R2:∀k4,fq c (F'+3) k4 (F'+2) [.ptr jb 0,.map m,v2,.slice s.next 0 2 (some 2) 1,.int .i64 2,.int .i64 1] s2=fq c (F'+3) k4 (F'+1) [.ptr jb 0,.map m,v3,.slice s.next 0 2 (some 2) 1,.int .i64 2,.int .i64 2] s3:=λk4=>by
        (rw[wD];have:=λk6=>l5 (.ptr jb 0) (.slice s.next 0 2 (some 2) 1) (.int .i64 2) (.int .i64 1) k6);simp at this;simp[x1,Y1,y1,this,w2]
   have R3:∀k4,fq c (F'+3) k4 (F'+1) [.ptr jb 0,.map m,v3,.slice s.next 0 2 (some 2) 1,.int .i64 2,.int .i64 2] s3=k4 [.ptr jb 0,.map m,v3] s3:=λk4=>by rw[wD];simp
   rw[<-u3,wC];have We:0<(q.length:Int)+1:=(by omega);simp[hl,We,nc,jbs,h9,Xu,j0,d4,g0,jB,e4,gB,jA,f4,gA,aua,y2,R1,R2,R3,t1]
def acy(rB rA:List (List Int))(n:Nat)(fr:Int):List (Int×Int):=Y8 rB rA (n+1) [(fr,0)] [fr]
theorem as9(hc:Sem c){jb:Pos}{jc:List AV}{VB VA:AV}{rB rA:List (List Int)}{wB wA:List AV}{n:Nat}(hn:n<=10000)(s:St)(hw:Wf s)(hj:s.heap.get jb=some (.cells jc 0))(h9:jc[9]? =some VB)(Xu:jc[10]? =some VA)
  (hB:RL s VB rB wB) (hA:RL s VA rA wA) (lB:rB.length=n) (lA:rA.length=n) (eB:∀r∈rB,r.length<=1000/\∀k∈r,0<=k/\k<(n:Int)) (eA:∀r∈rA,r.length<=1000/\∀k∈r,0<=k/\k<(n:Int)) (fr:Int) (Ff:0<=fr/\fr<(n:Int)):
  ∃m s',c 67 [.ptr jb 0,.int .i64 fr] s=some (.map m,s')/\Grew s s'/\s.next.toNat<=m.toNat/\s'.heap.get m=some (im (acy rB rA n fr)):=by
 have cg:Wf (ah s (im [])):=bn hw;have g1:=Grew.ah hw (im []);have m1:=az s (im []);have MS:=λ(K:AV->St->Option (AV×St))=>ahm c K m1 (x:=fr) rfl 0
 have lm:=cg _ _ m1;have G2:Grew s (aY (ah s (im [])) s.next (im ([]++[(fr,0)]))):=⟨jD cg lm,λp x hp=>by have:=hw _ _ hp;rw[aG (λe=>by rw[<-e]at this;omega)];exact g1.get hp,by rw[dH];exact g1.next⟩
 have m2:=bN (ah s (im [])) s.next (im ([]++[(fr,0)]));generalize rJ:aY (ah s (im [])) s.next (im ([]++[(fr,0)]))=s2 at MS G2 m2;have row:=λ(K:AV->St->Option (AV×St))=>Gb (c:=c) (es:=1) (z:=[.int .i64 0]) (x:= .int .i64 fr) rfl rfl s2 K
 have g3:=Grew.ah G2.wf (.cells (AV.cells (.int .i64 fr)) 0);have lm2:=G2.wf _ _ m2;have I:WI s (ah s2 (.cells (AV.cells (.int .i64 fr)) 0)) s.next [(fr,0)] (.slice s2.next 0 1 (some 1) 1) [fr]:=by
  refine⟨hw,G2.trans g3,g3.get m2,Za3 _,.inr (.inl ⟨s2.next,0,some 1,[.int .i64 fr],rfl,az _ _,by simp,by simp,.inr rfl⟩),λb hb=> ?_,λe=> ?_⟩
  . obtain rfl:=qk hb;exact G2.next
  . have:=congrArg Pos.toNat (qk e);omega
 have hc1:cnt n [(fr,0)]+[fr].length<=n+1:=by
  have:cnt n [(fr,0)]<=n:=by unfold cnt;exact Zb0 List.countP_le_length (by simp)
  simp;omega
 obtain⟨s',u1,u2,u3⟩:=as8 hc hn hj h9 Xu hB hA lB lA eB eA 20000 (by omega) (λvs s59=>fO vs λx5 vs=>iT vs (aq c .move [x5] s59 λx75 s60=>aq c .move [x75] s60 λx4 s61=>some (x4,s61))) (n+1) 20000 _ _ _ [fr] (by omega) hc1 (by omega) (λk hk=>by simp at hk;subst hk;exact Ff) I;refine⟨s.next,s',?_,u1,Za3 _,u2⟩;rw[VK hc 20000 (r:=(.map s.next,s')),aij];rw[ZM];have hmk:∀(K:AV->St->Option (AV×St)),aq c .mkMap [] s K=K (.map s.next) (ah s (im [])):=λK=>by rw[WM];rfl
 simp at u3;simp[-av,-WM,hmk,MS,row,u3]
theorem ata(hc:Sem c)(z:Bool)(ts:List aB)(cF:∀t∈ts,t.Ok){pb sb:Pos}{cs:List AV}(h0:cs[0]? =some (tabs z ts))(a b:Int)(ha:a<=4611686018427387904)(hb:b<=4611686018427387904)(s:St)(hw:Wf s)
  (hp:s.heap.get pb=some (.cells cs 0)) (hs:s.heap.get sb=some (.cells [.int .i64 a] 0)):
  c 63 [.int .i64 b,.ptr pb 0,.ptr sb 0] s=some (.bool (XJ ts a b),s):=by
 have B:=an6 hc z ts cF a b ha hb s hw;rw[aek hc 1 (r:=(.bool (XJ ts a b),s)),aE (Plain.bool _) (aT.refl s)];rw[aiC];simp[hp,hs,h0,B]
theorem atb(hc:Sem c)(z:Bool)(ts:List aB)(cF:∀t∈ts,t.Ok){pb sb:Pos}{cs:List AV}(h0:cs[0]? =some (tabs z ts))(a b:Int)(ha:a<=4611686018427387904)(hb:b<=4611686018427387904)(s:St)(hw:Wf s)
  (hp:s.heap.get pb=some (.cells cs 0)) (hs:s.heap.get sb=some (.cells [.int .i64 a] 0)):
  c 65 [.int .i64 b,.ptr pb 0,.ptr sb 0] s=some (.bool (XK ts a b),s):=by
 have B:=an7 hc z ts cF a b ha hb s hw;rw[ael hc 1 (r:=(.bool (XK ts a b),s)),aE (Plain.bool _) (aT.refl s)];rw[aiD];simp[hp,hs,h0,B]
theorem aol(hc:Sem c)(z:Bool)(ts:List aB)(cF:∀t∈ts,t.Ok){pb sb:Pos}{cs:List AV}(h0:cs[0]? =some (tabs z ts))(a:Int)(ha:a<=1000000){first:Int}(hf:0<=first/\first<=1000000){n:Nat}(hn:n<=1000000)(s:St)(hw:Wf s)
  (hp:s.heap.get pb=some (.cells cs 0)) (hs:s.heap.get sb=some (.cells [.int .i64 a] 0)):
  ∃v s',c 62 [.int .i64 first,.int .i64 (n:Int),.func 63 [] [.ptr pb 0,.ptr sb 0]] s=some (v,s')/\Mk 1 s s' v ((lZ first n (XJ ts a)).map bV):=
 ait hc hf hn hw λk t hg h1 h2=>ata hc z ts cF h0 a k (by omega) (by omega) t hg.wf (hg.get hp) (hg.get hs)
theorem aom(hc:Sem c)(z:Bool)(ts:List aB)(cF:∀t∈ts,t.Ok){pb sb:Pos}{cs:List AV}(h0:cs[0]? =some (tabs z ts))(a:Int)(ha:a<=1000000){first:Int}(hf:0<=first/\first<=1000000){n:Nat}(hn:n<=1000000)(s:St)(hw:Wf s)
  (hp:s.heap.get pb=some (.cells cs 0)) (hs:s.heap.get sb=some (.cells [.int .i64 a] 0)):
  ∃v s',c 62 [.int .i64 first,.int .i64 (n:Int),.func 65 [] [.ptr pb 0,.ptr sb 0]] s=some (v,s')/\Mk 1 s s' v ((lZ first n (XK ts a)).map bV):=
 ait hc hf hn hw λk t hg h1 h2=>atb hc z ts cF h0 a k (by omega) (by omega) t hg.wf (hg.get hp) (hg.get hs)
theorem aon(z:Bool)(ts:List aB)(k:Nat)(hk:k<ts.length)(K:AV->St->Option (AV×St))(s:St):aq c (.sliceL 7 true true false) [tabs z ts,.int .i64 (k:Int),.int .i64 ((k+1:Nat):Int)] s K=K (tabs false [ts[k]]) s:=by
 have e:tabs z ts= .fl (ts.map aB.cells) 7:=by
  unfold tabs;exact adD (by intro h;have:=congrArg List.length h;simp at this;subst this;simp at hk)
 have run:∀(H:Pos->Option AB)(n:Pos),aF.run H n (.sliceL 7 true true false) [tabs z ts,.int .i64 (k:Int),.int .i64 ((k+1:Nat):Int)]=some (.val (tabs false [ts[k]])):=λH n=>by
  rw[e];have hb:bounds true true false [.int .i64 (k:Int),.int .i64 ((k+1:Nat):Int)]=some (some k,some (k+1),none):=rfl;have h1:k+1<=(ts.map aB.cells).length:=by simp;omega
  simp only[aF.run,iP,hb,cV,cU,Zh2,Ze9,Za0 (Nat.le_succ k),Za0 h1];have:((ts.map aB.cells).take (k+1)).drop k=[ts[k].cells]:=by rw[Zc6 (by simpa using hk),Zg4 (by simp;omega)];simp
  rw[this];rfl
 exact aR c K run s
theorem aoo(hc:Sem c)(t:aB)(cF:t.Ok)(h:rZ t=0)(s:St)(hw:Wf s):c 59 [tabs false [t]] s=some (.int .i64 (bJ t),s):=by
 rw[Gm hc false [t] (λu hu=>by simp at hu;subst hu;exact cF) s hw,Zb3 (HP h)];simp[aW]
def mnS(a b:List Nat):List Nat:=match aO a b||kA a b with|true=>a|false=>b
def mxS(a b:List Nat):List Nat:=match aO a b with|true=>b|false=>a
theorem aqP(hc:Sem c)(a b:List Nat)(k:Int)(st:St)(hw:Wf st):c 186 [.str a,.str b,.int .u8 k] st=some (.agg (Ty.cells ⟨mnS a b,mxS a b,k⟩),st):=by
 rw[QY hc 1 (r:=(.agg (Ty.cells ⟨mnS a b,mxS a b,k⟩),ah st (.cells (Ty.cells ⟨mnS a b,mxS a b,k⟩) 0))),aE (Plain.agg (by simp[Ty.cells,Plain.str,Plain.int])) (cm hw)];rw[XA];have m1:∀(K:AV->St->Option (AV×St))(s:St),aq c .minB [.str a,.str b] s K=K (.str (mnS a b)) s:=λK s=>aR c K (λH n=>rfl) s
 have m2:∀(K:AV->St->Option (AV×St))(s:St),aq c .maxB [.str a,.str b] s K=K (.str (mxS a b)) s:=λK s=>aR c K (λH n=>rfl) s
 simp[m1,m2,bY,aU,cU,AV.cells,aM,AV.one,cM,Ty.cells]
theorem afd{ts:List Ty}(hs:Jm ts)(t:Ty):∀n,n<=ts.length->∃q,q<=n/\(∀h (hh:h<ts.length),h<q->gh ts[h] t=true)/\∀h (hh:h<ts.length),q<=h->h<n->gh ts[h] t=false
 |0,_=>⟨0,Za3 _,λh _ hq=>absurd hq (Nat.not_lt_zero _),λh _ _ hq=>absurd hq (Nat.not_lt_zero _)⟩
 |n+1,hn=>by
  obtain⟨q,h1,h2,h3⟩:=afd hs t n (by omega);cases hb:gh (ts[n]'(by omega)) t with
  |true=>
   refine⟨n+1,Za3 _,λh hh hq=> ?_,λh hh hq1 hq2=>by omega⟩;by_cases e:h=n
   . subst e;exact hb
   . exact KW (hs h n (by omega) (by omega)) hb
  |false=>
   refine⟨q,by omega,h2,λh hh hq1 hq2=> ?_⟩;by_cases e:h=n
   . subst e;exact hb
   . exact h3 h hh hq1 (by omega)
theorem aop(hc:Sem c){s0 s:St}{bp mp:Pos}{gs:List aQ}{ts:List Ty}{gk tk:Option Pos}(B:eF s0 s bp mp gs ts gk tk)(hl:ts.length<=1000)(a b:List Nat)(hs:Jm ts):
   ∃(q:Nat) (ok:Bool),(ok=true->q<ts.length)/\c 137 [.ptr bp 0,.str a,.str b] s=some (.tuple [.int .i64 (q:Int),.bool ok],s):=by
 obtain⟨q,h1,h2,h3⟩:=afd hs ⟨mnS a b,mxS a b,0⟩ ts.length (Za3 _);refine⟨q,Fo ts ⟨mnS a b,mxS a b,0⟩ q,λe=> ?_,?_⟩
 . by_cases h:q<ts.length
   . exact h
   . unfold Fo at e;rw[Zc4 (by omega)]at e;cases e
 have hpr:=aqP hc a b 0 s B.wf;have Hg:=arH hc ts hl ⟨mnS a b,mxS a b,0⟩ q h1 h2 (λh hh hq=>h3 h hh hq hh) tk s B.wf B.yw.1 B.yw.2;rw[DO hc 1 (r:=(.tuple [.int .i64 (q:Int),.bool (Fo ts ⟨mnS a b,mxS a b,0⟩ q)],s)),aE (Plain.tuple (by simp[Plain.int,Plain.bool])) (aT.refl s)];rw[HN];have bq:eo (kX tk ts.length 3) (kX tk ts.length 3)=true:=by cases tk;exact Sx;exact N6 _ _ _ _
 have Mn:=λ(K:AV->Option (AV×St))=>kg K (p:=bp) (o:=1) (h:=s.heap) (h2:=s.heap) (v:=kX tk ts.length 3) (by rw[B.book];rfl) (by rw[B.book];rfl) bq
 simp[hpr,Mn,Hg]
theorem atc(hc:Sem c){s0 s:St}{bp mp:Pos}{gs:List aQ}{ts:List Ty}{gk tk:Option Pos}(B:eF s0 s bp mp gs ts gk tk)(hl:ts.length<=1000)(hs:Jm ts)(a b:List Nat):
  ∃(k:Int) (ok:Bool),c 70 [.ptr bp 0,.str a,.str b] s=some (.tuple [.int .u8 k,.bool ok],s):=by
 obtain⟨q,ok,h1,h2⟩:=aop hc B hl a b hs;have hn:=Y4 hc s bp mp _ _ B.book;cases ok with
 |false=>
  refine⟨0,false,?_⟩;rw[Fs hc 1 (r:=(.tuple [.int .u8 0,.bool false],s)),aE (Plain.tuple (by simp[Plain.int,Plain.bool])) (aT.refl s)];rw[Jn];simp[hn,h2]
 |true=>
  have hq:=h1 rfl;obtain⟨t,rfl⟩:∃t,tk=some t:=by
   cases tk with
   |none=>rw[B.yw.1 rfl]at hq;simp at hq
   |some t=>exact⟨t,rfl⟩
  have um:=B.yw.2 t rfl;obtain⟨k,hk⟩:∃k,(ts[q].cells)[2]? =some (.int .u8 k):=⟨_,rfl⟩
  have KF:(ts.flatMap Ty.cells)[q*3+2]? =some (.int .u8 k):=by have:=Go.Ai.yV (rows:=ts.map Ty.cells) (es:=3) (λr hr=>by simp only[Zc7]at hr;obtain⟨t,_,rfl⟩:=hr;rfl) q 2 ts[q].cells (.int .u8 k) (by rw[Zb4,H0 hq];rfl) hk;exact this
  refine⟨k,true,?_⟩;have ix:=λ(K:AV->St->Option (AV×St))(s:St)=>iV c K s (b:=t) (off:=0) (es:=3) (es':=3) (cap:=none) (k:= .i64) hq
  rw[Fs hc 1 (r:=(.tuple [.int .u8 k,.bool true],s)),aE (Plain.tuple (by simp[Plain.int,Plain.bool])) (aT.refl s)];rw[Jn];simp[hn,h2,B.book,kX,ix,um,KF]
theorem afe{k:AV}:∀{es:List (AV×AV×Nat)}{i j:Nat}{v:AV},gP .s k es i=some (some (j,v))->∃e∈es,e.2.1=v
 |[],i,j,v,h=>by cases h
 |(k',v',n)::es,i,j,v,h=>by
  unfold gP at h;split at h
  . simp only[H5,Zd1]at h;exact⟨_,Zd6,h.2⟩
  . obtain⟨e,h1,h2⟩:=afe h;exact⟨e,Za9 _ h1,h2⟩
  . cases h
def yD:aQ:=⟨[],[],[],0,0,[],false,false,true,[]⟩
theorem aiE(hc:Sem c){s0 s:St}{bp mp:Pos}{gs:List aQ}{ts:List Ty}{gk tk:Option Pos}(B:eF s0 s bp mp gs ts gk tk)(a:List Nat):
   ∃(g:aQ) (v:AV) (ok:Bool) (s':St),c 132 [.ptr bp 0,.str a] s=some (.tuple [.agg (g.aj v),.bool ok],s')/\Mk 1 s s' v (g.tg.map qe)/\g.tg.length<=4:=by
 have hn:=λ(t:St)(hg:Grew s t)=>Y4 hc t bp mp _ _ (B.ai hg).book
 obtain⟨es,cl,m1,m2⟩:=B.DN;have hw:=B.wf;have G0:=Grew.ah hw (.cells (yD.aj .af) 0);have Qg:=hn _ G0;rcases GZ a gs es 0 m2 with⟨Ag,j,v,hf⟩|⟨Ag,hf⟩
 . obtain⟨e,he,rfl⟩:=afe hf;obtain⟨i,hi,aV⟩:=B.Pd es cl m1 e he;obtain⟨b,rfl⟩:∃b,gk=some b:=by
    cases gk with
    |none=>rw[B.tq.1 rfl]at aV;simp at aV
    |some b=>exact⟨b,rfl⟩
   obtain⟨cs,c1,c2⟩:=B.tq.2 b rfl;obtain⟨lo,l4,w,gF,w1,w2,Q,_⟩:=B.rows b cs rfl c1 i gs[i] (H0 aV);obtain⟨v,s3,h3,M⟩:=ae4 hc gs[i] lo (by omega) (src:=w) _ (bn hw) (.inr (Q.mono λp x _ hx=>G0.get hx)) w1 w2;have M1:=M.back hw G0;have hcut:cut cs (i*9) 9=some ((gs[i]).aj w):=by
    unfold cut;have:i*9+9<=cs.length:=(by omega);rw[cU,Za0 this,gF]
   have hz:s3.heap.get s.next=some (.cells (yD.aj .af) 0):=M.ai.get (az _ _);have hv:=M.cells;have ho:aM ((gs[i]).aj v)=true:=(gs[i]).Gi hv.2
   let s4:=aY s3 s.next (.cells ((gs[i]).aj v) 0)
   have alO:s.next.toNat<s3.next.toNat:=(by have:=M.ai.next;rw[bD,Pos.aC]at this;omega);have M4:Mk 1 s s4 v ((gs[i]).tg.map qe):=M1.store (Za3 _) alO (λe=>by have:=M.new _ e;rw[bD,Pos.aC]at this;omega);have Ak:∀u∈(gs[i]).aj v,dm u:=λu hu=>by
    simp only[aQ.aj,Za8,Zb7,Ze4]at hu;rcases hu with rfl|rfl|rfl|rfl|rfl|rfl|rfl|rfl|rfl
    . exact dm.str lo.name
    . exact dm.str lo.zf
    . exact dm.str lo.jP
    . exact dm.int _ _
    . exact dm.int _ _
    . exact dm.str lo.o8
    . exact dm.bool _
    . exact dm.bool _
    . exact M.inst
   obtain⟨s5,t1,t2⟩:=M4.akd (l:=(gs[i]).aj v) (by simp[aQ.aj]) Ak true;refine⟨gs[i],v,true,s5,?_,t2,l4⟩;have ix:=λ(K:AV->St->Option (AV×St))(s:St)=>iV c K s (b:=b) (off:=0) (es:=9) (es':=9) (cap:=none) (k:= .i64) aV
   have lk:=λ(K:AV->St->Option (AV×St))=>CC c K (.int .i64 0) (st:=ah s (.cells (yD.aj .af) 0)) (k:= .str a) (G0.get m1) hf
   have bw:=λ(K:AV->St->Option (AV×St))=>bP c K s3 9 s.next 0 (.agg ((gs[i]).aj v)) _ hz rfl (by simp[yD,aQ.aj]) ho
   have A7:aU (yD.aj .af) 0 (AV.agg ((gs[i]).aj v)).cells=(gs[i]).aj v:=rfl;rw[A7]at bw;have hg4:s4.heap.get s.next=some (.cells ((gs[i]).aj v) 0):=bN _ _ _;have hca:cut ((gs[i]).aj v) 0 9=some ((gs[i]).aj v):=cM rfl;have b1:=G0.get B.book;have c3:=G0.get c1;rw[Ft hc 1 (r:=(.tuple [.agg ((gs[i]).aj v),.bool true],s4)),t1];rw[Jo];have al:∀(K:AV->St->Option (AV×St)),aq c (.alloc [(.str []),(.str []),(.str []),(.int .i64 0),(.int .i64 0),(.str []),(.bool false),(.bool false),.af]) [] s K=K (.ptr s.next 0) (ah s (.cells (yD.aj .af) 0)):=λK=>by rw[dF];rfl
   rw[al];simp only[hi]at lk;simp[-dF,Qg,b1,lk,kX,ix,c3,hcut,h3,bw];rw[hca,gO]
 . have lk:=λ(K:AV->St->Option (AV×St))=>CC c K (.int .i64 0) (st:=ah s (.cells (yD.aj .af) 0)) (k:= .str a) (G0.get m1) hf
   have b1:=G0.get B.book;have M0:Mk 1 s (ah s (.cells (yD.aj .af) 0)) .af (yD.tg.map qe):=Mk.start hw G0;have Ak:∀u∈yD.aj .af,dm u:=λu hu=>by
    simp only[yD,aQ.aj,Za8,Zb7,Ze4]at hu;rcases hu with rfl|rfl|rfl|rfl|rfl|rfl|rfl|rfl|rfl
    . exact dm.str (by simp)
    . exact dm.str (by simp)
    . exact dm.str (by simp)
    . exact dm.int _ _
    . exact dm.int _ _
    . exact dm.str (by simp)
    . exact dm.bool _
    . exact dm.bool _
    . exact dm.af
   obtain⟨s5,t1,t2⟩:=M0.akd (l:=yD.aj .af) (by simp[aQ.aj]) Ak false;refine⟨yD,.af,false,s5,?_,t2,by simp[yD]⟩;rw[Ft hc 1 (r:=(.tuple [.agg (yD.aj .af),.bool false],ah s (.cells (yD.aj .af) 0))),t1];rw[Jo];have al:∀(K:AV->St->Option (AV×St)),aq c (.alloc [(.str []),(.str []),(.str []),(.int .i64 0),(.int .i64 0),(.str []),(.bool false),(.bool false),.af]) [] s K=K (.ptr s.next 0) (ah s (.cells (yD.aj .af) 0)):=λK=>by rw[dF];rfl
   have bd:∀(K:AV->St->Option (AV×St))(s:St),aq c (.build [(.str []),(.str []),(.str []),(.int .i64 0),(.int .i64 0),(.str []),(.bool false),(.bool false),.af] []) [] s K=K (.agg (yD.aj .af)) s:=λK s=>by rw[ir];rfl
   have bw:=λ(K:AV->St->Option (AV×St))=>cr c K s 9 (.agg (yD.aj .af)) (yD.aj .af) rfl rfl rfl
   have hca:cut (yD.aj .af) 0 9=some (yD.aj .af):=cM rfl;have ce:(AV.agg (yD.aj .af)).cells=yD.aj .af:=rfl;rw[al];simp[-dF,-ir,Qg,b1,lk,bd,bw,hca,ce]
end
end Go.Proofs.YtgihekklfnjkiaaGreatDoor
