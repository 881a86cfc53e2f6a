/- Functions of the program, plainly, and what they answer. -/
import Derived.Test.YtlkadmkojjceiaaGreatDoorKLawB
import Derived.Deep.DeepHandedRow
set_option linter.all false
set_option maxRecDepth 100000
set_option maxHeartbeats 4000000
namespace Go.Proofs.YtlkadmkojjceiaaGreatDoor
section
open Go Go.Ai Go.Proofs
variable{c:ah}
end
section
open Go Go.Ai Go.Proofs
end
section
set_option linter.unusedSimpArgs false
open Go Go.Ai Go.Proofs
variable{c:ah}
theorem TS.aY{s0 s s':St}{V:AV}{ts:List aD}{rows:List (List AV)}(h:TS s0 s V ts rows)(g:Grew s s'):TS s0 s' V ts rows:=
 ⟨h.out.grow g,h.len,λi t r a b=>by obtain⟨v,e1,e2,e3⟩:=h.wY i t r a b;exact⟨v,e1,e2.grow g,e3⟩⟩
theorem GS.aY{s0 s s':St}{V:AV}{ts:List aG}{rows:List (List AV)}(h:GS s0 s V ts rows)(g:Grew s s'):GS s0 s' V ts rows:=
 ⟨h.out.grow g,h.len,λi t r a b=>by obtain⟨v,e1,e2,e3⟩:=h.wY i t r a b;exact⟨v,e1,e2.grow g,e3⟩⟩
theorem PS.MP{s0 s s':St}{Vs:List AV}{p:aR}(h:PS s0 s Vs p)(g:Grew s s'):PS s0 s' Vs p:=by
 obtain⟨V1,V2,V3,V4,V5,r1,r2,rfl,h1,h2,h3,h4,h5⟩:=h.all;exact⟨h.aY.trans g,V1,V2,V3,V4,V5,r1,r2,rfl,h1.aY g,h2.aY g,h3.grow g,h4.grow g,h5.grow g⟩
abbrev Cn(tk:List Bool):List AV:=tk.map AV.bool
section
variable{st sB s:St}{Vs:List AV}{p:aR}
theorem PS.rT(h:PS st s Vs p):∃V1 V2 r1 r2,Vs[0]? =some V1/\Vs[1]? =some V2/\TS st s V1 p.ts r1/\GS st s V2 p.gs r2/\Vs.length=5:=by
 obtain⟨V1,V2,V3,V4,V5,r1,r2,rfl,h1,h2,_⟩:=h.all;exact⟨V1,V2,r1,r2,rfl,rfl,h1,h2,rfl⟩
theorem XM(N:Nat):List.replicate N (AV.bool false)=Cn (List.replicate N false):=List.map_replicate.symm
end
set_option linter.unusedSimpArgs false
theorem ZF(q:List Int):q.map ju=(q.map (AV.int .i64)).map Vk:=by rw[Zf5];rfl
theorem rdI{s:St}{v:AV}{q:List Int}(h:QS 1 s v (q.map ju)){i:Nat}{x:Int}(hx:q[i]? =some x):∃b o,Rd s 1 v i b o [.int .i64 x]:=by
 rw[ZF]at h;exact h.rd1 (by rw[Zb7,hx];rfl)
section
variable{s:St}{P:AV}{q:List Int}
end
set_option linter.unusedSimpArgs false
section
variable{sB s:St}{P:AV}{q:List Int}{N n:Nat}
end
section
variable{s0 s:St}{Vs:List AV}{p:aR}{P:AV}{q:List Int}{N:Nat}
end
end
section
open Go Go.Ai Go.Proofs
variable{c:ah}
theorem PT(z:Bool)(l:List (Int))(hl:l.length<=jL)(F:Nat)(k2){s0:St}:∀(m k:Nat)(s:St)(v:AV),Mk 1 s0 s v ((l.take k).map ju)->l.length<=k+m->k<=l.length->
  ∃s' v',Mk 1 s0 s' v' (l.map ju)/\fY c F k2 (m+1) [ints z l,v,.int .i64 (k:Int)] s=k2 [v'] s':=by
 have hl:l.length<=1048576:=hl;have lI:∀(K:AV->St->Option (AV×St))(s:St),ai c (.lenB .l) [ints z l] s K=K (.int .i64 (l.length:Int)) s:=λK s=>by unfold ints;rw[bN];simp
 intro m;induction m with
 |zero=>
  intro k s v hM h1 h2;obtain rfl:k=l.length:=by omega
  refine⟨s,v,by simpa using hM,?_⟩;rw[j6];simp[lI]
 |succ m ih=>
  intro k s v hM h1 h2;by_cases h:k<l.length
  .have w:aB .i64 ((k:Int)+1)=((k+1:Nat):Int):=wrap64 (by omega) (by omega);have hlen:((l.take k).map ju).length=k:=(by simp;omega);obtain⟨s5,v5,a1,a2,a3,_⟩:=hM.push (c:=c) (R:=AV×St) (bytes:=8) (z:=[.int .i64 0]) (x:= .int .i64 l[k]) rfl rfl rfl (by decide) (by rw[hlen];omega) (by rw[hlen];omega);have e:(l.take (k+1)).map ju=(l.take k).map ju++[(.int .i64 l[k]:AV).cells]:=(by rw[Zb2 h,Zh1];rfl);rw[<-e]at a2;obtain⟨s',v',b1,b2⟩:=ih (k+1) s5 v5 a2 (by omega) (by omega);refine⟨s',v',b1,?_⟩;rw[<-b2,j6];simp[-cM,lI,ints,h,w,a1]
  .obtain rfl:k=l.length:=(by omega);refine⟨s,v,by simpa using hM,?_⟩;rw[j6];simp[lI]
theorem Kj(hc:Sem c)(z:Bool)(l:List (Int))(hl:l.length<=jL)(s:St)(hw:Wf s):∃v s',c 99 [ints z l] s=some (v,s')/\Mk 1 s s' v (l.map ju):=by
 obtain⟨s',v,hM,L⟩:=PT (c:=c) z l hl (l.length+1) (λvs pR=>dO vs λx3 vs=>fG vs (ai c .move [x3] pR λEe Eh=>ai c .move [Ee] Eh λx2 Ei=>some (x2,Ei))) (s0:=s) l.length 0 s .ax (Mk.start hw (Grew.refl hw)) (by omega) (by omega);obtain⟨gO,t1,t2⟩:=hM.tidy;refine⟨v,gO,?_,t2⟩;rw[Bu hc (l.length+1) (r:=(v,s')),t1];rw[En];simp at L;simp[L]
theorem NY(z:Bool)(l:List (List Nat))(hl:l.length<=jL)(F:Nat)(k2){s0:St}:∀(m k:Nat)(s:St)(v:AV),Mk 1 s0 s v ((l.take k).map yM)->l.length<=k+m->k<=l.length->
  ∃s' v',Mk 1 s0 s' v' (l.map yM)/\fK c F k2 (m+1) [dD z l,v,.int .i64 (k:Int)] s=k2 [v'] s':=by
 have hl:l.length<=1048576:=hl;have lI:∀(K:AV->St->Option (AV×St))(s:St),ai c (.lenB .l) [dD z l] s K=K (.int .i64 (l.length:Int)) s:=λK s=>by unfold dD;rw[bN];simp
 intro m;induction m with
 |zero=>
  intro k s v hM h1 h2;obtain rfl:k=l.length:=by omega
  refine⟨s,v,by simpa using hM,?_⟩;rw[jE];simp[lI]
 |succ m ih=>
  intro k s v hM h1 h2;by_cases h:k<l.length
  .have w:aB .i64 ((k:Int)+1)=((k+1:Nat):Int):=wrap64 (by omega) (by omega);have hlen:((l.take k).map yM).length=k:=(by simp;omega);obtain⟨s5,v5,a1,a2,a3,_⟩:=hM.push (c:=c) (R:=AV×St) (bytes:=16) (z:=[.str []]) (x:= .str l[k]) rfl rfl rfl (by decide) (by rw[hlen];omega) (by rw[hlen];omega);have e:(l.take (k+1)).map yM=(l.take k).map yM++[(.str l[k]:AV).cells]:=(by rw[Zb2 h,Zh1];rfl);rw[<-e]at a2;obtain⟨s',v',b1,b2⟩:=ih (k+1) s5 v5 a2 (by omega) (by omega);refine⟨s',v',b1,?_⟩;rw[<-b2,jE];simp[-cM,lI,dD,h,w,a1]
  .obtain rfl:k=l.length:=(by omega);refine⟨s,v,by simpa using hM,?_⟩;rw[jE];simp[lI]
theorem SN(hc:Sem c)(z:Bool)(l:List (List Nat))(hl:l.length<=jL)(s:St)(hw:Wf s):∃v s',c 187 [dD z l] s=some (v,s')/\Mk 1 s s' v (l.map yM):=by
 obtain⟨s',v,hM,L⟩:=NY (c:=c) z l hl (l.length+1) (λvs pR=>dO vs λx3 vs=>fG vs (ai c .move [x3] pR λEe Eh=>ai c .move [Ee] Eh λx2 Ei=>some (x2,Ei))) (s0:=s) l.length 0 s .ax (Mk.start hw (Grew.refl hw)) (by omega) (by omega);obtain⟨gO,t1,t2⟩:=hM.tidy;refine⟨v,gO,?_,t2⟩;rw[Ba hc (l.length+1) (r:=(v,s')),t1];rw[Da];simp at L;simp[L]
theorem PU(z:Bool)(l:List (Ty))(hl:l.length<=jL)(F:Nat)(k2){s0:St}:∀(m k:Nat)(s:St)(v:AV),Mk 3 s0 s v ((l.take k).map Ty.cells)->l.length<=k+m->k<=l.length->
  ∃s' v',Mk 3 s0 s' v' (l.map Ty.cells)/\fX c F k2 (m+1) [bR z l,v,.int .i64 (k:Int)] s=k2 [v'] s':=by
 have hl:l.length<=1048576:=hl;have lI:∀(K:AV->St->Option (AV×St))(s:St),ai c (.lenB .l) [bR z l] s K=K (.int .i64 (l.length:Int)) s:=λK s=>by unfold bR;rw[bN];simp
 intro m;induction m with
 |zero=>
  intro k s v hM h1 h2;obtain rfl:k=l.length:=by omega
  refine⟨s,v,by simpa using hM,?_⟩;rw[j5];simp[lI]
 |succ m ih=>
  intro k s v hM h1 h2;by_cases h:k<l.length
  .have w:aB .i64 ((k:Int)+1)=((k+1:Nat):Int):=wrap64 (by omega) (by omega);have hlen:((l.take k).map Ty.cells).length=k:=(by simp;omega);obtain⟨s5,v5,a1,a2,a3,_⟩:=hM.push (c:=c) (R:=AV×St) (bytes:=40) (z:=[.str [],.str [],.int .u8 0]) (x:= .agg l[k].cells) rfl rfl (by simp) (by decide) (by rw[hlen];omega) (by rw[hlen];omega);have e:(l.take (k+1)).map Ty.cells=(l.take k).map Ty.cells++[(.agg l[k].cells:AV).cells]:=(by rw[Zb2 h,Zh1];rfl);rw[<-e]at a2;obtain⟨s',v',b1,b2⟩:=ih (k+1) s5 v5 a2 (by omega) (by omega);refine⟨s',v',b1,?_⟩;rw[<-b2,j5];simp[-cM,lI,bR,h,w,a1,Ty.len]
  .obtain rfl:k=l.length:=(by omega);refine⟨s,v,by simpa using hM,?_⟩;rw[j5];simp[lI]
theorem Tq(hc:Sem c)(z:Bool)(l:List (Ty))(hl:l.length<=jL)(s:St)(hw:Wf s):∃v s',c 98 [bR z l] s=some (v,s')/\Mk 3 s s' v (l.map Ty.cells):=by
 obtain⟨s',v,hM,L⟩:=PU (c:=c) z l hl (l.length+1) (λvs pR=>dO vs λx3 vs=>fG vs (ai c .move [x3] pR λEe Eh=>ai c .move [Ee] Eh λx2 Ei=>some (x2,Ei))) (s0:=s) l.length 0 s .ax (Mk.start hw (Grew.refl hw)) (by omega) (by omega);obtain⟨gO,t1,t2⟩:=hM.tidy;refine⟨v,gO,?_,t2⟩;rw[Bt hc (l.length+1) (r:=(v,s')),t1];rw[Em];simp at L;simp[L]
theorem NZ(z:Bool)(l:List (Rl))(hl:l.length<=jL)(F:Nat)(k2){s0:St}:∀(m k:Nat)(s:St)(v:AV),Mk 6 s0 s v ((l.take k).map Rl.cells)->l.length<=k+m->k<=l.length->
  ∃s' v',Mk 6 s0 s' v' (l.map Rl.cells)/\fI c F k2 (m+1) [gJ z l,v,.int .i64 (k:Int)] s=k2 [v'] s':=by
 have hl:l.length<=1048576:=hl;have lI:∀(K:AV->St->Option (AV×St))(s:St),ai c (.lenB .l) [gJ z l] s K=K (.int .i64 (l.length:Int)) s:=λK s=>by unfold gJ;rw[bN];simp
 intro m;induction m with
 |zero=>
  intro k s v hM h1 h2;obtain rfl:k=l.length:=by omega
  refine⟨s,v,by simpa using hM,?_⟩;rw[jD];simp[lI]
 |succ m ih=>
  intro k s v hM h1 h2;by_cases h:k<l.length
  .have w:aB .i64 ((k:Int)+1)=((k+1:Nat):Int):=wrap64 (by omega) (by omega);have hlen:((l.take k).map Rl.cells).length=k:=(by simp;omega);obtain⟨s5,v5,a1,a2,a3,_⟩:=hM.push (c:=c) (R:=AV×St) (bytes:=72) (z:=[.int .u8 0,.int .i64 0,.str [],.str [],.str [],.int .i64 0]) (x:= .agg l[k].cells) rfl rfl (by simp) (by decide) (by rw[hlen];omega) (by rw[hlen];omega);have e:(l.take (k+1)).map Rl.cells=(l.take k).map Rl.cells++[(.agg l[k].cells:AV).cells]:=(by rw[Zb2 h,Zh1];rfl);rw[<-e]at a2;obtain⟨s',v',b1,b2⟩:=ih (k+1) s5 v5 a2 (by omega) (by omega);refine⟨s',v',b1,?_⟩;rw[<-b2,jD];simp[-cM,lI,gJ,h,w,a1]
  .obtain rfl:k=l.length:=(by omega);refine⟨s,v,by simpa using hM,?_⟩;rw[jD];simp[lI]
theorem SP(hc:Sem c)(z:Bool)(l:List (Rl))(hl:l.length<=jL)(s:St)(hw:Wf s):∃v s',c 100 [gJ z l] s=some (v,s')/\Mk 6 s s' v (l.map Rl.cells):=by
 obtain⟨s',v,hM,L⟩:=NZ (c:=c) z l hl (l.length+1) (λvs pR=>dO vs λx3 vs=>fG vs (ai c .move [x3] pR λEe Eh=>ai c .move [Ee] Eh λx2 Ei=>some (x2,Ei))) (s0:=s) l.length 0 s .ax (Mk.start hw (Grew.refl hw)) (by omega) (by omega);obtain⟨gO,t1,t2⟩:=hM.tidy;refine⟨v,gO,?_,t2⟩;rw[A4 hc (l.length+1) (r:=(v,s')),t1];rw[CZ];simp at L;simp[L]
theorem SQ(hc:Sem c)(t:aD)(ht:t.Real)(s:St)(hw:Wf s):∃v s',c 132 [.agg t.cells] s=some (.agg (t.az v),s')/\Mk 1 s s' v (t.cg.map ju):=by
 have bM:Wf (af s (.cells t.cells 0)):=bt hw;have g1:=Grew.af hw (.cells t.cells 0);have eB:Wf (af (af s (.cells t.cells 0)) (.cells [.str [],.int .u8 0,.int .i64 0,.int .i64 0,.ax,.int .i64 0,.int .i64 0] 0)):=bt bM;have g2:=Grew.af bM (.cells [.str [],.int .u8 0,.int .i64 0,.int .i64 0,.ax,.int .i64 0,.int .i64 0] 0);have x1:(af (af s (.cells t.cells 0)) (.cells [.str [],.int .u8 0,.int .i64 0,.int .i64 0,.ax,.int .i64 0,.int .i64 0] 0)).heap.get s.next=some (.cells t.cells 0):=g2.get (aE _ _);have x2:=aE (af s (.cells t.cells 0)) (.cells [.str [],.int .u8 0,.int .i64 0,.int .i64 0,.ax,.int .i64 0,.int .i64 0] 0);have XN:s.next≠(af s (.cells t.cells 0)).next:=by rw[cX];exact Pos.Nh _
 have fG:s.next.toNat<(af s (.cells t.cells 0)).next.toNat:=by rw[cX,Pos.ay];omega
 have XP:(af s (.cells t.cells 0)).next.toNat<(af (af s (.cells t.cells 0)) (.cells [.str [],.int .u8 0,.int .i64 0,.int .i64 0,.ax,.int .i64 0,.int .i64 0] 0)).next.toNat:=by rw[cX (af s (.cells t.cells 0)),Pos.ay];omega
 have gg:=g1.trans g2;have c4:t.cells[4]? =some (ints t.oz t.cg):=rfl;generalize xW:af (af s (.cells t.cells 0)) (.cells [.str [],.int .u8 0,.int .i64 0,.int .i64 0,.ax,.int .i64 0,.int .i64 0] 0)=s2 at eB g2 x1 x2 XP gg;generalize xO:(af s (.cells t.cells 0)).next=p2 at x2 XN fG XP;obtain⟨v,s3,C,M⟩:=Kj hc t.oz t.cg ht.cg s2 eB;obtain⟨vc,v1⟩:=M.cells;have y1:=M.aY.get x1;have y2:=M.aY.get x2;have tX:∀b,dL v=some b->s2.next.toNat<=b.toNat:=M.new;have aJ:∀(K:AV->St->Option (AV×St)),ai c (.store 1) [.ptr s.next 4,v] s3 K=K .undef (ei s3 s.next (.cells (t.az v) 0)):=λK=>by rw[jf c K s3 1 s.next 4 v t.cells y1 (by rw[vc];rfl) (by rw[aD.len];omega) (by rw[vc];exact v1),vc];rfl
 have nx3:=M.aY.next;have M1:Mk 1 s s3 v (t.cg.map ju):=M.back hw gg;have M2:=M1.store (p:=s.next) (b:= .cells (t.az v) 0) (H5 _) (by omega) (λe=>by have:=tX _ e;omega);have z1:(ei s3 s.next (.cells (t.az v) 0)).heap.get s.next=some (.cells (t.az v) 0):=uo _ _ _;have z2:(ei s3 s.next (.cells (t.az v) 0)).heap.get p2=some (.cells [.str [],.int .u8 0,.int .i64 0,.int .i64 0,.ax,.int .i64 0,.int .i64 0] 0):=by rw[bT XN];exact y2
 have nz:(ei s3 s.next (.cells (t.az v) 0)).next=s3.next:=rfl;generalize hs4:ei s3 s.next (.cells (t.az v) 0)=s4 at aJ M2 z1 z2 nz;have one:aQ (t.az v)=true:=by
  simp only[aQ]at v1;unfold aD.az;simp only[aQ,AV.one,v1,Zi9,Zi8]at*
 have hcut:cut (t.az v) 0 7=some (t.az v):=bV rfl;have iU:∀(K:AV->St->Option (AV×St)),ai c (.store 7) [.ptr p2 0,.agg (t.az v)] s4 K=K .undef (ei s4 p2 (.cells (t.az v) 0)):=λK=>by rw[jf c K s4 7 p2 0 (.agg (t.az v)) _ z2 rfl (by simp) one];rfl
 have M3:=M2.store (p:=p2) (b:= .cells (t.az v) 0) (by omega) (by rw[nz];omega) (λe=>by have:=tX _ e;omega);have mem:v∈t.az v:=by simp[aD.az]
 obtain⟨gO,t1,_,t3⟩:=M3.KM mem (λu hu=>by simp only[aD.az,Za0,Zc7,Zg6]at hu;rcases hu with rfl|rfl|rfl|rfl|rfl|rfl|rfl<;>first|exact eD.str ht.name|exact eD.int _ _|exact M.inst);refine⟨v,gO,?_,t3⟩;rw[A6 hc 1 (r:=(.agg (t.az v),ei s4 p2 (.cells (t.az v) 0))),t1];rw[C6];simp[xW,xO,x1,c4,C,aJ,z1,hcut,iU]
theorem SR(hc:Sem c)(t:aG)(ht:t.Real)(s:St)(hw:Wf s):∃v s',c 133 [.agg t.cells] s=some (.agg (t.az v),s')/\Mk 1 s s' v (t.tg.map yM):=by
 have bM:Wf (af s (.cells t.cells 0)):=bt hw;have g1:=Grew.af hw (.cells t.cells 0);have eB:Wf (af (af s (.cells t.cells 0)) (.cells [.str [],.str [],.str [],.int .i64 0,.int .i64 0,.str [],.bool false,.bool false,.ax] 0)):=bt bM;have g2:=Grew.af bM (.cells [.str [],.str [],.str [],.int .i64 0,.int .i64 0,.str [],.bool false,.bool false,.ax] 0);have x1:(af (af s (.cells t.cells 0)) (.cells [.str [],.str [],.str [],.int .i64 0,.int .i64 0,.str [],.bool false,.bool false,.ax] 0)).heap.get s.next=some (.cells t.cells 0):=g2.get (aE _ _);have x2:=aE (af s (.cells t.cells 0)) (.cells [.str [],.str [],.str [],.int .i64 0,.int .i64 0,.str [],.bool false,.bool false,.ax] 0);have XN:s.next≠(af s (.cells t.cells 0)).next:=by rw[cX];exact Pos.Nh _
 have fG:s.next.toNat<(af s (.cells t.cells 0)).next.toNat:=by rw[cX,Pos.ay];omega
 have XP:(af s (.cells t.cells 0)).next.toNat<(af (af s (.cells t.cells 0)) (.cells [.str [],.str [],.str [],.int .i64 0,.int .i64 0,.str [],.bool false,.bool false,.ax] 0)).next.toNat:=by rw[cX (af s (.cells t.cells 0)),Pos.ay];omega
 have gg:=g1.trans g2;have c4:t.cells[8]? =some (dD t.tz t.tg):=rfl;generalize xW:af (af s (.cells t.cells 0)) (.cells [.str [],.str [],.str [],.int .i64 0,.int .i64 0,.str [],.bool false,.bool false,.ax] 0)=s2 at eB g2 x1 x2 XP gg;generalize xO:(af s (.cells t.cells 0)).next=p2 at x2 XN fG XP;obtain⟨v,s3,C,M⟩:=SN hc t.tz t.tg ht.tg s2 eB;obtain⟨vc,v1⟩:=M.cells;have y1:=M.aY.get x1;have y2:=M.aY.get x2;have tX:∀b,dL v=some b->s2.next.toNat<=b.toNat:=M.new;have aJ:∀(K:AV->St->Option (AV×St)),ai c (.store 1) [.ptr s.next 8,v] s3 K=K .undef (ei s3 s.next (.cells (t.az v) 0)):=λK=>by rw[jf c K s3 1 s.next 8 v t.cells y1 (by rw[vc];rfl) (by rw[aG.len];omega) (by rw[vc];exact v1),vc];rfl
 have nx3:=M.aY.next;have M1:Mk 1 s s3 v (t.tg.map yM):=M.back hw gg;have M2:=M1.store (p:=s.next) (b:= .cells (t.az v) 0) (H5 _) (by omega) (λe=>by have:=tX _ e;omega);have z1:(ei s3 s.next (.cells (t.az v) 0)).heap.get s.next=some (.cells (t.az v) 0):=uo _ _ _;have z2:(ei s3 s.next (.cells (t.az v) 0)).heap.get p2=some (.cells [.str [],.str [],.str [],.int .i64 0,.int .i64 0,.str [],.bool false,.bool false,.ax] 0):=by rw[bT XN];exact y2
 have nz:(ei s3 s.next (.cells (t.az v) 0)).next=s3.next:=rfl;generalize hs4:ei s3 s.next (.cells (t.az v) 0)=s4 at aJ M2 z1 z2 nz;have one:aQ (t.az v)=true:=by
  simp only[aQ]at v1;unfold aG.az;simp only[aQ,AV.one,v1,Zi9,Zi8]at*
 have hcut:cut (t.az v) 0 9=some (t.az v):=bV rfl;have iU:∀(K:AV->St->Option (AV×St)),ai c (.store 9) [.ptr p2 0,.agg (t.az v)] s4 K=K .undef (ei s4 p2 (.cells (t.az v) 0)):=λK=>by rw[jf c K s4 9 p2 0 (.agg (t.az v)) _ z2 rfl (by simp) one];rfl
 have M3:=M2.store (p:=p2) (b:= .cells (t.az v) 0) (by omega) (by rw[nz];omega) (λe=>by have:=tX _ e;omega);have mem:v∈t.az v:=by simp[aG.az]
 obtain⟨gO,t1,_,t3⟩:=M3.KM mem (λu hu=>by simp only[aG.az,Za0,Zc7,Zg6]at hu;rcases hu with rfl|rfl|rfl|rfl|rfl|rfl|rfl|rfl|rfl<;>first|exact eD.str ht.name|exact eD.str ht.ku|exact eD.str ht.iH|exact eD.str ht.kz|exact eD.int _ _|exact eD.bool _|exact M.inst);refine⟨v,gO,?_,t3⟩;rw[A7 hc 1 (r:=(.agg (t.az v),ei s4 p2 (.cells (t.az v) 0))),t1];rw[C7];simp[xW,xO,x1,c4,C,aJ,z1,hcut,iU]
theorem MQ(hc:Sem c)(z:Bool)(ts:List aD)(hl:ts.length<=1000)(hr:∀t∈ts,t.Real)(F:Nat)(k2){s0:St}:∀(m k f:Nat)(s:St)(V:AV)(rows:List (List AV)),m<f->k+m=ts.length->TS s0 s V (ts.take k) rows->
  ∃s' V' Ge,TS s0 s' V' ts Ge/\fA c F k2 f [tabs z ts,V,.int .i64 (k:Int)] s=k2 [V'] s':=by
 have lI:∀(K:AV->St->Option (AV×St))(s:St),ai c (.lenB .l) [tabs z ts] s K=K (.int .i64 (ts.length:Int)) s:=λK s=>by unfold tabs;rw[bN];simp
 intro m;induction m with
 |zero=>
  intro k f s V rows hf h1 hT;obtain⟨f,rfl⟩:∃g,f=g+1:=⟨f - 1,by omega⟩
  obtain rfl:k=ts.length:=by omega
  refine⟨s,V,rows,by simpa using hT,?_⟩;rw[oK];simp[lI]
 |succ m ih=>
  intro k f s V rows hf h1 hT;obtain⟨f,rfl⟩:∃g,f=g+1:=⟨f - 1,by omega⟩
  have h:k<ts.length:=by omega
  have w:aB .i64 ((k:Int)+1)=((k+1:Nat):Int):=wrap64 (by omega) (by omega);have hw:=hT.out.aY.wf;obtain⟨v,s1,C,M⟩:=SQ hc ts[k] (hr _ (Zc4 h)) s hw;have O1:=hT.out.grow M.aY;have rl:rows.length=k:=by rw[hT.len];simp;omega
  obtain⟨s5,V5,a1,a2,a3,a4⟩:=O1.push (c:=c) (R:=AV×St) (bytes:=80) (z:=[.str [],.int .u8 0,.int .i64 0,.int .i64 0,.ax,.int .i64 0,.int .i64 0]) (x:= .agg (ts[k].az v)) rfl rfl (aD.NO _ M.cells.2) (by decide) (by rw[rl];omega) (by rw[rl];omega);have Mv:=M.back hT.out.Aq hT.out.aY;have vV:∀b,dL v=some b->dL V≠some b:=λb hb e=>by have p1:=M.new b hb;have p2:=hT.out.own.lt hw e;omega
  have T5:TS s0 s5 V5 (ts.take (k+1)) (rows++[ts[k].az v]):=by
   (refine⟨a2,by simp[rl];omega,λi t r hi I1=> ?_⟩;have small:∀u:AV,∀(rw:List (List AV)),Mk 1 s0 s1 u rw->(∀b,dL u=some b->dL V≠some b)->Mk 1 s0 s5 u rw/\∀b,dL u=some b->dL V5≠some b:=λu rw hu cW=>by refine⟨Mk.aad hu a2.aY λb x hb hx=>a3 b x (cW b hb) hx,λb hb e=> ?_⟩;have p1:=a4 b e;have p2:=hu.own.lt hu.aY.wf hb;omega);by_cases JE:i<k
   .    (rw[Zc3 (by omega)]at I1;have wS:(ts.take k)[i]? =some t:=by rw[Zb0]at hi ⊢;rw[Za7 (by omega)]at hi;rw[Za7 JE];exact hi);obtain⟨u,e1,e2,e3⟩:=hT.wY i t r wS I1;obtain⟨f1,f2⟩:=small u _ (e2.grow M.aY) e3;exact⟨u,e1,f1,f2⟩
   .    have ZG:i=k:=(by have:=(H3.1 hi).1;simp at this;omega);subst ZG;rw[Zc5 (by omega)]at I1;simp[rl]at I1;rw[Zb0,Za7 (by omega),H1 h]at hi;cases hi;obtain⟨f1,f2⟩:=small v _ Mv vV;exact⟨v,I1.symm,f1,f2⟩
  obtain⟨s',V',Ge,b1,b2⟩:=ih (k+1) f s5 V5 _ (by omega) (by omega) T5;refine⟨s',V',Ge,b1,?_⟩;rw[<-b2,oK];unfold tabs at lI ⊢;simp[-cM,lI,h,w,aD.len,C,a1]
theorem PV(hc:Sem c)(z:Bool)(ts:List aD)(hl:ts.length<=1000)(hr:∀t∈ts,t.Real)(s:St)(hw:Wf s):∃V s' rows,c 96 [tabs z ts] s=some (V,s')/\TS s s' V ts rows:=by
 obtain⟨s',V,rows,hT,L⟩:=MQ hc z ts hl hr (ts.length+1) (λvs pR=>dO vs λx3 vs=>fG vs (ai c .move [x3] pR λEe Eh=>ai c .move [Ee] Eh λx2 Ei=>some (x2,Ei))) ts.length 0 (ts.length+1) s .ax [] (by omega) (by omega) ⟨Mk.start hw (Grew.refl hw),by simp,λi t r h=>by simp at h⟩;have fin:∃gO,tidy s (V,s')=(V,gO)/\TS s gO V ts rows:=by
  unfold tidy;by_cases hp:Plain (V,s').1/\aV s (V,s').2
  . rw[Za7 hp];refine⟨s,rfl,?_⟩;rcases hT.out.loose with⟨b,off,n,e⟩|⟨jr,e⟩
    .   rw[e]at hp;exact(Go.Ai.kW hp.1).elim
    .   exact⟨jr s hw,hT.len,λi t r _ h=>by rw[e]at h;simp at h⟩
  .rw[Za4 hp];exact⟨s',rfl,hT⟩
 obtain⟨gO,t1,t2⟩:=fin;refine⟨V,gO,rows,?_,t2⟩;rw[zB hc (ts.length+1) (r:=(V,s')),t1];rw[Bp];simp at L;simp[L]
theorem MR(hc:Sem c)(z:Bool)(ts:List aG)(hl:ts.length<=1000)(hr:∀t∈ts,t.Real)(F:Nat)(k2){s0:St}:∀(m k f:Nat)(s:St)(V:AV)(rows:List (List AV)),m<f->k+m=ts.length->GS s0 s V (ts.take k) rows->
  ∃s' V' Ge,GS s0 s' V' ts Ge/\fB c F k2 f [aX z ts,V,.int .i64 (k:Int)] s=k2 [V'] s':=by
 have lI:∀(K:AV->St->Option (AV×St))(s:St),ai c (.lenB .l) [aX z ts] s K=K (.int .i64 (ts.length:Int)) s:=λK s=>by unfold aX;rw[bN];simp
 intro m;induction m with
 |zero=>
  intro k f s V rows hf h1 hT;obtain⟨f,rfl⟩:∃g,f=g+1:=⟨f - 1,by omega⟩
  obtain rfl:k=ts.length:=by omega
  refine⟨s,V,rows,by simpa using hT,?_⟩;rw[oM];simp[lI]
 |succ m ih=>
  intro k f s V rows hf h1 hT;obtain⟨f,rfl⟩:∃g,f=g+1:=⟨f - 1,by omega⟩
  have h:k<ts.length:=by omega
  have w:aB .i64 ((k:Int)+1)=((k+1:Nat):Int):=wrap64 (by omega) (by omega);have hw:=hT.out.aY.wf;obtain⟨v,s1,C,M⟩:=SR hc ts[k] (hr _ (Zc4 h)) s hw;have O1:=hT.out.grow M.aY;have rl:rows.length=k:=by rw[hT.len];simp;omega
  obtain⟨s5,V5,a1,a2,a3,a4⟩:=O1.push (c:=c) (R:=AV×St) (bytes:=112) (z:=[.str [],.str [],.str [],.int .i64 0,.int .i64 0,.str [],.bool false,.bool false,.ax]) (x:= .agg (ts[k].az v)) rfl rfl (aG.NO _ M.cells.2) (by decide) (by rw[rl];omega) (by rw[rl];omega);have Mv:=M.back hT.out.Aq hT.out.aY;have vV:∀b,dL v=some b->dL V≠some b:=λb hb e=>by have p1:=M.new b hb;have p2:=hT.out.own.lt hw e;omega
  have T5:GS s0 s5 V5 (ts.take (k+1)) (rows++[ts[k].az v]):=by
   (refine⟨a2,by simp[rl];omega,λi t r hi I1=> ?_⟩;have small:∀u:AV,∀(rw:List (List AV)),Mk 1 s0 s1 u rw->(∀b,dL u=some b->dL V≠some b)->Mk 1 s0 s5 u rw/\∀b,dL u=some b->dL V5≠some b:=λu rw hu cW=>by refine⟨Mk.aad hu a2.aY λb x hb hx=>a3 b x (cW b hb) hx,λb hb e=> ?_⟩;have p1:=a4 b e;have p2:=hu.own.lt hu.aY.wf hb;omega);by_cases JE:i<k
   .    (rw[Zc3 (by omega)]at I1;have wS:(ts.take k)[i]? =some t:=by rw[Zb0]at hi ⊢;rw[Za7 (by omega)]at hi;rw[Za7 JE];exact hi);obtain⟨u,e1,e2,e3⟩:=hT.wY i t r wS I1;obtain⟨f1,f2⟩:=small u _ (e2.grow M.aY) e3;exact⟨u,e1,f1,f2⟩
   .    have ZG:i=k:=(by have:=(H3.1 hi).1;simp at this;omega);subst ZG;rw[Zc5 (by omega)]at I1;simp[rl]at I1;rw[Zb0,Za7 (by omega),H1 h]at hi;cases hi;obtain⟨f1,f2⟩:=small v _ Mv vV;exact⟨v,I1.symm,f1,f2⟩
  obtain⟨s',V',Ge,b1,b2⟩:=ih (k+1) f s5 V5 _ (by omega) (by omega) T5;refine⟨s',V',Ge,b1,?_⟩;rw[<-b2,oM];unfold aX at lI ⊢;simp[-cM,lI,h,w,aG.len,C,a1]
theorem PW(hc:Sem c)(z:Bool)(ts:List aG)(hl:ts.length<=1000)(hr:∀t∈ts,t.Real)(s:St)(hw:Wf s):∃V s' rows,c 97 [aX z ts] s=some (V,s')/\GS s s' V ts rows:=by
 obtain⟨s',V,rows,hT,L⟩:=MR hc z ts hl hr (ts.length+1) (λvs pR=>dO vs λx3 vs=>fG vs (ai c .move [x3] pR λEe Eh=>ai c .move [Ee] Eh λx2 Ei=>some (x2,Ei))) ts.length 0 (ts.length+1) s .ax [] (by omega) (by omega) ⟨Mk.start hw (Grew.refl hw),by simp,λi t r h=>by simp at h⟩;have fin:∃gO,tidy s (V,s')=(V,gO)/\GS s gO V ts rows:=by
  unfold tidy;by_cases hp:Plain (V,s').1/\aV s (V,s').2
  . rw[Za7 hp];refine⟨s,rfl,?_⟩;rcases hT.out.loose with⟨b,off,n,e⟩|⟨jr,e⟩
    .   rw[e]at hp;exact(Go.Ai.kW hp.1).elim
    .   exact⟨jr s hw,hT.len,λi t r _ h=>by rw[e]at h;simp at h⟩
  .rw[Za4 hp];exact⟨s',rfl,hT⟩
 obtain⟨gO,t1,t2⟩:=fin;refine⟨V,gO,rows,?_,t2⟩;rw[zC hc (ts.length+1) (r:=(V,s')),t1];rw[Bq];simp at L;simp[L]
theorem N3(hc:Sem c)(p:aR)(hp:p.Real)(s:St)(hw:Wf s):∃Vs s',c 47 [.agg p.cells] s=some (.agg Vs,s')/\PS s s' Vs p:=by
 have bM:Wf (af s (.cells p.cells 0)):=bt hw;have eB:Wf (af (af s (.cells p.cells 0)) (.cells [.ax,.ax,.ax,.ax,.ax] 0)):=bt bM;have g2:=(Grew.af hw (.cells p.cells 0)).trans (Grew.af bM (.cells [.ax,.ax,.ax,.ax,.ax] 0));have x1:(af (af s (.cells p.cells 0)) (.cells [.ax,.ax,.ax,.ax,.ax] 0)).heap.get s.next=some (.cells p.cells 0):=(Grew.af bM _).get (aE _ _);have x2:=aE (af s (.cells p.cells 0)) (.cells [.ax,.ax,.ax,.ax,.ax] 0);have nl:s.next.toNat<(af s (.cells p.cells 0)).next.toNat:=by rw[cX,Pos.ay];omega
 generalize H9:af (af s (.cells p.cells 0)) (.cells [.ax,.ax,.ax,.ax,.ax] 0)=s1 at eB g2 x1 x2;generalize xO:(af s (.cells p.cells 0)).next=p2 at x2 nl;obtain⟨V1,s2,r1,C1,T1⟩:=PV hc p.tz p.ts hp.ts hp.tab s1 eB;obtain⟨V2,s3,r2,C2,T2⟩:=PW hc p.gz p.gs hp.gs hp.bh s2 T1.out.aY.wf;obtain⟨V3,s4,C3,T3⟩:=Tq hc p.yz p.ys hp.ys s3 T2.out.aY.wf;obtain⟨V4,s5,C4,T4⟩:=Kj hc p.cz p.cs hp.cs s4 T3.aY.wf;obtain⟨V5,s6,C5,T5⟩:=SP hc p.rz p.rs hp.rs s5 T4.aY.wf;have I2:=T1.out.aY;have Kk:=T2.out.aY;have MS:=T3.aY;have O9:=T4.aY;have UF:=T5.aY;have y2:=I2.get x1;have y3:=Kk.get y2;have y4:=MS.get y3;have y5:=O9.get y4;have z6:=UF.get (O9.get (MS.get (Kk.get (I2.get x2))));have Sg:=eB _ _ x2;have L0:∀(ok:AV->Bool)(K:AV->Option (AV×St)),ok (tabs p.tz p.ts)=true->lX (.load none) [.ptr s.next 0] s1.heap ok K=K (tabs p.tz p.ts):=λok K h=>IX (by rw[x1];rfl) ok h K
 have L1:∀(ok:AV->Bool)(K:AV->Option (AV×St)),ok (aX p.gz p.gs)=true->lX (.load none) [.ptr s.next 1] s2.heap ok K=K (aX p.gz p.gs):=λok K h=>IX (by rw[y2];rfl) ok h K
 have L2:∀(ok:AV->Bool)(K:AV->Option (AV×St)),ok (bR p.yz p.ys)=true->lX (.load none) [.ptr s.next 2] s3.heap ok K=K (bR p.yz p.ys):=λok K h=>IX (by rw[y3];rfl) ok h K
 have L3:∀(ok:AV->Bool)(K:AV->Option (AV×St)),ok (ints p.cz p.cs)=true->lX (.load none) [.ptr s.next 3] s4.heap ok K=K (ints p.cz p.cs):=λok K h=>IX (by rw[y4];rfl) ok h K
 have L4:∀(ok:AV->Bool)(K:AV->Option (AV×St)),ok (gJ p.rz p.rs)=true->lX (.load none) [.ptr s.next 4] s5.heap ok K=K (gJ p.rz p.rs):=λok K h=>IX (by rw[y5];rfl) ok h K
 have b1:=uq (F7 p.gz p.gs);have b2:=uq (VJ p.yz p.ys);have b3:=uq (VE (d:=2) p.cz p.cs);have b4:=uq (XA p.rz p.rs);have q11:=lC (p:=s.next) (o:=1) (h:=s1.heap) (v:=aX p.gz p.gs) (by rw[x1];rfl) b1;have q21:=lC (p:=s.next) (o:=2) (h:=s1.heap) (v:=bR p.yz p.ys) (by rw[x1];rfl) b2;have q22:=lC (p:=s.next) (o:=2) (h:=s2.heap) (v:=bR p.yz p.ys) (by rw[y2];rfl) b2;have q31:=lC (p:=s.next) (o:=3) (h:=s1.heap) (v:=ints p.cz p.cs) (by rw[x1];rfl) b3;have q32:=lC (p:=s.next) (o:=3) (h:=s2.heap) (v:=ints p.cz p.cs) (by rw[y2];rfl) b3;have q33:=lC (p:=s.next) (o:=3) (h:=s3.heap) (v:=ints p.cz p.cs) (by rw[y3];rfl) b3;have q41:=lC (p:=s.next) (o:=4) (h:=s1.heap) (v:=gJ p.rz p.rs) (by rw[x1];rfl) b4;have q42:=lC (p:=s.next) (o:=4) (h:=s2.heap) (v:=gJ p.rz p.rs) (by rw[y2];rfl) b4;have q43:=lC (p:=s.next) (o:=4) (h:=s3.heap) (v:=gJ p.rz p.rs) (by rw[y3];rfl) b4;have q44:=lC (p:=s.next) (o:=4) (h:=s4.heap) (v:=gJ p.rz p.rs) (by rw[y4];rfl) b4;obtain⟨c1,o1⟩:=T1.out.cells;obtain⟨c2,o2⟩:=T2.out.cells;obtain⟨c3,o3⟩:=T3.cells;obtain⟨c4,o4⟩:=T4.cells;obtain⟨c5,o5⟩:=T5.cells;have vh:bP [AV.ax,.ax,.ax,.ax,.ax] [(0,1),(1,1),(2,1),(3,1),(4,1)] [V1,V2,V3,V4,V5]=some [V1,V2,V3,V4,V5]:=by
  simp[bP,dR,dZ,aI,c1,c2,c3,c4,c5]
 have one:aQ [V1,V2,V3,V4,V5]=true:=by
  simp only[aQ,Zi8]at o1 o2 o3 o4 o5;simp only[aQ,o1,o2,o3,o4,o5,Zi9]
 have nu:∀(K:AV->St->Option (AV×St)),ai c (.store 5) [.ptr p2 0,.agg [V1,V2,V3,V4,V5]] s6 K=K .undef (ei s6 p2 (.cells [V1,V2,V3,V4,V5] 0)):=λK=>by rw[jf c K s6 5 p2 0 (.agg [V1,V2,V3,V4,V5]) _ z6 rfl (by simp) one];rfl
 have G16:=I2.trans (Kk.trans (MS.trans (O9.trans UF)));have G7:Grew s (ei s6 p2 (.cells [V1,V2,V3,V4,V5] 0)):=⟨DC G16.wf (by have:=G16.next;omega),λq b hq=>by have:=hw _ _ hq;rw[bT (λe=>by rw[e]at nl;omega)];exact(g2.trans G16).get hq,by rw[An];exact(g2.trans G16).next⟩
 have Ar:∀q b,s1.next.toNat<=q.toNat->s6.heap.get q=some b->(ei s6 p2 (.cells [V1,V2,V3,V4,V5] 0)).heap.get q=some b:=λq b hq h=>by rw[bT (λe=>by rw[e]at Sg;omega)];exact h
 have F1:=T1.vD hw g2 G7 λq b hq h=>Ar q b hq ((Kk.trans (MS.trans (O9.trans UF))).get h)
 have F2:=T2.vD hw (g2.trans I2) G7 λq b hq h=>Ar q b (Zc1 I2.next hq) ((MS.trans (O9.trans UF)).get h)
 have F3:=T3.vD hw (g2.trans (I2.trans Kk)) G7 λq b hq h=>Ar q b (Zc1 (I2.trans Kk).next hq) ((O9.trans UF).get h)
 have F4:=T4.vD hw (g2.trans (I2.trans (Kk.trans MS))) G7 λq b hq h=>Ar q b (Zc1 (I2.trans (Kk.trans MS)).next hq) (UF.get h)
 have F5:=T5.vD hw (g2.trans (I2.trans (Kk.trans (MS.trans O9)))) G7 λq b hq h=>Ar q b (Zc1 (I2.trans (Kk.trans (MS.trans O9))).next hq) h
 have fin:∃gO,tidy s (.agg [V1,V2,V3,V4,V5],ei s6 p2 (.cells [V1,V2,V3,V4,V5] 0))=(.agg [V1,V2,V3,V4,V5],gO)/\PS s gO [V1,V2,V3,V4,V5] p:=by
  unfold tidy;by_cases hP:Plain (AV.agg [V1,V2,V3,V4,V5],ei s6 p2 (.cells [V1,V2,V3,V4,V5] 0)).1/\aV s (AV.agg [V1,V2,V3,V4,V5],ei s6 p2 (.cells [V1,V2,V3,V4,V5] 0)).2
  . rw[Za7 hP];have inst:∀v∈[V1,V2,V3,V4,V5],eD v:=λv hv=>by
        simp only[Za0,Zc7,Zg6]at hv;rcases hv with rfl|rfl|rfl|rfl|rfl
        .exact F1.out.inst
        .exact F2.out.inst
        .exact F3.inst
        .exact F4.inst
        .exact F5.inst
    have k1:=F1.out.loose.resolve_left λ⟨b,off,n,e⟩=>absurd hP.1 (kM inst (b:=b) (off:=off) (n:=n) (es:=7) (by rw[<-e];simp))
    have k2:=F2.out.loose.resolve_left λ⟨b,off,n,e⟩=>absurd hP.1 (kM inst (b:=b) (off:=off) (n:=n) (es:=9) (by rw[<-e];simp))
    have k3:=F3.loose.resolve_left λ⟨b,off,n,e⟩=>absurd hP.1 (kM inst (b:=b) (off:=off) (n:=n) (es:=3) (by rw[<-e];simp))
    have k4:=F4.loose.resolve_left λ⟨b,off,n,e⟩=>absurd hP.1 (kM inst (b:=b) (off:=off) (n:=n) (es:=1) (by rw[<-e];simp))
    have k5:=F5.loose.resolve_left λ⟨b,off,n,e⟩=>absurd hP.1 (kM inst (b:=b) (off:=off) (n:=n) (es:=6) (by rw[<-e];simp))
    exact⟨s,rfl,Grew.refl hw,V1,V2,V3,V4,V5,r1,r2,rfl,⟨k1.1 s hw,F1.len,λi t r _ h=>by rw[k1.2]at h;simp at h⟩,⟨k2.1 s hw,F2.len,λi t r _ h=>by rw[k2.2]at h;simp at h⟩,k3.1 s hw,k4.1 s hw,k5.1 s hw⟩
  .rw[Za4 hP];exact⟨_,rfl,G7,V1,V2,V3,V4,V5,r1,r2,rfl,F1,F2,F3,F4,F5⟩
 obtain⟨gO,t1,t2⟩:=fin;refine⟨_,gO,?_,t2⟩;rw[yN hc 1 (r:=(.agg [V1,V2,V3,V4,V5],ei s6 p2 (.cells [V1,V2,V3,V4,V5] 0))),t1];rw[A0];have hcut:cut [V1,V2,V3,V4,V5] 0 5=some [V1,V2,V3,V4,V5]:=bV rfl;simp[H9,xO,L0,L1,L2,L3,L4,q11,q21,q22,q31,q32,q33,q41,q42,q43,q44,C1,C2,C3,C4,C5,vh,nu,hcut]
end
section
open Go Go.Ai Go.Proofs
section
variable{c:ah}
theorem aa6(hc:gh c)(p:aR)(m:Nat)(s:St):c 44 [.agg p.cells,.int .i64 (m:Int)] s=some (.bool (yP p m),s):=
 hc.at (s:=mZ 44) rfl (ri (by
  rw[Zb4,Zb4,Zf0,Jq];exact abM rfl p m (emptyAt s) (nM s)) (bO.bool _))
theorem ZH(hc:gh c)(p:aR)(hp:p.Real)(s:St)(hw:Wf s):∃Vs s',c 47 [.agg p.cells] s=some (.agg Vs,s')/\PS s s' Vs p:=by obtain⟨Vs,s1,e,P⟩:=N3 (c:=run Co gg) rfl p hp (emptyAt s) (nM s);refine⟨Vs,eT s s1,hc.at (s:=mZ 47) rfl (W8 ?_ (bO.agg P.bare) P.aY.next),PS.eT hw P⟩;rw[Zb4,Zf0,Jq];exact e
theorem SS(hc:gh c)(p:aR)(hp:p.iO)(hr:∀r∈p.rs,r.Ok)(s:St):c 53 [.agg p.cells] s=some (.tuple [.int .i64 (bX p).1,.int .i64 (bX p).2],s):=
 hc.at (s:=mZ 53) rfl (ri (by
  rw[Zb4,Zf0,Jq];exact SL rfl p hp (UE rfl hp) hr (emptyAt s) (nM s)) (bO.tuple (by intro v hv;simp at hv;rcases hv with rfl|rfl<;>exact bO.int _ _)))
theorem SU(hc:gh c)(z:Bool)(ts:List aD)(hl:ts.length<=100)(s:St):c 101 [tabs z ts] s=some (.int .i64 (bK ts),s):=
 hc.at (s:=mZ 101) rfl (ri (by
  rw[Zb4,Zf0,tabs,XH];exact Kg rfl z ts hl (emptyAt s) (nM s)) (bO.int _ _))
variable{s0 s:St}{Vs:List AV}{p:aR}
theorem ZI(hc:gh c)(h:PS s0 s Vs p){q:aR}(hq:p.cj q)(hR:p.Real)(hk:∀t∈p.ts,t.Ok):c 49 [.agg Vs,.agg q.cells] s=some (.bool true,s):=by
 obtain⟨p',e,S⟩:=h.cu 1;refine hc.at (s:=mZ 49) rfl (ri ?_ (bO.bool _));rw[Zb4,Zb4,Zf0,e,Jq];exact NW rfl p' q (S.symm.trans hq) ((S.real hR).acH (λt ht=>by obtain⟨u,hu,z,rfl⟩:=S.tab ht;have:=hk u hu;exact⟨this.1,this.2⟩)) (emptyAt s) (nM s)
end
end
noncomputable section
open Go Go.Ai Go.Proofs
attribute [local go_sem ↓] bg xJ ev Ug xX getLT xI KN OT vG vH HR HS HT HU DD DE DF DG DH DI HV HW DJ DK DM DN DO Mh Mi Mj
attribute [local go_sem] bg xJ ev
section
variable(c:ah)(F:Nat)(x0 x1 x2 x3 x4 x5 x6 x7 x8 x9 B5 Ib:AV)(s:St)
def yq:Sh:=(sq sl (sq sl sl))
def yu:PX 10 yq:=⟨_,by conv=>lhs;reduce⟩
def tV:O2:=bg c F bu yu.1 [x0,x1] s
def I3:=(by dsimp only[tV,yu,go_sem,Int.reduceOfNat]:tV c F x0 x1 s=_)
def I4:Sh:=(sq sl (sq sl sl))
def I5:PX 29 I4:=⟨_,by conv=>lhs;reduce⟩
def Gf:O2:=bg c F bu I5.1 [x0,x1] s
def SV:=(by dsimp only[Gf,I5,go_sem,Int.reduceOfNat]:Gf c F x0 x1 s=_)
def lY:Sh:=(sq sl (sq sl sl))
def lZ:PX 45 lY:=⟨_,by conv=>lhs;reduce⟩
def jk:O2:=bg c F bu lZ.1 [x0,x1] s
def wN:=(by dsimp only[jk,lZ,go_sem,Int.reduceOfNat]:jk c F x0 x1 s=_)
def wK:Sh:=(sq sl (sq sl sl))
def wL:PX 46 wK:=⟨_,by conv=>lhs;reduce⟩
def qR:O2:=bg c F bu wL.1 [x0] s
def Gg:=(by dsimp only[qR,wL,go_sem,Int.reduceOfNat]:qR c F x0 s=_)
def jG:Sh:=(sq sl (sq (sq sl (sq sl (sc (sq sl sl) sl))) (sq (sq sl (sc (sq sl sl) sl)) (sq sl (sq (sq sl (sb (sp 0 [1,2,10,11] [(1,[6,7]),(2,[])] (sq (sq sl (sc sl sl)) (sj [1,2,10,11] (sb (sq (sq sl (sc (sq (sq sl (sc (sq sl sl) sl)) sl) sl)) (sq (sq sl (sc (sq sl sl) sl)) (sq sl (sb (sp 1 [1,2,10,11,12] [(1,[6,7]),(4,[1,2,10,11])] (sq (sq sl (sc sl sl)) (sq (sb (sq sl (sc (sq sl sl) sl))) sl)))))))) sl))))) (sq sl sl))))))
def wM:PX 48 jG:=⟨_,by conv=>lhs;reduce⟩
def uQ:PL 48 jG 1:=⟨_,by conv=>lhs;reduce⟩
def fh(k1 k4:Q2):Nat->Q2
 |0,_,_=>none
 |n+1,vs,s=>eU c F bu (fh k1 k4 n) [k1,k4] uQ.1 vs s
def kI(k1 k4:Q2)(n:Nat)(vs:List AV)(s:St):=(by dsimp only[fh,uQ,go_sem,Int.reduceOfNat,Int.reduceNegSucc]:fh c F k1 k4 (n+1) vs s=_)
def uR:Un->List Q2->Nat->Q2
 |(.s .z),[k1,k4]=>fh c F k1 k4
 |_,_=>λ_=>fH
def uS:PL 48 jG 0:=⟨_,by conv=>lhs;reduce⟩
def gK(k1 k2:Q2):Nat->Q2
 |0,_,_=>none
 |n+1,vs,s=>eU c F (uR c F) (gK k1 k2 n) [k1,k2] uS.1 vs s
def eo(k1 k2:Q2)(n:Nat)(vs:List AV)(s:St):=(by dsimp only[gK,uS, ↓uR,go_sem,Int.reduceOfNat,Int.reduceNegSucc]:gK c F k1 k2 (n+1) vs s=_)
def ov:Un->List Q2->Nat->Q2
 |.z,[k1,k2]=>gK c F k1 k2
 |(.s .z),[k1,k4]=>fh c F k1 k4
 |_,_=>λ_=>fH
def qT:O2:=bg c F (ov c F) wM.1 [x0,x1,x2] s
def Gh:=(by dsimp only[qT,wM, ↓ov,go_sem,Int.reduceOfNat,Int.reduceNegSucc]:qT c F x0 x1 x2 s=_)
def jv:Sh:=(sq sl (sq (sq sl (sb (sp 0 [0,1,7,8] [(1,[4]),(2,[])] (sq sl (sq (sc sl sl) (sq (sb (sq sl (sq sl (sc (sq sl sl) sl)))) sl)))))) (sq sl sl)))
def oQ:PX 95 jv:=⟨_,by conv=>lhs;reduce⟩
def ny:PL 95 jv 0:=⟨_,by conv=>lhs;reduce⟩
def ej(k1 k2:Q2):Nat->Q2
 |0,_,_=>none
 |n+1,vs,s=>eU c F bu (ej k1 k2 n) [k1,k2] ny.1 vs s
def iF(k1 k2:Q2)(n:Nat)(vs:List AV)(s:St):=(by dsimp only[ej,ny,go_sem,Int.reduceOfNat,Int.reduceNegSucc]:ej c F k1 k2 (n+1) vs s=_)
def jw:Un->List Q2->Nat->Q2
 |.z,[k1,k2]=>ej c F k1 k2
 |_,_=>λ_=>fH
def j7:O2:=bg c F (jw c F) oQ.1 [x0,x1] s
def yQ:=(by dsimp only[j7,oQ, ↓jw,go_sem,Int.reduceOfNat,Int.reduceNegSucc]:j7 c F x0 x1 s=_)
end
section
variable{c:ah}(hc:gh c)(F:Nat){x0 x1 x2 x3 x4 x5 x6 x7 x8 x9 B5 Ib:AV}{s:St}{r:AV×St}
include hc
theorem Gi(h:tV c F x0 x1 s=some r):c 10 [x0,x1] s=some (tidy s r):=hc.o0 F yq (by kernel_rfl) (by kernel_rfl) h
theorem N4(h:Gf c F x0 x1 s=some r):c 29 [x0,x1] s=some (tidy s r):=hc.o0 F I4 (by kernel_rfl) (by kernel_rfl) h
theorem uW(h:jk c F x0 x1 s=some r):c 45 [x0,x1] s=some (tidy s r):=hc.o0 F lY (by kernel_rfl) (by kernel_rfl) h
theorem Dd(h:qR c F x0 s=some r):c 46 [x0] s=some (tidy s r):=hc.o0 F wK (by kernel_rfl) (by kernel_rfl) h
theorem De(h:qT c F x0 x1 x2 s=some r):c 48 [x0,x1,x2] s=some (tidy s r):=hc.oL F (ov c F) jG 2 (by kernel_rfl) (λi hi=>match i,hi with|0,_=>nL 0 (by kernel_rfl) (λ_ _ _=>by kernel_rfl) (λ_ _ _ _=>by kernel_rfl)|1,_=>nL 1 (by kernel_rfl) (λ_ _ _=>by kernel_rfl) (λ_ _ _ _=>by kernel_rfl)|n+2,h=>absurd h (by omega)) (by kernel_rfl) h
theorem xC(h:j7 c F x0 x1 s=some r):c 95 [x0,x1] s=some (tidy s r):=hc.o1 F (jw c F) jv (by kernel_rfl) (by kernel_rfl) (λ_ _ _=>by kernel_rfl) (λ_ _ _ _=>by kernel_rfl) (by kernel_rfl) h
end
end
section
set_option linter.unusedSimpArgs false
open Go Go.Ai Go.Proofs
variable{c:ah}
def nc(N:Nat)(w:Bool)(q:List Int):Nat->Nat->Int×Int
 |0,_=>(0,0)
 |m+1,k=>if w=true/\q.getD k 0= -1 then((k:Int),52)else if q.getD k 0< -1\/(N:Int)<=q.getD k 0 then((k:Int),50)else if 0<=q.getD k 0/\q.getD k 0∈q.take k then((k:Int),51)else nc N w q m (k+1)
def NS(p:aR):Nat:=(bK p.ts).toNat
def La(p:aR)(w:Bool)(q:List Int):Int×Int:=if q.length≠p.gs.length then(0,53)else nc (NS p) w q q.length 0
def l8(p:aR)(w:Bool)(q:List Int):Int×Int:=if(bX p).2≠0 then(0,(bX p).2)else La p w q
theorem VN{p:aR}(h:(bX p).2=0):(bf p.ts).2=0:=by
 unfold bX at h;split at h
 .rename_i k;exact absurd h k
 .rename_i k;exact Kh (by simpa using k)
theorem I6{N:Nat}{w:Bool}{q:List Int}:∀(m k:Nat),(nc N w q m k).2=0->nc N w q m k=(0,0)
 |0,_,_=>rfl
 |m+1,k,h=>by
  rw[nc]at h ⊢;split at h<;>first|(simp at h;done)|skip
  split at h<;>first|(simp at h;done)|skip
  split at h<;>first|(simp at h;done)|skip
  rename_i h1 h2 h3;rw[Za4 h1,Za4 h2,Za4 h3];exact I6 m (k+1) h
theorem UG{N:Nat}{w:Bool}{q:List Int}{m k:Nat}(hk:k<q.length){x:Int}(hx:q[k]=x):
  nc N w q (m+1) k=if w=true/\x= -1 then((k:Int),52)else if x< -1\/(N:Int)<=x then((k:Int),50)else if 0<=x/\x∈q.take k then((k:Int),51)else nc N w q m (k+1):=by
 rw[nc,Zd7,H1 hk,hx];rfl
section
variable{sB s:St}{P:AV}{q:List Int}{N n:Nat}
theorem XQ {tb:Pos}(hql:q.length<=1000)(hN:N<=100000)(pq:QS 1 sB P (q.map ju))(hge:sB.next.toNat<=tb.toNat)(w0:Wf sB)(w:Bool)(F:Nat):
  ∀ (m k f:Nat)(s:St)(tk:List Bool),k+m=q.length->m<f->Grew sB s->s.heap.get tb=some (.cells (Cn tk) 0)->tk.length=N->(∀i:Nat,i<N->(tk[i]? =some true↔(i:Int)∈q.take k))->∃s',Grew sB s'/\
    ∀k1 k2:Q2,oP c F k1 k2 f [.bool w,.int .i64 (N:Int),.slice tb 0 N (some N) 1,P,.int .i64 (q.length:Int),.int .i64 (k:Int)] s=if(nc N w q m k).2=0 then k2 [] s' else k1 [.int .i64 (nc N w q m k).1,.int .i64 (nc N w q m k).2] s':=by
 intro m;induction m with
 |zero=>
  intro k f s tk hk hf gr ht hl Dr;obtain⟨f,rfl⟩:∃g,f=g+1:=⟨f - 1,by omega⟩
  obtain rfl:k=q.length:=by omega
  refine⟨s,gr,λk1 k2=> ?_⟩;rw[ir];simp[nc]
 |succ m ih   =>
  intro k f s tk hk hf gr ht hl Dr;obtain⟨f,rfl⟩:∃g,f=g+1:=⟨f - 1,by omega⟩
  have iW:k<q.length:=by omega
  obtain⟨pb,po,p⟩:=rdI (pq.aY gr) (H1 iW);have p1:=λ{R}=>@p.st R
  have p3:=p.one;have wr:aB .i64 ((k:Int)+1)=((k+1:Nat):Int):=by rw[wrap64 (by omega) (by omega)];omega
  have tke:q.take (k+1)=q.take k++[q[k]]:=by rw[Zn3,H1 iW];rfl
  have eb:=UG (N:=N) (w:=w) (m:=m) iW rfl;generalize q[k]=x at*
  by_cases h0:0<=x
  . have d1   : decide (x= -1)=false:=Za5 (by omega);have d2:decide (x< -1)=false:=Za5 (by omega);have n1:¬(w=true/\x= -1):=λh=>by have:=h.2;omega
    rw[Za4 n1]at eb;by_cases hx:(N:Int)<=x
    .   have d3:decide ((N:Int)<=x)=true:=Za3 hx;have n2:x< -1\/(N:Int)<=x:= .inr hx;rw[Za7 n2]at eb;rw[eb];refine⟨s,gr,λk1 k2=> ?_⟩;rw[ir];simp[vu,iW,p1,p3,d1,d2,d3]
    .   have n2 :¬(x< -1\/(N:Int)<=x):=(by omega);rw[Za4 n2]at eb;have d3:decide ((N:Int)<=x)=false:=Za5 hx;have d5:decide (0<=x)=true:=Za3 h0;obtain⟨i,rfl⟩:∃i:Nat,x=(i:Int):=⟨x.toNat,by omega⟩
        have hi:i<N:=(by omega);have d4:decide (N<=i)=false:=Za5 (by omega);have ix:=λ(K:AV->St->Option (AV×St))(s1:St)=>Rr c K s1 (b:=tb) (off:=0) (len:=N) (es:=1) (es':=1) (cap:=some N) (k:= .i64) (i:=i) hi
        simp only[Zc8,Zj9]at ix;by_cases hm:(i:Int)∈q.take k
        . have ec:(Cn tk)[i]? =some (.bool true):=(by rw[Zb7,(Dr i hi).2 hm];rfl);have n3:0<=(i:Int)/\(i:Int)∈q.take k:=⟨h0,hm⟩
          rw[Za7 n3]at eb;rw[eb];refine⟨s,gr,λk1 k2=> ?_⟩;rw[ir];simp[vu,iW,p1,p3,ix,d1,d2,d3,d4,d5,ht,aT,ec]
        . have n3:¬(0<=(i:Int)/\(i:Int)∈q.take k):=λh=>hm h.2
          rw[Za4 n3]at eb;rw[eb];have hf0:tk[i]? =some false:=by
            rw[H1 (by omega)];cases h:tk[i]'(by omega)with
            |false=>rfl
            |true=>exact absurd ((Dr i hi).1 (by rw[H1 (by omega),h])) hm
          have ec:(Cn tk)[i]? =some (.bool false):=(by rw[Zb7,hf0];rfl);have pt:=λ(K:AV->St->Option (AV×St))=>aaI (c:=c) K ht (o:=i) (by rw[Zd1];omega) (v:= .bool true) rfl rfl
          rw[show(Cn tk).set i (.bool true)=Cn (tk.set i true)from(List.map_set).symm]at pt;have aW:=gr.wf _ _ ht;obtain⟨s',z1,z3⟩:=ih (k+1) f (ei s tb (.cells (Cn (tk.set i true)) 0)) (tk.set i true) (by omega) (by omega) (ZE w0 gr hge aW _) (uo _ _ _) (by simpa using hl) (λj hj=>by
            rw[tke,Zd2,Zc0];by_cases e:i=j
            .subst e;rw[List.getElem?_set_self (by omega)];simp
            . rw[List.getElem?_set_ne e,Dr j hj];constructor
              .exact .inl
              . rintro(h|h)
                .exact h
                .omega)
          refine⟨s',z1,λk1 k2=> ?_⟩;rw[<-z3 k1 k2,ir];simp[vu,iW,p1,p3,ix,pt,wr,d1,d2,d3,d4,d5,ht,aT,ec]
  . have d5   :decide (0<=x)=false:=Za5 h0;by_cases hx:x= -1
    .   subst hx;have d3:decide ((N:Int)<= -1)=false:=Za5 (by omega);cases w with
        | true=>
          have n1:true=true/\(-1:Int)= -1:=⟨rfl,rfl⟩
          rw[Za7 n1]at eb;rw[eb];refine⟨s,gr,λk1 k2=> ?_⟩;rw[ir];simp[vu,iW,p1,p3]
        | false=>
          have n1:¬(false=true/\(-1:Int)= -1):=(by simp);have n2:¬((-1:Int)< -1\/(N:Int)<= -1):=(by omega);have n3:¬(0<=(-1:Int)/\(-1:Int)∈q.take k):=λh=>by have:=h.1;omega
          rw[Za4 n1,Za4 n2,Za4 n3]at eb;rw[eb];obtain⟨s',z1,z3⟩:=ih (k+1) f s tk (by omega) (by omega) gr ht hl (λj hj=>by
            rw[tke,Zd2,Zc0,Dr j hj];constructor
            .exact .inl
            . rintro(h|h)
              .exact h
              .omega)
          refine⟨s',z1,λk1 k2=> ?_⟩;rw[<-z3 k1 k2,ir];simp[vu,iW,p1,p3,wr,d3]
    .   have d1:decide (x= -1)=false:=Za5 hx;have d2:decide (x< -1)=true:=Za3 (by omega);have n1:¬(w=true/\x= -1):=λh=>hx h.2
        have n2:x< -1\/(N:Int)<=x:= .inl (by omega);rw[Za4 n1,Za7 n2]at eb;rw[eb];refine⟨s,gr,λk1 k2=> ?_⟩;rw[ir];simp[vu,iW,p1,p3,d1,d2]
end
section
variable{s0 s:St}{Vs:List AV}{p:aR}{P:AV}{q:List Int}
theorem tW(a b:Int):Plain (.tuple [.int .i64 a,.int .i64 b]):= .tuple λv hv=>by simp at hv;rcases hv with rfl|rfl<;>exact .int _ _
theorem aak(hp:p.iO):((NS p:Nat):Int)=bK p.ts/\NS p<=100000:=by have h1:=FU p.ts;have h2:=hp.ts;unfold NS;omega
theorem aa7(hc:gh c)(h:PS s0 s Vs p)(hp:p.iO)(hv:(bf p.ts).2=0)(pq:QS 1 s P (q.map ju))(hl:q.length<=1000)(w:Bool):c 122 [.agg Vs,P,.bool w] s=some (.tuple [.int .i64 (La p w q).1,.int .i64 (La p w q).2],s):=by
 have hw:=h.aY.wf;have gN:=Grew.af hw (.cells Vs 0);have h1:=h.MP gN;obtain⟨V1,V2,r1,r2,e1,e2,T,T2,e5⟩:=h1.rT;have cn:=XL hc h1 hp.ok hv e1;obtain⟨hs,hle⟩:=aak hp;rw[<-hs]at cn;have ln:=λ(K:AV->St->Option (AV×St))(s1:St)=>pq.lenB (c:=c) K s1
 rw[Zd1]at ln;have lg:=λ(K:AV->St->Option (AV×St))(s1:St)=>T2.out.own.lenB (c:=c) K s1
 rw[T2.len]at lg;unfold La;by_cases he:q.length=p.gs.length
 . (rw[Za4 (by simpa using he)];have mk:=λ(K:AV->St->Option (AV×St))=>aaH c K (af s (.cells Vs 0)) (es:=1) (bytes:=1) (z:=[.bool false]) (k:= .i64) (k':= .i64) (n:=NS p) (by omega) (by omega));rw[Md,XM]at mk;have gT:=Grew.af gN.wf (.cells (Cn (List.replicate (NS p) false)) 0);obtain⟨s',z1,z3⟩:=XQ (c:=c) hl hle (pq.aY gN) (H5 _) gN.wf w (q.length+1) q.length 0 (q.length+1) _ (List.replicate (NS p) false) (by omega) (by omega) gT (aE _ _) (by simp) (λi hi=>by rw[List.getElem?_replicate,Za7 hi];simp);simp only[show((0:Nat):Int)=0 from rfl]at z3;rw[Eu hc (q.length+1) (r:=(.tuple [.int .i64 (nc (NS p) w q q.length 0).1,.int .i64 (nc (NS p) w q q.length 0).2],s')),aA (tW _ _) (gN.trans z1).keeps];rw[IZ];simp[show ∀l,AV.cells (.agg l)=l from λl=>rfl,aE,aT,e1,e2,ln,lg,he,cn];rw[mk, <-he,z3];by_cases hz:(nc (NS p) w q q.length 0).2=0
   .rw[Za7 hz,I6 _ _ hz];simp
   .rw[Za4 hz];simp
 .rw[Za7 he];have d:decide ((q.length:Int)=(p.gs.length:Int))=false:=Za5 (by omega);rw[Eu hc 1 (r:=(.tuple [.int .i64 0,.int .i64 53],af s (.cells Vs 0))),aA (tW _ _) gN.keeps];rw[IZ];simp[show ∀l,AV.cells (.agg l)=l from λl=>rfl,aE,aT,e1,e2,ln,lg,he,d]
theorem Pa(hc:gh c)(h:PS s0 s Vs p)(hp:p.iO)(hr:∀r∈p.rs,r.Ok)(pq:QS 1 s P (q.map ju))(hl:q.length<=1000)(w:Bool):c 80 [.agg Vs,P,.bool w] s=some (.tuple [.int .i64 (l8 p w q).1,.int .i64 (l8 p w q).2],s):=by
 have hw:=h.aY.wf;have gN:=Grew.af hw (.cells Vs 0);have h1:=h.MP gN;have hcut:cut Vs 0 5=some Vs:=bV h1.rT.choose_spec.choose_spec.choose_spec.choose_spec.2.2.2.2;have ck:=XK hc h1 hp hr;unfold l8;by_cases hz:(bX p).2=0
 .rw[Za4 (by simpa using hz)];have kk:=aa7 hc h1 hp (VN hz) (pq.aY gN) hl w;rw[hz]at ck;rw[Bi hc 1 (r:=(.tuple [.int .i64 (La p w q).1,.int .i64 (La p w q).2],af s (.cells Vs 0))),aA (tW _ _) gN.keeps];rw[Et];simp[show ∀l,AV.cells (.agg l)=l from λl=>rfl,aE,aT,hcut,ck,kk]
 .rw[Za7 hz];have d:decide ((bX p).2=0)=false:=Za5 hz;rw[Bi hc 1 (r:=(.tuple [.int .i64 0,.int .i64 (bX p).2],af s (.cells Vs 0))),aA (tW _ _) gN.keeps];rw[Et];simp[show ∀l,AV.cells (.agg l)=l from λl=>rfl,aE,aT,hcut,ck,d,hz]
theorem aa8(hc:gh c)(h:PS s0 s Vs p)(hp:p.iO)(hr:∀r∈p.rs,r.Ok)(pq:QS 1 s P (q.map ju))(hl:q.length<=1000):c 29 [.agg Vs,P] s=some (.tuple [.int .i64 (l8 p true q).1,.int .i64 (l8 p true q).2],s):=by
 have hw:=h.aY.wf;have gN:=Grew.af hw (.cells Vs 0);have h1:=h.MP gN;have hcut:cut Vs 0 5=some Vs:=bV h1.rT.choose_spec.choose_spec.choose_spec.choose_spec.2.2.2.2;have kk:=Pa hc h1 hp hr (pq.aY gN) hl true;rw[N4 hc 1 (r:=(.tuple [.int .i64 (l8 p true q).1,.int .i64 (l8 p true q).2],af s (.cells Vs 0))),aA (tW _ _) gN.keeps];rw[SV];simp[show ∀l,AV.cells (.agg l)=l from λl=>rfl,aE,aT,hcut,kk]
theorem Tr(hc:gh c)(h:PS s0 s Vs p)(hp:p.iO)(hr:∀r∈p.rs,r.Ok)(pq:QS 1 s P (q.map ju))(hl:q.length<=1000):c 33 [.agg Vs,P] s=some (.tuple [.int .i64 (l8 p false q).1,.int .i64 (l8 p false q).2],s):=by
 have hw:=h.aY.wf;have gN:=Grew.af hw (.cells Vs 0);have h1:=h.MP gN;have hcut:cut Vs 0 5=some Vs:=bV h1.rT.choose_spec.choose_spec.choose_spec.choose_spec.2.2.2.2;have kk:=Pa hc h1 hp hr (pq.aY gN) hl false;rw[I0 hc 1 (r:=(.tuple [.int .i64 (l8 p false q).1,.int .i64 (l8 p false q).2],af s (.cells Vs 0))),aA (tW _ _) gN.keeps];rw[K9];simp[show ∀l,AV.cells (.agg l)=l from λl=>rfl,aE,aT,hcut,kk]
theorem XT(z:Bool)(hl:q.length<=1000){g:Nat}(hg:g<q.length)(x2 B5:AV)(F:Nat)(k1 k4:Q2):∀(m k f:Nat),k+m=g->m<f->
  fh c F k1 k4 f [ints z q,x2,B5,.int .i64 (g:Int),.int .i64 (k:Int)] s=if q[g]∈(q.take g).drop k then k1 [.int .i64 (g:Int),.int .i64 51] s else k4 [ints z q,x2,B5,.int .i64 (g:Int)] s:=by
 intro m;induction m with
 |zero=>
  intro k f hk hf;obtain⟨f,rfl⟩:∃g,f=g+1:=⟨f - 1,by omega⟩
  obtain rfl:k=g:=by omega
  rw[kI,Za4 (by rw[List.drop_of_length_le (by rw[Zj1];omega)];simp)];simp
 |succ m ih=>
  intro k f hk hf;obtain⟨f,rfl⟩:∃g,f=g+1:=⟨f - 1,by omega⟩
  have hkg:k<g:=by omega
  have iW:k<q.length:=by omega
  have wr:aB .i64 ((k:Int)+1)=((k+1:Nat):Int):=wrap64 (by omega) (by omega);have UH:=ih (k+1) f (by omega) (by omega);have ed:(q.take g).drop k=q[k]::(q.take g).drop (k+1):=by
    rw[Zb3 (by rw[Zj1];omega),Zj8]
  rw[ed];by_cases e:q[k]=q[g]
  .have d:decide (q[k]=q[g])=true:=Za3 e;rw[Za7 (by rw[e];simp),kI];simp[ints,hkg,iW,hg,d]
  . have d:decide (q[k]=q[g])=false:=Za5 e;have hiff:(q[g]∈q[k]::(q.take g).drop (k+1))↔q[g]∈(q.take g).drop (k+1):=by
        rw[Za0];constructor
        . rintro(h|h)
          .exact absurd h.symm e
          .exact h
        .exact .inr
    simp only[hiff];rw[<-UH,kI];simp[ints,hkg,iW,hg,d,wr]
theorem XU(z:Bool)(hl:q.length<=1000){N:Nat}(w:Bool)(F:Nat)(hF:q.length<F)(k1 k2:Q2):∀(m k f:Nat),k+m=q.length->m<f->
  gK c F k1 k2 f [ints z q,.bool w,.int .i64 (N:Int),.int .i64 (k:Int)] s=if(nc N w q m k).2=0 then k2 [] s else k1 [.int .i64 (nc N w q m k).1,.int .i64 (nc N w q m k).2] s:=by
 intro m;induction m with
 |zero=>
  intro k f hk hf;obtain⟨f,rfl⟩:∃g,f=g+1:=⟨f - 1,by omega⟩
  obtain rfl:k=q.length:=by omega
  rw[eo];simp[nc,ints]
 |succ m ih=>
  intro k f hk hf;obtain⟨f,rfl⟩:∃g,f=g+1:=⟨f - 1,by omega⟩
  have iW:k<q.length:=by omega
  have wr:aB .i64 ((k:Int)+1)=((k+1:Nat):Int):=by rw[wrap64 (by omega) (by omega)];omega
  have UH:=ih (k+1) f (by omega) (by omega);have L1:=λk1 k4=>XT (c:=c) (s:=s) z hl iW (.bool w) (.int .i64 (N:Int)) F k1 k4 k 0 F (by omega) (by omega)
  simp only[Zc9,show((0:Nat):Int)=0 from rfl]at L1;have eb:=UG (N:=N) (w:=w) (m:=m) iW rfl;have lI:∀(K:AV->St->Option (AV×St))(s:St),ai c (.lenB .l) [ints z q] s K=K (.int .i64 (q.length:Int)) s:=λK s=>by unfold ints;rw[bN];simp
  have ix:∀(K:AV->St->Option (AV×St))(s:St),ai c (.idxA 1 none) [ints z q,.int .i64 (k:Int)] s K=K (.fp (q.map λx=>[AV.int .i64 x]) k 0) s:=λK s=>by unfold ints;rw[Rm,Zd1,Za7 iW];rfl
  have ld:∀(K:AV->St->Option (AV×St))(s:St),ai c (.load none) [.fp (q.map λx=>[AV.int .i64 x]) k 0] s K=K (.int .i64 q[k]) s:=λK s=>by simp[iW]
  generalize q[k]=x at*
  by_cases h1:x= -1
  . subst h1;cases w with
    |   true=>
        have n1:true=true/\(-1:Int)= -1:=⟨rfl,rfl⟩
        rw[Za7 n1]at eb;rw[eb,eo];simp[vu,lI,ix,ld,iW]
    |   false=>
        have n1:¬(false=true/\(-1:Int)= -1):=(by simp);have n2:¬((-1:Int)< -1\/(N:Int)<= -1):=(by omega);have n3:¬(0<=(-1:Int)/\(-1:Int)∈q.take k):=λh=>by have:=h.1;omega
        rw[Za4 n1,Za4 n2,Za4 n3]at eb;rw[eb, <-UH,eo];simp[vu,lI,ix,ld,iW,wr]
  . have n1:¬(w=true/\x= -1):=λh=>h1 h.2
    rw[Za4 n1]at eb;have d1:decide (x= -1)=false:=Za5 h1;by_cases h2:x< -1\/(N:Int)<=x
    .   rw[Za7 h2]at eb;rw[eb,eo];by_cases h3:x<0
        .have d2:decide (x<0)=true:=Za3 h3;simp[vu,lI,ix,ld,iW,d1,d2]
        .have d2:decide (x<0)=false:=Za5 h3;have d3:decide ((N:Int)<=x)=true:=Za3 (by omega);simp[vu,lI,ix,ld,iW,d1,d2,d3]
    .   rw[Za4 h2]at eb;have d2:decide (x<0)=false:=Za5 (by omega);have d3:decide ((N:Int)<=x)=false:=Za5 (by omega);by_cases h4:x∈q.take k
        . have n3:0<=x/\x∈q.take k:=⟨by omega,h4⟩
          rw[Za7 n3]at eb;rw[eb,eo];simp only[h4,Ze5]at L1;simp[vu,lI,ix,ld,iW,d1,d2,d3,L1]
        . have n3:¬(0<=x/\x∈q.take k):=λh=>h4 h.2
          rw[Za4 n3]at eb;rw[eb, <-UH,eo];simp only[h4,Zd5]at L1;simp[vu,lI,ix,ld,iW,d1,d2,d3,L1,wr]
theorem Pb(hc:gh c)(p:aR)(hp:p.iO)(hr:∀r∈p.rs,r.Ok)(z:Bool)(hl:q.length<=1000)(w:Bool)(hw:Wf s):c 48 [.agg p.cells,ints z q,.bool w] s=some (.tuple [.int .i64 (l8 p w q).1,.int .i64 (l8 p w q).2],s):=by
 have gN:=Grew.af hw (.cells p.cells 0);have x1:=aE s (.cells p.cells 0);have R:=SS hc p hp hr (af s (.cells p.cells 0));have C:=SU hc p.tz p.ts hp.ts (af s (.cells p.cells 0));obtain⟨hs,hle⟩:=aak hp;rw[<-hs]at C;have lI:∀(K:AV->St->Option (AV×St))(s:St),ai c (.lenB .l) [ints z q] s K=K (.int .i64 (q.length:Int)) s:=λK s=>by unfold ints;rw[bN];simp
 have lG:∀(K:AV->St->Option (AV×St))(s:St),ai c (.lenB .l) [aX p.gz p.gs] s K=K (.int .i64 (p.gs.length:Int)) s:=λK s=>by unfold aX;rw[bN];simp
 have L0:=λk1 k2=>XU (c:=c) (s:=af s (.cells p.cells 0)) z hl (N:=NS p) w (q.length+1) (by omega) k1 k2 q.length 0 (q.length+1) (by omega) (by omega)
 simp only[show((0:Nat):Int)=0 from rfl]at L0;have p0:p.cells[0]? =some (tabs p.tz p.ts):=rfl;have p1:p.cells[1]? =some (aX p.gz p.gs):=rfl;have vc:cut p.cells 0 5=some p.cells:=bV rfl;rw[De hc (q.length+1) (r:=(.tuple [.int .i64 (l8 p w q).1,.int .i64 (l8 p w q).2],af s (.cells p.cells 0))),aA (tW _ _) gN.keeps];rw[Gh];unfold l8 La;by_cases hz:(bX p).2=0
 . rw[  hz]at R;rw[Za4 (by simpa using hz)];by_cases he:q.length=p.gs.length
   . rw[Za4 (by simpa using he)];have d:decide ((q.length:Int)=(p.gs.length:Int))=true:=Za3 (by omega);by_cases hb:(nc (NS p) w q q.length 0).2=0
     .  simp only[hb,Ze5]at L0;have e:=I6 _ _ hb;rw[e];simp[show ∀l,AV.cells (.agg l)=l from λl=>rfl,x1,aT,vc,R,lI,lG,d,he,p0,p1,C];rw[<-he,L0];simp
     .  simp only[hb,Zd5]at L0;simp[show ∀l,AV.cells (.agg l)=l from λl=>rfl,x1,aT,vc,R,lI,lG,d,he,p0,p1,C];rw[<-he,L0];simp
   .rw[Za7 he];have d:decide ((q.length:Int)=(p.gs.length:Int))=false:=Za5 (by omega);simp[show ∀l,AV.cells (.agg l)=l from λl=>rfl,x1,aT,vc,R,lI,lG,d,he,p0,p1]
 .rw[Za7 hz];have d:decide ((bX p).2=0)=false:=Za5 hz;simp[show ∀l,AV.cells (.agg l)=l from λl=>rfl,x1,aT,vc,R,d,hz]
end
end
noncomputable section
open Go Go.Ai Go.Proofs
attribute [local go_sem ↓] bg xJ ev Ug xX getLT xI KN OT vG vH HR HS HT HU DD DE DF DG DH DI HV HW DJ DK DM DN DO Mh Mi Mj
attribute [local go_sem] bg xJ ev
section
variable(c:ah)(F:Nat)(x0 x1 x2 x3 x4 x5 x6 x7 x8 x9 B5 Ib:AV)(s:St)
def p6:Sh:=(sq sl (sq sl sl))
def p7:PX 3 p6:=⟨_,by conv=>lhs;reduce⟩
def kJ:O2:=bg c F bu p7.1 [x0,x1] s
def zF:=(by dsimp only[kJ,p7,go_sem,Int.reduceOfNat]:kJ c F x0 x1 s=_)
def uT:Sh:=(sq sl (sq sl (sq sl (sq sl (sq sl (sq sl (sq sl sl)))))))
def uU:PX 11 uT:=⟨_,by conv=>lhs;reduce⟩
def pI:O2:=bg c F bu uU.1 [x0,x1] s
def Ev:=(by dsimp only[pI,uU,go_sem,Int.reduceOfNat]:pI c F x0 x1 s=_)
end
section
variable{c:ah}(hc:gh c)(F:Nat){x0 x1 x2 x3 x4 x5 x6 x7 x8 x9 B5 Ib:AV}{s:St}{r:AV×St}
include hc
theorem yw(h:kJ c F x0 x1 s=some r):c 3 [x0,x1] s=some (tidy s r):=hc.o0 F p6 (by kernel_rfl) (by kernel_rfl) h
theorem Bx(h:pI c F x0 x1 s=some r):c 11 [x0,x1] s=some (tidy s r):=hc.o0 F uT (by kernel_rfl) (by kernel_rfl) h
end
end
section
set_option linter.unusedSimpArgs false
open Go Go.Ai Go.Proofs
variable{c:ah}
section
variable{s0 s sB:St}{Vs:List AV}{p:aR}{P:AV}{q:List Int}{N:Nat}
end
set_option linter.unusedSimpArgs false
structure Rx(s:St)(L:AV)(i:Nat)(P x:AV):Prop where
 st:∀{R:Type}(c:ah)(K:AV->St->Option R)(k:IntKind)(s1:St),ai c (.idxA 1 none) [L,.int k (i:Int)] s1 K=K P s1
 pr:∀{R:Type}(K:AV->Option R)(k:IntKind),gu (.idxA 1 none) [L,.int k (i:Int)] K=K P
 ld:∀{R:Type}(c:ah)(K:AV->St->Option R),ai c (.load none) [P] s K=K x s
 rd:∀{R:Type}(K:AV->Option R),lX (.load none) [P] s.heap (λ_=>true) K=K x
abbrev LS(s:St)(L:AV)(q:List Int):Prop:=Src 1 s L (q.map ju)
theorem LS.ro(s:St)(z:Bool)(q:List Int):LS s (ints z q) q:=Src.ro z _
theorem LS.rx{s:St}{L:AV}{q:List Int}(h:LS s L q){i:Nat}{x:Int}(hx:q[i]? =some x):∃P,Rx s L i P (.int .i64 x):=by
 obtain⟨hi,rfl⟩:=H3.1 hx;rcases h with rfl|h
 . have e:(AV.fl (q.map ju) 1)=Go.Ai.ro 1 false (q.map λx=>[AV.int .i64 x]):=(by unfold Go.Ai.ro;simp);refine⟨.fp (q.map λx=>[AV.int .i64 x]) i 0,λc K k s1=> ?_,λK k=> ?_,λc K=> ?_,λK=> ?_⟩
   .rw[e,Rm,Zd1,Za7 hi];rfl
   .rw[e,YK,Zd1,Za7 hi];rfl
   .simp[hi]
   .simp[hi]
 .obtain⟨b,o,p⟩:=rdI h hx;exact⟨.ptr b o,λc K k s1=>p.st c K k s1,λK k=>p.pr K k,λc K=>by simp[p.one],λK=>by simp[p.one]⟩
theorem LS.lenB{s:St}{L:AV}{q:List Int}(h:LS s L q){R:Type}(K:AV->St->Option R)(s1:St):ai c (.lenB .l) [L] s1 K=K (.int .i64 (q.length:Int)) s1:=by
 rcases h with rfl|h
 . have:=aS (k:= .lenB .l) (xs:=[.fl (q.map ju) 1]) (v:= .int .i64 ((q.map ju).length:Int)) c K (λH n=>rfl) s1
   rwa [Zd1]at this
 . have:=h.lenB (c:=c) K s1
   rwa [Zd1]at this
section
variable{s:St}{P Q:AV}{q r:List Int}
theorem XV(pq:LS s P q)(pr:LS s Q r)(hl:q.length<=1000000)(he:q.length=r.length)(F:Nat)(k1 k2:Q2):∀(m k f:Nat),k+m=q.length->m<f->
  fM c F k1 k2 f [P,Q,.int .i64 (q.length:Int),.int .i64 (k:Int)] s=if q.drop k=r.drop k then k2 [] s else k1 [.bool false] s:=by
 intro m;induction m with
 |zero=>
  intro k f hk hf;obtain⟨f,rfl⟩:∃g,f=g+1:=⟨f - 1,by omega⟩
  obtain rfl:k=q.length:=by omega
  rw[jF,Zn6,he,Zn6];simp
 |succ m ih=>
  intro k f hk hf;obtain⟨f,rfl⟩:∃g,f=g+1:=⟨f - 1,by omega⟩
  have iW:k<q.length:=by omega
  have hkr:k<r.length:=by omega
  obtain⟨p',p⟩:=pq.rx (H1 iW);obtain⟨r',x⟩:=pr.rx (H1 hkr);have p1:=λ{R}=>@p.pr R
  have p2:=λ{R}=>@p.rd R
  have p3:=λ{R}=>@p.st R
  have p4:=λ{R}=>@p.ld R
  have x1:=λ{R}=>@x.pr R
  have x2:=λ{R}=>@x.rd R
  have x3:=λ{R}=>@x.st R
  have x4:=λ{R}=>@x.ld R
  have wr:aB .i64 ((k:Int)+1)=((k+1:Nat):Int):=wrap64 (by omega) (by omega);have key:(q.drop k=r.drop k)↔(q[k]=r[k]/\q.drop (k+1)=r.drop (k+1)):=by rw[Zb3 iW,Zb3 hkr,Zh2]
  by_cases e:q[k]=r[k]
  .have key2:(q.drop k=r.drop k)↔(q.drop (k+1)=r.drop (k+1)):=key.trans ⟨λh=>h.2,λh=>⟨e,h⟩⟩;rw[show(if q.drop k=r.drop k then k2 [] s else k1 [.bool false] s)=(if q.drop (k+1)=r.drop (k+1)then k2 [] s else k1 [.bool false] s)from by simp only[key2], <-ih (k+1) f (by omega) (by omega),jF];have d2:decide (q[k]=r[k])=true:=Za3 e;simp[iW,p1,p2,p3,p4,x1,x2,x3,x4,d2,wr]
  .rw[Za4 (λh=>e (key.1 h).1),jF];have d2:decide (q[k]=r[k])=false:=Za5 e;simp[iW,p1,p2,p3,p4,x1,x2,x3,x4,d2]
theorem XW(hc:gh c)(pq:LS s P q)(pr:LS s Q r)(hl:q.length<=1000000):c 21 [P,Q] s=some (.bool (decide (q=r)),s):=by
 have ln:=λ(K:AV->St->Option (AV×St))=>pq.lenB (c:=c) K s
 have lr:=λ(K:AV->St->Option (AV×St))=>pr.lenB (c:=c) K s
 rw[Bh hc (q.length+1) (r:=(.bool (decide (q=r)),s)),aA (Plain.bool _) (aV.refl s)];rw[Dc];by_cases he:q.length=r.length
 . have hi:=λk1 k2=>XV (c:=c) pq pr hl he (q.length+1) k1 k2 q.length 0 (q.length+1) (by omega) (by omega)
   simp only[Zc9,show((0:Nat):Int)=0 from rfl]at hi;simp[ln,lr,he];rw[<-he,hi];split
   .rename_i h;rw[Za3 h];simp
   .rename_i h;rw[Za5 h];simp
 . have d:decide (q=r)=false:=Za5 λe=>he (by rw[e])
   have hz:¬((q.length:Int)=(r.length:Int)):=(by omega);simp[ln,lr,hz,d]
theorem XX(hc:gh c)(hw:Wf s)(hS:LS s P q)(hl:q.length<=1000):∃v s',c 17 [P] s=some (v,s')/\Mk 1 s s' v (q.map ju):=by
 rcases hS.nil with⟨rfl,h0⟩|hn
 . (refine⟨.ax,s,?_,by rw[h0];exact Mk.start hw (Grew.refl hw)⟩;rw[qQ hc 1 (r:=(.ax,s)),aA Plain.ax (aV.refl s)];rw[th];have e:∀(K:AV->St->Option (AV×St))(s:St),ai c (.bin .eql .slice) [.ax,.ax] s K=K (.bool true) s:=λK s=>aS c K (λH n=>rfl) s);simp[e]
 .obtain⟨v,s',a1,a2⟩:=OS (c:=c) (R:=AV×St) (bytes:=8) (z:=[.int .i64 0]) (λr hr=>by obtain⟨m,_,rfl⟩:=Zf1.1 hr;rfl) (by decide) (by simp;omega) (by simp;omega) s hw hS;obtain⟨gO,t1,t2⟩:=a2.tidy;refine⟨v,gO,?_,t2⟩;rw[qQ hc 1 (r:=(v,s')),t1];rw[th];simp only[bZ,hn,pP];rw[a1]
end
set_option linter.unusedSimpArgs false
section
variable{q:List Int}{g h:Nat}
end
end
end Go.Proofs.YtlkadmkojjceiaaGreatDoor
section
end
namespace Go.Proofs.YtlkadmkojjceiaaGreatDoor
section
set_option linter.unusedSimpArgs false
open Go Go.Ai Go.Proofs
variable{c:ah}
theorem PS.cells{s0 s:St}{Vs:List AV}{p:aR}(h:PS s0 s Vs p):Vs.length=5/\aQ Vs=true:=by
 obtain⟨G,V1,V2,V3,V4,V5,r1,r2,rfl,F1,F2,F3,F4,F5⟩:=h;have o1:=F1.out.cells.2;have o2:=F2.out.cells.2;have o3:=F3.cells.2;have o4:=F4.cells.2;have o5:=F5.cells.2;simp only[aQ,Zi8]at o1 o2 o3 o4 o5;exact⟨rfl,by simp only[aQ,o1,o2,o3,o4,o5,Zi9]⟩
set_option linter.unusedSimpArgs false
def ja:List (List Int)->Nat->Int
 |[],_=> -1
 |q::qs,k=>if 30<q.length then(k:Int)else ja qs (k+1)
theorem Pc:∀(qs:List (List Int))(k:Nat),ja qs k<0↔ ∀q∈qs,q.length<=30
 |[],k=>by simp[ja]
 |q ::qs,k=>by
  rw[ja];by_cases h:30<q.length
  .rw[Za7 h];refine⟨λh=>by omega,λhh=> ?_⟩;have:=hh q (by simp);omega
  .rw[Za4 h,Pc qs (k+1)];simp;omega
structure SW(s:St)(L:AV)(vs:List AV)(qs:List (List Int)):Prop where
 own:QS 1 s L (vs.map Vk)
 len:vs.length=qs.length
 wY:∀(i:Nat)(v:AV)(q:List Int),vs[i]? =some v->qs[i]? =some q->LS s v q
section
variable{s:St}{L:AV}{vs:List AV}{qs:List (List Int)}{p:aR}
theorem aa9(hc:gh c){v:AV}{q:List Int}(h:LS s v q):c 46 [v] s=some (.bool (decide (30<q.length)),s):=by
 have ln:=λ(K:AV->St->Option (AV×St))=>h.lenB (c:=c) K s
 rw[Dd hc 1 (r:=(.bool (decide (30<q.length)),s)),aA (Plain.bool _) (aV.refl s)];rw[Gg];have e:decide ((30:Int)<(q.length:Int))=decide (30<q.length):=decide_eq_decide.2 (by omega);simp[ln,e]
theorem aba(hc:gh c)(h:SW s L vs qs)(hl:vs.length<=1000)(F:Nat)(k1 k2:Q2):∀(m k f:Nat),k+m=vs.length->m<f->
  ej c F k1 k2 f [L,.func 46 [] [],.int .i64 (vs.length:Int),.int .i64 (k:Int)] s=if ja (qs.drop k) k<0 then k2 [] s else k1 [.int .i64 (ja (qs.drop k) k)] s:=by
 intro m;induction m with
 |zero=>
  intro k f hk hf;obtain⟨f,rfl⟩:∃g,f=g+1:=⟨f - 1,by omega⟩
  obtain rfl:k=vs.length:=by omega
  rw[iF,h.len,Zn6];simp[ja]
 |succ m ih=>
  intro k f hk hf;obtain⟨f,rfl⟩:∃g,f=g+1:=⟨f - 1,by omega⟩
  have iW:k<vs.length:=by omega
  have hkq:k<qs.length:=by rw[<-h.len];exact iW
  obtain⟨b,o,p⟩:=h.own.rd1 (H1 iW);have p1:=λ{R}=>@p.st R
  have p3:=p.one;have w:=aa9 hc (h.wY k _ _ (H1 iW) (H1 hkq));have wr:aB .i64 ((k:Int)+1)=((k+1:Nat):Int):=wrap64 (by omega) (by omega);have UH:=ih (k+1) f (by omega) (by omega);rw[Zb3 hkq,ja];by_cases e:30<qs[k].length
  .rw[Za3 e]at w;rw[Za7 e,Za4 (by omega),iF];simp[iW,p1,p3,xV,w]
  .rw[Za5 e]at w;rw[Za4 e, <-UH,iF];simp[iW,p1,p3,xV,w,wr]
theorem ZJ(hc:gh c)(h:SW s L vs qs)(hl:vs.length<=1000):c 45 [L,.func 46 [] []] s=some (.bool (decide (0<=ja qs 0)),s):=by
 have ln:=λ(K:AV->St->Option (AV×St))=>h.own.lenB (c:=c) K s
 rw[Zd1]at ln;have L0:=λk1 k2=>aba (c:=c) hc h hl (vs.length+1) k1 k2 vs.length 0 (vs.length+1) (by omega) (by omega)
 simp only[Zc9,show((0:Nat):Int)=0 from rfl]at L0;have I:c 95 [L,.func 46 [] []] s=some (.int .i64 (if ja qs 0<0 then -1 else ja qs 0),s):=by rw[xC hc (vs.length+1) (r:=(.int .i64 (if ja qs 0<0 then -1 else ja qs 0),s)),aA (Plain.int _ _) (aV.refl s)];rw[yQ];simp only[bZ,ln,L0];split<;>simp
 rw[uW hc 1 (r:=(.bool (decide (0<=ja qs 0)),s)),aA (Plain.bool _) (aV.refl s)];rw[wN];have e:decide (0<=(if ja qs 0<0 then(-1:Int)else ja qs 0))=decide (0<=ja qs 0):=decide_eq_decide.2 (by split<;>omega);simp[I,e]
def N5(p:aR)(qs:List (List Int)):Bool:=decide (p.ts.length<=5)&&(yP p 20&&decide (ja qs 0<0))
theorem abb{p:aR}{qs:List (List Int)}(h:N5 p qs=true):p.ts.length<=5/\yP p 100=true/\p.gs.length<=20/\∀q∈qs,q.length<=30:=by unfold N5 yP at h;simp only[Za2,Zc2]at h;obtain⟨h1,⟨⟨⟨⟨a1,a2⟩,a3⟩,a4⟩,a5⟩,h3⟩:=h;refine⟨h1,?_,a2,(Pc qs 0).1 h3⟩;unfold yP;simp only[Za2,Zc2];omega
theorem abc(hc:gh c)(hw:Wf s)(p:aR)(h:SW s L vs qs)(hl:vs.length<=1000):c 10 [.agg p.cells,L] s=some (.bool (N5 p qs),s):=by
 have gN:=Grew.af hw (.cells p.cells 0);have x1:=aE s (.cells p.cells 0);have h1:SW (af s (.cells p.cells 0)) L vs qs:=⟨h.own.aY gN,h.len,λi v q a b=>(h.wY i v q a b).aY gN⟩
 have C:=ZJ hc h1 hl;have F:c 44 [.agg p.cells,.int .i64 20] (af s (.cells p.cells 0))=some (.bool (yP p 20),af s (.cells p.cells 0)):=aa6 hc p 20 _;have lT:∀(K:AV->St->Option (AV×St))(s:St),ai c (.lenB .l) [tabs p.tz p.ts] s K=K (.int .i64 (p.ts.length:Int)) s:=λK s=>by unfold tabs;rw[bN];simp
 have vc:cut p.cells 0 5=some p.cells:=bV rfl;have p0:p.cells[0]? =some (tabs p.tz p.ts):=rfl;have e1:decide ((p.ts.length:Int)<=5)=decide (p.ts.length<=5):=decide_eq_decide.2 (by omega);have e2:(!decide (0<=ja qs 0))=decide (ja qs 0<0):=by
   by_cases e:0<=ja qs 0
   .rw[Za3 e,Za5 (by omega)];rfl
   .rw[Za5 e,Za3 (by omega)];rfl
 rw[Gi hc 1 (r:=(.bool (N5 p qs),af s (.cells p.cells 0))),aA (Plain.bool _) gN.keeps];rw[I3];unfold N5;rw[<-e2];by_cases a:p.ts.length<=5
 . have d:decide (p.ts.length<=5)=true:=Za3 a;rw[d]at e1;cases b:yP p 20
   .rw[b]at F;simp[x1,aT,vc,p0,lT,e1,d,F,a]
   .rw[b]at F;simp[x1,aT,vc,p0,lT,e1,d,F,C,a]
 .have d:decide (p.ts.length<=5)=false:=Za5 a;rw[d]at e1;simp[x1,aT,vc,p0,lT,e1,d,a]
theorem SW.one{s:St}{z:Bool}{q:List Int}(hw:Wf s):SW (af s (.cells [ints z q] 0)) (.slice s.next 0 1 (some 1) 1) [ints z q] [q]:=
 ⟨.inr (.inl ⟨s.next,0,some 1,[ints z q],rfl,aE _ _,by simp,rfl,.inr rfl⟩),rfl,λi v q' a b=>by
  cases i with
  |zero=>simp at a b;subst a;subst b;exact LS.ro _ _ _
  |succ i=>simp at a⟩
theorem aR.Laid.real{p:aR}(hl:p.Laid)(hp:p.iO):p.Real:=⟨by have:=hp.ts;omega,λt ht=>(hl.tab t ht).2,by have:=hp.gs;omega,hl.bh,hl.ys,hl.cs,hl.rs⟩
theorem aR.cj.refl(p:aR):p.cj p:=⟨rfl,λi t t' h1 h2=>⟨t.oz,by rw[h1]at h2;cases h2;rfl⟩,rfl,λi t t' h1 h2=>⟨t.tz,by rw[h1]at h2;cases h2;rfl⟩,rfl,rfl,rfl⟩
theorem XY(hc:gh c)(hw:Wf s)(hl:p.Laid)(hp:p.iO)(z:Bool){q:List Int}(hq:q.length<=30):c 11 [.agg p.cells,ints z q] s=some (.bool true,s):=by
 have hR:=hl.real hp;have hk:∀t∈p.ts,t.Ok:=λt ht=>(hl.tab t ht).1
 have gA:=Grew.af hw (.cells p.cells 0);obtain⟨Vs,sB,e1,PB⟩:=ZH hc p hR _ gA.wf;obtain⟨v,sC,e2,MC⟩:=XX hc PB.aY.wf (LS.ro sB z q) (by omega);obtain⟨vl,vo⟩:=PB.cells;have gD:=Grew.af MC.aY.wf (.cells Vs 0);have PD:=PB.MP (MC.aY.trans gD);have qD:=MC.own.aY gD;have st5:∀(K:AV->St->Option (AV×St)),ai c (.store 5) [.ptr sC.next 0,.agg Vs] (af sC (.cells [.ax,.ax,.ax,.ax,.ax] 0)) K=K .undef (af sC (.cells Vs 0)):=λK=>iz c K sC 5 (.agg Vs) _ vl rfl vo
 have x1:=(PB.aY.trans (MC.aY.trans gD)).get (aE s (.cells p.cells 0));have y1:=aE s (.cells p.cells 0);have x5:=aE sC (.cells Vs 0);have C1:=aa8 hc PD hp hl.rul qD (by omega);have C2:=Tr hc PD hp hl.rul qD (by omega);have D1:=Pb (q:=q) hc p hp hl.rul z (by omega) true gD.wf;have D2:=Pb (q:=q) hc p hp hl.rul z (by omega) false gD.wf;have S:=ZI hc PD (aR.cj.refl p) hR hk;have E:=XW hc (.inr qD) (LS.ro _ z q) (by omega);rw[Za3 rfl]at E;have vc:cut Vs 0 5=some Vs:=bV vl;have pc:cut p.cells 0 5=some p.cells:=bV rfl;have G:=gA.trans (PB.aY.trans (MC.aY.trans gD));rw[Bx hc 1 (r:=(.bool true,af sC (.cells Vs 0))),aA (Plain.bool _) G.keeps];rw[Ev];simp[-iz,show ∀l,AV.cells (.agg l)=l from λl=>rfl,y1,aT,pc,e1,e2,st5,x1,x5,vc,C1,C2,D1,D2,S,E]
theorem Pd(hc:gh c)(p:aR)(hl:p.Laid)(z:Bool)(q:List Int)(hw:Wf s):c 3 [.agg p.cells,ints z q] s=some (.bool true,s):=by
 have gA:=Grew.af hw (.cells p.cells 0);have gB:=Grew.af gA.wf (.cells [ints z q] 0);have F:=abc hc gB.wf p (SW.one (z:=z) (q:=q) gA.wf) (by simp);have bs:∀(K:AV->St->Option (AV×St)),ai c (.buildSlice 1 1 [.ax] [0]) [ints z q] (af s (.cells p.cells 0)) K=K (.slice (af s (.cells p.cells 0)).next 0 1 (some 1) 1) (af (af s (.cells p.cells 0)) (.cells [ints z q] 0)):=λK=>by
   (rw[cM];have:bP (bD [AV.ax] 1) ([0].map λi=>(i*1,1)) [ints z q]=some [ints z q]:=by unfold ints Go.Ai.ro;split<;>rfl);rw[this];rfl
 have x1:=gB.get (aE s (.cells p.cells 0));have y1:=aE s (.cells p.cells 0);have pc:cut p.cells 0 5=some p.cells:=bV rfl;have A:=XJ hc (af (af s (.cells p.cells 0)) (.cells [ints z q] 0));rw[yw hc 1 (r:=(.bool true,af (af s (.cells p.cells 0)) (.cells [ints z q] 0))),aA (Plain.bool _) (gA.trans gB).keeps];rw[zF];cases h:N5 p [q]
 .rw[h]at F;simp[-cM,show ∀l,AV.cells (.agg l)=l from λl=>rfl,x1,y1,aT,pc,bs,F,A]
 .rw[h]at F;obtain⟨_,hf,_,hq⟩:=abb h;have C:=XY hc gB.wf hl (ZB hf λt ht=>(hl.tab t ht).1) z (hq q (by simp));simp[-cM,show ∀l,AV.cells (.agg l)=l from λl=>rfl,x1,y1,aT,pc,bs,F,C,A]
end
end
end Go.Proofs.YtlkadmkojjceiaaGreatDoor
namespace Go.Proofs.YtlkadmkojjceiaaGreatDoor.uX
section
open Go
theorem k1:(Rows.planChecksUptoRow.inPlace==Tryz.pinned.checked.prog.inPlace 3)=true:=by kernel_rfl
theorem k2:(Rows.planChecksUptoRow.unfollowed==Tryz.pinned.checked.prog.unfollowed 3)=true:=by kernel_rfl
theorem k3:(Rows.planChecksUptoRow.recurses==Tryz.pinned.checked.prog.recurses 3)=true:=by kernel_rfl
theorem k4:(Rows.planChecksUptoRow.named==Tryz.pinned.checked.prog.varsNamed 3)=true:=by kernel_rfl
theorem k5:laidOutB Tryz.pinned.checked.prog=true:=by kernel_rfl
theorem k6:mapsRowed Tryz.pinned.checked.prog=true:=by kernel_rfl
theorem k7:(Rows.planChecksUptoRow.plainKeys==Tryz.pinned.checked.prog.plainKeys)=true:=by kernel_rfl
theorem closed:joinedFacts Tryz.pinned.checked.prog 3 Tryz.f3 (Rows.OpenSpec.upto Rows.planChecksSpec).bare Rows.planChecksUptoRow=true:=by
 unfold joinedFacts;rw[k1,k2,k3,k4,k5,k6,k7]
 kernel_rfl
end
end Go.Proofs.YtlkadmkojjceiaaGreatDoor.uX
