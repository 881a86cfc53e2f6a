/- The law. -/
import Derived.Test.YtgihekklfnjkiaaGreatDoorAJudgeB
import Derived.Test.YtgihekklfnjkiaaGreatDoorRows
import Derived.Deep.DeepHandedRow
set_option linter.all false
set_option maxRecDepth 100000
set_option maxHeartbeats 1000000
namespace Go.Proofs.YtgihekklfnjkiaaGreatDoor
section
open Go Go.Ai Go.Proofs
variable{c:aj}
theorem ai8(z:Bool)(rs:List Rl){i:Nat}(hi:i<rs.length)(K:AV->St->Option (AV×St))(s:St):aq c (.idxA 6 none) [iG z rs,.int .i64 (i:Int)] s K=K (.fp (rs.map Rl.cells) i 0) s:=by
 unfold iG;rw[Tn];simp[hi]
theorem ai9(rs:List Rl){i:Nat}(hi:i<rs.length)(K:AV->St->Option (AV×St))(s:St):aq c (.load (some 6)) [.fp (rs.map Rl.cells) i 0] s K=K (.agg (rs[i]).cells) s:=by
 rw[abh];simp[hi]
theorem atf(r:Rl)(s:St)(K:AV->St->Option (AV×St)):aq c (.store 6) [.ptr s.next 0,.agg r.cells] (ah s (.cells [.int .u8 0,.int .i64 0,.str [],.str [],.str [],.int .i64 0] 0)) K=K .undef (ah s (.cells r.cells 0)):=cq c K s 6 (.agg r.cells) _ rfl rfl rfl
section
variable{s1:St}{b7:Pos}{U1 U2 U3 U4:AV}{p:bE}{i:Nat}{r:Rl}
def onl(r:Rl)(i k:Nat):List Rl:=if i<k then [r]else []
theorem auo(hc:Sem c)(hi:p.rs[i]? =some r)(hl:p.rs.length<=100)(hge:s1.next.toNat<=b7.toNat)(z:Bool)(x4:AV)(F:Nat):
  ∀ (m k f:Nat)(t:St)(V:AV),k+m=p.rs.length->m<f->Mk 6 s1 t V ((onl r i k).map Rl.cells)->t.heap.get b7=some (.cells [U1,U2,U3,U4,V] 0)->aR V≠some b7->
    ∃t' V',Mk 6 s1 t' V' ([r].map Rl.cells)/\t'.heap.get b7=some (.cells [U1,U2,U3,U4,V'] 0)/\∀k2:Q2,ze c F k2 f [ints z [(i:Int)],x4,.ptr b7 0,iG p.rz p.rs,.int .i64 (p.rs.length:Int),.int .i64 (k:Int)] t=k2 [x4,.ptr b7 0] t':=by
 have fX:=(Za1.1 hi).1;intro m;induction m with
 |zero=>
  intro k f t V hk hf M h7 ho;obtain⟨f,rfl⟩:∃g,f=g+1:=⟨f - 1,by omega⟩
  obtain rfl:k=p.rs.length:=by omega
  have e:onl r i p.rs.length=[r]:=Zb4 fX;rw[e]at M;refine⟨t,V,M,h7,λk2=> ?_⟩;rw[GQ];simp only[aD,aX,bV,Zp5,Zl7,cE]
 |succ m ih=>
  intro k f t V hk hf M h7 ho;obtain⟨f,rfl⟩:∃g,f=g+1:=⟨f - 1,by omega⟩
  have dM:k<p.rs.length:=by omega
  have aW:decide ((k:Int)<(p.rs.length:Int))=true:=Za0 (by omega);have wr:Unit->av .i64 ((k:Int)+1)=((k+1:Nat):Int):=λ_=>by rw[wrap64 (by omega) (by omega)];omega
  have g1:=Grew.ah M.ai.wf (.cells (p.rs[k]).cells 0);have M1:=M.grow g1;have x9:=aB t (.cells (p.rs[k]).cells 0);have h71:=g1.get h7;have hlt7:=M1.ai.wf _ _ h71;have st:=λ(K:AV->St->Option (AV×St))=>atf (c:=c) (p.rs[k]) t K
  obtain⟨t1,ht1⟩:∃t1,t1=ah t (.cells (p.rs[k]).cells 0):=⟨_,rfl⟩
  rw[<-ht1]at g1 M1 x9 h71 hlt7;have st:∀(K:AV->St->Option (AV×St)),aq c (.store 6) [.ptr t.next 0,.agg (p.rs[k]).cells] (ah t (.cells [.int .u8 0,.int .i64 0,.str [],.str [],.str [],.int .i64 0] 0)) K=K .undef t1:=λK=>by rw[ht1];exact st K
  have ct:=YA hc z [(i:Int)] (by show 1<vM;decide) (k:Int) t1;by_cases e:k=i
  . (subst e;have er:p.rs[k]=r:=(by rw[H0 dM]at hi;exact Zi1 hi);have d1:decide ((k:Int)∈[(k:Int)])=true:=Za0 (by simp);rw[d1]at ct;have e0:onl r k k=[]:=Za7 (by omega);have e1:onl r k (k+1)=[r]:=Zb4 (by omega);rw[e0]at M1;obtain⟨t5,V5,a1,M5,a3,a4⟩:=M1.push (R:=AV×St) (c:=c) (bytes:=72) (z:=[.int .u8 0,.int .i64 0,.str [],.str [],.str [],.int .i64 0]) (x:= .agg r.cells) rfl rfl rfl (by omega) (by decide) (by decide);have h75:=a3 _ _ ho h71;obtain⟨v1,v2⟩:=M5.cells;have pt:∀(K:AV->St->Option (AV×St)),aq c (.store 1) [.ptr b7 4,V5] t5 K=K .undef (bn t5 b7 (.cells [U1,U2,U3,U4,V5] 0)):=λK=>by rw[CJ (c:=c) K h75 (o:=4) (by show 4<5;omega) v1 (xw v2)];rfl);have dP:aR V5≠some b7:=λe=>by have:=a4 _ e;omega
    obtain⟨t',V',z1,z2,z3⟩:=ih (k+1) f (bn t5 b7 (.cells [U1,U2,U3,U4,V5] 0)) V5 (by omega) (by omega) (by rw[e1];exact M5.store hge (M5.ai.wf _ _ h75) dP) (bW _ _ _) dP;refine⟨t',V',z1,z2,λk2=> ?_⟩;rw[<-z3 k2,GQ];have l6:∀(K:AV->St->Option (AV×St)),aq c (.load (some 6)) [.ptr t.next 0] t1 K=K (.agg r.cells) t1:=λK=>by rw[cm,x9,er];rfl
    simp only[aD,aX,bV,aW,cV,iE,au,ai8 p.rz p.rs dM,ai9 p.rs dM,bN,st,bI,ct,bw,aK,Zb1,aO,h71,az,Za6,Za4,Zb6,aQ,l6,a1,pt,dy,wr ()]
  . have d1:decide ((k:Int)∈[(i:Int)])=false:=Za2 (by simp;omega);rw[d1]at ct;have e1:onl r i (k+1)=onl r i k:=by
        unfold onl;by_cases h:i<k
        .rw[Zb4 h,Zb4 (by omega)]
        .rw[Za7 h,Za7 (by omega)]
    obtain⟨t',V',z1,z2,z3⟩:=ih (k+1) f t1 V (by omega) (by omega) (by rw[e1];exact M1) h71 ho;refine⟨t',V',z1,z2,λk2=> ?_⟩;rw[<-z3 k2,GQ];simp only[aD,aX,bV,aW,cV,cE,iE,au,ai8 p.rz p.rs dM,ai9 p.rs dM,bN,st,bI,ct,bw,dy,wr ()]
end
theorem aup(hc:Sem c)(p:bE)(hp:p.uz)(hRo:Ii c p)(hR:p.Real)(hr:∀r∈p.rs,r.Ok)(hk:(eD p).2=0)(z:Bool){i:Nat}{r:Rl}(hi:p.rs[i]? =some r)(s:St)(hw:Wf s):
  ∃Vs s',c 30 [.agg p.cells,ints z [(i:Int)]] s=some (.agg Vs,s')/\PS s s' Vs (p.uI true [r]):=by
 have gA:=Grew.ah hw (.cells p.cells 0);have gB:=Grew.ah gA.wf (.cells [.af,.af,.af,.af,.af] 0);have x2:=aB s (.cells p.cells 0);have x4:=aB (ah s (.cells p.cells 0)) (.cells [.af,.af,.af,.af,.af] 0);have n4:s.next.toNat<(ah s (.cells p.cells 0)).next.toNat:=by rw[bX,Pos.aH];omega
 obtain⟨sA,hsA⟩:∃sA,sA=ah s (.cells p.cells 0):=⟨_,rfl⟩
 rw[<-hsA]at gA gB x2 x4 n4;have bx:∀(K:AV->St->Option (AV×St)),aq c .box [.agg p.cells] s K=K (.ptr s.next 0) sA:=λK=>by rw[di,hsA];rfl
 obtain⟨b4,hb4⟩:∃b4,b4=sA.next:=⟨_,rfl⟩
 have al:∀(K:AV->St->Option (AV×St)),aq c (.alloc [.af,.af,.af,.af,.af]) [] sA K=K (.ptr b4 0) (ah sA (.cells [.af,.af,.af,.af,.af] 0)):=λK=>by rw[bN,hb4]
 obtain⟨sB,hsB⟩:∃sB,sB=ah sA (.cells [.af,.af,.af,.af,.af] 0):=⟨_,rfl⟩
 rw[<-hsB]at gB x4 al;rw[<-hb4]at x4 n4;have x2B:=gB.get x2;have ck:=Jv hc p hp hRo hr sB gB.wf;obtain⟨Us,sC,cp,P⟩:=adY hc p hR sB gB.wf;obtain⟨ul,uo⟩:=P.cells;obtain⟨U1,U2,U3,U4,U5,r1,r2,rfl,h1,h2,h3,h4,h5⟩:=P.all;have wC:=P.ai.wf;have st5:∀(K:AV->St->Option (AV×St)),aq c (.store 5) [.ptr sC.next 0,.agg [U1,U2,U3,U4,U5]] (ah sC (.cells [.af,.af,.af,.af,.af] 0)) K=K .undef (ah sC (.cells [U1,U2,U3,U4,U5] 0)):=λK=>cq c K sC 5 (.agg [U1,U2,U3,U4,U5]) _ ul rfl uo
 have pt4:∀(K:AV->St->Option (AV×St)),aq c (.store 1) [.ptr sC.next 4,.af] (ah sC (.cells [U1,U2,U3,U4,U5] 0)) K=K .undef (ah sC (.cells [U1,U2,U3,U4,.af] 0)):=λK=>by rw[CJ (c:=c) K (aB sC (.cells [U1,U2,U3,U4,U5] 0)) (o:=4) (by show 4<5;omega) rfl rfl,Q6];rfl
 have gD:=Grew.ah wC (.cells [U1,U2,U3,U4,.af] 0);have x7:=aB sC (.cells [U1,U2,U3,U4,.af] 0);have lk:(p.rs.length:Nat)<=100:=hp.rs;have M0:Mk 6 sC (ah sC (.cells [U1,U2,U3,U4,.af] 0)) .af ((onl r i 0).map Rl.cells):=Mk.start wC gD;obtain⟨t',V',z1,z2,z3⟩:=auo (c:=c) (b7:=sC.next) hc hi lk (Za5 _) z (.ptr b4 0) 200 p.rs.length 0 200 _ .af (Zb1 _) (by omega) M0 x7 (λe=>by cases e);simp only[show((0:Nat):Int)=0 from rfl]at z3;have gT:=z1.ai;have acI:=gB.trans (P.ai.trans gT);have x4T:=(P.ai.trans gT).get x4;obtain⟨v1,v2⟩:=z1.cells;have onV:aV [U1,U2,U3,U4,V']=true:=by
  have o1:=h1.out.cells.2;have o2:=h2.out.cells.2;have o3:=h3.cells.2;have o4:=h4.cells.2;simp only[aV,Zi9]at o1 o2 o3 o4 v2;simp only[aV,o1,o2,o3,o4,v2,Zj2]
 have Ba:∀(K:AV->St->Option (AV×St)),aq c (.store 5) [.ptr b4 0,.agg [U1,U2,U3,U4,V']] t' K=K .undef (bn t' b4 (.cells [U1,U2,U3,U4,V'] 0)):=λK=>by rw[cH c K t' 5 b4 0 (.agg [U1,U2,U3,U4,V']) _ x4T rfl (by simp) onV];rfl
 have l47:=acI.wf _ _ x4T;have nB4:b4.toNat<sB.next.toNat:=gB.wf _ _ x4;have nsC:=P.ai.next;have gF:Grew s (bn t' b4 (.cells [U1,U2,U3,U4,V'] 0)):=yY hw (gA.trans acI) (by omega) l47 _;have keep:∀(q:Pos)(b:AB),sB.next.toNat<=q.toNat->t'.heap.get q=some b->(bn t' b4 (.cells [U1,U2,U3,U4,V'] 0)).heap.get q=some b:=λq b hq hb=>by rw[aM (λe=>by rw[<-e]at hq;omega)];exact hb
 have PF0:=P.pJ hw (gA.trans gB) gF λq b hq hb=>keep q b hq (gT.get hb)
 have MF:Mk 6 s (bn t' b4 (.cells [U1,U2,U3,U4,V'] 0)) V' ([r].map Rl.cells):=z1.pJ hw ((gA.trans gB).trans P.ai) gF λq b hq hb=>keep q b (by omega) hb
 have PF:PS s (bn t' b4 (.cells [U1,U2,U3,U4,V'] 0)) [U1,U2,U3,U4,V'] (p.uI true [r]):=by
  obtain⟨W1,W2,W3,W4,W5,q1,q2,e,k1,k2,k3,k4,k5⟩:=PF0.all;simp only[Zf8,Zo0]at e;obtain⟨rfl,rfl,rfl,rfl,rfl⟩:=e;exact⟨gF,U1,U2,U3,U4,V',q1,q2,rfl,k1,k2,k3,k4,MF⟩
 obtain⟨fD,t1,t2⟩:=PF.tidy hw;refine⟨_,fD,?_,t2⟩;have x2T:=P.ai.get x2B;have x2D:=gD.get x2T;have hc5:cut p.cells 0 5=some p.cells:=cQ rfl;have hcV:cut [U1,U2,U3,U4,V'] 0 5=some [U1,U2,U3,U4,V']:=cQ rfl;have d0:decide ((eD p).2=0)=true:=Za0 hk;rw[agS hc 200 (r:=(.agg [U1,U2,U3,U4,V'],bn t' b4 (.cells [U1,U2,U3,U4,V'] 0))),t1];rw[akA];simp only[bx,bN, <-hsB, <-hb4,au,cm,x2B,az,Za6,hc5,cG,bI,ck,bw,gP,Za4,Zb6,aQ,zO,d0,Zi4,cE,cp,st5,aK,Zb1,pt4,aO,x2D,bE.c4,aja,z3,aD,aX,z2,hcV,Ba,To,bW]
def Ae(h:Bool)(r:Rl):Bool:=decide (r.wt=0)==h
theorem agl:∀(l:List Rl)(k:Nat),(qC (Ae true) l k).length+(qC (Ae false) l k).length=l.length
 |[],_=>rfl
 |r ::l,k=>by
  have ih:=agl l (k+1);unfold qC;rw[Zd9,Zd9,Zc7];by_cases e:r.wt=0
  .have h1:Ae true r=true:=(by unfold Ae;rw[Za0 e];rfl);have h2:Ae false r=false:=(by unfold Ae;rw[Za0 e];rfl);rw[h1,h2,Zb4 rfl,Za7 (by decide),Zm2,Zi2];omega
  .have h1:Ae true r=false:=(by unfold Ae;rw[Za2 e];rfl);have h2:Ae false r=true:=(by unfold Ae;rw[Za2 e];rfl);rw[h1,h2,Zb4 rfl,Za7 (by decide),Zm2,Zi2];omega
theorem apf{s1:St}{p:bE}(hl:p.rs.length<=100)(h:Bool)(F:Nat):
  ∀(m k f:Nat)(t:St)(v:AV),k+m=p.rs.length->m<f->Mk 1 s1 t v ((qC (Ae h) (p.rs.take k) 0).map bH)->∃t' v',Mk 1 s1 t' v' ((qC (Ae h) p.rs 0).map bH)/\
   ∀k2:Q2,uW c F k2 f [.bool h,v,iG p.rz p.rs,.int .i64 (p.rs.length:Int),.int .i64 (k:Int)] t=k2 [v'] t':=by
 intro m;induction m with
 |zero=>
  intro k f t v hk hf M;obtain⟨f,rfl⟩:∃g,f=g+1:=⟨f - 1,by omega⟩
  obtain rfl:k=p.rs.length:=by omega
  rw[Zg1]at M;refine⟨t,v,M,λk2=> ?_⟩;rw[B7];simp only[aD,aX,bV,Zp5,Zl7,cE]
 |succ m ih=>
  intro k f t v hk hf M;obtain⟨f,rfl⟩:∃g,f=g+1:=⟨f - 1,by omega⟩
  have dM:k<p.rs.length:=by omega
  have aW:decide ((k:Int)<(p.rs.length:Int))=true:=Za0 (by omega);have wr:Unit->av .i64 ((k:Int)+1)=((k+1:Nat):Int):=λ_=>by rw[wrap64 (by omega) (by omega)];omega
  have et:p.rs.take (k+1)=p.rs.take k++[p.rs[k]]:=Zc2 dM;have ei:=acF (Ae h) (p.rs.take k) p.rs[k] 0;rw[<-et,Zf1,Zj5 (by omega),Zb1]at ei;have il:(qC (Ae h) (p.rs.take k) 0).length<=100:=Zb2 (acE _ _ _) (by rw[Zf1];omega);have g1:=Grew.ah M.ai.wf (.cells (p.rs[k]).cells 0);have M1:=M.grow g1;have x9:=aB t (.cells (p.rs[k]).cells 0);have st:=λ(K:AV->St->Option (AV×St))=>atf (c:=c) (p.rs[k]) t K
  have a1':=ai8 (c:=c) p.rz p.rs dM;have a2':=ai9 (c:=c) p.rs dM;generalize p.rs[k]=r at*
  cases hb:Ae h r with
  |true=>
   rw[hb,Zb4 rfl]at ei;have eb:(decide (r.wt=0)==h)=true:=hb;obtain⟨t5,v5,a1,M5,_,_⟩:=M1.push (R:=AV×St) (c:=c) (bytes:=8) (z:=[.int .i64 0]) (x:= .int .i64 (k:Int)) rfl rfl rfl (by omega) (by rw[Za3];omega) (by rw[Za3];omega);obtain⟨t',v',z1,z2⟩:=ih (k+1) f t5 v5 (by omega) (by omega) (by rw[ei,Zc8];exact M5);refine⟨t',v',z1,λk2=> ?_⟩;rw[<-z2 k2,B7];simp only[aD,aX,iE,bV,aW,cV,au,a1',a2',bN,st,aK,Zb1,aO,x9,az,Za6,Rl.c1,aQ,dJ,ai2,eb,a1,dy,wr ()]
  |false=>
   rw[hb,Za7 (by decide),Zd7]at ei;have eb:(decide (r.wt=0)==h)=false:=hb;obtain⟨t',v',z1,z2⟩:=ih (k+1) f _ v (by omega) (by omega) (by rw[ei];exact M1);refine⟨t',v',z1,λk2=> ?_⟩;rw[<-z2 k2,B7];simp only[aD,aX,iE,bV,aW,cV,cE,au,a1',a2',bN,st,aK,Zb1,aO,x9,az,Za6,Rl.c1,aQ,dJ,ai2,eb,dy,wr ()]
theorem agm(hc:Sem c)(p:bE)(hp:p.uz)(hRo:Ii c p)(hr:∀r∈p.rs,r.Ok)(hk:(eD p).2=0)(h:Bool)(s:St)(hw:Wf s):
  ∃v s',c 74 [.agg p.cells,.bool h] s=some (v,s')/\Mk 1 s s' v ((qC (Ae h) p.rs 0).map bH):=by
 have gA:=Grew.ah hw (.cells p.cells 0);have x2:=aB s (.cells p.cells 0);have bx:∀(K:AV->St->Option (AV×St)),aq c .box [.agg p.cells] s K=K (.ptr s.next 0) (ah s (.cells p.cells 0)):=λK=>by rw[di];rfl
 have ck:=Jv hc p hp hRo hr _ gA.wf;have lr:=hp.rs;obtain⟨t',v',z1,z2⟩:=apf (c:=c) (s1:=s) hp.rs h 200 p.rs.length 0 200 (ah s (.cells p.cells 0)) .af (Zb1 _) (by omega) (Mk.start hw gA);simp only[show((0:Nat):Int)=0 from rfl]at z2;obtain⟨s3,t1,t2⟩:=z1.tidy;refine⟨v',s3,?_,t2⟩;have hc5:cut p.cells 0 5=some p.cells:=cQ rfl;have d0:decide ((eD p).2=0)=true:=Za0 hk;rw[adZ hc 200 (r:=(v',t')),t1];rw[agT];simp only[bx,au,cm,x2,az,Za6,hc5,cG,bI,ck,bw,gP,Za4,Zb6,aQ,zO,d0,Zi4,cE,aK,Zb1,aO,bE.c4,aja,z2,aD,aX]
theorem auq(hc:Sem c)(p:bE)(hp:p.uz)(hRo:Ii c p)(hr:∀r∈p.rs,r.Ok)(hk:(eD p).2=0)(s:St)(hw:Wf s):
  ∃v s',c 32 [.agg p.cells] s=some (v,s')/\Mk 1 s s' v ((qC (Ae true) p.rs 0).map bH):=by
 have gA:=Grew.ah hw (.cells p.cells 0);have x2:=aB s (.cells p.cells 0);have bx:∀(K:AV->St->Option (AV×St)),aq c .box [.agg p.cells] s K=K (.ptr s.next 0) (ah s (.cells p.cells 0)):=λK=>by rw[di];rfl
 obtain⟨v,s1,e,M⟩:=agm hc p hp hRo hr hk true _ gA.wf;obtain⟨s3,t1,t2⟩:=(M.back hw gA).tidy;refine⟨v,s3,?_,t2⟩;have hc5:cut p.cells 0 5=some p.cells:=cQ rfl;rw[agU hc 1 (r:=(v,s1)),t1];rw[akB];simp only[bx,au,cm,x2,az,Za6,hc5,cG,bI,e,bw]
theorem amZ(hc:Sem c)(p:bE)(hp:p.uz)(hRo:Ii c p)(hr:∀r∈p.rs,r.Ok)(hk:(eD p).2=0)(s:St)(hw:Wf s):
  ∃v s',c 33 [.agg p.cells] s=some (v,s')/\Mk 1 s s' v ((qC (Ae false) p.rs 0).map bH):=by
 have gA:=Grew.ah hw (.cells p.cells 0);have x2:=aB s (.cells p.cells 0);have bx:∀(K:AV->St->Option (AV×St)),aq c .box [.agg p.cells] s K=K (.ptr s.next 0) (ah s (.cells p.cells 0)):=λK=>by rw[di];rfl
 obtain⟨v,s1,e,M⟩:=agm hc p hp hRo hr hk false _ gA.wf;obtain⟨s3,t1,t2⟩:=(M.back hw gA).tidy;refine⟨v,s3,?_,t2⟩;have hc5:cut p.cells 0 5=some p.cells:=cQ rfl;rw[acM hc 1 (r:=(v,s1)),t1];rw[afb];simp only[bx,au,cm,x2,az,Za6,hc5,cG,bI,e,bw]
section
variable{s0 s:St}{Vs:List AV}{p:bE}
theorem apg{v:AV}{l:List Int}(h:QS 1 s v (l.map bH))(d:Nat):∃z,fE s (d+1) v=ints z l:=by
 obtain⟨z,hz⟩:=h.fE (d:=d) (λr hr=>by obtain⟨t,_,rfl⟩:=Zc9.1 hr;rfl);refine⟨z,?_⟩;rw[hz];unfold ints;rw[Zg3];congr 1;refine Zi5 λa _=> ?_
 simp only[Function.comp,Zd1,Zg9,Mi]
theorem aph(hc:bu c)(h:PS s0 s Vs p)(hp:p.uz)(hR:p.Real)(hr:∀r∈p.rs,r.Ok)(hk:(eD p).2=0){i:Nat}{r:Rl}(hi:p.rs[i]? =some r){v:AV}(hv:QS 1 s v ([(i:Int)].map bH)):
  ∃Us s' p',c 30 [.agg Vs,v] s=some (.agg Us,s')/\PS s s' Us (p'.uI true [r])/\p.dQ p':=by
 obtain⟨p',e,S⟩:=h.fE 1;obtain⟨z,ez⟩:=apg hv 3;obtain⟨Us,s1,e1,P⟩:=aup (c:=run GK gg) rfl p' (S.kL hp) (Rv rfl (S.kL hp)) (S.real hR) (by rw[S.rs];exact hr) (by rw[S.check];exact hk) z (i:=i) (r:=r) (by rw[S.rs];exact hi) (emptyAt s) (zQ s);refine⟨Us,cO s s1,p',hc.at (s:=DK 30) rfl (HU ?_ (bS.agg P.bare) P.ai.next),PS.cO h.ai.wf P,S⟩;rw[Zd1,Zd1,Zg9,e,ez];exact e1
theorem api(hc:bu c)(h:PS s0 s Vs p)(hp:p.uz)(hr:∀r∈p.rs,r.Ok)(hk:(eD p).2=0):∃v s',c 32 [.agg Vs] s=some (v,s')/\Mk 1 s s' v ((qC (Ae true) p.rs 0).map bH):=by obtain⟨p',e,S⟩:=h.fE 1;obtain⟨v,s1,e1,M⟩:=auq (c:=run GK gg) rfl p' (S.kL hp) (Rv rfl (S.kL hp)) (by rw[S.rs];exact hr) (by rw[S.check];exact hk) (emptyAt s) (zQ s);rw[S.rs]at M;refine⟨v,cO s s1,hc.at (s:=DK 32) rfl (HU ?_ M.own.bare M.ai.next),M.cO h.ai.wf (tP CP _)⟩;rw[Zd1,Zg9,e];exact e1
theorem ajb(hc:bu c)(h:PS s0 s Vs p)(hp:p.uz)(hr:∀r∈p.rs,r.Ok)(hk:(eD p).2=0):∃v s',c 33 [.agg Vs] s=some (v,s')/\Mk 1 s s' v ((qC (Ae false) p.rs 0).map bH):=by obtain⟨p',e,S⟩:=h.fE 1;obtain⟨v,s1,e1,M⟩:=amZ (c:=run GK gg) rfl p' (S.kL hp) (Rv rfl (S.kL hp)) (by rw[S.rs];exact hr) (by rw[S.check];exact hk) (emptyAt s) (zQ s);rw[S.rs]at M;refine⟨v,cO s s1,hc.at (s:=DK 33) rfl (HU ?_ M.own.bare M.ai.next),M.cO h.ai.wf (tP CP _)⟩;rw[Zd1,Zg9,e];exact e1
end
section
variable{s:St}{V W P:AV}{l q:List Int}
theorem afc(hl:l.length<=1000000)(h:QS 1 s V (l.map bH))(h':QS 1 s W (l.map bH))(F:Nat):∀(m k f:Nat),k+m=l.length->m<f->∀k1 k2:Q2,kT c F k1 k2 f [V,W,.int .i64 (k:Int)] s=k2 [] s:=by
 have ln:=λ(K:AV->St->Option (AV×St))(s:St)=>h.lenB (c:=c) K s
 rw[Za3]at ln;intro m;induction m with
 |zero=>
  intro k f hk hf k1 k2;obtain⟨f,rfl⟩:∃g,f=g+1:=⟨f - 1,by omega⟩
  obtain rfl:k=l.length:=by omega
  rw[zf];simp only[aD,aX,au,ln,bV,Zp5,Zl7,cE]
 |succ m ih=>
  intro k f hk hf k1 k2;obtain⟨f,rfl⟩:∃g,f=g+1:=⟨f - 1,by omega⟩
  have dM:k<l.length:=by omega
  have aW:decide ((k:Int)<(l.length:Int))=true:=Za0 (by omega);have wr:Unit->av .i64 ((k:Int)+1)=((k+1:Nat):Int):=λ_=>by rw[wrap64 (by omega) (by omega)];omega
  obtain⟨pb,po,p⟩:=pZ h (H0 dM);obtain⟨rb,ro',r⟩:=pZ h' (H0 dM);have p1:=λ{R}=>@p.pr R
  have p3:=p.one;have r1:=λ{R}=>@r.pr R
  have r3:=r.one;rw[<-ih (k+1) f (by omega) (by omega) k1 k2,zf];simp only[aD,aX,au,dh,ln,bV,aW,cV,p1,jZ,p3,aQ,r1,r3,atG,Zf6,Zi4,cE,dy,wr ()]
theorem agV(hc:bu c)(hl:l.length<=1000000)(h:QS 1 s V (l.map bH))(h':QS 1 s W (l.map bH)):c 31 [V,W] s=some (.bool true,s):=by
 have ln:=λ(K:AV->St->Option (AV×St))(s:St)=>h.lenB (c:=c) K s
 have ln':=λ(K:AV->St->Option (AV×St))(s:St)=>h'.lenB (c:=c) K s
 rw[Za3]at ln ln';have lp:=afc (c:=c) hl h h' (l.length+1) l.length 0 (l.length+1) (by omega) (by omega);simp only[show((0:Nat):Int)=0 from rfl]at lp;rw[Nd hc (l.length+1) (r:=(.bool true,s)),aE (Plain.bool _) (aZ.refl s)];rw[Rw];simp only[au,ln,ln',zO,Zf6,Zi4,cE,lp,aX]
theorem awA(hl:q.length<=1000000)(pq:QS 1 s P (q.map bH))(x:Int)(F:Nat):∀(m k f:Nat),k+m=q.length->m<f->∀k1 k2:Q2,o8 c F k1 k2 f [P,.int .i64 x,.int .i64 (k:Int)] s=if(q.drop k).contains x then k1 [.bool true] s else k2 [] s:=by
 have ln:=λ(K:AV->St->Option (AV×St))(s:St)=>pq.lenB (c:=c) K s
 rw[Za3]at ln;intro m;induction m with
 |zero=>
  intro k f hk hf k1 k2;obtain⟨f,rfl⟩:∃g,f=g+1:=⟨f - 1,by omega⟩
  obtain rfl:k=q.length:=by omega
  rw[DR,List.drop_length];simp only[aD,aX,au,ln,bV,Zp5,Zl7,cE];rfl
 |succ m ih=>
  intro k f hk hf k1 k2;obtain⟨f,rfl⟩:∃g,f=g+1:=⟨f - 1,by omega⟩
  have dM:k<q.length:=by omega
  have aW:decide ((k:Int)<(q.length:Int))=true:=Za0 (by omega);have wr:Unit->av .i64 ((k:Int)+1)=((k+1:Nat):Int):=λ_=>by rw[wrap64 (by omega) (by omega)];omega
  obtain⟨pb,po,p⟩:=pZ pq (H0 dM);have p1:=λ{R}=>@p.st R
  have p3:=p.one;have z:=ih (k+1) f (by omega) (by omega) k1 k2;rw[Zd2 dM,Zq7,DR];generalize q[k]=y at*
  by_cases e:y=x
  .subst e;simp only[aD,aX,au,ln,bV,aW,cV,p1,aO,p3,aQ,dJ,Zf6,Zr2,Bool.true_or,Zh6]
  .have d:decide (y=x)=false:=Za2 e;have d2:(x==y)=false:=(by simpa using λe'=>e e'.symm);rw[d2,Zm0, <-z];simp only[aD,aX,au,ln,bV,aW,cV,p1,aO,p3,aQ,dJ,d,cE,dy,wr ()]
theorem awB(hc:bu c)(hl:q.length<=1000000)(pq:QS 1 s P (q.map bH))(x:Int):c 29 [P,.int .i64 x] s=some (.bool (q.contains x),s):=by
 have lp:=awA (c:=c) hl pq x (q.length+1) q.length 0 (q.length+1) (by omega) (by omega);simp only[show((0:Nat):Int)=0 from rfl,Ze3]at lp;rw[WG hc (q.length+1) (r:=(.bool (q.contains x),s)),aE (Plain.bool _) (aZ.refl s)];rw[aaH];cases h:q.contains x with
 |true=>rw[h]at lp;simp only[au,lp,Zh6,aD,aX]
 |false=>rw[h]at lp;simp only[au,lp,Ze7,Zg7,aX]
theorem am0{s0:St}{v:AV}{l:List Int}(M:Mk 1 s0 s v (l.map bH)){i:Nat}(hi:i<l.length):
   ∃v',(∀{R:Type}(K:AV->Option R),fq (.sliceL 1 true true false) [v,.int .i64 (i:Int),.int .i64 ((i+1:Nat):Int)] K=K v')/\QS 1 s v' ([l[i]].map bH):=by
 rcases M.own with⟨rfl,e⟩|⟨b,off,cap,cs,rfl,g1,g2,g3,g4⟩|⟨b,off,rfl,e⟩
 .rw[List.map_eq_nil_iff.1 e]at hi;cases hi
 rotate_left
 .rw[List.map_eq_nil_iff.1 e]at hi;cases hi
 have abY:cap=none:=by
   rcases M.cap _ _ _ _ _ rfl with h|⟨h,_⟩
   .exact h
   .rw[Za3]at h;omega
 subst abY;rw[Za3,Zn4]at g2 g3;have hb:bounds true true false [.int .i64 (i:Int),.int .i64 ((i+1:Nat):Int)]=some (some i,some (i+1),none):=rfl;refine⟨.slice b (off+i*1) (i+1 - i) none 1,λK=>dw K λH n=> ?_,.inr (.inl ⟨b,off+i*1,none,cs,by rw[Za3,show i+1 - i=1 by omega];rfl,g1,by rw[Za3];show off+i*1+1*1<=_;omega,?_,.inl rfl⟩)⟩
 .rw[Za3];simp only[aJ.run,iD,hb,dH,dG,Zf6,Ze6,Zi3,Za0 (Nat.le_succ i),Za0 (show i+1<=l.length by omega)]
 . have e:(l.map bH).flatten=l.map (AV.int .i64):=(by clear M hi g3 g2 hb;induction l with|nil=>rfl|cons x l ih=>simp[ih]);rw[e]at g3;have h1:=congrArg (λq=>q[i]?) g3;simp only[Ze1,Ze4,Zb3,H0 hi,Ze5,Zb4 hi]at h1;rw[show off+i*1=off+i by omega];show(cs.drop (off+i)).take 1=[AV.int .i64 l[i]]
   have aW:=(Za1.1 h1).1;rw[Zd2 aW,(Za1.1 h1).2];rfl
end
theorem QS.ajc{es:Nat}{s:St}{v:AV}{rows:List (List AV)}(h:QS es s v rows):jC v v=true:=by
 rcases h with⟨rfl,_⟩|⟨b,off,cap,cs,rfl,_⟩|⟨b,off,rfl,_⟩
 .rfl
 .cases cap<;>simp[jC,fy,Pos.beq_eq.2 rfl]
 .simp[jC,fy,Pos.beq_eq.2 rfl]
theorem PS.beq{s0 s:St}{Vs:List AV}{p:bE}(h:PS s0 s Vs p):eJ (.agg Vs) (.agg Vs)=true:=by
 obtain⟨V1,V2,V3,V4,V5,r1,r2,rfl,h1,h2,h3,h4,h5⟩:=h.all;show pQ _ _=true;simp only[pQ,QS.ajc h1.out.own,QS.ajc h2.out.own,QS.ajc h3.own,QS.ajc h4.own,QS.ajc h5.own,Zj2]
theorem am1(p:bE):p.uI p.rz p.rs=p:=by cases p;rfl
theorem apj{p p':bE}(S:p.dQ p')(z:Bool)(l:List Rl):(p.uI z l).dQ (p'.uI z l):=⟨S.tl,S.ts,S.gl,S.gs,S.ys,S.cs,rfl⟩
theorem akC{p:bE}{z:Bool}{l:List Rl}(h:p.Real)(hl:l.length<=64):(p.uI z l).Real:={ h with rs:=Zb2 hl (by decide) }
theorem arS(w:Rl->Nat)(r:Rl):jz w [r]=if 0<r.wt then r.wt.toNat*w r else 0:=by
 have:=Ue w [] r;rw[Ze2]at this;rw[this];show 0+_=_;rw[Zb1]
section
variable{sS sA sB:St}{b3 jb:Pos}{Vs:List AV}{V5:AV}{p:bE}{v4 v9:AV}{q:List Int}{j:Jc}{J:Jt}
theorem aur(hc:bu c)(wB:Wf sB)(hb:sB.heap.get b3=some (.cells Vs 0))(P:PS sS sB Vs p)(kL:p.uz)(real:p.Real)(hbas:(iI p).2=0)(hk:(eD p).2=0)(hr:∀r∈p.rs,r.Ok/\nX p r=0)(hcl:p.cs.length=p.gs.length\/p.cs.length=0)(Gg:(p.gs.length:Int)<=bg p.ts)
  (Jg0:Jg sB jb j J p) (h4:QS 1 sB v4 (q.map bH)) (hPa:∀J':Jt,J'.N=J.N->J'.n=p.gs.length->Rs J' q) (M9:Mk 1 sA sB v9 ((tO J q p.rs).map bH)) (F:Nat):
  ∀(m i f:Nat)(s:St),i+m=p.rs.length->m<f->Grew sB s->∃s',Grew sB s'/\∀k1 k2:Q2,
   jt c F k1 k2 f [.ptr jb 0,.ptr b3 0,v4,v9,.int .i64 ((jz (fJ J q) (p.rs.take i):Nat):Int),.int .i64 ((jz (lJ J q) (p.rs.take i):Nat):Int),.bool (!q.contains (-1)&& !(p.rs.take i).any (jG (fJ J q))),.int .i64 (i:Int)] s=
        k2 [.ptr jb 0,.ptr b3 0,v4,.int .i64 ((jz (fJ J q) p.rs:Nat):Int),.int .i64 ((jz (lJ J q) p.rs:Nat):Int),.bool (!q.contains (-1)&& !p.rs.any (jG (fJ J q)))] s':=by
 obtain⟨V1,V2,V3,V4,V5,r1,r2,rfl,_,_,_,_,h5⟩:=P.all;have c4:([V1,V2,V3,V4,V5]:List AV)[4]? =some V5:=rfl;have ers:J.p.rs=p.rs:=Jg0.sim.rs;have lr:=kL.rs;have hq0:Rs J q:=hPa J rfl Jg0.n;obtain⟨g,vb,GG,sv,hg,_,_,Vv⟩:=look_ok hc Jg0.jw wB h4 hq0;have bnd:∀r∈p.rs,r.wt<=1000/\fJ J q r<=200000/\lJ J q r<=200000:=λr h=>by
  obtain⟨m,R⟩:=Jg0.ok.rul r (by rw[ers];exact h);exact⟨R.w.2,amS Vv hg R⟩
 have tk:∀i,(p.rs.take i).length<=100:=λi=>by rw[Zf1];omega
 have bF:∀i,jz (fJ J q) (p.rs.take i)<=20000000000:=λi=>acB (λr h=>⟨(bnd r (Zj4 h)).1,(bnd r (Zj4 h)).2.1⟩) (tk i)
 have bL:∀i,jz (lJ J q) (p.rs.take i)<=20000000000:=λi=>acB (λr h=>⟨(bnd r (Zj4 h)).1,(bnd r (Zj4 h)).2.2⟩) (tk i)
 intro m;induction m with
 |zero=>
  intro i f s hi hf G;obtain⟨f,rfl⟩:∃g,f=g+1:=⟨f - 1,by omega⟩
  obtain rfl:i=p.rs.length:=by omega
  have b:=G.get hb;have ln:=λ(K:AV->St->Option (AV×St))=>(h5.grow G).own.lenB (c:=c) K s
  rw[Za3]at ln;refine⟨s,G,λk1 k2=> ?_⟩;rw[vN,Zg1];simp only[aD,aX,au,aK,Zb1,aO,b,az,Za6,c4,aQ,ln,bV,Zp5,Zl7,cE]
 |succ m ih=>
  intro i f s hi hf G;obtain⟨f,rfl⟩:∃g,f=g+1:=⟨f - 1,by omega⟩
  have fX:i<p.rs.length:=by omega
  have aW:decide ((i:Int)<(p.rs.length:Int))=true:=Za0 (by omega);have wr:Unit->av .i64 ((i:Int)+1)=((i+1:Nat):Int):=λ_=>by rw[wrap64 (by omega) (by omega)];omega
  have et:p.rs.take (i+1)=p.rs.take i++[p.rs[i]]:=Zc2 fX;have hri:=H0 fX;have cF:=hr _ (Zb8 fX);have b:=G.get hb;have ln:=λ(K:AV->St->Option (AV×St))=>(h5.grow G).own.lenB (c:=c) K s
  rw[Za3]at ln;have l5:=Yx (c:=c) (R:=AV×St) b rfl;have bs:∀(K:AV->St->Option (AV×St)),aq c (.buildSlice 1 1 [.int .i64 0] [0]) [.int .i64 (i:Int)] s K=K (.slice s.next 0 1 (some 1) 1) (ah s (.cells [.int .i64 (i:Int)] 0)):=λK=>Gr (c:=c) (es:=1) (z:=[.int .i64 0]) (x:= .int .i64 (i:Int)) rfl rfl s K
  have g1:=Grew.ah G.wf (.cells [.int .i64 (i:Int)] 0);have x1:=aB s (.cells [.int .i64 (i:Int)] 0);obtain⟨s1,hs1⟩:∃s1,s1=ah s (.cells [.int .i64 (i:Int)] 0):=⟨_,rfl⟩
  rw[<-hs1]at bs g1 x1;have Q1:QS 1 s1 (.slice s.next 0 1 (some 1) 1) ([(i:Int)].map bH):= .inr (.inl ⟨s.next,0,some 1,_,rfl,x1,by show 0+1*1<=1;omega,rfl,.inr rfl⟩);obtain⟨Us,s2,p2,e2,P2,S2⟩:=aph hc (P.Ly (G.trans g1)) kL real (λr h=>(hr r h).1) hk hri Q1;obtain⟨p3,efz,S3⟩:=P2.fE 1;have h1l:([p.rs[i]]:List Rl).length<=64:=by show 1<=64;omega
  have hr3:∀r∈p3.rs,r.Ok/\nX p3 r=0:=λr h=>by
   rw[S3.rs]at h;have h:r∈[p.rs[i]]:=h;rw[Zg8]at h;subst h;exact⟨cF.1,by rw[S3.rule,amX,S2.rule];exact cF.2⟩
  have hc3:(eD p3).2=0:=by rw[S3.check];(refine aky (by rw[S2.basis];exact hbas) h1l λr h=> ?_);rw[Zg8]at h;subst h;rw[S2.rule];exact cF.2
  obtain⟨jb1,s3,j1,J1,e3,g3,Jg1,hJ1⟩:=avA hc P2.ai.wf efz (S3.kL (ao6 (S2.kL kL) h1l)) (S3.real (akC (S2.real real) h1l)) hr3 hc3
   (by rw[S3.cs,S3.gl];show p2.cs.length=p2.gs.length\/p2.cs.length=0;rw[S2.cs,S2.gl];exact hcl) (by rw[S3.gl,S3.sum];show(p2.gs.length:Int)<=bg p2.ts;rw[S2.gl,S2.sum];exact Gg)
  have arT:J1.p.rs=[p.rs[i]]:=by rw[hJ1];exact S3.rs
  have hN1:J1.N=J.N:=by have h1:=Jg1.jw.nN;have h2:=Jg0.sum;rw[hJ1,S3.sum,show bg (p2.uI true [p.rs[i]]).ts=bg p2.ts from rfl,S2.sum, <-h2]at h1;omega
  have hn1:J1.n=p.gs.length:=by show J1.p.gs.length=_;rw[hJ1,S3.gl];exact S2.gl
  have OR:=hPa J1 hN1 hn1;have SJ:(p.uI p.rz p.rs).dQ J.p:=by rw[am1];exact Jg0.sim
  have SJ1:(p.uI true [p.rs[i]]).dQ J1.p:=by rw[hJ1];exact(apj S2 true [p.rs[i]]).trans S3
  have same:=λr=>akz SJ1 SJ Jg1.bc Jg1.kc Jg0.bc Jg0.kc hN1 q r
  have eF:fJ J1 q=fJ J q:=funext λr=>(same r).1
  have eL:lJ J1 q=lJ J q:=funext λr=>(same r).2
  have G3:=g1.trans (P2.ai.trans g3);have pq3:=h4.ai (G.trans G3);obtain⟨s4,v18,e4,M18⟩:=ai3 hc Jg1.ok Jg1.jw g3.wf pq3 OR;rw[arT]at M18;have w4:=M18.ai.wf;have G4:=G3.trans M18.ai;have M9':=M9.grow (G.trans G4);have hsl:(tO J q p.rs).length=p.rs.length:=by unfold tO;rw[Za3]
  obtain⟨w,sl1,sl2⟩:=am0 M9' (i:=i) (by omega);have esc:[(tO J q p.rs)[i]'(by omega)]=tO J1 q [p.rs[i]]:=by unfold tO;rw[Zm7,eF];rfl
  rw[esc]at sl2;have sm:=agV hc (by show 1<=1000000;omega) M18.own sl2;have jw4:=Jg1.jw.ai M18.ai;have pq4:=pq3.ai M18.ai;have co:=aly hc Jg1.ok jw4 w4 pq4 OR;have fo:=aiV hc Jg1.ok jw4 w4 pq4 OR;have ri:=aiW hc Jg1.ok jw4 w4 pq4 OR;rw[arT,eF]at co ri;rw[arT,eL]at fo;have aF:=Ue (fJ J q) (p.rs.take i) p.rs[i];have aL:=Ue (lJ J q) (p.rs.take i) p.rs[i];rw[<-arS, <-et]at aF aL;have bF1:=bF (i+1);have bL1:=bL (i+1);have wF:Unit->av .i64 (((jz (fJ J q) (p.rs.take i):Nat):Int)+((jz (fJ J q) [p.rs[i]]:Nat):Int))=((jz (fJ J q) (p.rs.take (i+1)):Nat):Int):=λ_=>by rw[wrap64 (by omega) (by omega)];omega
  have wL:Unit->av .i64 (((jz (lJ J q) (p.rs.take i):Nat):Int)+((jz (lJ J q) [p.rs[i]]:Nat):Int))=((jz (lJ J q) (p.rs.take (i+1)):Nat):Int):=λ_=>by rw[wrap64 (by omega) (by omega)];omega
  have pa:∀K:AV->Option (AV×St),fq (.bin .add .num) [.int .i64 (i:Int),.int .i64 1] K=K (.int .i64 ((i+1:Nat):Int)):=λK=>by rw[aeX,wr ()]
  obtain⟨s',G',z⟩:=ih (i+1) f s4 (by omega) (by omega) (G.trans G4);have er:(!q.contains (-1)&& !(p.rs.take (i+1)).any (jG (fJ J q)))=((!q.contains (-1)&& !(p.rs.take i).any (jG (fJ J q)))&&(!q.contains (-1)&& ![p.rs[i]].any (jG (fJ J q)))):=by rw[et,List.any_append];cases q.contains (-1)<;>cases(p.rs.take i).any (jG (fJ J q))<;>cases [p.rs[i]].any (jG (fJ J q))<;>rfl
  refine⟨s',G',λk1 k2=> ?_⟩;rw[<-z k1 k2,vN,er];generalize (!q.contains (-1)&& ![p.rs[i]].any (jG (fJ J q)))=y at*
  generalize (!q.contains (-1)&& !(p.rs.take i).any (jG (fJ J q)))=x at*
  cases x
  all_goals simp only[aD,aX,au,aK,Zb1,aO,b,az,Za6,c4,aQ,ln,bV,aW,cV,cE,l5,bs,bI,e2,bw,e3,gP,Za4,Zb6,Rt,fZ,aii,XS,zO,Zf6,Zi4,mU,jY,dh,e4,pa,sl1,sm,atF,co,fo,ri,dy,wF (),wL (),wr (),Zo5,Zg5]
end
theorem ajd(hc:bu c){xt xg xy xr:List Nat}(ht:∀x∈xt,x<256)(hg:∀x∈xg,x<65536)(hy:∀x∈xy,x<256)(hr:∀x∈xr,x<4294967296)(lt:xt.length<=9223372036854775807)(lg:xg.length<=9223372036854775807)(lr:xr.length<=9223372036854775807)(ly:xy.length<=9223372036854775807)
  (zt zg zy zr z1:Bool) (xs:List Int) (lx:xs.length<=9223372036854775807) (st:St) (hw:Wf st):c 7 [.agg (jQ zt zg zy zr xt xg xy xr),ints z1 xs] st=some (.bool true,st):=by
 have g1:=Grew.ah hw (.cells (jQ zt zg zy zr xt xg xy xr) 0);have ld4:∀(K:AV->St->Option (AV×St)),aq c (.load (some 4)) [.ptr st.next 0] (ah st (.cells (jQ zt zg zy zr xt xg xy xr) 0)) K=K (.agg (jQ zt zg zy zr xt xg xy xr)) (ah st (.cells (jQ zt zg zy zr xt xg xy xr) 0)):=λK=>by rw[cm,aB];rfl
 obtain⟨Vs,s2,jb,j,J,s0,e2,g2,P2,Jg2⟩:=arL hc ht hg hy hr lt lg lr ly zt zg zy zr _ g1.wf;obtain⟨vl,vo⟩:=P2.cells;have w2:=g2.wf;have st5:∀(K:AV->St->Option (AV×St)),aq c (.store 5) [.ptr s2.next 0,.agg Vs] (ah s2 (.cells [.af,.af,.af,.af,.af] 0)) K=K .undef (ah s2 (.cells Vs 0)):=λK=>cq c K s2 5 (.agg Vs) _ vl rfl vo
 have g3:=Grew.ah w2 (.cells Vs 0);have x3:=aB s2 (.cells Vs 0);obtain⟨s3,HR⟩:∃s3,s3=ah s2 (.cells Vs 0):=⟨_,rfl⟩
 obtain⟨b3,hb3⟩:∃b3,b3=s2.next:=⟨_,rfl⟩
 rw[<-HR]at st5 g3 x3;rw[<-hb3]at st5 x3;have P3:=P2.Ly g3;have Jg3:=Jg2.ai g3;have kL:=zc xt xg xy xr;have sz:=ao5 (xg:=xg) (xy:=xy) (xr:=xr) ht;have hN:=Jg3.sum;have hn:=Jg3.n;obtain⟨s4,v4,e4,M4⟩:=ao3 hc P3 sz kL.ts kL.gs hN z1 xs lx;have A:=age (J:=J) (n:=(iw xt xg xy xr).gs.length) hn.symm xs;have hPa:∀J':Jt,J'.N=J.N->J'.n=(iw xt xg xy xr).gs.length->Rs J' (ij (List.replicate J.N false) (Ic (Vt J.N xs) (iw xt xg xy xr).gs.length 0)):=λJ' h1 h2=>by rw[<-h1];exact age h2.symm xs
 obtain⟨q,hq⟩:∃q,q=ij (List.replicate J.N false) (Ic (Vt J.N xs) (iw xt xg xy xr).gs.length 0):=⟨_,rfl⟩
 rw[<-hq]at A M4 hPa;have g4:=M4.ai;have ql:q.length<=1000000:=by have:=A.len;have:=kL.gs;omega
 have Jg4:=Jg3.ai g4;have ers:J.p.rs=(iw xt xg xy xr).rs:=Jg3.sim.rs;obtain⟨s5,v9,e5,M5⟩:=ai3 hc Jg4.ok Jg4.jw g4.wf M4.own A;rw[ers]at M5;have g5:=M5.ai;have Q5:=M4.own.ai g5;have ii:=awB (c:=c) hc ql Q5 (-1);have x5:=(g4.trans g5).get x3;have P5:=P3.Ly (g4.trans g5);have Jg5:=Jg4.ai g5;have mr:=adV (xg:=xg) (xy:=xy) (xr:=xr) ht;have ck:=adW (xg:=xg) (xy:=xy) (xr:=xr) ht;have lr5:=kL.rs;have hsl:(tO J q (iw xt xg xy xr).rs).length=(iw xt xg xy xr).rs.length:=by unfold tO;rw[Za3]
 have ln9:=λ(K:AV->St->Option (AV×St))(s:St)=>M5.own.lenB (c:=c) K s
 rw[Za3,hsl]at ln9;obtain⟨s6,G6,e6⟩:=aur (c:=c) (b3:=b3) hc g5.wf x5 P5 kL (agh xt xg xy xr) (ad0 ht _ _ _ _ _ _) ck mr (by
  show(kR xt xg xy).length=(nk xt xg).length\/(kR xt xg xy).length=0;unfold kR;split
  .rw[GJ];exact .inl rfl
  .exact .inr rfl) (agj ht) Jg5 Q5 hPa M5 200 (iw xt xg xy xr).rs.length 0 200 s5 (Zb1 _) (by omega) (Grew.refl g5.wf)
 simp only[show((0:Nat):Int)=0 from rfl,Zo2,show ∀w,jz w []=0 from λ_=>rfl,List.any_nil,Zk9,Zi9]at e6;have P6:=P5.Ly G6;have x6:=G6.get x5;obtain⟨v7,s7,e7,M7⟩:=api hc P6 kL (λr h=>(mr r h).1) ck;have g7:=M7.ai;have P7:=P6.Ly g7;have x7:=g7.get x6;obtain⟨v8,s8,e8,M8⟩:=ajb hc P7 kL (λr h=>(mr r h).1) ck;have g8:=M8.ai;have G8:=G6.trans (g7.trans g8);have Jg8:=Jg5.ai G8;have w8:=g8.wf;have Q8:=Q5.ai G8;have co:=aly hc Jg8.ok Jg8.jw w8 Q8 A;have fo:=aiV hc Jg8.ok Jg8.jw w8 Q8 A;have ri:=aiW hc Jg8.ok Jg8.jw w8 Q8 A;rw[ers]at co fo ri;have ln7:=λ(K:AV->St->Option (AV×St))(s:St)=>M7.own.lenB (c:=c) K s
 have ln8:=λ(K:AV->St->Option (AV×St))(s:St)=>M8.own.lenB (c:=c) K s
 rw[Za3]at ln7 ln8;have both:=agl (iw xt xg xy xr).rs 0;have wB:Unit->av .i64 (((qC (Ae true) (iw xt xg xy xr).rs 0).length:Int)+((qC (Ae false) (iw xt xg xy xr).rs 0).length:Int))=((iw xt xg xy xr).rs.length:Int):=λ_=>by rw[wrap64 (by omega) (by omega)];omega
 have aw:=awz hc s8;have acI:=(g1.trans g2).trans (g3.trans (g4.trans (g5.trans G8)));have l53:=Yx (c:=c) (R:=AV×St) x3 vl;have hcV:cut Vs 0 5=some Vs:=cQ vl;have FE:=λ(K:AV->Option (AV×St))=>ace K (m:=5) (o:=0) (l:=Vs) (h:=s7.heap) (h2:=s6.heap) (by rw[x7];exact hcV) (by rw[x6];exact hcV) P6.beq
 obtain⟨V1,V2,V3,V4,V5,r1,r2,rfl,_,_,_,_,h5⟩:=P5.all;have c4:([V1,V2,V3,V4,V5]:List AV)[4]? =some V5:=rfl;have ln5:=λ(K:AV->St->Option (AV×St))(s:St)=>h5.own.lenB (c:=c) K s
 rw[Za3]at ln5;have x8:=g8.get x7;rw[Jw hc 200 (r:=(.bool true,s8)),aE (Plain.bool _) acI.keeps];rw[Nf];simp only[di,show ∀l,AV.cells (.agg l)=l from λl=>rfl,au,ld4,bI,e2,bw,gP,Za4,Zb6,aQ,bN, <-HR, <-hb3,st5,Gn,Zi4,cE,l53,e4,e5,ii,ln9,aK,Zb1,aO,x5,az,Za6,c4,ln5,zO,Zf6,e6,aD,aX,xG,x6,hcV,cG,e7,Zi9,FE,e8,dh,co,fo,ri,dJ,fZ,mU,ai2,Zr2,ln7,ln8,dy,wB (),x8,aw]
end
section
open Go Go.Ai Go.Proofs Go.RowKit
theorem acN{α:Type}{P:α->Prop}{cells:α->List AV}:∀(rs:List (List AV)),(∀r∈rs,∃t,r=cells t/\P t)->∃l:List α,rs=l.map cells/\∀t∈l,P t
 |[],_=>⟨[],rfl,by simp⟩
 |r::rs,h=>by
  obtain⟨t,rfl,ht⟩:=h r (by simp);obtain⟨l,rfl,hl⟩:=acN rs (λq hq=>h q (Zb0 _ hq));refine⟨t::l,rfl,λu hu=> ?_⟩;rcases Za9.1 hu with rfl|hu
  .exact ht
  .exact hl u hu
section
variable{H:Type}{enc:TypeId×Value->H}{w:World}{base:Nat}{spare:Nat->Bool}{held:Bool}
theorem wf_u8{i:Int}(h:(Lit.int .u8 i).wf=true):0<=i/\i<256:=by
 have e1:IntKind.min .u8=0:=by decide
 have e2:IntKind.max .u8=255:=by decide
 have h:(decide (IntKind.min _<=i)&&decide (i<=IntKind.max _))=true:=h;rw[e1,e2,Zb7,Ze8,Ze8]at h;omega
theorem wf_u16{i:Int}(h:(Lit.int .u16 i).wf=true):0<=i/\i<65536:=by
 have e1:IntKind.min .u16=0:=by decide
 have e2:IntKind.max .u16=65535:=by decide
 have h:(decide (IntKind.min _<=i)&&decide (i<=IntKind.max _))=true:=h;rw[e1,e2,Zb7,Ze8,Ze8]at h;omega
theorem wf_u32{i:Int}(h:(Lit.int .u32 i).wf=true):0<=i/\i<4294967296:=by
 have e1:IntKind.min .u32=0:=by decide
 have e2:IntKind.max .u32=4294967295:=by decide
 have h:(decide (IntKind.min _<=i)&&decide (i<=IntKind.max _))=true:=h;rw[e1,e2,Zb7,Ze8,Ze8]at h;omega
def Ij(k:IntKind)(n:Nat)(vs:List AV):Prop:=∃(z:Bool) (l:List Nat),vs=[ff k z l]/\(∀x∈l,x<n)/\l.length<=9223372036854775807
theorem Up{t e:TypeId}{k:IntKind}{n:Nat}(ht:Tryz.prog.underlying t=some (.slice e))(he:Tryz.prog.underlying e=some (.int k))(hc:Tryz.prog.cellsOf e=1)(hk:∀i,(Lit.int k i).wf=true->0<=i/\i<(n:Int)):
  pI enc Tryz.prog w base spare held t (Ij k n):=by
 refine pI.mono (abj (es:=1) ht hc (by omega) (λvs h=>by obtain⟨i,rfl,_⟩:=h;rfl) (af3 he)) λvs h=> ?_
 obtain⟨z,rs,rfl,h1,h2⟩:=h;obtain⟨l,rfl,hl⟩:=acN (P:=λx:Nat=>x<n) (cells:=λx:Nat=>[AV.int k (x:Int)]) rs λr hr=>by
  obtain⟨i,rfl,hi⟩:=h1 r hr;have:=hk i hi;exact⟨i.toNat,by rw[show((i.toNat:Nat):Int)=i by omega],by omega⟩
 refine⟨z,l,rfl,hl,?_⟩;rw[Za3]at h2;unfold Go.maxLen at h2;omega
def avE(vs:List AV):Prop:=∃(z:Bool) (l:List Int),vs=[ints z l]/\l.length<=9223372036854775807
theorem arU:pI enc Tryz.prog w base spare held 27 avE:=by
 refine pI.mono (abj (es:=1) (e:=3) (by kernel_rfl) (by kernel_rfl) (by omega) (λvs h=>by obtain⟨i,rfl,_⟩:=h;rfl) (af3 (k:= .i64) (by kernel_rfl))) λvs h=> ?_
 obtain⟨z,rs,rfl,h1,h2⟩:=h;obtain⟨l,rfl,_⟩:=acN (P:=λ_:Int=>True) (cells:=λx:Int=>[AV.int .i64 x]) rs λr hr=>by
  obtain⟨i,rfl,hi⟩:=h1 r hr;exact⟨i,rfl,trivial⟩
 refine⟨z,l,rfl,?_⟩;rw[Za3]at h2;unfold Go.maxLen at h2;omega
theorem ago:pI enc Tryz.prog w base spare held 22 (Ij .u8 256):=Up (e:=5) (by kernel_rfl) (by kernel_rfl) (by kernel_rfl) λ_ h=>wf_u8 h
theorem am2:pI enc Tryz.prog w base spare held 23 (Ij .u16 65536):=Up (e:=99) (by kernel_rfl) (by kernel_rfl) (by kernel_rfl) λ_ h=>wf_u16 h
theorem am3:pI enc Tryz.prog w base spare held 24 (Ij .u32 4294967296):=Up (e:=102) (by kernel_rfl) (by kernel_rfl) (by kernel_rfl) λ_ h=>wf_u32 h
structure awC(xt xg xy xr:List Nat):Prop where
 t:∀x∈xt,x<256
 g:∀x∈xg,x<65536
 y:∀x∈xy,x<256
 r:∀x∈xr,x<4294967296
 lt:xt.length<=9223372036854775807
 lg:xg.length<=9223372036854775807
 ly:xy.length<=9223372036854775807
 lr:xr.length<=9223372036854775807
theorem agW:pI enc Tryz.prog w base spare held 26 λvs=>∃zt zg zy zr xt xg xy xr,vs=jQ zt zg zy zr xt xg xy xr/\awC xt xg xy xr:=by
 refine pI.mono (aiv [22,23,22,24] (Qs:=[Ij .u8 256,Ij .u16 65536,Ij .u8 256,Ij .u32 4294967296]) (by kernel_rfl) (by kernel_rfl) (by kernel_rfl) ⟨ago,am2,ago,am3,trivial⟩) λvs h=> ?_
 obtain⟨ps,rfl,m0⟩:=h;obtain⟨p0,q0,rfl,⟨z1,l1,rfl,a1,b1⟩,m1⟩:=HV m0;obtain⟨p0,q0,rfl,⟨z2,l2,rfl,a2,b2⟩,m2⟩:=HV m1;obtain⟨p0,q0,rfl,⟨z3,l3,rfl,a3,b3⟩,m3⟩:=HV m2;obtain⟨p0,q0,rfl,⟨z4,l4,rfl,a4,b4⟩,m4⟩:=HV m3;obtain rfl:=aiE m4;exact⟨z1,z2,z3,z4,l1,l2,l3,l4,rfl,⟨a1,a2,a3,a4,b1,b2,b3,b4⟩⟩
end
end
end Go.Proofs.YtgihekklfnjkiaaGreatDoor
namespace Go.Proofs.YtgihekklfnjkiaaGreatDoor.Ik
section
open Go
theorem k1:(Rows.judgeAddsRow.inPlace==Tryz.pinned.checked.prog.inPlace 7)=true:=by kernel_rfl
theorem k2:(Rows.judgeAddsRow.unfollowed==Tryz.pinned.checked.prog.unfollowed 7)=true:=by kernel_rfl
theorem k3:(Rows.judgeAddsRow.recurses==Tryz.pinned.checked.prog.recurses 7)=true:=by kernel_rfl
theorem k4:(Rows.judgeAddsRow.named==Tryz.pinned.checked.prog.varsNamed 7)=true:=by kernel_rfl
theorem k5:laidOutB Tryz.pinned.checked.prog=true:=by kernel_rfl
theorem k6:mapsRowed Tryz.pinned.checked.prog=true:=by kernel_rfl
theorem k7:(Rows.judgeAddsRow.plainKeys==Tryz.pinned.checked.prog.plainKeys)=true:=by kernel_rfl
theorem closed:joinedFacts Tryz.pinned.checked.prog 7 Tryz.f7 (OpenSpec.ofChange Rows.judgeAddsSpec).bare Rows.judgeAddsRow=true:=by
 unfold joinedFacts;rw[k1,k2,k3,k4,k5,k6,k7]
 kernel_rfl
end
end Go.Proofs.YtgihekklfnjkiaaGreatDoor.Ik
