/- The law. -/
import Derived.Test.YtgihekklfnjkiaaGreatDoorTJudgeB
import Derived.Test.YtgihekklfnjkiaaGreatDoorRows
import Derived.Deep.DeepHandedRow
set_option linter.all false
set_option linter.unusedSectionVars false
set_option linter.deprecated false
namespace Go.Proofs.YtgihekklfnjkiaaGreatDoor
noncomputable section
set_option linter.all false
set_option maxRecDepth 100000
set_option maxHeartbeats 4000000
open Go Go.Ai Go.Proofs
attribute [local go_sem ↓] aZ GW ev evX Ht getLT GV aa3 kat DC DD WT WU WV WW Qq Qr Qt Qu Qv Qw WY WZ Qx Qy Qz QC QD acq acs acu
attribute [local go_sem] aZ GW ev
section
variable(c : au)(F : Nat)(x0 x1 x2 x3 x4 x5 x6 x7 x8 x9 x10 x11 : AV)(s : St)
def iK:Sh:=(sq sl (sq sl (sq sl (sq (sq sl (sb (sp 0 [2,7,8,9] [(1,[6]),(2,[])] (sq (sq sl (sc sl sl)) (sj [2,7,8,9] (sb (sq sl (sq sl (sj [2,7,8,9,10,11] (sq sl (sc sl sl)) (sq (sq sl (sc sl sl)) (sq sl (sq (sq sl (sb (sp 1 [2,7,8,9,11,12,13] [(4,[2,7,8,9,12])] (sq (sq sl (sc sl sl)) (sq (sb (sq sl sl)) sl))))) (sq sl (sq sl (sq sl (sq (sq sl (sc (sq sl sl) sl)) (sq sl (sq (sq sl (sc (sq sl sl) sl)) (sq sl (sq (sq sl (sb (sp 2 [2,7,8,9,18,19,20] [(6,[2,7,8,9,18,19])] (sq (sq sl (sc sl sl)) (sq (sb sl) sl))))) (sq sl (sc (sq sl sl) sl))))))))))))))))) sl))))) (sq sl sl)))))
def xp:PX 4 iK:=⟨_,by conv=>lhs;reduce⟩
def vH:PL 4 iK 2:=⟨_,by conv=>lhs;reduce⟩
def fI(k6:Q2):Nat->Q2
 |0,_,_=>none
 |n+1,vs,s=>dL c F aX (fI k6 n) [k6] vH.1 vs s
def uv(k6:Q2)(n:Nat)(vs:List AV)(s:St):=(by dsimp only[fI,vH,go_sem,Int.reduceOfNat]:fI c F k6 (n+1) vs s=_)
def vI:PL 4 iK 1:=⟨_,by conv=>lhs;reduce⟩
def fK(k4:Q2):Nat->Q2
 |0,_,_=>none
 |n+1,vs,s=>dL c F aX (fK k4 n) [k4] vI.1 vs s
def uw(k4:Q2)(n:Nat)(vs:List AV)(s:St):=(by dsimp only[fK,vI,go_sem,Int.reduceOfNat]:fK c F k4 (n+1) vs s=_)
def vJ:Un->List Q2->Nat->Q2
 |(.s .z),[k4]=>fK c F k4
 |(.s (.s .z)),[k6]=>fI c F k6
 |_,_=>λ_=>eP
def vK:PL 4 iK 0:=⟨_,by conv=>lhs;reduce⟩
def iw(k1 k2:Q2):Nat->Q2
 |0,_,_=>none
 |n+1,vs,s=>dL c F (vJ c F) (iw k1 k2 n) [k1,k2] vK.1 vs s
def nv(k1 k2:Q2)(n:Nat)(vs:List AV)(s:St):=(by dsimp only[iw,vK, ↓vJ,go_sem,Int.reduceOfNat]:iw c F k1 k2 (n+1) vs s=_)
def o9:Un->List Q2->Nat->Q2
 | .z,[k1,k2]=>iw c F k1 k2
 |(.s .z),[k4]=>fK c F k4
 |(.s (.s .z)),[k6]=>fI c F k6
 |_,_=>λ_=>eP
def qN:O2:=aZ c F (o9 c F) xp.1 [x0,x1,x2] s
def IU:=(by dsimp only[qN,xp, ↓o9,go_sem,Int.reduceOfNat]:qN c F x0 x1 x2 s=_)
end
section
variable{c : au}(hc : bH c)(F : Nat){x0 x1 x2 x3 x4 x5 x6 x7 x8 x9 x10 x11 : AV}{s : St}{r : AV × St}
include hc
theorem Gl(h:qN c F x0 x1 x2 s=some r):c 4 [x0,x1,x2] s=some (tidy s r):=hc.oL F (o9 c F) iK 3 (by kernel_rfl) (λi hi=>match i,hi with|0,_=>cC 0 (by kernel_rfl) (λ_ _ _=>by kernel_rfl) (λ_ _ _ _=>by kernel_rfl)|1,_=>cC 1 (by kernel_rfl) (λ_ _ _=>by kernel_rfl) (λ_ _ _ _=>by kernel_rfl)|2,_=>cC 2 (by kernel_rfl) (λ_ _ _=>by kernel_rfl) (λ_ _ _ _=>by kernel_rfl)|n+3,h=>absurd h (by omega)) (by kernel_rfl) h
end
end
section
set_option maxRecDepth 100000
open Go Go.Ai Go.Proofs
variable{c : au}
abbrev zR:List AV:=[.int .u8 0,.int .i64 0,.str [],.str [],.str [],.int .i64 0]
theorem QS.alH{es:Nat}{s:St}{v:AV}{rows:List (List AV)}(h:QS es s v rows):v.cells=[v]/\v.one=true:=by
 rcases h with⟨rfl,rfl⟩|⟨b,off,cap,cs,rfl,_⟩|⟨b,off,rfl,rfl⟩<;>exact⟨rfl,rfl⟩
theorem aqh{s:St}{v:AV}{l:List Rl}(h:QS 6 s v (l.map Rl.cells))(d:Nat):∃z,ey s (d+1) v=gK z l:=by
 obtain⟨z,hz⟩:=h.ey (d:=d) (λr hr=>by obtain⟨t,_,rfl⟩:=Zc7.1 hr;rfl);refine⟨z,?_⟩;rw[hz];unfold gK;rw[Zh4];congr 1;refine Zj2 λa _=> ?_
 simp only[Function.comp,Rl.cells,Zd2,Zg3,Lp,Lq]
theorem aqi{s0 s:St}{U1 U2 U3 U4 U5 v:AV}{p:bM}{l:List Rl}(h:PS s0 s [U1,U2,U3,U4,U5] p)(hv:QS 6 s v (l.map Rl.cells)):∃p' z,ey s 4 (.agg [U1,U2,U3,U4,v])= .agg (p'.Th z l).cells/\p.gD p':=by
 obtain⟨p',e,S⟩:=h.ey 1;obtain⟨z,ez⟩:=aqh hv 2;refine⟨p',z,?_,S⟩;have e:ey s (3+1) (.agg [U1,U2,U3,U4,U5])= .agg p'.cells:=e;rw[YW]at e;have e:=AV.agg.inj e;simp only[Zd2,Zg3,bM.cells,Zf7]at e;obtain⟨e1,e2,e3,e4,_⟩:=e;show ey s (3+1) _=_;rw[YW];simp only[Zd2,Zg3,e1,e2,e3,e4,bM.cells,bM.Th];rw[show ey s 3 v=gK z l from ez]
section
variable{sS s0 : St}{b7 Mj : Pos}{cs : List AV}{V1 : AV}{p : bM}{r1 : List (List AV)}
theorem anS(x2 x8:AV)(w0:Wf s0)(hb:s0.heap.get b7=some (.cells cs 0))(hV:cs[0]? =some V1)(T:TS sS s0 V1 p.ts r1)(um:p.ts.length<=100)(hge:s0.next.toNat<=Mj.toNat)(m:Nat)(n:Int)(F:Nat):
  ∀(mm t f:Nat)(s:St)(v:AV)(nm:List Nat),t+mm=p.ts.length->mm<f->Grew s0 s->s.heap.get Mj=some (.cells (atR m n nm).cells 0)->QS 6 s v ((eW m n::(p.ts.take t).map λt=>atR m n t.name).map Rl.cells)->(∀b,aK v=some b->s0.next.toNat<=b.toNat/\b≠Mj)->
   ∃s' v',Grew s0 s'/\QS 6 s' v' ((KT p.ts m n).map Rl.cells)/\∀k4:Q2,fK c F k4 f [x2,.ptr b7 0,x8,.int .i64 (m:Int),.ptr Mj 0,v,.int .i64 (t:Int)] s=k4 [x2,.ptr b7 0,x8,.int .i64 (m:Int),v'] s':=by
 intro mm;induction mm with
 |zero=>
  intro t f s v nm ht hf G g11 hQ ho;obtain⟨f,rfl⟩:∃g,f=g+1:=⟨f - 1,by omega⟩
  obtain rfl:t=p.ts.length:=by omega
  have b:=G.get hb;have ln:=λ(K:AV->St->Option (AV×St))=>(T.ai G).out.own.lenB (c:=c) K s
  rw[(T.ai G).len]at ln;have aV:decide ((p.ts.length:Int)<(p.ts.length:Int))=false:=Za2 (by omega);rw[Zj1]at hQ;refine⟨s,v,G,hQ,λk4=> ?_⟩;rw[uw];simp only[aH,br,aA,aS,Zc3,bf,b,aJ,Zb1,hV,bg,ln,dS,Int.lt_irrefl,Zp2,dQ]
 |succ mm ih=>
  intro t f s v nm ht hf G g11 hQ ho;obtain⟨f,rfl⟩:∃g,f=g+1:=⟨f - 1,by omega⟩
  have htl:t<p.ts.length:=by omega
  have b:=G.get hb;have ln:=λ(K:AV->St->Option (AV×St))=>(T.ai G).out.own.lenB (c:=c) K s
  rw[(T.ai G).len]at ln;have aV:decide ((t:Int)<(p.ts.length:Int))=true:=Za0 (by omega);have wr:ax .i64 ((t:Int)+1)=((t+1:Nat):Int):=by rw[wrap64 (by omega) (by omega)];omega
  obtain⟨u,rb,ro',h1⟩:=(T.ai G).Jk (H0 htl);have p1:=λ{R}=>@h1.st R
  have p3:=h1.at' 0 (.str p.ts[t].name) rfl;rw[Zg0]at p3;have et:p.ts.take (t+1)=p.ts.take t++[p.ts[t]]:=Zc6 htl;generalize p.ts[t]=X at*
  have pt:=λ(K:AV->St->Option (AV×St))=>zX (c:=c) K g11 (o:=4) (by show 4<6;omega) (v:= .str X.name) rfl rfl
  have e4:(atR m n nm).cells.set 4 (.str X.name)=(atR m n X.name).cells:=rfl;rw[e4]at pt;obtain⟨s1,Fm⟩:∃s1,s1=aY s Mj (.cells (atR m n X.name).cells 0):=⟨_,rfl⟩
  have G1:Grew s0 s1:=by rw[Fm];exact B8 w0 G hge (G.wf _ _ g11) _
  have g1:s1.heap.get Mj=some (.cells (atR m n X.name).cells 0):=by rw[Fm];exact bN _ _ _
  have hQ1:QS 6 s1 v ((eW m n::(p.ts.take t).map λt=>atR m n t.name).map Rl.cells):=hQ.mono λq x hq hx=>by rw[Fm,aG (Ne.symm (ho q hq).2)];exact hx
  rw[<-Fm]at pt;have hlen:((eW m n::(p.ts.take t).map λt=>atR m n t.name).map Rl.cells).length<=101:=by rw[Za5,Zc9,Za5,Zh9];omega
  obtain⟨s5,v5,a1,a2,a3,a4,a5,a6⟩:=QS.push (R:=AV×St) (c:=c) (bytes:=72) G1.wf hQ1 (λr hr=>by obtain⟨t,_,rfl⟩:=Zc7.1 hr;rfl) (z:=zR) (x:= .agg (atR m n X.name).cells) rfl rfl rfl (by omega) (by omega) (by omega);have h11:=G1.wf _ _ g1;have G5:Grew s0 s5:=⟨a3,λq x hx=>a5 q x (λe=>by have:=(ho q e).1;have:=w0 _ _ hx;omega) (G1.get hx),by have:=G1.next;omega⟩
  obtain⟨s',v',z1,z2,z3⟩:=ih (t+1) f s5 v5 X.name (by omega) (by omega) G5 (a5 _ _ (λe=>(ho _ e).2 rfl) g1) (by rw[et,Zc8, <-Zd7,Zc8];exact a2) (λq hq=>by have h1:=a6 q hq;have h2:=G1.next;refine⟨by omega,λe=> ?_⟩;rw[e]at h1;omega);have ld:∀(K:AV->St->Option (AV×St)),aq c (.load (some 6)) [.ptr Mj 0] s1 K=K (.agg (atR m n X.name).cells) s1:=λK=>by rw[gG,g1];rfl
  refine⟨s',v',z1,z2,λk4=> ?_⟩;rw[<-z3 k4,uw];simp only[aH,br,aA,aS,Zc3,Zg0,bf,b,aJ,Zb1,hV,bg,ln,dS,aV,dW,p1,p3,pt,ld,a1,fS,wr]
end
theorem anT(x2 x7 x8 x9:AV){s:St}{v:AV}{S:List Int}(hS:QS 1 s v (S.map bV)){T:Nat}{val:Nat->Nat}(hl:S.length=T+1)(hv:∀k,k<T->S[k+1]? =some ((val k:Nat):Int))(hT:T<=100)(hb:∀k,k<T->val k<=200000)(F:Nat):
  ∀(m k f:Nat),k+m=T->m<f->∀k6:Q2,fI c F k6 f [x2,x7,x8,x9,v,.int .i64 ((dh k val:Nat):Int),.int .i64 ((k+1:Nat):Int)] s=k6 [x2,x7,x8,x9,v,.int .i64 ((dh T val:Nat):Int)] s:=by
 have ln:=λ(K:AV->St->Option (AV×St))=>hS.lenB (c:=c) K s
 rw[Za5,hl]at ln;have bd:∀k,k<=T->dh k val<=k*200000:=λk=>by
  induction k with
  |zero=>intro _;exact Za3 _
  |succ k ih=>intro h;have:=ih (by omega);have:=hb k (by omega);unfold dh;omega
 intro m;induction m with
 |zero=>
  intro k f hk hf k6;obtain⟨f,rfl⟩:∃g,f=g+1:=⟨f - 1,by omega⟩
  obtain rfl:k=T:=by omega
  have aV:decide (((k+1:Nat):Int)<((k+1:Nat):Int))=false:=Za2 (by omega);rw[uv];simp only[aH,br,aA,ln,dS,Int.lt_irrefl,Zp2,dQ]
 |succ m ih=>
  intro k f hk hf k6;obtain⟨f,rfl⟩:∃g,f=g+1:=⟨f - 1,by omega⟩
  have aV:decide (((k+1:Nat):Int)<((T+1:Nat):Int))=true:=Za0 (by omega);have z:=ih (k+1) f (by omega) (by omega) k6;obtain⟨pb,po,p⟩:=rM hS (hv k (by omega));have p1:=λ{R}=>@p.st R
  have p3:=p.one;have b1:=bd k (by omega);have b2:=hb k (by omega);have es:dh (k+1) val=dh k val+val k:=rfl;rw[es]at z;generalize dh k val=a at*
  generalize val k=d at*
  have w1:ax .i64 ((a:Int)+(d:Int))=((a+d:Nat):Int):=by rw[wrap64 (by omega) (by omega)];omega
  have w2:ax .i64 (((k+1:Nat):Int)+1)=((k+1+1:Nat):Int):=by rw[wrap64 (by omega) (by omega)];omega
  rw[<-z,uv];simp only[aH,br,aA,ln,dS,aV,dW,p1,bf,p3,bg,fS,w1,w2]
theorem QO{p p':bM}(S:p.gD p'){i:Nat}{a':aB}(h:p'.ts[i]? =some a'):∃a,p.ts[i]? =some a/\a'.name=a.name:=by
 have hl:i<p.ts.length:=by rw[<-S.tl];exact(Za1.1 h).1
 obtain⟨z,e⟩:=S.ts i _ _ (H0 hl) h;exact⟨_,H0 hl,by rw[e]⟩
theorem alI{p:bM}{z:Bool}{l:List Rl}(h:p.Real)(hl:l.length<=64):(p.Th z l).Real:={ h with rs:=Zb0 hl (by decide) }
section
variable{sS sB : St}{b7 : Pos}{Vs : List AV}{p : bM}{v8 : AV}{N : Nat}{q : List Int}
set_option maxHeartbeats 1000000 in
theorem anU(hc:bH c)(wB:Wf sB)(hb:sB.heap.get b7=some (.cells Vs 0))(P:PS sS sB Vs p)(yo:p.CI)(real:p.Real)(hbas:(gX p).2=0)(um:p.ts.length<=63)
  (hd:∀(i j:Nat)(a b:aB),i<j->p.ts[i]? =some a->p.ts[j]? =some b->a.name≠b.name) (cZ:∀t∈p.ts,t.name≠[]) (hgn:∀g∈p.gs,g.name≠[]) (hcl:p.cs.length=p.gs.length\/p.cs.length=0) (FV:(p.gs.length:Int)<=aW p.ts)
  (hN:(N:Int)=aW p.ts) (h8:QS 1 sB v8 (q.map bV)) (hPa:∀J:Jt,J.N=N->J.n=p.gs.length->PaO J q) {nn:Nat} (hnn:nn<256) (F:Nat) (hF:100<F):
  ∀(mm k f:Nat)(s:St),k+mm=19->1<=k->mm<f->Grew sB s->∃s',Grew sB s'/\∀k1 k2:Q2,iw c F k1 k2 f [.int .u8 (nn:Int),.ptr b7 0,v8,.int .i64 (k:Int)] s=k2 [] s':=by
 intro mm;induction mm with
 |zero=>
  intro k f s hk _ hf G;obtain⟨f,rfl⟩:∃g,f=g+1:=⟨f - 1,by omega⟩
  obtain rfl:k=19:=by omega
  refine⟨s,G,λk1 k2=> ?_⟩;rw[nv];simp only[aH,br,aA,adE,show decide (((19:Nat):Int)<=18)=false from rfl,dQ]
 |succ mm ih=>
  intro k f s hk h1 hf G;obtain⟨f,rfl⟩:∃g,f=g+1:=⟨f - 1,by omega⟩
  have hle:decide ((k:Int)<=18)=true:=Za0 (by omega);have wr:Unit->ax .i64 ((k:Int)+1)=((k+1:Nat):Int):=λ_=>by rw[wrap64 (by omega) (by omega)];omega
  have w8:Unit->ax .u8 (k:Int)=(k:Int):=λ_=>Du (by omega) (by omega)
  obtain⟨n,hn⟩:∃n:Int,n=if k=15\/k=16 then((nn % 5:Nat):Int)else 0:=⟨_,rfl⟩
  have bld:∀(K:AV->St->Option (AV×St))(s:St),aq c (.build zR [(0,1)]) [.int .u8 (k:Int)] s K=K (.agg (eW k 0).cells) s:=λK s=>aR c K (λH n=>rfl) s
  have st6:∀(K:AV->St->Option (AV×St)),aq c (.store 6) [.ptr s.next 0,.agg (eW k 0).cells] (ah s (.cells zR 0)) K=K .undef (ah s (.cells (eW k 0).cells 0)):=λK=>cr c K s 6 (.agg (eW k 0).cells) _ rfl rfl rfl
  have g1:=Grew.ah G.wf (.cells (eW k n).cells 0);have x1:=az s (.cells (eW k n).cells 0);obtain⟨s1,Fm⟩:∃s1,s1=ah s (.cells (eW k n).cells 0):=⟨_,rfl⟩
  obtain⟨Mj,adW⟩:∃Mj,Mj=s.next:=⟨_,rfl⟩
  rw[<-Fm]at g1 x1;rw[<-adW]at x1 st6;have rok:(eW k n).Ok:=by unfold Rl.Ok eW;simp only;omega
  have hVl:=P.cells.1;have ck:=adU hc (P.KO (G.trans g1)) yo (eW k n) rok;have fe:Gk p (eW k n)=fY p (eW k n):=by unfold Gk;rw[Za7 (by rw[hbas];simp)]
  rw[fe]at ck;have b1:=(G.trans g1).get hb;have l5:=Oc (c:=c) (R:=AV×St) b1 hVl;have l6:∀(K:AV->St->Option (AV×St)),aq c (.load (some 6)) [.ptr Mj 0] s1 K=K (.agg (eW k n).cells) s1:=λK=>by rw[gG,x1];rfl
  have w5:Unit->ax .i64 (nn:Int)=(nn:Int):=λ_=>wrap64 (by omega) (by omega)
  have rm:∀(K:AV->St->Option (AV×St))(s:St),aq c (.bin .rem .num) [.int .i64 (nn:Int),.int .i64 5] s K=K (.int .i64 ((nn % 5:Nat):Int)) s:=λK s=>by rw[cN (by omega) (by omega)];rfl
  have num:(decide ((k:Int)=15)=true/\(∀(K:AV->St->Option (AV×St)),aq c (.store 1) [.ptr Mj 5,.int .i64 ((nn % 5:Nat):Int)] (ah s (.cells (eW k 0).cells 0)) K=K .undef s1))\/
        (decide ((k:Int)=15)=false/\decide ((k:Int)=16)=true/\(∀(K:AV->St->Option (AV×St)),aq c (.store 1) [.ptr Mj 5,.int .i64 ((nn % 5:Nat):Int)] (ah s (.cells (eW k 0).cells 0)) K=K .undef s1))\/
        (decide ((k:Int)=15)=false/\decide ((k:Int)=16)=false/\ah s (.cells (eW k 0).cells 0)=s1):=by
    by_cases h15:k=15\/k=16
    .   (rw[Zb3 h15]at hn;have pt:=λ(K:AV->St->Option (AV×St))=>zX (c:=c) K (az s (.cells (eW k 0).cells 0)) (o:=5) (by show 5<6;omega) (v:= .int .i64 ((nn % 5:Nat):Int)) rfl rfl);have e5:(eW k 0).cells.set 5 (.int .i64 ((nn % 5:Nat):Int))=(eW k n).cells:=(by rw[hn];rfl);rw[e5,Lj, <-Fm, <-adW]at pt;rcases h15 with rfl|rfl
        . exact .inl ⟨rfl,pt⟩
        . exact .inr (.inl ⟨rfl,rfl,pt⟩)
    .   rw[Za7 h15]at hn;subst hn;exact .inr (.inr ⟨Za2 (by omega),Za2 (by omega),Fm.symm⟩)
  by_cases hA:fY p (eW k n)=0/\k≠13/\k≠10
  . obtain⟨hr0,Uv,Xu⟩:=hA;have hm:Mi k:=aqf hgn h1 (by omega) Uv Xu hr0;have y1:decide (fY p (eW k n)=0)=true:=Za0 hr0;have y2:decide ((k:Int)=13)=false:=Za2 (by omega);have y3:decide ((k:Int)=10)=false:=Za2 (by omega);have T100:p.ts.length<=100:=(by omega);have TF:p.ts.length<F:=(by omega);have bs:∀(K:AV->St->Option (AV×St)),aq c (.buildSlice 6 1 zR [0]) [.agg (eW k n).cells] s1 K=K (.slice s1.next 0 1 (some 1) 6) (ah s1 (.cells (eW k n).cells 0)):=λK=>Gb (c:=c) (es:=6) (z:=zR) (x:= .agg (eW k n).cells) rfl rfl s1 K
    have g2:=Grew.ah g1.wf (.cells (eW k n).cells 0);have x2:=az s1 (.cells (eW k n).cells 0);have nx:s.next.toNat+1<=s1.next.toNat:=(by rw[Fm,bD,Pos.aC];omega);obtain⟨s2,rJ⟩:∃s2,s2=ah s1 (.cells (eW k n).cells 0):=⟨_,rfl⟩
    obtain⟨b12,hb12⟩:∃b12,b12=s1.next:=⟨_,rfl⟩
    rw[<-rJ, <-hb12]at bs x2;rw[<-rJ]at g2;have Q2:QS 6 s2 (.slice b12 0 1 (some 1) 6) ((eW k n::(p.ts.take 0).map λt=>atR k n t.name).map Rl.cells):= .inr (.inl ⟨b12,0,some 1,(eW k n).cells,rfl,x2,by show 0+1*6<=6;omega,rfl,.inr rfl⟩);obtain⟨V1,V2,r1,r2,hV,_,TT,_,_⟩:=(P.KO G).rT;obtain⟨s3,v3,G3,Q3,e3⟩:=anS (c:=c) (.int .u8 (nn:Int)) v8 G.wf (G.get hb) hV TT T100 (Mj:=Mj) (by rw[adW];exact Za3 _) k n F p.ts.length 0 F s2 _ [] (Zc3 _) TF (g1.trans g2) (g2.get x1) Q2 (λb dZ=>by
        obtain rfl:=qk dZ;rw[hb12,adW];exact⟨by omega,λe=>by rw[e]at nx;omega⟩)
    (simp only[show((0:Nat):Int)=0 from rfl]at e3;have b3:=(G.trans G3).get hb;have l53:=Oc (c:=c) (R:=AV×St) b3 hVl;obtain⟨Us,s4,p1,e4,P4,S1⟩:=anQ hc (P.KO (G.trans G3)) real;obtain⟨ul,uo⟩:=P4.cells;obtain⟨U1,U2,U3,U4,U5,_,_,rfl,_⟩:=P4.all;have st5:∀(K:AV->St->Option (AV×St)),aq c (.store 5) [.ptr s4.next 0,.agg [U1,U2,U3,U4,U5]] (ah s4 (.cells [.af,.af,.af,.af,.af] 0)) K=K .undef (ah s4 (.cells [U1,U2,U3,U4,U5] 0)):=λK=>cr c K s4 5 (.agg [U1,U2,U3,U4,U5]) _ ul rfl uo);have Q4:=Q3.ai P4.ai;have pt4:∀(K:AV->St->Option (AV×St)),aq c (.store 1) [.ptr s4.next 4,v3] (ah s4 (.cells [U1,U2,U3,U4,U5] 0)) K=K .undef (ah s4 (.cells [U1,U2,U3,U4,v3] 0)):=λK=>by rw[zX (c:=c) K (az s4 (.cells [U1,U2,U3,U4,U5] 0)) (o:=4) (by show 4<5;omega) (QS.alH Q4).1 (QS.alH Q4).2,Lj];rfl
    have g6:=Grew.ah P4.ai.wf (.cells [U1,U2,U3,U4,v3] 0);have x6:=az s4 (.cells [U1,U2,U3,U4,v3] 0);obtain⟨s6,hs6⟩:∃s6,s6=ah s4 (.cells [U1,U2,U3,U4,v3] 0):=⟨_,rfl⟩
    rw[<-hs6]at g6 x6 pt4;have l56:=Oc (c:=c) (R:=AV×St) x6 rfl;obtain⟨p',z,efz,S2⟩:=aqi (P4.KO g6) (Q4.ai g6);have S:=S1.trans S2;have hl:(KT p.ts k n).length=p.ts.length+1:=(by unfold KT;rw[Zc9,Za5]);have alJ:(KT p.ts k n).length<=64:=(by omega);have tr:=aqg hm hr0
    obtain⟨jb,s7,j,J,e7,g7,Jg7,hJp⟩:=atV hc g6.wf efz (anR (S.yo yo) alJ) (alI (S.real real) alJ) (λr hr=>⟨(tr r hr).1,by rw[alG,S.rule];exact(tr r hr).2⟩) (ajn (by rw[S.basis];exact hbas) alJ λr hr=>by rw[S.rule];exact(tr r hr).2)
        (by show p'.cs.length=p'.gs.length\/p'.cs.length=0;rw[S.cs,S.gl];exact hcl) (by show(p'.gs.length:Int)<=aW p'.ts;rw[S.gl,S.sum];exact FV)
    have ets:J.p.ts=p'.ts:=(by rw[hJp];rfl);have ers:J.p.rs=KT p.ts k n:=(by rw[hJp];rfl);have hq:PaO J q:=hPa J (by have h:=Jg7.jw.nN;rw[ets,S.sum, <-hN]at h;omega) (by show J.p.gs.length=_;rw[hJp];exact S.gl);have G7:=G3.trans (P4.ai.trans (g6.trans g7));have pq:=h8.ai (G.trans G7);obtain⟨s8,v18,e8,M8⟩:=aqe hc Jg7.ok Jg7.jw g7.wf pq hq;rw[ers]at M8;have hS:(Bc J q (KT p.ts k n)).length=p.ts.length+1:=(by unfold Bc;rw[Za5,hl]);have ln8:=λ(K:AV->St->Option (AV×St))(s:St)=>M8.own.lenB (c:=c) K s
    (rw[Za5,hS]at ln8;have ln3:=λ(K:AV->St->Option (AV×St))(s:St)=>Q4.lenB (c:=c) K s);(rw[Za5,hl]at ln3;have hv:∀t,t<p.ts.length->(Bc J q (KT p.ts k n))[t+1]? =some ((fJ J q (atR k n (o6 J.p.ts t)):Nat):Int):=λt ht=>by have HE:t<p'.ts.length:=(by rw[S.tl];exact ht);obtain⟨a,ha,ea⟩:=QO S (H0 HE);have e:o6 J.p.ts t=a.name:=(by rw[ets];unfold o6;rw[H0 HE];exact ea);rw[e];unfold Bc KT;rw[Zd2,Zb8,Zb4,Zb4,ha];rfl);obtain⟨g,vb,GG,sv,hg,_,_,V⟩:=look_ok hc Jg7.jw g7.wf pq hq;have vE:∀t,t<p.ts.length->fJ J q (atR k n (o6 J.p.ts t))<=200000:=λt ht=>by have HE:t<p'.ts.length:=(by rw[S.tl];exact ht);obtain⟨a,ha,ea⟩:=QO S (H0 HE);have e:o6 J.p.ts t=a.name:=(by rw[ets];unfold o6;rw[H0 HE];exact ea);rw[e];obtain⟨m,R⟩:=Jg7.ok.rul (atR k n a.name) (by rw[ers];exact Za9 _ (List.mem_map_of_mem (f:=λt=>atR k n t.name) (Zc0 ha)));exact(auY V hg R).1
    have e9:=anT (c:=c) (.int .u8 (nn:Int)) (.ptr b7 0) v8 (.int .i64 (k:Int)) M8.own hS hv T100 vE F p.ts.length 0 F (Zc3 _) TF;have sum:=asH (J:=J) (q:=q) (λi j a b Uq ha hb=>by
        rw[ets]at ha hb;obtain⟨a',ha',ea⟩:=QO S ha;obtain⟨b',dZ,eb⟩:=QO S hb;rw[ea,eb];exact hd i j a' b' Uq ha' dZ) (λt ht=>by
        rw[ets]at ht;obtain⟨i,hi⟩:=Ze3.1 ht;obtain⟨a,ha,ea⟩:=QO S hi;rw[ea];exact cZ a (Zc0 ha)) Jg7.jw.nN hq hm n
    (rw[ets,S.tl, <-ets]at sum;rw[sum]at e9;simp only[show((0+1:Nat):Int)=1 from rfl,show((dh 0 λt=>fJ J q (atR k n (o6 J.p.ts t)):Nat):Int)=0 from rfl]at e9;obtain⟨rb,ro',pp⟩:=rM M8.own (i:=0) (x:=((fJ J q (eW k n):Nat):Int)) rfl;have q1:∀(K:AV->St->Option (AV×St))(s:St),aq c (.idxA 1 none) [v18,.int .i64 0] s K=K (.ptr rb ro') s:=λK s=>pp.st c K .i64 s);have q3:=pp.one;obtain⟨s',G',zz⟩:=ih (k+1) f s8 (by omega) (by omega) (by omega) ((G.trans G7).trans M8.ai);refine⟨s',G',λk1 k2=> ?_⟩;rw[<-zz k1 k2,nv];have d2:=True.intro;rcases num with⟨d1,fin⟩|⟨d1,d2,fin⟩|⟨d1,d2,fin⟩
    all_goals simp only[w8 (),w5 (),wr (),rm,bld, <-adW,st6,l5,l6,ck,d1,d2,fin,y1,y2,y3,bs,e3,l53,e4,st5,pt4,l56,e7,kC,Za4,Zb8,anG,Zh2,e8,ln8,ln3,e9,q1,q3,bf,bg,aH,br,aA,adE,hle,dW,dQ,je,vF,om,aS,Zc3,dF,fR,lS,acf,Dv,pZ,Li,dD,cO,Zk1,Zk0,fS]
  . obtain⟨s',G',z⟩:=ih (k+1) f s1 (by omega) (by omega) (by omega) (G.trans g1);have no:decide (fY p (eW k n)=0)=false\/(decide (fY p (eW k n)=0)=true/\decide ((k:Int)=13)=true)\/(decide (fY p (eW k n)=0)=true/\decide ((k:Int)=13)=false/\decide ((k:Int)=10)=true):=by
        by_cases e:fY p (eW k n)=0
        . by_cases e2:k=13
          . exact .inr (.inl ⟨Za0 e,Za0 (by omega)⟩)
          . exact .inr (.inr ⟨Za0 e,Za2 (by omega),Za0 (by omega)⟩)
        . exact .inl (Za2 e)
    refine⟨s',G',λk1 k2=> ?_⟩;rw[<-z k1 k2,nv];have n2:=True.intro;have n3:=True.intro;have d2:=True.intro;rcases num with⟨d1,fin⟩|⟨d1,d2,fin⟩|⟨d1,d2,fin⟩<;>rcases no with n1|⟨n1,n2⟩|⟨n1,n2,n3⟩
    all_goals simp only[w8 (),w5 (),wr (),rm,bld, <-adW,st6,l5,l6,ck,d1,d2,fin,n1,n2,n3,aH,br,aA,adE,hle,dW,dQ,je,vF,om,aS,Zc3,dF,fR,lS,acf,Dv,pZ,Li,dD,cO,Zk1,Zk0,fS]
end
set_option maxHeartbeats 1000000 in
theorem adX(hc:bH c){xt xg xy xr:List Nat}(ht:∀x∈xt,x<256)(hg:∀x∈xg,x<65536)(hy:∀x∈xy,x<256)(hr:∀x∈xr,x<4294967296)(lt:xt.length<=9223372036854775807)(lg:xg.length<=9223372036854775807)(lr:xr.length<=9223372036854775807)(ly:xy.length<=9223372036854775807)
  (zt zg zy zr z1:Bool) (xs:List Int) (lx:xs.length<=9223372036854775807) {nn:Nat} (hnn:nn<256) (st:St) (hw:Wf st):c 4 [.agg (nY zt zg zy zr xt xg xy xr),ints z1 xs,.int .u8 (nn:Int)] st=some (.bool true,st):=by
 have g1:=Grew.ah hw (.cells (nY zt zg zy zr xt xg xy xr) 0);have ld4:∀(K:AV->St->Option (AV×St)),aq c (.load (some 4)) [.ptr st.next 0] (ah st (.cells (nY zt zg zy zr xt xg xy xr) 0)) K=K (.agg (nY zt zg zy zr xt xg xy xr)) (ah st (.cells (nY zt zg zy zr xt xg xy xr) 0)):=λK=>by rw[gG,az];rfl
 obtain⟨Vs,s2,M,P2⟩:=asI hc ht hg hy hr lt lg lr ly zt zg zy zr _ g1.wf;obtain⟨vl,vo⟩:=P2.cells;have w2:=P2.ai.wf;have st5:∀(K:AV->St->Option (AV×St)),aq c (.store 5) [.ptr s2.next 0,.agg Vs] (ah s2 (.cells [.af,.af,.af,.af,.af] 0)) K=K .undef (ah s2 (.cells Vs 0)):=λK=>cr c K s2 5 (.agg Vs) _ vl rfl vo
 have g3:=Grew.ah w2 (.cells Vs 0);have x3:=az s2 (.cells Vs 0);obtain⟨s3,Hp⟩:∃s3,s3=ah s2 (.cells Vs 0):=⟨_,rfl⟩
 obtain⟨b3,hb3⟩:∃b3,b3=s2.next:=⟨_,rfl⟩
 rw[<-Hp]at st5 g3 x3;rw[<-hb3]at st5 x3;have P3:=P2.KO g3;have yo:=Gj xt xg xy xr;have sz:=anO (xg:=xg) (xy:=xy) (xr:=xr) ht;have hs0:=(o7 (vZ xt xg xy xr).ts).1;obtain⟨N,hN⟩:∃N:Nat,(N:Int)=aW (vZ xt xg xy xr).ts:=⟨(aW (vZ xt xg xy xr).ts).toNat,by omega⟩
 obtain⟨s4,v4,e4,M4⟩:=anL hc P3 sz yo.ts yo.gs hN z1 xs lx;have g4:=M4.ai;have l5:=Oc (c:=c) (R:=AV×St) x3 vl;have um:(vZ xt xg xy xr).ts.length<=63:=by have:(vZ xt xg xy xr).ts.length=min xt.length 3:=Me _ _;omega
 obtain⟨s5,G5,e5⟩:=anU (c:=c) (b7:=b3) hc g4.wf (g4.get x3) (P3.KO g4) yo (anN xt xg xy xr) (alK ht _ _ _ _ _ _) um ahS (λt h e=>by
  obtain⟨i,x,rfl⟩:=Mg h;have e:eR i=[]:=e;unfold eR at e;cases e) (λg h e=>by
  obtain⟨i,hi⟩:=Ze3.1 h;obtain⟨_,rfl⟩:=ae1 hi;have e:bQ (IV i)=[]:=e;unfold bQ at e;cases e) (by
  show(nJ xt xg xy).length=(pJ xt xg).length\/(nJ xt xg xy).length=0;unfold nJ;split
  . rw[Mf];exact .inl rfl
  . exact .inr rfl) (anP ht) hN M4.own (λJ h1 h2=>by subst h1;exact anM h2.symm xs) hnn 200 (by omega) 18 1 200 s4 (by omega) (by omega) (by omega) (Grew.refl g4.wf)
 simp only[show((1:Nat):Int)=1 from rfl]at e5;have aw:=auZ hc s5;have gall:=(g1.trans P2.ai).trans (g3.trans (g4.trans G5));rw[Gl hc 200 (r:=(.bool true,s5)),aE (Plain.bool _) gall.keeps];rw[IU];simp only[dI,show ∀l,AV.cells (.agg l)=l from λl=>rfl,aA,ld4,dD,M,cO,dF, <-Hp, <-hb3,st5,l5,e4,e5,aH,br,aw]
end
section
set_option maxRecDepth 100000
open Go Go.Ai Go.Proofs Go.RowKit
theorem abl{α:Type}{P:α->Prop}{cells:α->List AV}:∀(rs:List (List AV)),(∀r∈rs,∃t,r=cells t/\P t)->∃l:List α,rs=l.map cells/\∀t∈l,P t
 |[],_=>⟨[],rfl,by simp⟩
 |r::rs,h=>by
  obtain⟨t,rfl,ht⟩:=h r (by simp);obtain⟨l,rfl,hl⟩:=abl rs (λq hq=>h q (Za9 _ hq));refine⟨t::l,rfl,λu hu=> ?_⟩;rcases Za8.1 hu with rfl|hu
  . exact ht
  . exact hl u hu
section
variable{H : Type}{enc : TypeId × Value -> H}{w : World}{base : Nat}{spare : Nat -> Bool}{held : Bool}
theorem ahT{t:TypeId}{k:IntKind}{r:Go.Reach}{b0:Nat}{v:Value}{d:DataW H}{p:List MemPlace}(ht:Tryz.prog.underlying t=some (.int k))
  (hval:Value.okWide Tryz.prog w r b0 t v) (hd:DataW.Trod enc Tryz.prog w base spare held t v d p):∃us,(∃i,us=[AV.int k i]/\(Lit.int k i).wf=true)/\∀ρ n,aL ρ n (λad=>w.cell? ad) us [v]:=by
 obtain⟨m,rfl⟩:=Go.WideShapes.okWide_int ht hval;obtain⟨fuel,hf⟩:=hd;exact WO ht _ _ _ hf
theorem wf_u8{i:Int}(h:(Lit.int .u8 i).wf=true):0<=i/\i<256:=by
 have e1:IntKind.min .u8=0:=by decide
 have e2:IntKind.max .u8=255:=by decide
 have h:(decide (IntKind.min _<=i)&&decide (i<=IntKind.max _))=true:=h;rw[e1,e2,Zb6,Ze7,Ze7]at h;omega
theorem wf_u16{i:Int}(h:(Lit.int .u16 i).wf=true):0<=i/\i<65536:=by
 have e1:IntKind.min .u16=0:=by decide
 have e2:IntKind.max .u16=65535:=by decide
 have h:(decide (IntKind.min _<=i)&&decide (i<=IntKind.max _))=true:=h;rw[e1,e2,Zb6,Ze7,Ze7]at h;omega
theorem wf_u32{i:Int}(h:(Lit.int .u32 i).wf=true):0<=i/\i<4294967296:=by
 have e1:IntKind.min .u32=0:=by decide
 have e2:IntKind.max .u32=4294967295:=by decide
 have h:(decide (IntKind.min _<=i)&&decide (i<=IntKind.max _))=true:=h;rw[e1,e2,Zb6,Ze7,Ze7]at h;omega
def HF(k:IntKind)(n:Nat)(vs:List AV):Prop:=∃(z:Bool) (l:List Nat),vs=[eN k z l]/\(∀x∈l,x<n)/\l.length<=9223372036854775807
theorem Ti{t e:TypeId}{k:IntKind}{n:Nat}(ht:Tryz.prog.underlying t=some (.slice e))(he:Tryz.prog.underlying e=some (.int k))(hc:Tryz.prog.cellsOf e=1)(hk:∀i,(Lit.int k i).wf=true->0<=i/\i<(n:Int)):
  oO enc Tryz.prog w base spare held t (HF k n):=by
 refine oO.mono (aad (es:=1) ht hc (by omega) (λvs h=>by obtain⟨i,rfl,_⟩:=h;rfl) (WO he)) λvs h=> ?_
 obtain⟨z,rs,rfl,h1,h2⟩:=h;obtain⟨l,rfl,hl⟩:=abl (P:=λx:Nat=>x<n) (cells:=λx:Nat=>[AV.int k (x:Int)]) rs λr hr=>by
  obtain⟨i,rfl,hi⟩:=h1 r hr;have:=hk i hi;exact⟨i.toNat,by rw[show((i.toNat:Nat):Int)=i by omega],by omega⟩
 refine⟨z,l,rfl,hl,?_⟩;rw[Za5]at h2;unfold Go.maxLen at h2;omega
def atY(vs:List AV):Prop:=∃(z:Bool) (l:List Int),vs=[ints z l]/\l.length<=9223372036854775807
theorem aqj:oO enc Tryz.prog w base spare held 27 atY:=by
 refine oO.mono (aad (es:=1) (e:=3) (by kernel_rfl) (by kernel_rfl) (by omega) (λvs h=>by obtain⟨i,rfl,_⟩:=h;rfl) (WO (k:= .i64) (by kernel_rfl))) λvs h=> ?_
 obtain⟨z,rs,rfl,h1,h2⟩:=h;obtain⟨l,rfl,_⟩:=abl (P:=λ_:Int=>True) (cells:=λx:Int=>[AV.int .i64 x]) rs λr hr=>by
  obtain⟨i,rfl,hi⟩:=h1 r hr;exact⟨i,rfl,trivial⟩
 refine⟨z,l,rfl,?_⟩;rw[Za5]at h2;unfold Go.maxLen at h2;omega
theorem ae3:oO enc Tryz.prog w base spare held 22 (HF .u8 256):=Ti (e:=5) (by kernel_rfl) (by kernel_rfl) (by kernel_rfl) λ_ h=>wf_u8 h
theorem alL:oO enc Tryz.prog w base spare held 23 (HF .u16 65536):=Ti (e:=99) (by kernel_rfl) (by kernel_rfl) (by kernel_rfl) λ_ h=>wf_u16 h
theorem alM:oO enc Tryz.prog w base spare held 24 (HF .u32 4294967296):=Ti (e:=102) (by kernel_rfl) (by kernel_rfl) (by kernel_rfl) λ_ h=>wf_u32 h
structure au1(xt xg xy xr:List Nat):Prop where
 t:∀x∈xt,x<256
 g:∀x∈xg,x<65536
 y:∀x∈xy,x<256
 r:∀x∈xr,x<4294967296
 lt:xt.length<=9223372036854775807
 lg:xg.length<=9223372036854775807
 ly:xy.length<=9223372036854775807
 lr:xr.length<=9223372036854775807
theorem afA:oO enc Tryz.prog w base spare held 26 λvs=>∃zt zg zy zr xt xg xy xr,vs=nY zt zg zy zr xt xg xy xr/\au1 xt xg xy xr:=by
 refine oO.mono (ahi [22,23,22,24] (Qs:=[HF .u8 256,HF .u16 65536,HF .u8 256,HF .u32 4294967296]) (by kernel_rfl) (by kernel_rfl) (by kernel_rfl) ⟨ae3,alL,ae3,alM,trivial⟩) λvs h=> ?_
 obtain⟨ps,rfl,m0⟩:=h;obtain⟨p0,q0,rfl,⟨z1,l1,rfl,a1,b1⟩,m1⟩:=Hs m0;obtain⟨p0,q0,rfl,⟨z2,l2,rfl,a2,b2⟩,m2⟩:=Hs m1;obtain⟨p0,q0,rfl,⟨z3,l3,rfl,a3,b3⟩,m3⟩:=Hs m2;obtain⟨p0,q0,rfl,⟨z4,l4,rfl,a4,b4⟩,m4⟩:=Hs m3;obtain rfl:=ahs m4;exact⟨z1,z2,z3,z4,l1,l2,l3,l4,rfl,⟨a1,a2,a3,a4,b1,b2,b3,b4⟩⟩
end
end
end Go.Proofs.YtgihekklfnjkiaaGreatDoor
namespace Go.Proofs.YtgihekklfnjkiaaGreatDoor.Be
section
set_option maxRecDepth 100000
open Go
theorem k1:(Rows.judgeTablesRow.inPlace==Tryz.pinned.checked.prog.inPlace 4)=true:=by kernel_rfl
theorem k2:(Rows.judgeTablesRow.unfollowed==Tryz.pinned.checked.prog.unfollowed 4)=true:=by kernel_rfl
theorem k3:(Rows.judgeTablesRow.recurses==Tryz.pinned.checked.prog.recurses 4)=true:=by kernel_rfl
theorem k4:(Rows.judgeTablesRow.named==Tryz.pinned.checked.prog.varsNamed 4)=true:=by kernel_rfl
theorem k5:laidOutB Tryz.pinned.checked.prog=true:=by kernel_rfl
theorem k6:mapsRowed Tryz.pinned.checked.prog=true:=by kernel_rfl
theorem k7:(Rows.judgeTablesRow.plainKeys==Tryz.pinned.checked.prog.plainKeys)=true:=by kernel_rfl
theorem closed:joinedFacts Tryz.pinned.checked.prog 4 Tryz.f4 (OpenSpec.ofChange Rows.judgeTablesSpec).bare Rows.judgeTablesRow=true:=by
 unfold joinedFacts;rw[k1,k2,k3,k4,k5,k6,k7]
 kernel_rfl
end
end Go.Proofs.YtgihekklfnjkiaaGreatDoor.Be
