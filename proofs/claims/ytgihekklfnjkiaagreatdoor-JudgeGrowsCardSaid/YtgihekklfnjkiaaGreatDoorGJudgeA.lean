/- Faults of a rule. -/
import Derived.Test.YtgihekklfnjkiaaGreatDoorGPlainC
set_option linter.all false
set_option linter.unusedSectionVars false
set_option linter.deprecated false
namespace Go.Proofs.YtgihekklfnjkiaaGreatDoor
section
set_option maxRecDepth 100000
open Go Go.Ai Go.Proofs
variable{c : aj}
theorem FL(q:List Int):q.map bV=(q.map (AV.int .i64)).map ot:=by rw[Zh8];rfl
theorem qq{s:St}{v:AV}{q:List Int}(h:QS 1 s v (q.map bV)){i:Nat}{x:Int}(hx:q[i]? =some x):∃b o,Rd s 1 v i b o [.int .i64 x]:=by
 rw[FL]at h;exact h.Lf (by rw[Zb7,hx];rfl)
structure Jc where
 V1:AV
 V2:AV
 V3:AV
 V4:AV
 V5:AV
 M:Pos
 L0:AV
 L1:AV
 L2:AV
 L3:AV
 L4:AV
 L5:AV
 L6:AV
 L7:AV
def Jc.Vs(j:Jc):List AV:=[j.V1,j.V2,j.V3,j.V4,j.V5]
def Jc.cells(j:Jc):List AV:=[j.V1,j.V2,j.V3,j.V4,j.V5,.map j.M,j.L0,j.L1,j.L2,j.L3,j.L4,j.L5,j.L6,j.L7]
structure Jt where
 p:cm
 N:Nat
 kQ:List (List Bool)
 kR:List (List Int)
section
variable(J : Jt)
def Jt.n:Nat:=J.p.gs.length
def Jt.steps(i:Nat):List (Int×Int):=acg (xP J.p.ts J.N) (xQ J.p.ts J.N) J.N (i:Int)
end
structure JW(s:St)(jb:Pos)(j:Jc)(J:Jt):Prop where
 mA:s.heap.get jb=some (.cells j.cells 0)
 ps:∃s0 r1 r2,PS s0 s j.Vs J.p/\TS s0 s j.V1 J.p.ts r1/\GS s0 s j.V2 J.p.gs r2
 cls:QS 1 s j.V4 (J.p.cs.map bV)
 jq:QS 6 s j.V5 (J.p.rs.map Rl.cells)
 kin:s.heap.get j.M=some (.map EO 18)
 tab:QS 1 s j.L0 ((Bh J.p.ts J.N).map ot)
 lvl:QS 1 s j.L1 ((Bi J.p.ts J.N).map ot)
 kA:QS 1 s j.L2 ((Bj J.p.ts J.N).map ot)
 bes:RQ s j.L3 ((xP J.p.ts J.N).map λr=>r.map (AV.int .i64))
 acr:RQ s j.L4 ((xQ J.p.ts J.N).map λr=>r.map (AV.int .i64))
 aq:∃ms:List Pos,QS 1 s j.L5 ((ms.map AV.map).map ot)/\ms.length=J.N/\∀(i:Nat)(m:Pos),ms[i]? =some m->s.heap.get m=some (im (J.steps i))
 com:RQ s j.L6 (J.kQ.map λr=>r.map AV.bool)
 tie:RQ s j.L7 (J.kR.map λr=>r.map (AV.int .u8))
 xR:J.p.GK
 n1:J.kQ.length=J.n
 n2:J.kR.length=J.n
 n3:∀r∈J.kQ,r.length=J.n
 n4:∀r∈J.kR,r.length=J.n
 nN:(J.N:Int)=aZ J.p.ts
theorem TS.ai{s0 s s':St}{V:AV}{ts:List aD}{rows:List (List AV)}(h:TS s0 s V ts rows)(g:Grew s s'):TS s0 s' V ts rows:=
 ⟨h.out.grow g,h.len,λi t r a b=>by obtain⟨v,e1,e2,e3⟩:=h.dX i t r a b;exact⟨v,e1,e2.grow g,e3⟩⟩
theorem GS.ai{s0 s s':St}{V:AV}{ts:List aT}{rows:List (List AV)}(h:GS s0 s V ts rows)(g:Grew s s'):GS s0 s' V ts rows:=
 ⟨h.out.grow g,h.len,λi t r a b=>by obtain⟨v,e1,e2,e3⟩:=h.dX i t r a b;exact⟨v,e1,e2.grow g,e3⟩⟩
theorem PS.RX{s0 s s':St}{Vs:List AV}{p:cm}(h:PS s0 s Vs p)(g:Grew s s'):PS s0 s' Vs p:=by
 obtain⟨V1,V2,V3,V4,V5,r1,r2,rfl,h1,h2,h3,h4,h5⟩:=h.all;exact⟨h.ai.trans g,V1,V2,V3,V4,V5,r1,r2,rfl,h1.ai g,h2.ai g,h3.grow g,h4.grow g,h5.grow g⟩
theorem JW.ai{s s':St}{jb:Pos}{j:Jc}{J:Jt}(h:JW s jb j J)(g:Grew s s'):JW s' jb j J where
 mA:=g.get h.mA
 ps:=by obtain⟨s0,r1,r2,a,b,d⟩:=h.ps;exact⟨s0,r1,r2,a.RX g,b.ai g,d.ai g⟩
 cls:=h.cls.ai g
 jq:=h.jq.ai g
 kin:=g.get h.kin
 tab:=h.tab.ai g
 lvl:=h.lvl.ai g
 kA:=h.kA.ai g
 bes:=h.bes.ai g
 acr:=h.acr.ai g
 aq:=by obtain⟨ms,a,b,d⟩:=h.aq;exact⟨ms,a.ai g,b,λi m hm=>g.get (d i m hm)⟩
 com:=h.com.ai g
 tie:=h.tie.ai g
 xR:=h.xR
 n1:=h.n1
 n2:=h.n2
 n3:=h.n3
 n4:=h.n4
 nN:=h.nN
theorem JW.of{s0 s1 s:St}{jb:Pos}{Vs:List AV}{p:cm}{N:Nat}{kQ:List (List Bool)}{kR:List (List Int)}(h:JD s1 s jb Vs p.ts N p.gs.length kQ kR)(hp:PS s0 s Vs p)(hf:p.GK)(hN:(N:Int)=aZ p.ts):
   ∃j:Jc,JW s jb j ⟨p,N,kQ,kR⟩/\j.Vs=Vs:=by
 obtain⟨V1,V2,V3,V4,V5,r1,r2,rfl,h1,h2,h3,h4,h5⟩:=hp.all;obtain⟨m,L0,L1,L2,L3,L4,L5,L6,L7,wB,wA,ms,r6,r7,k0,k1,k2,k3,k4,k5,k6,k7,k8,k9⟩:=h.all;have lb:=Nh p.ts N;refine⟨⟨V1,V2,V3,V4,V5,m,L0,L1,L2,L3,L4,L5,L6,L7⟩,⟨k0,⟨s0,r1,r2,hp,h1,h2⟩,h4.own,h5.own,k1.2,k2.1,k3.1,k4.1,⟨wB,k5.1.1,by rw[k5.2.1,Za4,lb.1],λi w r a b=> ?_⟩,⟨wA,k6.1.1,by rw[k6.2.1,Za4,lb.2],λi w r a b=> ?_⟩,
   ⟨ms,k7.1.1,k7.2.1,λi m hm=>(k7.2.2 i m hm).2⟩,⟨r6,k8.1.1,by rw[k8.2.1,Za4];exact h.n1.symm,λi w r a b=> ?_⟩,⟨r7,k9.1.1,by rw[k9.2.1,Za4];exact h.n2.symm,λi w r a b=> ?_⟩,hf,h.n1,h.n2,h.n3,h.n4,hN⟩,rfl⟩
 all_goals
   rw[Zb7]at b;obtain⟨r,hr,rfl⟩:=Zf3.1 b
 . rw[<-FL];exact(k5.2.2 i w r a hr).1
 . rw[<-FL];exact(k6.2.2 i w r a hr).1
 . exact(k8.2.2 i w r a hr).1
 . exact(k9.2.2 i w r a hr).1
theorem apA(hc:bw c){s0 s:St}{Vs:List AV}{p:cm}(P:PS s0 s Vs p)(hp:p.GK)(nm:List Nat):c 109 [.agg Vs,.str nm] s=some (.int .i64 (gi p nm),s):=by
 obtain⟨p',e,S⟩:=P.fW 1;refine hc.at (s:=N6 109) rfl (aps ?_ (bK.int _ _));rw[Zd5,Zd5,Zi5,e, <-S.gi nm];exact ana rfl p' (S.xR hp) nm (emptyAt s) (ab5 s)
structure Vw(s:St)(vb jb:Pos)(j:Jc)(J:Jt)(P G:AV)(q g:List Int):Prop where
 jw:JW s jb j J
 vc:s.heap.get vb=some (.cells [.ptr jb 0,P,G] 0)
 wf:Wf s
 pq:QS 1 s P (q.map bV)
 gq:QS 1 s G (g.map bV)
 ql:q.length=J.n
 gl:g.length=J.N
 ok:∀x∈q,-1<=x/\x<(J.N:Int)
 og:∀x∈g,-1<=x/\x<(J.n:Int)
theorem Vw.ai{s s':St}{vb jb:Pos}{j:Jc}{J:Jt}{P G:AV}{q g:List Int}(h:Vw s vb jb j J P G q g)(k:Grew s s'):Vw s' vb jb j J P G q g:=
 ⟨h.jw.ai k,k.get h.vc,k.wf,h.pq.ai k,h.gq.ai k,h.ql,h.gl,h.ok,h.og⟩
@[simp] theorem Jc.c0(j:Jc):j.cells[0]? =some j.V1:=id rfl
@[simp] theorem Jc.c1(j:Jc):j.cells[1]? =some j.V2:=id rfl
@[simp] theorem Jc.c3(j:Jc):j.cells[3]? =some j.V4:=id rfl
@[simp] theorem Jc.c4(j:Jc):j.cells[4]? =some j.V5:=id rfl
@[simp] theorem Jc.c5(j:Jc):j.cells[5]? =some (.map j.M):=id rfl
@[simp] theorem Jc.c6(j:Jc):j.cells[6]? =some j.L0:=id rfl
@[simp] theorem Jc.c7(j:Jc):j.cells[7]? =some j.L1:=id rfl
@[simp] theorem Jc.c8(j:Jc):j.cells[8]? =some j.L2:=id rfl
@[simp] theorem Jc.c9(j:Jc):j.cells[9]? =some j.L3:=id rfl
@[simp] theorem Jc.c10(j:Jc):j.cells[10]? =some j.L4:=id rfl
@[simp] theorem Jc.c11(j:Jc):j.cells[11]? =some j.L5:=id rfl
@[simp] theorem Jc.c12(j:Jc):j.cells[12]? =some j.L6:=id rfl
@[simp] theorem Jc.c13(j:Jc):j.cells[13]? =some j.L7:=id rfl
@[simp] theorem Jc.cc(j:Jc):cut j.cells 0 5=some j.Vs:=id rfl
section
variable{s : St}{vb jb : Pos}{j : Jc}{J : Jt}{P G : AV}{q g : List Int}(V : Vw s vb jb j J P G q g)
include V
theorem Vw.kB{a:Nat}{x:Int}(ha:q[a]? =some x)(hx:0<=x):∃i:Nat,x=(i:Int)/\i<J.N:=by
 have:=V.ok x (Zb9 ha);exact⟨x.toNat,by omega,by omega⟩
theorem Vw.rT{i:Nat}(hi:i<J.N):∃b o,Rd s 1 j.L0 i b o [.int .i64 ((cJ J.p.ts i:Nat):Int)]:=
 V.jw.tab.Lf (by unfold Bh;rw[Zb7,Zh6 hi];rfl)
theorem Vw.rL{i:Nat}(hi:i<J.N):∃b o,Rd s 1 j.L1 i b o [.int .i64 (Im J.p.ts ((i:Nat):Int))]:=
 V.jw.lvl.Lf (by unfold Bi;rw[Zb7,Zh6 hi];rfl)
theorem Vw.rO{i:Nat}(hi:i<J.N):∃b o,Rd s 1 j.L2 i b o [.bool (N7 J.p.ts ((i:Nat):Int))]:=
 V.jw.kA.Lf (by unfold Bj;rw[Zb7,Zh6 hi];rfl)
theorem Vw.rB{i:Nat}(hi:i<J.N):∃w b o,Rd s 1 j.L3 i b o [w]/\QS 1 s w ((qL J.p.ts i).map bV):=by
 obtain⟨w,b,o,h1,h2⟩:=V.jw.bes.rd (i:=i) (r:=(qL J.p.ts i).map (AV.int .i64)) (by unfold xP;rw[Zb7,Zb7,Zh6 hi];rfl);exact⟨w,b,o,h1,by rw[FL];exact h2⟩
theorem Vw.rA{i:Nat}(hi:i<J.N):∃w b o,Rd s 1 j.L4 i b o [w]/\QS 1 s w ((zV J.p.ts i).map bV):=by
 obtain⟨w,b,o,h1,h2⟩:=V.jw.acr.rd (i:=i) (r:=(zV J.p.ts i).map (AV.int .i64)) (by unfold xQ;rw[Zb7,Zb7,Zh6 hi];rfl);exact⟨w,b,o,h1,by rw[FL];exact h2⟩
theorem Vw.rS{i:Nat}(hi:i<J.N):∃m b o,Rd s 1 j.L5 i b o [.map m]/\s.heap.get m=some (im (J.steps i)):=by
 obtain⟨ms,h1,h2,h3⟩:=V.jw.aq;have hl:i<ms.length:=by omega
 obtain⟨b,o,h4⟩:=h1.Lf (i:=i) (x:= .map ms[i]) (by rw[Zb7,H0 hl];rfl);exact⟨_,b,o,h4,h3 i _ (H0 hl)⟩
theorem Vw.rTab{t:Nat}{T:aD}(ht:J.p.ts[t]? =some T):∃v b o,Rd s 7 j.V1 t b o (T.ax v):=by
 obtain⟨s0,r1,r2,_,h,_⟩:=V.jw.ps;have hl:t<r1.length:=by rw[h.len];exact(Za2.1 ht).1
 obtain⟨v,e,_⟩:=h.dX t T r1[t] ht (H0 hl);obtain⟨b,o,h4⟩:=h.out.own.rd h.out.row (H0 hl);exact⟨v,b,o,by rw[<-e];exact h4⟩
theorem Vw.rG{t:Nat}{T:aT}(ht:J.p.gs[t]? =some T):∃v b o,Rd s 9 j.V2 t b o (T.ax v):=by
 obtain⟨s0,r1,r2,_,_,h⟩:=V.jw.ps;have hl:t<r2.length:=by rw[h.len];exact(Za2.1 ht).1
 obtain⟨v,e,_⟩:=h.dX t T r2[t] ht (H0 hl);obtain⟨b,o,h4⟩:=h.out.own.rd h.out.row (H0 hl);exact⟨v,b,o,by rw[<-e];exact h4⟩
theorem Vw.rC{a b:Nat}{r:List Bool}{x:Bool}(ha:J.kQ[a]? =some r)(hb:r[b]? =some x):∃w p o p2 o2,Rd s 1 j.L6 a p o [w]/\Rd s 1 w b p2 o2 [.bool x]:=by
 obtain⟨w,p,o,h1,h2⟩:=V.jw.com.rd (i:=a) (r:=r.map AV.bool) (by rw[Zb7,ha];rfl);obtain⟨p2,o2,h3⟩:=h2.Lf (i:=b) (x:= .bool x) (by rw[Zb7,hb];rfl);exact⟨w,p,o,p2,o2,h1,h3⟩
theorem Vw.rK{a b:Nat}{r:List Int}{x:Int}(ha:J.kR[a]? =some r)(hb:r[b]? =some x):∃w p o p2 o2,Rd s 1 j.L7 a p o [w]/\Rd s 1 w b p2 o2 [.int .u8 x]:=by
 obtain⟨w,p,o,h1,h2⟩:=V.jw.tie.rd (i:=a) (r:=r.map (AV.int .u8)) (by rw[Zb7,ha];rfl);obtain⟨p2,o2,h3⟩:=h2.Lf (i:=b) (x:= .int .u8 x) (by rw[Zb7,hb];rfl);exact⟨w,p,o,p2,o2,h1,h3⟩
end
end
section
set_option maxRecDepth 100000
open Go Go.Ai Go.Proofs
variable{c : aj}{s : St}{vb jb : Pos}{j : Jc}{J : Jt}{P G : AV}{q g : List Int}
theorem apB(V:Vw s vb jb j J P G q g){w:AV}{r:List Int}(hw:QS 1 s w (r.map bV))(hl:r.length<=1000000){b:Nat}{x:Int}(hb:q[b]? =some x)(F:Nat):
  ∀(m k:Nat),r.length<=k+m->k<=r.length->∀k1 k2,oO c F k1 k2 (m+1) [.ptr vb 0,.int .i64 (b:Int),w,.int .i64 (r.length:Int),.int .i64 (k:Int)] s=if(r.drop k).contains x then k1 [.bool true] s else k2 [] s:=by
 obtain⟨pb,po,p⟩:=qq V.pq hb;have p1:=λ{R}=>@p.st R
 have p3:=p.one;have vc:=V.vc;intro m;induction m with
 |zero=>
  intro k h1 h2 k1 k2;obtain rfl:k=r.length:=by omega
  rw[qg];simp
 |succ m ih=>
  intro k h1 h2 k1 k2;by_cases hk:k<r.length
  . obtain⟨wb,wo,w⟩:=qq hw (H0 hk);have w1:=λ{R}=>@w.st R
    have w3:=w.one;have wr:av .i64 ((k:Int)+1)=((k+1:Nat):Int):=wrap64 (by omega) (by omega);rw[Zd6 hk,List.contains_cons];by_cases he:r[k]=x
    .   rw[qg];simp[hk,w1,w3,p1,p3,vc,he]
    .   have O9:(x==r[k])=false:=(by simpa using λe=>he e.symm);rw[O9,Bool.false_or, <-ih (k+1) (by omega) (by omega) k1 k2,qg];simp[hk,w1,w3,p1,p3,vc,he,wr]
  . obtain rfl:k=r.length:=(by omega);rw[qg];simp
theorem FM(hc:bw c)(V:Vw s vb jb j J P G q g){L:AV}{i:Nat}{lb:Pos}{lo:Nat}{w:AV}{r:List Int}(hL:Rd s 1 L i lb lo [w])(hw:QS 1 s w (r.map bV))(hlen:r.length<=1000){a b:Nat}{x:Int}(ha:q[a]? =some (i:Int))(hb:q[b]? =some x):
  c 163 [.ptr vb 0,L,.int .i64 (a:Int),.int .i64 (b:Int)] s=some (.bool (r.contains x),s):=by
 obtain⟨pb,po,p⟩:=qq V.pq ha;have p1:=λ{R}=>@p.st R
 have p3:=p.one;have l1:=λ{R}=>@hL.st R
 have l3:=hL.one;have vc:=V.vc;have ln:=λ(K:AV->St->Option (AV×St))=>hw.lenB (c:=c) K s
 rw[Za4]at ln;rw[Ux hc (r.length+1) (r:=(.bool (r.contains x),s)),aE (Plain.bool _) (aW.refl s)];have lp:=apB (c:=c) V hw (by omega) hb (r.length+1) r.length 0 (by omega) (by omega);rw[Ze6]at lp;rw[YN];simp only[az,bW,aO,Zb6,aU,vc,aB,Za8,Za5,Zc0,aV,p1,p3,l1,l3,ln];rw[show(0:Int)=((0:Nat):Int)from rfl,lp];generalize r.contains x=e;cases e<;>simp
theorem KG(ts:List aD)(i:Nat):(qL ts i).length<=1000/\(zV ts i).length<=1000:=by
 have h:N9 ts i<=24:=by
  unfold N9;split
  . rename_i t ht;have:=Wl t;omega
  . omega
 exact⟨Zb2 (Kk _ _ _) (by omega),Zb2 (Kk _ _ _) (by omega)⟩
def Yt(ts:List aD)(i:Nat)(x:Int):Bool:=(qL ts i).contains x||(zV ts i).contains x
theorem aeM(hc:bw c)(V:Vw s vb jb j J P G q g){a b i:Nat}{x:Int}(ha:q[a]? =some (i:Int))(hi:i<J.N)(hb:q[b]? =some x):
  c 170 [.ptr vb 0,.int .i64 (a:Int),.int .i64 (b:Int)] s=some (.bool (Yt J.p.ts i x),s):=by
 obtain⟨w,wb,wo,h1,h2⟩:=V.rB hi;obtain⟨w',wb',wo',h3,h4⟩:=V.rA hi;have c1:=FM hc V h1 h2 (KG _ _).1 ha hb;have c2:=FM hc V h3 h4 (KG _ _).2 ha hb;have vc:=V.vc;have jc:=V.jw.mA;rw[RY hc 1 (r:=(.bool (Yt J.p.ts i x),s)),aE (Plain.bool _) (aW.refl s)];rw[Wm];unfold Yt;cases h:(qL J.p.ts i).contains x<;>simp only[h]at c1<;>simp[vc,jc,c1,c2,-List.elem_eq_contains,-List.contains_eq_mem]
theorem ahn:∀(ts:List aD)(i:Nat),(i:Int)<aZ ts->cJ ts i<ts.length
 |[],i,h=>by simp[aZ]at h;omega
 |t ::ts,i,h=>by
  unfold cJ;split
  . simp
  . rename_i hn;have n1:0<=bI t:=Wn t;have e:aZ (t::ts)=bI t+aZ ts:=(by simp[aZ]);have:=ahn ts (i - (bI t).toNat) (by omega);simpa using this
theorem Vw.auF(V:Vw s vb jb j J P G q g){i:Nat}(hi:i<J.N):cJ J.p.ts i<J.p.ts.length:=ahn _ _ (by have:=V.jw.nN;omega)
def Wo(ts:List aD)(t:Nat):List Nat:=match ts[t]? with|some t=>t.name|none=>[]
def th(ts:List aD)(nm:List Nat)(i:Nat):Bool:=decide (nm=[])||decide (nm=Wo ts (cJ ts i))
theorem Vw.rN(V:Vw s vb jb j J P G q g){i:Nat}(hi:i<J.N):∃T v b o,J.p.ts[cJ J.p.ts i]? =some T/\Wo J.p.ts (cJ J.p.ts i)=T.name/\Rd s 7 j.V1 (cJ J.p.ts i) b o (T.ax v):=by
 have hT:=H0 (V.auF hi);obtain⟨v,b,o,h⟩:=V.rTab hT;exact⟨_,v,b,o,hT,by unfold Wo;rw[hT],h⟩
theorem GM(hc:bw c)(V:Vw s vb jb j J P G q g)(r:Rl){i:Nat}(hi:i<J.N):c 168 [.ptr vb 0,.agg r.cells,.int .i64 (i:Int)] s=some (.bool (th J.p.ts r.t i),s):=by
 rw[Uy hc 1 (r:=(.bool (th J.p.ts r.t i),ah s (.cells r.cells 0))),aE (Plain.bool _) (b9 V.wf)];rw[YO,dm];have V1:=V.ai (Grew.ah V.wf (.cells r.cells 0));have hb:=aA s (.cells r.cells 0);have e:AV.cells (.agg r.cells)=r.cells:=rfl;rw[e];generalize ah s (.cells r.cells 0)=s1 at*
 have vc:=V1.vc;have jc:=V1.jw.mA;obtain⟨b1,o1,t1⟩:=V1.rT hi;have t2:=λ{R}=>@t1.pr R
 have t3:=t1.one;obtain⟨T,v,b,o,_,hn,h⟩:=V1.rN hi;have h1:=λ{R}=>@h.pr R
 have h2:=h.at' 0 _ rfl;rw[Zf8]at h2;unfold th;rw[hn];by_cases h0:r.t=[]
 . simp[hb,h0]
 . have d0:decide (r.t=[])=false:=Za1 h0;simp[hb,vc,jc,t2,t3,h1,h2,d0]
theorem apC{R:Type}(K:AV->Option R){h:T AB}{m:Pos}{E:List (Int×Int)}(hm:h.get m=some (im E))(x:Int):
  jx (.lookup .i (.int .i64 0) true) [.map m,.int .i64 x] h (λ_=>true) K=K (.tuple [.int .i64 ((jZ E x).getD 0),.bool (jZ E x).isSome]):=by
 unfold jx;have e:aG.run (λ_=>none) .h (.lookup .i (.int .i64 0) true) [.map m,.int .i64 x]=none:=rfl;rw[e];simp only;have:aG.run (λb=>h.get b) .h (.lookup .i (.int .i64 0) true) [.map m,.int .i64 x]=some (.val (.tuple [.int .i64 ((jZ E x).getD 0),.bool (jZ E x).isSome])):=by
  unfold im at hm;cases hl:jZ E x with
  |none=>simp only[aG.run,lH,hm,(B8 x E 0 0).1 hl];rfl
  |some d=>obtain⟨n,e⟩:=(B8 x E 0 0).2 d hl;simp only[aG.run,lH,hm,e];rfl
 rw[this]
theorem anb(hc:bw c)(V:Vw s vb jb j J P G q g){a b i:Nat}{x:Int}(ha:q[a]? =some (i:Int))(hi:i<J.N)(hb:q[b]? =some x):
  c 162 [.ptr vb 0,.int .i64 (a:Int),.int .i64 (b:Int)] s=some (.tuple [.int .i64 ((jZ (J.steps i) x).getD 0),.bool (jZ (J.steps i) x).isSome],s):=by
 obtain⟨pb,po,p⟩:=qq V.pq ha;obtain⟨qb,qo,p'⟩:=qq V.pq hb;have p1:=λ{R}=>@p.pr R
 have p3:=p.one;have p4:=λ{R}=>@p'.pr R
 have p6:=p'.one;obtain⟨m,b1,o1,t1,t0⟩:=V.rS hi;have t2:=λ{R}=>@t1.pr R
 have t3:=t1.one;have vc:=V.vc;have jc:=V.jw.mA;have lk:=λ(K:AV->Option (AV×St))=>apC K t0 x
 rw[YP hc 1 (r:=(.tuple [.int .i64 ((jZ (J.steps i) x).getD 0),.bool (jZ (J.steps i) x).isSome],s)),aE (Plain.tuple (by simp[Plain.int,Plain.bool])) (aW.refl s)];rw[ach];simp[vc,jc,p1,p3,p4,p6,t2,t3,lk]
theorem QS.Wp{es:Nat}{v:AV}{rows:List (List AV)}(h:QS es s v rows):fV 3 v:=by
 rcases h with⟨rfl,_⟩|⟨b,off,cap,cs,rfl,_⟩|⟨b,off,rfl,_⟩
 . exact .flat rfl
 . refine .flat ?_;cases cap<;>simp[fH,Pos.beq_eq.2 rfl]
 . refine .flat ?_;simp[fH,Pos.beq_eq.2 rfl]
theorem JW.beq{s:St}(h:JW s jb j J):ey (.agg j.Vs) (.agg j.Vs)=true:=by
 obtain⟨s0,r1,r2,_,h1,h2⟩:=h.ps;obtain⟨V1,V2,V3,V4,V5,_,_,e,_,_,h3,_⟩:=(show PS s0 s j.Vs J.p from by assumption).all;refine TE λv hv=> ?_
 simp only[Jc.Vs,Zb0,Zc5,Zf2]at hv;simp only[Jc.Vs,Zg2]at e;rcases hv with rfl|rfl|rfl|rfl|rfl
 . exact QS.Wp h1.out.own
 . exact QS.Wp h2.out.own
 . rw[e.2.2.1];exact QS.Wp h3.own
 . exact QS.Wp h.cls
 . exact QS.Wp h.jq
theorem Vw.who(hc:bw c)(V:Vw s vb jb j J P G q g)(nm:List Nat):c 109 [.agg j.Vs,.str nm] s=some (.int .i64 (gi J.p nm),s):=by obtain⟨s0,r1,r2,h,_,_⟩:=V.jw.ps;exact apA hc h V.jw.xR nm
theorem PI(hc:bw c)(V:Vw s vb jb j J P G q g)(r:Rl){a b:Nat}{x y:Int}(ga:gi J.p r.a=(a:Int))(gb:gi J.p r.b=(b:Int))(ha:q[a]? =some x)(hb:q[b]? =some y):
   c 161 [.ptr vb 0,.agg r.cells] s=some (.tuple [.int .i64 (a:Int),.int .i64 (b:Int),.bool (decide (0<=x)&&decide (0<=y))],s):=by
 rw[Wq hc 1 (r:=(.tuple [.int .i64 (a:Int),.int .i64 (b:Int),.bool (decide (0<=x)&&decide (0<=y))],ah s (.cells r.cells 0))),aE (Plain.tuple (by simp[Plain.int,Plain.bool])) (b9 V.wf)];rw[aaT,dm];have V1:=V.ai (Grew.ah V.wf (.cells r.cells 0));have e8:=aA s (.cells r.cells 0);have e:AV.cells (.agg r.cells)=r.cells:=rfl;rw[e];generalize ah s (.cells r.cells 0)=s1 at*
 have vc:=V1.vc;have jc:=V1.jw.mA;obtain⟨pb,po,p⟩:=qq V1.pq ha;obtain⟨qb,qo,p'⟩:=qq V1.pq hb;have p1:=λ{R}=>@p.pr R
 have p3:=p.one;have p4:=λ{R}=>@p'.pr R
 have p6:=p'.one;have w1:=V1.who hc r.a;have w2:=V1.who hc r.b;rw[ga]at w1;rw[gb]at w2;have k1:=λ(K:AV->Option (AV×St))=>kY K (p:=vb) (o:=0) (h:=s1.heap) (h2:=s1.heap) (v:= .ptr jb 0) (by rw[vc];rfl) (by rw[vc];rfl) (by simp[ey,lM,fH,Pos.beq_eq.2 rfl])
 have k2:=λ(K:AV->Option (AV×St))=>ag6 K (m:=5) (p:=jb) (o:=0) (h:=s1.heap) (h2:=s1.heap) (l:=j.Vs) (by rw[jc];rfl) (by rw[jc];rfl) V1.jw.beq
 have k3:=λ(K:AV->Option (AV×St))=>kY K (p:=s.next) (o:=3) (h:=s1.heap) (h2:=s1.heap) (v:= .str r.b) (by rw[e8];rfl) (by rw[e8];rfl) (by simp[ey,lM,fH,mL.2 rfl])
 by_cases hx:0<=x
 . have d:decide (0<=x)=true:=Za0 hx;simp[e8,vc,jc,p1,p3,p4,p6,w1,w2,k1,k2,k3,d,hx]
 . have d:decide (0<=x)=false:=Za1 hx;simp[e8,vc,jc,p1,p3,p4,p6,w1,w2,k1,k2,k3,d,hx]
end
section
set_option maxRecDepth 100000
open Go Go.Ai Go.Proofs
def ia(M:St->Pos->Prop)(s s':St):Prop:=s.next.toNat<=s'.next.toNat/\Wf s'/\∀b x,¬M s b->s.heap.get b=some x->s'.heap.get b=some x/\¬M s' b
theorem ia.refl{M:St->Pos->Prop}{s:St}(hw:Wf s):ia M s s:=⟨Za3 _,hw,λ_ _ h1 h2=>⟨h2,h1⟩⟩
theorem ia.trans{M:St->Pos->Prop}{a b d:St}(h:ia M a b)(k:ia M b d):ia M a d:=⟨Zb2 h.1 k.1,k.2.1,λp x h1 h2=>by obtain⟨e1,e2⟩:=h.2.2 p x h1 h2;exact k.2.2 p x e2 e1⟩
structure kC(c:aj)(fv:AV)(s0:St)(I:St->List Ev->Prop)(M:St->Pos->Prop):Prop where
 ai:∀{s l},I s l->Grew s0 s
 grow:∀{s s' l},I s l->Grew s s'->I s' l
 mP:∀{s s' l b},I s l->Grew s s'->M s' b->M s b
 mlt:∀{s l b},I s l->M s b->b.toNat<s.next.toNat
 back:∀{s s' l l'},I s l->I s' l'->aW s s'->I s l'
 call:∀{s l}{k:Nat}{W:AV}{who:List Int},I s l->QS 1 s W (who.map bV)->fK l+k+who.length<=1000000->
  ∃s' v,(∀(K:AV->St->Option (AV×St)),aq c .callV [fv,.int .i64 (k:Int),W] s K=K v s')/\I s' (l++[(k,who)])/\ia M s s'
 one:fv.cells=[fv]/\fv.one=true
def qF(q:List Int)(g:Nat):Int:=q.getD g (-1)
theorem jt{q:List Int}{a:Nat}{x:Int}(h:q[a]? =some x):qF q a=x:=by unfold qF;rw[Zb1,h];rfl
section
variable{c : aj}{fv : AV}{s0 : St}{I : St -> List Ev -> Prop}{M : St -> Pos -> Prop}{s : St}{l l' : List Ev}
theorem kC.fin(H:kC c fv s0 I M)(hI:I s l){T:Option (AV×St)}{f:FuncId}{args:List AV}{v:AV}(hr:∀{r},T=some r->c f args s=some (tidy s r))(h:∃s',T=some (v,s')/\I s' l'):
   ∃s',c f args s=some (v,s')/\I s' l':=by
 obtain⟨s',h1,h2⟩:=h;have h3:=hr h1;unfold tidy at h3;split at h3
 . rename_i hk;exact⟨s,h3,H.back hI h2 hk.2⟩
 . exact⟨s',h3,h2⟩
theorem kC.fr(H:kC c fv s0 I M){s':St}(hI:I s l)(g:Grew s s'):ia M s s':=⟨g.next,g.wf,λb x h1 h2=>⟨g.get h2,λh=>h1 (H.mP hI g h)⟩⟩
theorem kC.RZ(H:kC c fv s0 I M)(hI:I s l)(hB:fK l+3<=1000000)(a b:Nat):
  ∃s' v,(∀(K:AV->St->Option (AV×St)),aq c (.buildSlice 1 2 [.int .i64 0] [0,1]) [.int .i64 (a:Int),.int .i64 (b:Int)] s (λx s=>aq c .callV [fv,.int .i64 1,x] s K)=K v s')/\I s' (l++[(1,[(a:Int),(b:Int)])])/\ia M s s':=by
 have hw:=(H.ai hI).wf;have e:cE (bR [AV.int .i64 0] 2) ([0,1].map λi=>(i*1,1)) [.int .i64 (a:Int),.int .i64 (b:Int)]=some [.int .i64 (a:Int),.int .i64 (b:Int)]:=by
  simp[cE,bR,dc,cZ,aX,AV.cells]
 obtain⟨s',v,h1,h2,h3⟩:=H.call (k:=1) (W:= .slice s.next 0 2 (some 2) 1) (who:=[(a:Int),(b:Int)]) (H.grow hI (Grew.ah hw (.cells [.int .i64 (a:Int),.int .i64 (b:Int)] 0)))
  (.inr (.inl ⟨s.next,0,some 2,_,rfl,aA _ _,by simp,by simp,.inr rfl⟩)) (by simp;omega)
 exact⟨s',v,λK=>by rw[au,e,eO];exact h1 K,h2,(H.fr hI (Grew.ah hw _)).trans h3⟩
theorem kC.Yu(H:kC c fv s0 I M)(hI:I s l)(hB:fK l+2<=1000000)(a:Nat):
  ∃s' v,(∀(K:AV->St->Option (AV×St)),aq c (.buildSlice 1 1 [.int .i64 0] [0]) [.int .i64 (a:Int)] s (λx s=>aq c .callV [fv,.int .i64 1,x] s K)=K v s')/\I s' (l++[(1,[(a:Int)])])/\ia M s s':=by
 have hw:=(H.ai hI).wf
 obtain⟨s',v,h1,h2,h3⟩:=H.call (k:=1) (W:= .slice s.next 0 1 (some 1) 1) (who:=[(a:Int)]) (H.grow hI (Grew.ah hw (.cells [.int .i64 (a:Int)] 0)))
  (.inr (.inl ⟨s.next,0,some 1,_,rfl,aA _ _,by simp,by simp,.inr rfl⟩)) (by simp;omega)
 exact⟨s',v,λK=>by rw[FJ rfl rfl];exact h1 K,h2,(H.fr hI (Grew.ah hw _)).trans h3⟩
end
section
variable{c : aj}{fv : AV}{s0 : St}{I : St -> List Ev -> Prop}{M : St -> Pos -> Prop}{s : St}{l : List Ev}{vb jb : Pos}{j : Jc}{J : Jt}{P G : AV}{q g : List Int}
def adE(J:Jt)(x y:Int):Option Int:=jZ (J.steps x.toNat) y
def yI(J:Jt)(x:Int):Nat:=cJ J.p.ts x.toNat
def aci(J:Jt)(r:Rl)(x y:Int):Bool:=decide (yI J x=yI J y)&&(decide (r.n=0)||((adE J x y).isSome&&decide ((adE J x y).getD 0<r.n)))
def ak6(J:Jt)(x y:Int):Bool:= !(qL J.p.ts x.toNat).contains y
def ak7(J:Jt)(x y:Int):Bool:= !(zV J.p.ts x.toNat).contains y
def af7(J:Jt)(r:Rl)(x y:Int):Bool:= !(adE J x y).isSome||decide (r.n<(adE J x y).getD 0)
def ak8(J:Jt)(x y:Int):Bool:= !decide (yI J x=yI J y)
structure Two(J:Jt)(q:List Int)(r:Rl)(a b:Nat)(x y:Int):Prop where
 ga:gi J.p r.a=(a:Int)
 gb:gi J.p r.b=(b:Int)
 qa:q[a]? =some x
 qb:q[b]? =some y
theorem Two.two{r:Rl}{a b:Nat}{x y:Int}(h:Two J q r a b x y)(P:Int->Int->Bool):Dc (qF q) a b P=yH (decide (0<=x)&&decide (0<=y)&&P x y) 1 [(a:Int),(b:Int)]:=by
 unfold Dc on;rw[jt h.qa,jt h.qb]
theorem apD (hc:bw c)(H:kC c fv s0 I M)(V:Vw s0 vb jb j J P G q g){r:Rl}{a b:Nat}{x y:Int}(hT:Two J q r a b x y)(hI:I s l)(hB:fK l+3<=1000000):
   ∃s',c 90 [.ptr vb 0,.agg r.cells,fv] s=some (.tuple [],s')/\I s' (l++Dc (qF q) a b (aci J r)):=by
 refine H.fin hI (λh=>Uz hc 1 h) ?_;have hw:=(H.ai hI).wf;have dI:=H.grow hI (Grew.ah hw (.cells r.cells 0));have V1:=V.ai (H.ai dI);have e8:=aA s (.cells r.cells 0);rw[hT.two,YQ,dm,show AV.cells (.agg r.cells)=r.cells from rfl];generalize ah s (.cells r.cells 0)=s1 at*
 have vc:=V1.vc;have jc:=V1.jw.mA;have bo:=PI hc V1 r hT.ga hT.gb hT.qa hT.qb;obtain⟨pb,po,p⟩:=qq V1.pq hT.qa;obtain⟨qb,qo,p'⟩:=qq V1.pq hT.qb;have p1:=λ{R}=>@p.pr R
 have p3:=p.one;have p4:=λ{R}=>@p'.pr R
 have p6:=p'.one;obtain⟨s2,v2,e1,e2,_⟩:=H.RZ dI hB a b;by_cases hx:0<=x
 . by_cases hy:0<=y
   . obtain ⟨ i,rfl,hi⟩:=V1.kB hT.qa hx;obtain⟨k,rfl,hk⟩:=V1.kB hT.qb hy;obtain⟨tb,to,t⟩:=V1.rT hi;obtain⟨ub,uo,u⟩:=V1.rT hk;have t1:=λ{R}=>@t.pr R
     have t3:=t.one;have u1:=λ{R}=>@u.pr R
     have u3:=u.one;have fa:=anb hc V1 hT.qa hi hT.qb;unfold aci yI adE;simp only[Zc7];by_cases ht:cJ J.p.ts i=cJ J.p.ts k
     .  have d1:decide (((cJ J.p.ts i:Nat):Int)=((cJ J.p.ts k:Nat):Int))=true:=Za0 (by omega);by_cases hn:r.n=0
        . refine⟨s2,?_,by simpa [hx,hy,ht,hn,rf]using e2⟩;simp[-au,e8,bo,hx,hy,vc,jc,p1,p3,p4,p6,t1,t3,u1,u3,ht,fa,hn,e1]
        . by_cases hs:(jZ (J.steps i) (k:Int)).isSome=true
          . by_cases hl:(jZ (J.steps i) (k:Int)).getD 0<r.n
            . refine⟨s2,?_,by simpa [hx,hy,ht,hn,hs,hl,rf]using e2⟩;simp[-au,e8,bo,hx,hy,vc,jc,p1,p3,p4,p6,t1,t3,u1,u3,ht,fa,hn,hs,hl,e1]
            . refine⟨s1,?_,by simpa [hx,hy,ht,hn,hs,hl,dZ]using dI⟩;simp[-au,e8,bo,hx,hy,vc,jc,p1,p3,p4,p6,t1,t3,u1,u3,ht,fa,hn,hs,hl,e1]
          . have hs:(jZ (J.steps i) (k:Int)).isSome=false:=(by simpa using hs);refine⟨s1,?_,by simpa [hx,hy,ht,hn,hs,dZ]using dI⟩;simp[-au,e8,bo,hx,hy,vc,jc,p1,p3,p4,p6,t1,t3,u1,u3,ht,fa,hn,hs,e1]
     .  have d1:decide (((cJ J.p.ts i:Nat):Int)=((cJ J.p.ts k:Nat):Int))=false:=Za1 (by omega);refine⟨s1,?_,by simpa [ht,dZ]using dI⟩;simp[-au,e8,bo,hx,hy,vc,jc,p1,p3,p4,p6,t1,t3,u1,u3,d1]
   . refine⟨s1,?_,by simpa [hy,dZ]using dI⟩;simp[-au,e8,bo,hy]
 . refine⟨s1,?_,by simpa [hx,dZ]using dI⟩;simp[-au,e8,bo,hx]
theorem afp(hc:bw c)(H:kC c fv s0 I M)(V:Vw s0 vb jb j J P G q g){r:Rl}{a b:Nat}{x y:Int}(hT:Two J q r a b x y)(hI:I s l)(hB:fK l+3<=1000000):
   ∃s',c 91 [.ptr vb 0,.agg r.cells,fv] s=some (.tuple [],s')/\I s' (l++Dc (qF q) a b (ak6 J)):=by
 refine H.fin hI (λh=>Lg hc 1 h) ?_;have hw:=(H.ai hI).wf;have dI:=H.grow hI (Grew.ah hw (.cells r.cells 0));have V1:=V.ai (H.ai dI);have e8:=aA s (.cells r.cells 0);rw[hT.two,Oa,dm,show AV.cells (.agg r.cells)=r.cells from rfl];generalize ah s (.cells r.cells 0)=s1 at*
 have vc:=V1.vc;have jc:=V1.jw.mA;have bo:=PI hc V1 r hT.ga hT.gb hT.qa hT.qb;obtain⟨s2,v2,e1,e2,_⟩:=H.RZ dI hB a b;by_cases hx:0<=x
 . by_cases hy:0<=y
   . obtain⟨i,rfl,hi⟩:=V1.kB hT.qa hx;obtain⟨w,wb,wo,h1,h2⟩:=V1.rB hi;have c1:=FM hc V1 h1 h2 (KG _ _).1 hT.qa hT.qb;unfold ak6;simp only[Zc7];generalize (qL J.p.ts i).contains y=e at*
     cases e
     .  refine⟨s2,?_,by simpa [hx,hy,rf]using e2⟩;simp[-au,e8,bo,hx,hy,vc,jc,c1,e1]
     .  refine⟨s1,?_,by simpa [hx,hy,dZ]using dI⟩;simp[-au,e8,bo,hx,hy,vc,jc,c1]
   . refine⟨s1,?_,by simpa [hy,dZ]using dI⟩;simp[-au,e8,bo,hy]
 . refine⟨s1,?_,by simpa [hx,dZ]using dI⟩;simp[-au,e8,bo,hx]
theorem afq(hc:bw c)(H:kC c fv s0 I M)(V:Vw s0 vb jb j J P G q g){r:Rl}{a b:Nat}{x y:Int}(hT:Two J q r a b x y)(hI:I s l)(hB:fK l+3<=1000000):
   ∃s',c 92 [.ptr vb 0,.agg r.cells,fv] s=some (.tuple [],s')/\I s' (l++Dc (qF q) a b (ak7 J)):=by
 refine H.fin hI (λh=>Lh hc 1 h) ?_;have hw:=(H.ai hI).wf;have dI:=H.grow hI (Grew.ah hw (.cells r.cells 0));have V1:=V.ai (H.ai dI);have e8:=aA s (.cells r.cells 0);rw[hT.two,Ob,dm,show AV.cells (.agg r.cells)=r.cells from rfl];generalize ah s (.cells r.cells 0)=s1 at*
 have vc:=V1.vc;have jc:=V1.jw.mA;have bo:=PI hc V1 r hT.ga hT.gb hT.qa hT.qb;obtain⟨s2,v2,e1,e2,_⟩:=H.RZ dI hB a b;by_cases hx:0<=x
 . by_cases hy:0<=y
   . obtain⟨i,rfl,hi⟩:=V1.kB hT.qa hx;obtain⟨w,wb,wo,h1,h2⟩:=V1.rA hi;have c1:=FM hc V1 h1 h2 (KG _ _).2 hT.qa hT.qb;unfold ak7;simp only[Zc7];generalize (zV J.p.ts i).contains y=e at*
     cases e
     .  refine⟨s2,?_,by simpa [hx,hy,rf]using e2⟩;simp[-au,e8,bo,hx,hy,vc,jc,c1,e1]
     .  refine⟨s1,?_,by simpa [hx,hy,dZ]using dI⟩;simp[-au,e8,bo,hx,hy,vc,jc,c1]
   . refine⟨s1,?_,by simpa [hy,dZ]using dI⟩;simp[-au,e8,bo,hy]
 . refine⟨s1,?_,by simpa [hx,dZ]using dI⟩;simp[-au,e8,bo,hx]
theorem ak9(hc:bw c)(H:kC c fv s0 I M)(V:Vw s0 vb jb j J P G q g){r:Rl}{a b:Nat}{x y:Int}(hT:Two J q r a b x y)(hI:I s l)(hB:fK l+3<=1000000):
   ∃s',c 93 [.ptr vb 0,.agg r.cells,fv] s=some (.tuple [],s')/\I s' (l++Dc (qF q) a b (af7 J r)):=by
 refine H.fin hI (λh=>R4 hc 1 h) ?_;have hw:=(H.ai hI).wf;have dI:=H.grow hI (Grew.ah hw (.cells r.cells 0));have V1:=V.ai (H.ai dI);have e8:=aA s (.cells r.cells 0);rw[hT.two,Wr,dm,show AV.cells (.agg r.cells)=r.cells from rfl];generalize ah s (.cells r.cells 0)=s1 at*
 have vc:=V1.vc;have jc:=V1.jw.mA;have bo:=PI hc V1 r hT.ga hT.gb hT.qa hT.qb;obtain⟨s2,v2,e1,e2,_⟩:=H.RZ dI hB a b;by_cases hx:0<=x
 . by_cases hy:0<=y
   . obtain⟨i,rfl,hi⟩:=V1.kB hT.qa hx;have fa:=anb hc V1 hT.qa hi hT.qb;unfold af7 adE;simp only[Zc7];by_cases hs:(jZ (J.steps i) y).isSome=true
     .  by_cases hl:r.n<(jZ (J.steps i) y).getD 0
        . refine⟨s2,?_,by simpa [hx,hy,hs,hl,rf]using e2⟩;simp[-au,e8,bo,hx,hy,vc,jc,fa,hs,hl,e1]
        . refine⟨s1,?_,by simpa [hx,hy,hs,hl,dZ]using dI⟩;simp[-au,e8,bo,hx,hy,vc,jc,fa,hs,hl,e1]
     .  have hs:(jZ (J.steps i) y).isSome=false:=(by simpa using hs);refine⟨s2,?_,by simpa [hx,hy,hs,rf]using e2⟩;simp[-au,e8,bo,hx,hy,vc,jc,fa,hs,e1]
   . refine⟨s1,?_,by simpa [hy,dZ]using dI⟩;simp[-au,e8,bo,hy]
 . refine⟨s1,?_,by simpa [hx,dZ]using dI⟩;simp[-au,e8,bo,hx]
theorem ai5(hc:bw c)(H:kC c fv s0 I M)(V:Vw s0 vb jb j J P G q g){r:Rl}{a b:Nat}{x y:Int}(hT:Two J q r a b x y)(hI:I s l)(hB:fK l+3<=1000000):
   ∃s',c 94 [.ptr vb 0,.agg r.cells,fv] s=some (.tuple [],s')/\I s' (l++Dc (qF q) a b (ak8 J)):=by
 refine H.fin hI (λh=>Oc hc 1 h) ?_;have hw:=(H.ai hI).wf;have dI:=H.grow hI (Grew.ah hw (.cells r.cells 0));have V1:=V.ai (H.ai dI);have e8:=aA s (.cells r.cells 0);rw[hT.two,R5,dm,show AV.cells (.agg r.cells)=r.cells from rfl];generalize ah s (.cells r.cells 0)=s1 at*
 have vc:=V1.vc;have jc:=V1.jw.mA;have bo:=PI hc V1 r hT.ga hT.gb hT.qa hT.qb;obtain⟨pb,po,p⟩:=qq V1.pq hT.qa;obtain⟨qb,qo,p'⟩:=qq V1.pq hT.qb;have p1:=λ{R}=>@p.pr R
 have p3:=p.one;have p4:=λ{R}=>@p'.pr R
 have p6:=p'.one;obtain⟨s2,v2,e1,e2,_⟩:=H.RZ dI hB a b;by_cases hx:0<=x
 . by_cases hy:0<=y
   . obtain⟨i,rfl,hi⟩:=V1.kB hT.qa hx;obtain⟨k,rfl,hk⟩:=V1.kB hT.qb hy;obtain⟨tb,to,t⟩:=V1.rT hi;obtain⟨ub,uo,u⟩:=V1.rT hk;have t1:=λ{R}=>@t.pr R
     have t3:=t.one;have u1:=λ{R}=>@u.pr R
     have u3:=u.one;unfold ak8 yI;simp only[Zc7];by_cases ht:cJ J.p.ts i=cJ J.p.ts k
     .  refine⟨s1,?_,by simpa [ht,dZ]using dI⟩;simp[-au,e8,bo,hx,hy,vc,jc,p1,p3,p4,p6,t1,t3,u1,u3,ht]
     .  have d1:decide (((cJ J.p.ts i:Nat):Int)=((cJ J.p.ts k:Nat):Int))=false:=Za1 (by omega);refine⟨s2,?_,by simpa [hx,hy,ht,rf]using e2⟩;simp[-au,e8,bo,hx,hy,vc,jc,p1,p3,p4,p6,t1,t3,u1,u3,d1,e1]
   . refine⟨s1,?_,by simpa [hy,dZ]using dI⟩;simp[-au,e8,bo,hy]
 . refine⟨s1,?_,by simpa [hx,dZ]using dI⟩;simp[-au,e8,bo,hx]
def atP(J:Jt)(r:Rl)(x:Int):Bool:= !decide (Wo J.p.ts (yI J x)=r.t)
def af8(J:Jt)(r:Rl)(x:Int):Bool:= !decide (Wo J.p.ts (yI J x)=r.t)|| !decide (x - ((Bg (cJ J.p.ts) (yI J x) x.toNat:Nat):Int)=r.n)
theorem aj3{a:Nat}{x:Int}(h:q[a]? =some x)(P:Int->Bool):Wk (qF q) a P=yH (decide (0<=x)&&P x) 1 [(a:Int)]:=by
 unfold Wk on;rw[jt h]
theorem atA(hc:bw c)(H:kC c fv s0 I M)(V:Vw s0 vb jb j J P G q g){r:Rl}{a:Nat}{x:Int}(ga:gi J.p r.a=(a:Int))(ha:q[a]? =some x)(hI:I s l)(hB:fK l+2<=1000000):
   ∃s',c 95 [.ptr vb 0,.agg r.cells,fv] s=some (.tuple [],s')/\I s' (l++Wk (qF q) a (atP J r)):=by
 refine H.fin hI (λh=>aaU hc 1 h) ?_;have hw:=(H.ai hI).wf;have dI:=H.grow hI (Grew.ah hw (.cells r.cells 0));have V1:=V.ai (H.ai dI);have e8:=aA s (.cells r.cells 0);rw[aj3 ha,adF,dm,show AV.cells (.agg r.cells)=r.cells from rfl];generalize ah s (.cells r.cells 0)=s1 at*
 have vc:=V1.vc;have jc:=V1.jw.mA;have wh:=V1.who hc r.a;rw[ga]at wh;obtain⟨pb,po,p⟩:=qq V1.pq ha;have p1:=λ{R}=>@p.st R
 have p3:=p.one;obtain⟨s2,v2,e1,e2,_⟩:=H.Yu dI hB a;by_cases hx:0<=x
 . obtain⟨i,rfl,hi⟩:=V1.kB ha hx;obtain⟨tb,to,t⟩:=V1.rT hi;have t1:=λ{R}=>@t.pr R
   have t3:=t.one;obtain⟨T,v,b,o,_,hn,h⟩:=V1.rN hi;have h1:=λ{R}=>@h.pr R
   have h2:=h.at' 0 _ rfl;rw[Zf8]at h2;unfold atP yI;simp only[Zc7,hn];by_cases hd:T.name=r.t
   . refine⟨s1,?_,by simpa [hd,dZ]using dI⟩;simp[-au,e8,vc,jc,wh,p1,p3,hx,t1,t3,h1,h2,hd]
   . have d1:decide (T.name=r.t)=false:=Za1 hd;refine⟨s2,?_,by simpa [hd,rf]using e2⟩;simp[-au,e8,vc,jc,wh,p1,p3,hx,t1,t3,h1,h2,d1,e1]
 . refine⟨s1,?_,by simpa [hx,dZ]using dI⟩;simp[-au,e8,vc,jc,wh,p1,p3,hx]
theorem ar6(V:Vw s vb jb j J P G q g){i0:Nat}(sP:i0<J.N)(x2 x4 x6:AV)(F:Nat)(k2):∀(m i f:Nat),m<f->i<=m->i<J.N->
  pO c F k2 f [.ptr vb 0,x2,x4,x6,.int .i64 (i0:Int),.int .i64 (i:Int)] s=k2 [.ptr vb 0,x2,x4,x6,.int .i64 (i0:Int),.int .i64 ((Bg (cJ J.p.ts) (cJ J.p.ts i0) i:Nat):Int)] s:=by
 have vc:=V.vc;have jc:=V.jw.mA;obtain⟨tb,to,t⟩:=V.rT sP;have t1:=λ{R}=>@t.pr R
 have t3:=t.one;intro m;induction m with
 |zero=>
  intro i f hf hi _;obtain⟨f,rfl⟩:∃g,f=g+1:=⟨f - 1,by omega⟩
  obtain rfl:i=0:=by omega
  rw[ri];simp[Bg]
 |succ m ih=>
  intro i f hf hi hN;obtain⟨f,rfl⟩:∃g,f=g+1:=⟨f - 1,by omega⟩
  cases i with
  |zero=>rw[ri];simp[Bg]
  |succ i=>
   have wr:av .i64 (((i+1:Nat):Int) - 1)=(i:Int):=(by rw[wrap64 (by omega) (by have:=V.jw.nN;have:=V.jw.xR.ts;have:=(pH J.p.ts).2;omega)];omega);obtain⟨ub,uo,u⟩:=V.rT (i:=i) (by omega);have u1:=λ{R}=>@u.pr R
   have u3:=u.one;have hp:(0:Int)<((i+1:Nat):Int):=(by omega);unfold Bg;by_cases ht:cJ J.p.ts i=cJ J.p.ts i0
   .    rw[Zb3 ht, <-ih i f (by omega) (by omega) (by omega),ri];have d1:decide (((cJ J.p.ts i:Nat):Int)=((cJ J.p.ts i0:Nat):Int))=true:=Za0 (by omega);have Gs:(0:Int)<(i:Int)+1:=(by omega);have wr2:av .i64 ((i:Int)+1 - 1)=(i:Int):=(by rw[show((i:Int)+1)=((i+1:Nat):Int)by omega];exact wr);simp only[aH,bh,dz,ajK,Za0 hp,ads,qC,br,Zb6,ajE,kK,vc,jc,aB,Za8,Za5,Jc.c6,aV,ajR,wr,u1,u3,t1,t3,adv,d1,RB,dG,az,adw]
   .    rw[Za7 ht,ri];have d1:decide (((cJ J.p.ts i:Nat):Int)=((cJ J.p.ts i0:Nat):Int))=false:=Za1 (by omega);simp only[aH,bh,dz,ajK,Za0 hp,ads,qC,br,Zb6,ajE,kK,vc,jc,aB,Za8,Za5,Jc.c6,aV,ajR,wr,u1,u3,t1,t3,adv,d1,RB,di]
theorem Vw.EP(V:Vw s vb jb j J P G q g):J.N<=100000/\J.n<=100:=by have:=V.jw.nN;have:=V.jw.xR.ts;have:=(pH J.p.ts).2;have:=V.jw.xR.gs;unfold Jt.n;omega
theorem aho(tab:Nat->Nat)(t:Nat):∀i,Bg tab t i<=i
 |0=>Za3 _
 |i+1=>by have:=aho tab t i;unfold Bg;split<;>omega
theorem apE(hc:bw c)(H:kC c fv s0 I M)(V:Vw s0 vb jb j J P G q g){r:Rl}{a:Nat}{x:Int}(ga:gi J.p r.a=(a:Int))(ha:q[a]? =some x)(hI:I s l)(hB:fK l+2<=1000000):
   ∃s',c 96 [.ptr vb 0,.agg r.cells,fv] s=some (.tuple [],s')/\I s' (l++Wk (qF q) a (af8 J r)):=by
 refine H.fin hI (λh=>Ws hc (x.toNat+1) h) ?_;have hw:=(H.ai hI).wf;have dI:=H.grow hI (Grew.ah hw (.cells r.cells 0));have V1:=V.ai (H.ai dI);have e8:=aA s (.cells r.cells 0);rw[aj3 ha,aaV,dm,show AV.cells (.agg r.cells)=r.cells from rfl];generalize ah s (.cells r.cells 0)=s1 at*
 have vc:=V1.vc;have jc:=V1.jw.mA;have wh:=V1.who hc r.a;rw[ga]at wh;obtain⟨pb,po,p⟩:=qq V1.pq ha;have p1:=λ{R}=>@p.st R
 have p3:=p.one;obtain⟨s2,v2,e1,e2,_⟩:=H.Yu dI hB a;by_cases hx:0<=x
 . obtain⟨i,rfl,hi⟩:=V1.kB ha hx;have hN:=V1.EP;obtain⟨tb,to,t⟩:=V1.rT hi;have t1:=λ{R}=>@t.pr R
   have t3:=t.one;obtain⟨T,v,b,o,_,hn,h⟩:=V1.rN hi;have h1:=λ{R}=>@h.pr R
   have h2:=h.at' 0 _ rfl;rw[Zf8]at h2;have lp:=λk2=>ar6 (c:=c) V1 hi fv (.ptr s.next 0) (.int .i64 (a:Int)) (i+1) k2 i i (i+1) (by omega) (by omega) hi
   have bl:=aho (cJ J.p.ts) (cJ J.p.ts i) i;have ws:av .i64 ((i:Int) - ((Bg (cJ J.p.ts) (cJ J.p.ts i) i:Nat):Int))=(i:Int) - ((Bg (cJ J.p.ts) (cJ J.p.ts i) i:Nat):Int):=wrap64 (by omega) (by omega);unfold af8 yI;simp only[Zc7,hn];have dx:decide ((i:Int)<0)=false:=Za1 (by omega);by_cases hd:T.name=r.t
   . by_cases hm:(i:Int) - ((Bg (cJ J.p.ts) (cJ J.p.ts i) i:Nat):Int)=r.n
     .  refine⟨s1,?_,by simpa [hd,hm,dZ]using dI⟩;have ws':av .i64 r.n=r.n:=(by rw[<-hm];exact ws);simp[-au,e8,vc,jc,wh,p1,p3,dx,lp,t1,t3,h1,h2,hd,ws',hm]
     .  have d2:decide ((i:Int) - ((Bg (cJ J.p.ts) (cJ J.p.ts i) i:Nat):Int)=r.n)=false:=Za1 hm;refine⟨s2,?_,by simpa [hd,hm,rf]using e2⟩;simp[-au,e8,vc,jc,wh,p1,p3,dx,lp,t1,t3,h1,h2,hd,ws,d2,e1]
   . have d1:decide (T.name=r.t)=false:=Za1 hd;refine⟨s2,?_,by simpa [hd,rf]using e2⟩;simp[-au,e8,vc,jc,wh,p1,p3,dx,lp,t1,t3,h1,h2,d1,e1]
 . have dx:decide (x<0)=true:=Za0 (by omega);refine⟨s1,?_,by simpa [hx,dZ]using dI⟩;simp[-au,e8,vc,jc,wh,p1,p3,dx]
end
def SoC(c:aj)(sv:AV)(M:St->Pos->Prop)(s0 sB:St)(J:Jt)(q:List Int)(S:Nat->Nat->Int->Int->Bool):Prop:=
 ∀{s},Grew s0 s->ia M sB s->∀{a b i k:Nat},q[a]? =some (i:Int)->q[b]? =some (k:Int)->i<J.N->k<J.N->∀(K:AV->St->Option (AV×St)),aq c .callV [sv,.int .i64 (a:Int),.int .i64 (b:Int)] s K=K (.bool (S a b (i:Int) (k:Int))) s
section
variable{c : aj}{fv : AV}{s0 sB : St}{I : St -> List Ev -> Prop}{M : St -> Pos -> Prop}{s : St}{l : List Ev}{vb jb : Pos}{j : Jc}{J : Jt}{P G : AV}{q g : List Int}
def prP(J:Jt)(S:Nat->Nat->Int->Int->Bool)(a b:Nat)(x y:Int):Bool:=decide (yI J y=yI J x)&&S a b x y
theorem anc{a b:Nat}{x y:Int}(ha:q[a]? =some x)(hb:q[b]? =some y)(P:Nat->Nat->Int->Int->Bool):vg (qF q) P a b=yH (decide (0<=x)&&decide (0<=y)&&P a b x y) 1 [(a:Int),(b:Int)]:=by
 unfold vg on;rw[jt ha,jt hb]
theorem ahp(P:Nat->Nat->Int->Int->Bool)(a b:Nat):fK (vg (qF q) P a b)<=3:=GJ _ _ _
theorem apF(H:kC c fv s0 I M)(V:Vw s0 vb jb j J P G q g){sv:AV}{S:Nat->Nat->Int->Int->Bool}(hS:SoC c sv M s0 sB J q S){a i:Nat}(ha:q[a]? =some (i:Int))(hi:i<J.N)(x5 Li x16 x17:AV)(F:Nat):
  ∀(m b f:Nat)(s:St)(l:List Ev),b+m=q.length->m<f->I s l->ia M sB s->fK l+3*m<=1000000->∃s',I s' (l++cF (vg (qF q) (prP J S) a) m b)/\ia M sB s'/\
   ∀k4,ir c F k4 f [.ptr vb 0,sv,fv,x5,.int .i64 (a:Int),.int .i64 (i:Int),.int .i64 (b:Int),Li,x16,x17] s=k4 [.ptr vb 0,sv,fv,x5,Li,x16,x17] s':=by
 intro m;induction m with
 |zero=>
  intro b f s l hb hf hI hF hB;obtain⟨f,rfl⟩:∃g,f=g+1:=⟨f - 1,by omega⟩
  have V1:=V.ai (H.ai hI);have vc:=V1.vc;have ln:=λ(K:AV->St->Option (AV×St))=>V1.pq.lenB (c:=c) K s
  rw[Za4]at ln;refine⟨s,by simpa [cF]using hI,hF,λk4=> ?_⟩;obtain rfl:b=q.length:=by omega
  rw[mQ];simp[vc,ln]
 |succ m ih=>
  intro b f s l hb hf hI hF hB;obtain⟨f,rfl⟩:∃g,f=g+1:=⟨f - 1,by omega⟩
  have V1:=V.ai (H.ai hI);have vc:=V1.vc;have jc:=V1.jw.mA;have ln:=λ(K:AV->St->Option (AV×St))=>V1.pq.lenB (c:=c) K s
  rw[Za4]at ln;have zC:b<q.length:=by omega
  obtain⟨y,hy⟩:∃y,q[b]? =some y:=⟨_,H0 zC⟩
  obtain⟨pb,po,p⟩:=qq V1.pq hy;have p1:=λ{R}=>@p.st R
  have p3:=p.one;have hN:=V1.EP;have jz:=V.ql;have wr:av .i64 ((b:Int)+1)=((b+1:Nat):Int):=wrap64 (by omega) (by omega)
  have step:∃s2,I s2 (l++vg (qF q) (prP J S) a b)/\ia M sB s2/\∀k4,ir c F k4 (f+1) [.ptr vb 0,sv,fv,x5,.int .i64 (a:Int),.int .i64 (i:Int),.int .i64 (b:Int),Li,x16,x17] s=
        ir c F k4 f [.ptr vb 0,sv,fv,x5,.int .i64 (a:Int),.int .i64 (i:Int),.int .i64 ((b+1:Nat):Int),Li,x16,x17] s2:=by
   rw[anc ha hy];by_cases h0:0<=y
   .    obtain⟨k,rfl,hk⟩:=V1.kB hy h0;obtain⟨tb,to,t⟩:=V1.rT hi;obtain⟨ub,uo,u⟩:=V1.rT hk;have t1:=λ{R}=>@t.pr R
        have t3:=t.one;have u1:=λ{R}=>@u.pr R
        have u3:=u.one;unfold prP yI;simp only[Zc7];by_cases ht:cJ J.p.ts k=cJ J.p.ts i
        . have so:=hS (H.ai hI) hF ha hy hi hk;generalize S a b (i:Int) (k:Int)=e at*
          cases e
          . refine⟨s,by simpa [ht,dZ]using hI,hF,λk4=> ?_⟩;rw[mQ];simp[-au,cL,zC,vc,ln,jc,p1,p3,t1,t3,u1,u3,ht,so,wr]
          . obtain⟨s2,v2,e1,e2,e3⟩:=H.RZ hI (by omega) a b;refine⟨s2,by simpa [ht,rf]using e2,hF.trans e3,λk4=> ?_⟩;rw[mQ];simp[-au,cL,zC,vc,ln,jc,p1,p3,t1,t3,u1,u3,ht,so,wr,e1]
        . have d1:decide (((cJ J.p.ts k:Nat):Int)=((cJ J.p.ts i:Nat):Int))=false:=Za1 (by omega);refine⟨s,by simpa [ht,dZ]using hI,hF,λk4=> ?_⟩;rw[mQ];simp[-au,cL,zC,vc,ln,jc,p1,p3,t1,t3,u1,u3,d1,wr]
   .    refine⟨s,by simpa [h0,dZ]using hI,hF,λk4=> ?_⟩;rw[mQ];simp[-au,cL,zC,vc,ln,jc,p1,p3,h0,wr]
  obtain⟨s2,a1,a2,a3⟩:=step;have u6:=ahp (q:=q) (prP J S) a b;obtain⟨s',z1,z2,z3⟩:=ih (b+1) f s2 _ (by omega) (by omega) a1 a2 (by rw[KF];omega);exact⟨s',by rw[cF, <-Zf4];exact z1,z2,λk4=>by rw[a3,z3]⟩
def rj(J:Jt)(r:Rl)(S:Nat->Nat->Int->Int->Bool)(a b:Nat)(x y:Int):Bool:=th J.p.ts r.t x.toNat&&prP J S a b x y
theorem Wt(P:Nat->Nat->Int->Int->Bool)(a:Nat):∀m k,fK (cF (vg (qF q) P a) m k)<=3*m:=λm k=>by have:=AA (f:=vg (qF q) P a) (B:=3) (λk=>ahp P a k) m k;omega
theorem apG(hc:bw c)(H:kC c fv s0 I M)(V:Vw s0 vb jb j J P G q g){sv:AV}{S:Nat->Nat->Int->Int->Bool}(hS:SoC c sv M s0 sB J q S){r:Rl}{rb:Pos}(hr:sB.heap.get rb=some (.cells r.cells 0))(tj:¬M sB rb)(F:Nat)(hFu:q.length<F):
  ∀(m a f:Nat)(s:St)(l:List Ev),a+m=q.length->m<f->I s l->ia M sB s->fK l+3*q.length*m<=1000000->∃s',I s' (l++cF (λa=>cF (vg (qF q) (rj J r S) a) (q.length - (a+1)) (a+1)) m a)/\ia M sB s'/\
   ∀k2,jC c F k2 f [.ptr vb 0,sv,fv,.ptr rb 0,P,.int .i64 (q.length:Int),.int .i64 (a:Int)] s=k2 [] s':=by
 intro m;induction m with
 |zero=>
  intro a f s l hb hf hI hF hB;obtain⟨f,rfl⟩:∃g,f=g+1:=⟨f - 1,by omega⟩
  refine⟨s,by simpa [cF]using hI,hF,λk2=> ?_⟩;obtain rfl:a=q.length:=by omega
  rw[qh];simp
 |succ m ih=>
  intro a f s l hb hf hI hF hB;obtain⟨f,rfl⟩:∃g,f=g+1:=⟨f - 1,by omega⟩
  have V1:=V.ai (H.ai hI);have vc:=V1.vc;have oE:a<q.length:=by omega
  obtain⟨y,hy⟩:∃y,q[a]? =some y:=⟨_,H0 oE⟩
  obtain⟨pb,po,p⟩:=qq V1.pq hy;have p1:=λ{R}=>@p.st R
  have p3:=p.one;have hN:=V1.EP;have jz:=V.ql;have e8:=(hF.2.2 rb _ tj hr).1;have wr:av .i64 ((a:Int)+1)=((a+1:Nat):Int):=wrap64 (by omega) (by omega);rw[Nat.mul_succ]at hB;have fp:=aj2 (qF q) (λx=>th J.p.ts r.t x.toNat) (prP J S) a (q.length - (a+1)) (a+1);have fp:cF (vg (qF q) (rj J r S) a) (q.length - (a+1)) (a+1)=_:=fp;have e0:on (qF q) a=decide (0<=y):=by unfold on;rw[jt hy]
  rw[e0,jt hy]at fp
  have step:∃s2,I s2 (l++cF (vg (qF q) (rj J r S) a) (q.length - (a+1)) (a+1))/\ia M sB s2/\∀k2,jC c F k2 (f+1) [.ptr vb 0,sv,fv,.ptr rb 0,P,.int .i64 (q.length:Int),.int .i64 (a:Int)] s=
        jC c F k2 f [.ptr vb 0,sv,fv,.ptr rb 0,P,.int .i64 (q.length:Int),.int .i64 ((a+1:Nat):Int)] s2:=by
   rw[fp];by_cases h0:0<=y
   .    obtain⟨i,rfl,hi⟩:=V1.kB hy h0;have dn:decide ((i:Int)<0)=false:=Za1 (by omega);have ak:=GM hc V1 r hi;simp only[Zc7,Za0 h0,Zg6];generalize th J.p.ts r.t i=e at*
        cases e
        . refine⟨s,by simpa using hI,hF,λk2=> ?_⟩;rw[qh];simp[-au,cL,oE,p1,p3,dn,e8,ak,wr]
        . obtain⟨s2,z1,z2,z3⟩:=apF (c:=c) H V hS hy hi (.ptr rb 0) P (.int .i64 (q.length:Int)) (.int .i64 (a:Int)) F (q.length - (a+1)) (a+1) F s l (by omega) (by omega) hI hF (by have:=Zk7 3 (show q.length - (a+1)<=q.length by omega);omega);refine⟨s2,by simpa using z1,z2,λk2=> ?_⟩;simp only[show((a+1:Nat):Int)=(a:Int)+1 by omega]at z3 wr ⊢;rw[qh];simp[-au,cL,oE,p1,p3,dn,e8,ak,wr,z3]
   .    have dn:decide (y<0)=true:=Za0 (by omega);refine⟨s,by simpa [h0]using hI,hF,λk2=> ?_⟩;rw[qh];simp[-au,cL,oE,p1,p3,dn,wr]
  obtain⟨s2,a1,a2,a3⟩:=step;have u6:=Wt (q:=q) (rj J r S) a (q.length - (a+1)) (a+1);obtain⟨s',z1,z2,z3⟩:=ih (a+1) f s2 _ (by omega) (by omega) a1 a2 (by rw[KF];have:=Zk7 3 (show q.length - (a+1)<=q.length by omega);omega);exact⟨s',by rw[cF, <-Zf4];exact z1,z2,λk2=>by rw[a3,z3]⟩
theorem R6(hc:bw c)(H:kC c fv s0 I M)(V:Vw s0 vb jb j J P G q g){sv:AV}{S:Nat->Nat->Int->Int->Bool}(hS:SoC c sv M s0 s J q S)(r:Rl)(hI:I s l)(hB:fK l+3*q.length*q.length<=1000000):
  ∃s',c 164 [.ptr vb 0,.agg r.cells,sv,fv] s=some (.tuple [],s')/\I s' (l++zU (qF q) q.length (rj J r S)):=by
 refine H.fin hI (λh=>UA hc (q.length+1) h) ?_;have hw:=(H.ai hI).wf;have gr:=Grew.ah hw (.cells r.cells 0);have dI:=H.grow hI gr;have V1:=V.ai (H.ai dI);have hF:=H.fr hI gr;have zE:SoC c sv M s0 (ah s (.cells r.cells 0)) J q S:=λ{s2} g1 g2=>hS g1 (hF.trans g2)
 have tj:¬M (ah s (.cells r.cells 0)) s.next:=λh=>by have:=H.mlt hI (H.mP hI gr h);omega
 have vc:=V1.vc;have ln:=λ(K:AV->St->Option (AV×St))=>V1.pq.lenB (c:=c) K (ah s (.cells r.cells 0))
 rw[Za4]at ln;obtain⟨s',z1,z2,z3⟩:=apG (c:=c) hc H V zE (aA s (.cells r.cells 0)) tj (q.length+1) (by omega) q.length 0 (q.length+1) _ l (by omega) (by omega) dI (ia.refl V1.wf) hB;refine⟨s',?_,z1⟩;rw[YR,dm,show AV.cells (.agg r.cells)=r.cells from rfl];have z3:=z3 (λvs s=>mz vs (some (.tuple [],s)));simp only[az,bW,aO,Zb6,aU,vc,aB,Za8,Za5,Zc0,aV,ln];rw[show(0:Int)=((0:Nat):Int)from rfl,z3];rfl
end
def af9(J:Jt)(a:Nat):Int:=match J.p.gs[a]? with|some g=>g.side|none=>0
def acj(J:Jt)(a:Nat):List Nat:=match J.p.gs[a]? with|some g=>g.kq|none=>[]
def Lj(J:Jt)(a b:Nat):Int:=(J.kR.getD a []).getD b 0
def rV(J:Jt)(a:Nat):Int:=J.p.cs.getD a 0
def aaW(J:Jt)(a b:Nat)(x y:Int):Bool:=decide (0<af9 J a)&&decide (af9 J a=af9 J b)&&(qL J.p.ts x.toNat).contains y
def aaX(J:Jt)(a b:Nat)(x y:Int):Bool:= !decide (acj J a=[])&&decide (acj J a=acj J b)&&(qL J.p.ts x.toNat).contains y
def Ll(J:Jt)(a b:Nat)(x y:Int):Bool:=decide (Lj J a b=2)&&Yt J.p.ts x.toNat y
def ahq(J:Jt)(x:Int):Int:=Im J.p.ts x
def Wu(J:Jt)(a b:Nat)(x y:Int):Bool:=if rV J b<rV J a then decide (rV J b<rV J a)&&decide (ahq J x<ahq J y)else decide (rV J a<rV J b)&&decide (ahq J y<ahq J x)
section
variable{c : aj}{fv : AV}{s0 sB : St}{I : St -> List Ev -> Prop}{M : St -> Pos -> Prop}{s : St}{l : List Ev}{vb jb : Pos}{j : Jc}{J : Jt}{P G : AV}{q g : List Int}
theorem Vw.pN(V:Vw s vb jb j J P G q g){a:Nat}{x:Int}(ha:q[a]? =some x):∃A v b o,J.p.gs[a]? =some A/\Rd s 9 j.V2 a b o (A.ax v):=by
 have h:a<J.p.gs.length:=by have:=V.ql;unfold Jt.n at this;rw[<-this];exact(Za2.1 ha).1
 obtain⟨v,b,o,h1⟩:=V.rG (H0 h);exact⟨_,v,b,o,H0 h,h1⟩
theorem afr(hc:bw c)(V:Vw s vb jb j J P G q g){vp:Pos}(hv:s.heap.get vp=some (.cells [.ptr vb 0] 0)){a b i:Nat}{y:Int}(ha:q[a]? =some (i:Int))(hb:q[b]? =some y)(hi:i<J.N):
   c 165 [.int .i64 (a:Int),.int .i64 (b:Int),.ptr vp 0] s=some (.bool (aaW J a b (i:Int) y),s):=by
 rw[Kl hc 1 (r:=(.bool (aaW J a b (i:Int) y),s)),aE (Plain.bool _) (aW.refl s)];rw[MB];have vc:=V.vc;have jc:=V.jw.mA;obtain⟨A,v,ab,ao,hA,h1⟩:=V.pN ha;obtain⟨B,v',bb,bo,hB,h2⟩:=V.pN hb;have r1:=λ{R}=>@h1.pr R
 have r2:=h1.at' 4 _ rfl;have r3:=λ{R}=>@h2.pr R
 have r4:=h2.at' 4 _ rfl;obtain⟨w,wb,wo,h3,h4⟩:=V.rB hi;have cl:=FM hc V h3 h4 (KG _ _).1 ha hb;unfold aaW af9;rw[hA,hB];simp only[Zc7];generalize (qL J.p.ts i).contains y=e at*
 by_cases d1:0<A.side
 . by_cases d2:A.side=B.side
   . have GN:0<B.side:=(by rw[<-d2];exact d1);simp[hv,vc,jc,r1,r2,r3,r4,d1,GN,d2,cl]
   . have Lm:decide (A.side=B.side)=false:=Za1 d2;simp[hv,vc,jc,r1,r2,r3,r4,d1,Lm]
 . have GN:decide (0<A.side)=false:=Za1 d1;simp[hv,vc,jc,r1,r2,r3,r4,GN]
theorem ar7(hc:bw c)(V:Vw s vb jb j J P G q g){vp:Pos}(hv:s.heap.get vp=some (.cells [.ptr vb 0] 0)){a b i:Nat}{y:Int}(ha:q[a]? =some (i:Int))(hb:q[b]? =some y)(hi:i<J.N):
   c 174 [.int .i64 (a:Int),.int .i64 (b:Int),.ptr vp 0] s=some (.bool (aaX J a b (i:Int) y),s):=by
 rw[UB hc 1 (r:=(.bool (aaX J a b (i:Int) y),s)),aE (Plain.bool _) (aW.refl s)];rw[YS];have vc:=V.vc;have jc:=V.jw.mA;obtain⟨A,v,ab,ao,hA,h1⟩:=V.pN ha;obtain⟨B,v',bb,bo,hB,h2⟩:=V.pN hb;have r1:=λ{R}=>@h1.pr R
 have r2:=h1.at' 2 _ rfl;have r3:=λ{R}=>@h2.pr R
 have r4:=h2.at' 2 _ rfl;obtain⟨w,wb,wo,h3,h4⟩:=V.rB hi;have cl:=FM hc V h3 h4 (KG _ _).1 ha hb;unfold aaX acj;rw[hA,hB];simp only[Zc7];generalize (qL J.p.ts i).contains y=e at*
 by_cases d1:A.kq=[]
 . have GN:decide (A.kq=[])=true:=Za0 d1;simp[hv,vc,jc,r1,r2,r3,r4,GN]
 . have GN:decide (A.kq=[])=false:=Za1 d1;by_cases d2:A.kq=B.kq
   . have Lm:decide (A.kq=B.kq)=true:=Za0 d2;simp[hv,vc,jc,r1,r2,r3,r4,GN,Lm,cl]
   . have Lm:decide (A.kq=B.kq)=false:=Za1 d2;simp[hv,vc,jc,r1,r2,r3,r4,GN,Lm]
theorem Vw.tie(V:Vw s vb jb j J P G q g){a b:Nat}{x y:Int}(ha:q[a]? =some x)(hb:q[b]? =some y):∃w p o p2 o2,Rd s 1 j.L7 a p o [w]/\Rd s 1 w b p2 o2 [.int .u8 (Lj J a b)]:=by
 have h1:a<J.kR.length:=by rw[V.jw.n2, <-V.ql];exact(Za2.1 ha).1
 have h2:b<J.kR[a].length:=by rw[V.jw.n4 _ (Zb8 h1), <-V.ql];exact(Za2.1 hb).1
 have e:Lj J a b=J.kR[a][b]:=by
  unfold Lj;rw[Zb1,Zb1,H0 h1,Zf1,H0 h2,Zf1]
 rw[e];exact V.rK (H0 h1) (H0 h2)
theorem ane(hc:bw c)(V:Vw s vb jb j J P G q g){vp:Pos}(hv:s.heap.get vp=some (.cells [.ptr vb 0] 0)){a b i:Nat}{y:Int}(ha:q[a]? =some (i:Int))(hb:q[b]? =some y)(hi:i<J.N):
   c 169 [.int .i64 (a:Int),.int .i64 (b:Int),.ptr vp 0] s=some (.bool (Ll J a b (i:Int) y),s):=by
 rw[PJ hc 1 (r:=(.bool (Ll J a b (i:Int) y),s)),aE (Plain.bool _) (aW.refl s)];rw[UC];have vc:=V.vc;have jc:=V.jw.mA;obtain⟨w,p,o,p2,o2,h1,h2⟩:=V.tie ha hb;have r1:=λ{R}=>@h1.st R
 have r2:=h1.one;have r3:=λ{R}=>@h2.st R
 have r4:=h2.one;have nr:=aeM hc V ha hi hb;unfold Ll;simp only[Zc7];by_cases d1:Lj J a b=2
 . have GN:decide (Lj J a b=2)=true:=Za0 d1;simp[hv,vc,jc,r1,r2,r3,r4,GN,nr]
 . have GN:decide (Lj J a b=2)=false:=Za1 d1;simp[hv,vc,jc,r1,r2,r3,r4,GN]
theorem Vw.cls(V:Vw s vb jb j J P G q g)(eX:J.p.cs.length=q.length){a:Nat}{x:Int}(ha:q[a]? =some x):∃b o,Rd s 1 j.V4 a b o [.int .i64 (rV J a)]:=by
 have h1:a<J.p.cs.length:=by rw[eX];exact(Za2.1 ha).1
 refine qq V.jw.cls (i:=a) ?_;unfold rV;rw[Zb1,H0 h1];rfl
theorem ala(hc:bw c)(V:Vw s vb jb j J P G q g)(eX:J.p.cs.length=q.length){vp:Pos}(hv:s.heap.get vp=some (.cells [.ptr vb 0] 0)){a b i k:Nat}(ha:q[a]? =some (i:Int))(hb:q[b]? =some (k:Int))(hi:i<J.N)(hk:k<J.N):
   c 171 [.int .i64 (a:Int),.int .i64 (b:Int),.ptr vp 0] s=some (.bool (Wu J a b (i:Int) (k:Int)),s):=by
 rw[Od hc 1 (r:=(.bool (Wu J a b (i:Int) (k:Int)),s)),aE (Plain.bool _) (aW.refl s)];rw[R7];have vc:=V.vc;have jc:=V.jw.mA;obtain⟨ab,ao,h1⟩:=V.cls eX ha;obtain⟨bb,bo,h2⟩:=V.cls eX hb;have r1:=λ{R}=>@h1.pr R
 have r2:=h1.one;have r3:=λ{R}=>@h2.pr R
 have r4:=h2.one;obtain⟨pb,po,p⟩:=qq V.pq ha;obtain⟨qb,qo,p'⟩:=qq V.pq hb;have p1:=λ{R}=>@p.pr R
 have p3:=p.one;have p4:=λ{R}=>@p'.pr R
 have p6:=p'.one;obtain⟨tb,to,t⟩:=V.rL hi;obtain⟨ub,uo,u⟩:=V.rL hk;have t1:=λ{R}=>@t.pr R
 have t3:=t.one;have u1:=λ{R}=>@u.pr R
 have u3:=u.one;unfold Wu ahq;by_cases d1:rV J b<rV J a
 . rw[Zb3 d1];have GN:decide (rV J b<rV J a)=true:=Za0 d1;simp[cL,hv,vc,jc,r1,r2,r3,r4,p1,p3,p4,p6,t1,t3,u1,u3,GN]
 . rw[Za7 d1];have GN:decide (rV J b<rV J a)=false:=Za1 d1;by_cases d2:rV J a<rV J b
   . have Lm:decide (rV J a<rV J b)=true:=Za0 d2;simp[cL,hv,vc,jc,r1,r2,r3,r4,p1,p3,p4,p6,t1,t3,u1,u3,GN,Lm]
   . have Lm:decide (rV J a<rV J b)=false:=Za1 d2;simp[cL,hv,vc,jc,r1,r2,r3,r4,p1,p3,p4,p6,t1,t3,u1,u3,GN,Lm]
theorem ack(V:Vw s0 vb jb j J P G q g){f:FuncId}{vp:Pos}{S:Nat->Nat->Int->Int->Bool}(hv:sB.heap.get vp=some (.cells [.ptr vb 0] 0))(hM:¬M sB vp)
  (cV:∀{s},Vw s vb jb j J P G q g->s.heap.get vp=some (.cells [.ptr vb 0] 0)->∀{a b i k:Nat},q[a]? =some (i:Int)->q[b]? =some (k:Int)->i<J.N->k<J.N->c f [.int .i64 (a:Int),.int .i64 (b:Int),.ptr vp 0] s=some (.bool (S a b (i:Int) (k:Int)),s)):
  SoC c (.func f [] [.ptr vp 0]) M s0 sB J q S:=λ{s} g1 hF {a b i k} ha hb hi hk K=>by
 rw[iU];simp only[Ze3,Zd9];rw[cV (V.ai g1) (hF.2.2 vp _ hM hv).1 ha hb hi hk];rfl
theorem ar8{q:Nat->Int}{P:Nat->Nat->Int->Int->Bool}(h:∀a b x y,P a b x y=false)(n:Nat):zU q n P=[]:=by
 have h1:∀a m k,cF (vg q P a) m k=[]:=λa m=>by
  induction m with
  |zero=>intro k;rfl
  |succ m ih=>intro k;rw[cF,ih (k+1)];unfold vg;rw[h];simp[yH]
 have h2:∀m k,cF (λa=>cF (vg q P a) (n - (a+1)) (a+1)) m k=[]:=λm=>by
  induction m with
  |zero=>intro k;rfl
  |succ m ih=>intro k;rw[cF,ih (k+1),h1];rfl
 exact h2 _ _
theorem afs(hc:bw c)(H:kC c fv s0 I M)(V:Vw s0 vb jb j J P G q g)(r:Rl)(hI:I s l)(hB:fK l+3*q.length*q.length<=1000000):
  ∃s',c 97 [.ptr vb 0,.agg r.cells,fv] s=some (.tuple [],s')/\I s' (l++zU (qF q) q.length (rj J r (aaW J))):=by
 refine H.fin hI (λh=>MC hc 1 h) ?_;have hw:=(H.ai hI).wf;have g1:=Grew.ah hw (.cells [.ptr vb 0] 0);have dI:=H.grow hI g1;have g2:=Grew.ah g1.wf (.cells r.cells 0);have uh:=H.grow dI g2;have b1:=g2.get (aA s (.cells [.ptr vb 0] 0));have b2:=aA (ah s (.cells [.ptr vb 0] 0)) (.cells r.cells 0);have hM:¬M (ah (ah s (.cells [.ptr vb 0] 0)) (.cells r.cells 0)) s.next:=λh=>by have:=H.mlt hI (H.mP hI g1 (H.mP dI g2 h));omega
 obtain⟨s',z1,z2⟩:=R6 hc H V (ack (f:=165) (S:=aaW J) V b1 hM λ{s} V hv {a b i k} ha hb hi hk=>afr hc V hv ha hb hi) r uh hB;refine⟨s',?_,z2⟩;rw[PM];simp[show AV.cells (.agg r.cells)=r.cells from rfl,show AV.cells (.ptr vb 0)=[.ptr vb 0]from rfl,b1,b2,z1]
theorem ar9(hc:bw c)(H:kC c fv s0 I M)(V:Vw s0 vb jb j J P G q g)(r:Rl)(hI:I s l)(hB:fK l+3*q.length*q.length<=1000000):
  ∃s',c 107 [.ptr vb 0,.agg r.cells,fv] s=some (.tuple [],s')/\I s' (l++zU (qF q) q.length (rj J r (aaX J))):=by
 refine H.fin hI (λh=>YT hc 1 h) ?_;have hw:=(H.ai hI).wf;have g1:=Grew.ah hw (.cells [.ptr vb 0] 0);have dI:=H.grow hI g1;have g2:=Grew.ah g1.wf (.cells r.cells 0);have uh:=H.grow dI g2;have b1:=g2.get (aA s (.cells [.ptr vb 0] 0));have b2:=aA (ah s (.cells [.ptr vb 0] 0)) (.cells r.cells 0);have hM:¬M (ah (ah s (.cells [.ptr vb 0] 0)) (.cells r.cells 0)) s.next:=λh=>by have:=H.mlt hI (H.mP hI g1 (H.mP dI g2 h));omega
 obtain⟨s',z1,z2⟩:=R6 hc H V (ack (f:=174) (S:=aaX J) V b1 hM λ{s} V hv {a b i k} ha hb hi hk=>ar7 hc V hv ha hb hi) r uh hB;refine⟨s',?_,z2⟩;rw[acm];simp[show AV.cells (.agg r.cells)=r.cells from rfl,show AV.cells (.ptr vb 0)=[.ptr vb 0]from rfl,b1,b2,z1]
theorem anf(hc:bw c)(H:kC c fv s0 I M)(V:Vw s0 vb jb j J P G q g)(r:Rl)(hI:I s l)(hB:fK l+3*q.length*q.length<=1000000):
  ∃s',c 101 [.ptr vb 0,.agg r.cells,fv] s=some (.tuple [],s')/\I s' (l++zU (qF q) q.length (rj J r (Ll J))):=by
 refine H.fin hI (λh=>UD hc 1 h) ?_;have hw:=(H.ai hI).wf;have g1:=Grew.ah hw (.cells [.ptr vb 0] 0);have dI:=H.grow hI g1;have g2:=Grew.ah g1.wf (.cells r.cells 0);have uh:=H.grow dI g2;have b1:=g2.get (aA s (.cells [.ptr vb 0] 0));have b2:=aA (ah s (.cells [.ptr vb 0] 0)) (.cells r.cells 0);have hM:¬M (ah (ah s (.cells [.ptr vb 0] 0)) (.cells r.cells 0)) s.next:=λh=>by have:=H.mlt hI (H.mP hI g1 (H.mP dI g2 h));omega
 obtain⟨s',z1,z2⟩:=R6 hc H V (ack (f:=169) (S:=Ll J) V b1 hM λ{s} V hv {a b i k} ha hb hi hk=>ane hc V hv ha hb hi) r uh hB;refine⟨s',?_,z2⟩;rw[YU];simp[show AV.cells (.agg r.cells)=r.cells from rfl,show AV.cells (.ptr vb 0)=[.ptr vb 0]from rfl,b1,b2,z1]
theorem alb(hc:bw c)(H:kC c fv s0 I M)(V:Vw s0 vb jb j J P G q g)(eX:J.p.cs.length=q.length\/J.p.cs.length=0)(r:Rl)(hI:I s l)(hB:fK l+3*q.length*q.length<=1000000):
   ∃s',c 103 [.ptr vb 0,.agg r.cells,fv] s=some (.tuple [],s')/\I s' (l++zU (qF q) q.length (rj J r (Wu J))):=by
 refine H.fin hI (λh=>R8 hc 1 h) ?_;have hw:=(H.ai hI).wf;have g1:=Grew.ah hw (.cells [.ptr vb 0] 0);have dI:=H.grow hI g1;have g2:=Grew.ah g1.wf (.cells r.cells 0);have uh:=H.grow dI g2;have b1:=g2.get (aA s (.cells [.ptr vb 0] 0));have b2:=aA (ah s (.cells [.ptr vb 0] 0)) (.cells r.cells 0);have hM:¬M (ah (ah s (.cells [.ptr vb 0] 0)) (.cells r.cells 0)) s.next:=λh=>by have:=H.mlt hI (H.mP hI g1 (H.mP dI g2 h));omega
 have V2:=V.ai (H.ai uh);have vc:=V2.vc;have jc:=V2.jw.mA;have ln:=λ(K:AV->St->Option (AV×St))(s:St)=>V2.jw.cls.lenB (c:=c) K s
 rw[Za4]at ln;by_cases h0:J.p.cs.length=0
 . refine⟨_,?_,by
    rw[ar8,Ze0];· exact uh
    .   (intro a b x y;have e:∀a,rV J a=0:=λa=>by unfold rV;rw[Zc4 h0];rfl);unfold rj prP Wu;rw[e,e];simp⟩
   rw[GO];simp[show AV.cells (.agg r.cells)=r.cells from rfl,show AV.cells (.ptr vb 0)=[.ptr vb 0]from rfl,b1,b2,vc,jc,ln,h0]
 . have h1:J.p.cs.length=q.length:=(by omega);obtain⟨s',z1,z2⟩:=R6 hc H V (ack (f:=171) (S:=Wu J) V b1 hM λ{s} V hv {a b i k} ha hb hi hk=>ala hc V h1 hv ha hb hi hk) r uh hB;refine⟨s',?_,z2⟩;have d0:decide ((J.p.cs.length:Int)=0)=false:=Za1 (by omega);rw[GO];simp only[dm,show AV.cells (.agg r.cells)=r.cells from rfl,show AV.cells (.ptr vb 0)=[.ptr vb 0]from rfl,aU,b1,b2,aB,Za8,Za5,aV,bW,aO,Zb6,vc,jc,Jc.c3,ln,ez,d0,di,fj,Rl.cc,eO,Gi,az,cC,z1,bS]
end
def arj(J:Jt)(a:Nat):List Nat:=match J.p.gs[a]? with|some g=>g.name|none=>[]
def ark(J:Jt)(a:Nat):List Nat:=match J.p.gs[a]? with|some g=>g.nH|none=>[]
def gAcc(J:Jt)(a:Nat):Bool:=match J.p.gs[a]? with|some g=>g.access|none=>false
def R9(J:Jt)(r:Rl)(a b:Nat)(x y:Int):Bool:=decide (Lj J a b=1)&&(th J.p.ts r.t x.toNat||th J.p.ts r.t y.toNat)&& !Yt J.p.ts x.toNat y
def adG(J:Jt)(r:Rl)(a:Nat)(x:Int):Bool:= !N7 J.p.ts x&&(decide (r.a=arj J a)||(decide (r.a=[])&&gAcc J a))
def adH(J:Jt)(r:Rl)(a:Nat)(x:Int):Bool:=decide (ark J a=r.a)&& !th J.p.ts r.t x.toNat
section
variable{c : aj}{fv : AV}{s0 sB : St}{I : St -> List Ev -> Prop}{M : St -> Pos -> Prop}{s : St}{l : List Ev}{vb jb : Pos}{j : Jc}{J : Jt}{P G : AV}{q g : List Int}
theorem alc (hc:bw c)(H:kC c fv s0 I M)(V:Vw s0 vb jb j J P G q g){r:Rl}{rb:Pos}(hr:sB.heap.get rb=some (.cells r.cells 0))(tj:¬M sB rb){a:Nat}{x:Int}(ha:q[a]? =some x)(x13 x14 Li:AV)(F:Nat):
  ∀(m b f:Nat)(s:St)(l:List Ev),b+m=q.length->m<f->I s l->ia M sB s->fK l+3*m<=1000000->∃s',I s' (l++cF (vg (qF q) (R9 J r) a) m b)/\ia M sB s'/\
   ∀k4,fX c F k4 f [.ptr vb 0,fv,.ptr rb 0,.int .i64 (a:Int),.int .i64 x,.int .i64 (b:Int),x13,x14,Li] s=k4 [.ptr vb 0,fv,.ptr rb 0,x13,x14,Li] s':=by
 intro m;induction m with
 |zero=>
  intro b f s l hb hf hI hF hB;obtain⟨f,rfl⟩:∃g,f=g+1:=⟨f - 1,by omega⟩
  have V1:=V.ai (H.ai hI);have vc:=V1.vc;have ln:=λ(K:AV->St->Option (AV×St))=>V1.pq.lenB (c:=c) K s
  rw[Za4]at ln;refine⟨s,by simpa [cF]using hI,hF,λk4=> ?_⟩;obtain rfl:b=q.length:=by omega
  rw[iN];simp[vc,ln]
 |succ m ih  =>
  intro b f s l hb hf hI hF hB;obtain⟨f,rfl⟩:∃g,f=g+1:=⟨f - 1,by omega⟩
  have V1:=V.ai (H.ai hI);have vc:=V1.vc;have jc:=V1.jw.mA;have ln:=λ(K:AV->St->Option (AV×St))=>V1.pq.lenB (c:=c) K s
  rw[Za4]at ln;have zC:b<q.length:=by omega
  obtain⟨y,hy⟩:∃y,q[b]? =some y:=⟨_,H0 zC⟩
  obtain⟨pb,po,p⟩:=qq V1.pq hy;have p1:=λ{R}=>@p.st R
  have p3:=p.one;have hN:=V1.EP;have jz:=V.ql;have e8:=(hF.2.2 rb _ tj hr).1;have wr:av .i64 ((b:Int)+1)=((b+1:Nat):Int):=wrap64 (by omega) (by omega)
  have step  :∃s2,I s2 (l++vg (qF q) (R9 J r) a b)/\ia M sB s2/\∀k4,fX c F k4 (f+1) [.ptr vb 0,fv,.ptr rb 0,.int .i64 (a:Int),.int .i64 x,.int .i64 (b:Int),x13,x14,Li] s=
        fX c F k4 f [.ptr vb 0,fv,.ptr rb 0,.int .i64 (a:Int),.int .i64 x,.int .i64 ((b+1:Nat):Int),x13,x14,Li] s2:=by
   rw[anc ha hy];by_cases hx:0<=x
   .    by_cases h0:0<=y
        . obtain⟨i,rfl,hi⟩:=V1.kB ha hx;obtain⟨k,rfl,hk⟩:=V1.kB hy h0;obtain⟨w,tp,to,tp2,to2,h1,h2⟩:=V1.tie ha hy;have r1:=λ{R}=>@h1.st R
          have r2:=h1.one;have r3:=λ{R}=>@h2.st R
          have r4:=h2.one;have nr:=aeM hc V1 ha hi hy;have a1:=GM hc V1 r hi;have a2:=GM hc V1 r hk;unfold R9;simp only[Zc7];by_cases ht:Lj J a b=1
          . have dt:decide (Lj J a b=1)=true:=Za0 ht;generalize Yt J.p.ts i (k:Int)=e at*
            generalize th J.p.ts r.t i=e1 at*
            generalize th J.p.ts r.t k=e2 at*
            cases e1<;>cases e2<;>cases e
            case false.false.false|false.false.true|false.true.true|true.false.true|true.true.true=>
             refine⟨s,by simpa [dZ]using hI,hF,λk4=> ?_⟩;rw[iN];simp[-au,cL,zC,vc,ln,jc,p1,p3,r1,r2,r3,r4,dt,a1,a2,nr,e8,wr]
            all_goals
             obtain⟨s2,v2,e1,e2,e3⟩:=H.RZ hI (by omega) a b;refine⟨s2,by simpa [dt,rf]using e2,hF.trans e3,λk4=> ?_⟩;rw[iN];simp[-au,cL,zC,vc,ln,jc,p1,p3,r1,r2,r3,r4,dt,a1,a2,nr,e8,wr,e1]
          . have dt:decide (Lj J a b=1)=false:=Za1 ht;refine⟨s,by simpa [ht,dZ]using hI,hF,λk4=> ?_⟩;rw[iN];simp[-au,cL,zC,vc,ln,jc,p1,p3,r1,r2,r3,r4,dt,wr]
        . refine⟨s,by simpa [h0,dZ]using hI,hF,λk4=> ?_⟩;rw[iN];simp[-au,cL,zC,vc,ln,jc,p1,p3,h0,hx,wr]
   .    refine⟨s,by simpa [hx,dZ]using hI,hF,λk4=> ?_⟩;rw[iN];simp[-au,cL,zC,vc,ln,jc,p1,p3,hx,wr]
  obtain⟨s2,a1,a2,a3⟩:=step;have u6:=ahp (q:=q) (R9 J r) a b;obtain⟨s',z1,z2,z3⟩:=ih (b+1) f s2 _ (by omega) (by omega) a1 a2 (by rw[KF];omega);exact⟨s',by rw[cF, <-Zf4];exact z1,z2,λk4=>by rw[a3,z3]⟩
theorem ald(hc:bw c)(H:kC c fv s0 I M)(V:Vw s0 vb jb j J P G q g){r:Rl}{rb:Pos}(hr:sB.heap.get rb=some (.cells r.cells 0))(tj:¬M sB rb)(F:Nat)(hFu:q.length<F):
  ∀(m a f:Nat)(s:St)(l:List Ev),a+m=q.length->m<f->I s l->ia M sB s->fK l+3*q.length*m<=1000000->∃s',I s' (l++cF (λa=>cF (vg (qF q) (R9 J r) a) (q.length - (a+1)) (a+1)) m a)/\ia M sB s'/\
   ∀k2,mR c F k2 f [.ptr vb 0,fv,.ptr rb 0,P,.int .i64 (q.length:Int),.int .i64 (a:Int)] s=k2 [] s':=by
 intro m;induction m with
 |zero=>
  intro a f s l hb hf hI hF hB;obtain⟨f,rfl⟩:∃g,f=g+1:=⟨f - 1,by omega⟩
  refine⟨s,by simpa [cF]using hI,hF,λk2=> ?_⟩;obtain rfl:a=q.length:=by omega
  rw[AD];simp
 |succ m ih=>
  intro a f s l hb hf hI hF hB;obtain⟨f,rfl⟩:∃g,f=g+1:=⟨f - 1,by omega⟩
  have V1:=V.ai (H.ai hI);have oE:a<q.length:=by omega
  obtain⟨y,hy⟩:∃y,q[a]? =some y:=⟨_,H0 oE⟩
  obtain⟨pb,po,p⟩:=qq V1.pq hy;have p1:=λ{R}=>@p.st R
  have p3:=p.one;have hN:=V1.EP;have jz:=V.ql;have wr:av .i64 ((a:Int)+1)=(a:Int)+1:=wrap64 (by omega) (by omega);rw[Nat.mul_succ]at hB;have b3:=Zk7 3 (show q.length - (a+1)<=q.length by omega);obtain⟨s2,z1,z2,z3⟩:=alc (c:=c) hc H V hr tj hy P (.int .i64 (q.length:Int)) (.int .i64 (a:Int)) F (q.length - (a+1)) (a+1) F s l (by omega) (by omega) hI hF (by omega);simp only[show((a+1:Nat):Int)=(a:Int)+1 by omega]at z3;have u6:=Wt (q:=q) (R9 J r) a (q.length - (a+1)) (a+1);obtain⟨s',y1,y2,y3⟩:=ih (a+1) f s2 _ (by omega) (by omega) z1 z2 (by rw[KF];omega);simp only[show((a+1:Nat):Int)=(a:Int)+1 by omega]at y3;refine⟨s',by rw[cF, <-Zf4];exact y1,y2,λk2=> ?_⟩;rw[<-y3 k2,AD];simp[-au,oE,p1,p3,wr,z3]
theorem ai6(hc:bw c)(H:kC c fv s0 I M)(V:Vw s0 vb jb j J P G q g)(r:Rl)(hI:I s l)(hB:fK l+3*q.length*q.length<=1000000):
  ∃s',c 102 [.ptr vb 0,.agg r.cells,fv] s=some (.tuple [],s')/\I s' (l++zU (qF q) q.length (R9 J r)):=by
 refine H.fin hI (λh=>PN hc (q.length+1) h) ?_;have hw:=(H.ai hI).wf;have gr:=Grew.ah hw (.cells r.cells 0);have dI:=H.grow hI gr;have V1:=V.ai (H.ai dI);have tj:¬M (ah s (.cells r.cells 0)) s.next:=λh=>by have:=H.mlt hI (H.mP hI gr h);omega
 have vc:=V1.vc;have ln:=λ(K:AV->St->Option (AV×St))=>V1.pq.lenB (c:=c) K (ah s (.cells r.cells 0))
 rw[Za4]at ln;obtain⟨s',z1,z2,z3⟩:=ald (c:=c) hc H V (aA s (.cells r.cells 0)) tj (q.length+1) (by omega) q.length 0 (q.length+1) _ l (by omega) (by omega) dI (ia.refl V1.wf) hB;refine⟨s',?_,z1⟩;rw[UE,dm,show AV.cells (.agg r.cells)=r.cells from rfl];have z3:=z3 (λvs s=>mz vs (some (.tuple [],s)));simp only[az,bW,aO,Zb6,aU,vc,aB,Za8,Za5,Zc0,aV,ln];rw[show(0:Int)=((0:Nat):Int)from rfl,z3];rfl
theorem ahr{a:Nat}{x:Int}(ha:q[a]? =some x)(P:Nat->Int->Bool):yH (on (qF q) a&&P a (qF q a)) 1 [(a:Int)]=yH (decide (0<=x)&&P a x) 1 [(a:Int)]:=by
 unfold on;rw[jt ha]
end
section
variable{c : aj}{fv : AV}{s0 sB : St}{I : St -> List Ev -> Prop}{M : St -> Pos -> Prop}{s : St}{l : List Ev}{vb jb : Pos}{j : Jc}{J : Jt}{P G : AV}{q g : List Int}
theorem Yv{E:Nat->List Ev}{B n:Nat}(hE:∀a,fK (E a)<=B)(L:Q2->Nat->List AV->St->Option (AV×St))(args:Nat->List AV)(hz:∀(k2:Q2)(f:Nat)(s:St),L k2 (f+1) (args n) s=k2 [] s)
  (hs:∀(a:Nat)(s:St)(l:List Ev),a<n->I s l->ia M sB s->fK l+B<=1000000->∃s2,I s2 (l++E a)/\ia M sB s2/\∀(k2:Q2)(f:Nat),L k2 (f+1) (args a) s=L k2 f (args (a+1)) s2):
  ∀(m a f:Nat)(s:St)(l:List Ev),a+m=n->m<f->I s l->ia M sB s->fK l+B*m<=1000000->∃s',I s' (l++cF E m a)/\ia M sB s'/\∀k2,L k2 f (args a) s=k2 [] s':=by
 intro m;induction m with
 |zero=>
  intro a f s l hb hf hI hF hB;obtain⟨f,rfl⟩:∃g,f=g+1:=⟨f - 1,by omega⟩
  obtain rfl:a=n:=by omega
  exact⟨s,by simpa [cF]using hI,hF,λk2=>hz k2 f s⟩
 |succ m ih=>
  intro a f s l hb hf hI hF hB;obtain⟨f,rfl⟩:∃g,f=g+1:=⟨f - 1,by omega⟩
  rw[Nat.mul_succ]at hB;obtain⟨s2,a1,a2,a3⟩:=hs a s l (by omega) hI hF (by omega);have:=hE a;obtain⟨s',z1,z2,z3⟩:=ih (a+1) f s2 _ (by omega) (by omega) a1 a2 (by rw[KF];omega);exact⟨s',by rw[cF, <-Zf4];exact z1,z2,λk2=>by rw[a3,z3]⟩
def ZQ(q:List Int)(P:Nat->Int->Bool)(a:Nat):List Ev:=yH (on (qF q) a&&P a (qF q a)) 1 [(a:Int)]
theorem ahs(P:Nat->Int->Bool)(a:Nat):fK (ZQ q P a)<=2:=GJ _ _ _
abbrev kL(vb rb:Pos)(fv P:AV)(n a:Nat):List AV:=[.ptr vb 0,fv,.ptr rb 0,P,.int .i64 (n:Int),.int .i64 (a:Int)]
theorem ale(H:kC c fv s0 I M)(V:Vw s0 vb jb j J P G q g){r:Rl}{rb:Pos}(hr:sB.heap.get rb=some (.cells r.cells 0))(tj:¬M sB rb)(F:Nat)(a:Nat)(s:St)(l:List Ev)(oE:a<q.length)(hI:I s l)(hF:ia M sB s)(hB:fK l+2<=1000000):
   ∃s2,I s2 (l++ZQ q (adG J r) a)/\ia M sB s2/\∀(k2:Q2)(f:Nat),jD c F k2 (f+1) (kL vb rb fv P q.length a) s=jD c F k2 f (kL vb rb fv P q.length (a+1)) s2:=by
 have V1:=V.ai (H.ai hI);have vc:=V1.vc;have jc:=V1.jw.mA;obtain⟨y,hy⟩:∃y,q[a]? =some y:=⟨_,H0 oE⟩
 obtain⟨pb,po,p⟩:=qq V1.pq hy;have p1:=λ{R}=>@p.st R
 have p3:=p.one;have hN:=V1.EP;have jz:=V.ql;have e8:=(hF.2.2 rb _ tj hr).1;have wr:av .i64 ((a:Int)+1)=(a:Int)+1:=wrap64 (by omega) (by omega);unfold ZQ;rw[ahr hy];by_cases h0:0<=y
 . obtain ⟨ k,rfl,hk⟩:=V1.kB hy h0;obtain⟨ub,uo,u⟩:=V1.rO hk;have u1:=λ{R}=>@u.pr R
   have u3:=u.one;obtain⟨A,v,ab,ao,hA,h1⟩:=V1.pN hy;have r1:=λ{R}=>@h1.pr R
   have r2:=h1.at' 0 _ rfl;rw[Zf8]at r2;have r3:=h1.at' 7 _ rfl;unfold adG arj gAcc;rw[hA];simp only;generalize N7 J.p.ts (k:Int)=o at*
   cases o
   . by_cases hn:r.a=A.name
     .  obtain⟨s2,v2,a1,a2,a3⟩:=H.Yu hI hB a;refine⟨s2,by simpa [hn,rf]using a2,hF.trans a3,λk2 f=> ?_⟩;simp only[kL,show((a+1:Nat):Int)=(a:Int)+1 by omega];rw[iC];simp[-au,cL,oE,p1,p3,vc,jc,u1,u3,r1,r2,r3,e8,hn,a1,wr]
     .  have GP:decide (r.a=A.name)=false:=Za1 hn;by_cases he:r.a=[]
        . have O9:decide (r.a=[])=true:=Za0 he;cases hac:A.access
          . refine⟨s,by simpa [hn,hac,dZ]using hI,hF,λk2 f=> ?_⟩;rw[hac]at r3;simp only[kL,show((a+1:Nat):Int)=(a:Int)+1 by omega];rw[iC];simp[-au,cL,oE,p1,p3,vc,jc,u1,u3,r1,r2,r3,e8,GP,O9,wr]
          . obtain⟨s2,v2,a1,a2,a3⟩:=H.Yu hI hB a;rw[hac]at r3;refine⟨s2,by simpa [he,hac,rf]using a2,hF.trans a3,λk2 f=> ?_⟩;simp only[kL,show((a+1:Nat):Int)=(a:Int)+1 by omega];rw[iC];simp[-au,cL,oE,p1,p3,vc,jc,u1,u3,r1,r2,r3,e8,GP,O9,a1,wr]
        . have O9:decide (r.a=[])=false:=Za1 he;refine⟨s,by simpa [hn,he,dZ]using hI,hF,λk2 f=> ?_⟩;simp only[kL,show((a+1:Nat):Int)=(a:Int)+1 by omega];rw[iC];simp[-au,cL,oE,p1,p3,vc,jc,u1,u3,r1,r2,r3,e8,GP,O9,wr]
   . refine⟨s,by simpa [dZ]using hI,hF,λk2 f=> ?_⟩;simp only[kL,show((a+1:Nat):Int)=(a:Int)+1 by omega];rw[iC];simp[-au,cL,oE,p1,p3,vc,jc,u1,u3,wr]
 . refine⟨s,by simpa [h0,dZ]using hI,hF,λk2 f=> ?_⟩;simp only[kL,show((a+1:Nat):Int)=(a:Int)+1 by omega];rw[iC];simp[-au,cL,oE,p1,p3,h0,wr]
theorem aht(hc:bw c)(H:kC c fv s0 I M)(V:Vw s0 vb jb j J P G q g){r:Rl}{rb:Pos}(hr:sB.heap.get rb=some (.cells r.cells 0))(tj:¬M sB rb)(F:Nat)(a:Nat)(s:St)(l:List Ev)(oE:a<q.length)(hI:I s l)(hF:ia M sB s)(hB:fK l+2<=1000000):
   ∃s2,I s2 (l++ZQ q (adH J r) a)/\ia M sB s2/\∀(k2:Q2)(f:Nat),iD c F k2 (f+1) (kL vb rb fv P q.length a) s=iD c F k2 f (kL vb rb fv P q.length (a+1)) s2:=by
 have V1:=V.ai (H.ai hI);have vc:=V1.vc;have jc:=V1.jw.mA;obtain⟨y,hy⟩:∃y,q[a]? =some y:=⟨_,H0 oE⟩
 obtain⟨pb,po,p⟩:=qq V1.pq hy;have p1:=λ{R}=>@p.st R
 have p3:=p.one;have hN:=V1.EP;have jz:=V.ql;have e8:=(hF.2.2 rb _ tj hr).1;have wr:av .i64 ((a:Int)+1)=(a:Int)+1:=wrap64 (by omega) (by omega);unfold ZQ;rw[ahr hy];by_cases h0:0<=y
 . obtain⟨k,rfl,hk⟩:=V1.kB hy h0;have ak:=GM hc V1 r hk;obtain⟨A,v,ab,ao,hA,h1⟩:=V1.pN hy;have r1:=λ{R}=>@h1.pr R
   have r2:=h1.at' 5 _ rfl;unfold adH ark;rw[hA];simp only[Zc7];generalize th J.p.ts r.t k=e at*
   by_cases hn:A.nH=r.a
   . have GP:decide (A.nH=r.a)=true:=Za0 hn;cases e
     .  obtain⟨s2,v2,a1,a2,a3⟩:=H.Yu hI hB a;refine⟨s2,by simpa [hn,rf]using a2,hF.trans a3,λk2 f=> ?_⟩;simp only[kL,show((a+1:Nat):Int)=(a:Int)+1 by omega];rw[kD];simp[-au,cL,oE,p1,p3,vc,jc,r1,r2,e8,GP,ak,a1,wr]
     .  refine⟨s,by simpa [dZ]using hI,hF,λk2 f=> ?_⟩;simp only[kL,show((a+1:Nat):Int)=(a:Int)+1 by omega];rw[kD];simp[-au,cL,oE,p1,p3,vc,jc,r1,r2,e8,GP,ak,wr]
   . have GP:decide (A.nH=r.a)=false:=Za1 hn;refine⟨s,by simpa [hn,dZ]using hI,hF,λk2 f=> ?_⟩;simp only[kL,show((a+1:Nat):Int)=(a:Int)+1 by omega];rw[kD];simp[-au,cL,oE,p1,p3,vc,jc,r1,r2,e8,GP,wr]
 . refine⟨s,by simpa [h0,dZ]using hI,hF,λk2 f=> ?_⟩;simp only[kL,show((a+1:Nat):Int)=(a:Int)+1 by omega];rw[kD];simp[-au,cL,oE,p1,p3,h0,wr]
theorem ang(H:kC c fv s0 I M)(hc:bw c)(V:Vw s0 vb jb j J P G q g)(r:Rl)(hI:I s l)(hB:fK l+2*q.length<=1000000):
  ∃s',c 99 [.ptr vb 0,.agg r.cells,fv] s=some (.tuple [],s')/\I s' (l++N4 (qF q) q.length (adG J r)):=by
 refine H.fin hI (λh=>UF hc (q.length+1) h) ?_;have hw:=(H.ai hI).wf;have gr:=Grew.ah hw (.cells r.cells 0);have dI:=H.grow hI gr;have V1:=V.ai (H.ai dI);have tj:¬M (ah s (.cells r.cells 0)) s.next:=λh=>by have:=H.mlt hI (H.mP hI gr h);omega
 have vc:=V1.vc;have ln:=λ(K:AV->St->Option (AV×St))=>V1.pq.lenB (c:=c) K (ah s (.cells r.cells 0))
 rw[Za4]at ln
 obtain⟨s',z1,z2,z3⟩:=Yv (E:=ZQ q (adG J r)) (n:=q.length) (ahs _) (λk2=>jD c (q.length+1) k2) (kL vb s.next fv P q.length) (λk2 f s=>by rw[iC];simp)
  (ale (c:=c) H V (aA s (.cells r.cells 0)) tj (q.length+1)) q.length 0 (q.length+1) _ l (by omega) (by omega) dI (ia.refl V1.wf) hB
 refine⟨s',?_,z1⟩;rw[YV,dm,show AV.cells (.agg r.cells)=r.cells from rfl];have z3:=z3 (λvs s=>mz vs (some (.tuple [],s)));simp only[az,bW,aO,Zb6,aU,vc,aB,Za8,Za5,Zc0,aV,ln];exact z3.trans rfl
theorem ai7(H:kC c fv s0 I M)(hc:bw c)(V:Vw s0 vb jb j J P G q g)(r:Rl)(hI:I s l)(hB:fK l+2*q.length<=1000000):
  ∃s',c 106 [.ptr vb 0,.agg r.cells,fv] s=some (.tuple [],s')/\I s' (l++N4 (qF q) q.length (adH J r)):=by
 refine H.fin hI (λh=>PO hc (q.length+1) h) ?_;have hw:=(H.ai hI).wf;have gr:=Grew.ah hw (.cells r.cells 0);have dI:=H.grow hI gr;have V1:=V.ai (H.ai dI);have tj:¬M (ah s (.cells r.cells 0)) s.next:=λh=>by have:=H.mlt hI (H.mP hI gr h);omega
 have vc:=V1.vc;have ln:=λ(K:AV->St->Option (AV×St))=>V1.pq.lenB (c:=c) K (ah s (.cells r.cells 0))
 rw[Za4]at ln
 obtain⟨s',z1,z2,z3⟩:=Yv (E:=ZQ q (adH J r)) (n:=q.length) (ahs _) (λk2=>iD c (q.length+1) k2) (kL vb s.next fv P q.length) (λk2 f s=>by rw[kD];simp)
  (aht (c:=c) hc H V (aA s (.cells r.cells 0)) tj (q.length+1)) q.length 0 (q.length+1) _ l (by omega) (by omega) dI (ia.refl V1.wf) hB
 refine⟨s',?_,z1⟩;rw[UG,dm,show AV.cells (.agg r.cells)=r.cells from rfl];have z3:=z3 (λvs s=>mz vs (some (.tuple [],s)));simp only[az,bW,aO,Zb6,aU,vc,aB,Za8,Za5,Zc0,aV,ln];exact z3.trans rfl
end
def alf(J:Jt)(a:Nat)(h:Int):Bool:=(J.kQ.getD a []).getD h.toNat false
def Io(J:Jt)(g:List Int)(a:Nat):List Int->Bool->Bool->Bool×Bool
 |[],so,si=>(so,si)
 |k::r,so,si=>if 0<=g.getD k.toNat (-1)then Io J g a r true (si&& !alf J a (g.getD k.toNat (-1)))else Io J g a r so si
def aaY(J:Jt)(g:List Int)(a:Nat)(x:Int):Bool×Bool:=Io J g a (zV J.p.ts x.toNat) (Io J g a (qL J.p.ts x.toNat) false true).1 (Io J g a (qL J.p.ts x.toNat) false true).2
def adI(J:Jt)(r:Rl)(g:List Int)(a:Nat)(x:Int):Bool:=th J.p.ts r.t x.toNat&&((aaY J g a x).1&&(aaY J g a x).2)
section
variable{c : aj}{fv : AV}{s0 sB : St}{I : St -> List Ev -> Prop}{M : St -> Pos -> Prop}{s : St}{l : List Ev}{vb jb : Pos}{j : Jc}{J : Jt}{P G : AV}{q g : List Int}
theorem Vw.com(V:Vw s vb jb j J P G q g){a b:Nat}(ha:a<J.n)(hb:b<J.n):∃w p o p2 o2,Rd s 1 j.L6 a p o [w]/\Rd s 1 w b p2 o2 [.bool (alf J a (b:Int))]:=by
 have h1:a<J.kQ.length:=by rw[V.jw.n1];exact ha
 have h2:b<J.kQ[a].length:=by rw[V.jw.n3 _ (Zb8 h1)];exact hb
 have e:alf J a (b:Int)=J.kQ[a][b]:=by
  unfold alf;rw[Zc7,Zb1,Zb1,H0 h1,Zf1,H0 h2,Zf1]
 rw[e];exact V.rC (H0 h1) (H0 h2)
theorem ahu(V:Vw s vb jb j J P G q g){w:AV}{r:List Int}(hw:QS 1 s w (r.map bV))(hr:∀k∈r,0<=k/\k<(J.N:Int))(hl:r.length<=1000){a:Nat}(ha:a<J.n)(x2 x4 x18 x19 x20 x54 x55 x56:AV)(F:Nat)(k6:Q2):
  ∀ (m k f:Nat)(so si:Bool),k+m=r.length->m<f->jE c F k6 f [.ptr vb 0,x2,x4,.int .i64 (a:Int),.bool so,.bool si,x18,x19,x20,x54,x55,x56,w,.int .i64 (r.length:Int),.int .i64 (k:Int)] s=
    k6 [.ptr vb 0,x2,x4,.int .i64 (a:Int),.bool (Io J g a (r.drop k) so si).1,.bool (Io J g a (r.drop k) so si).2,x18,x19,x20,x54,x55,x56] s:=by
 have vc:=V.vc;have jc:=V.jw.mA;intro m;induction m with
 |zero=>
  intro k f so si hk hf;obtain⟨f,rfl⟩:∃g,f=g+1:=⟨f - 1,by omega⟩
  obtain rfl:k=r.length:=by omega
  rw[vE];simp[Io]
 |succ m ih=>
  intro k f so si hk hf;obtain⟨f,rfl⟩:∃g,f=g+1:=⟨f - 1,by omega⟩
  have fC:k<r.length:=by omega
  obtain⟨wb,wo,w1⟩:=qq hw (H0 fC);have q1:=λ{R}=>@w1.st R
  have q3:=w1.one;have wr:av .i64 ((k:Int)+1)=((k+1:Nat):Int):=wrap64 (by omega) (by omega);have bd:=hr _ (Zb8 fC);obtain⟨i,hi⟩:∃i:Nat,r[k]=(i:Int):=⟨r[k].toNat,by omega⟩
  have hiN:i<J.N:=by omega
  have PR:i<g.length:=by rw[V.gl];exact hiN
  obtain⟨gb,go,g1⟩:=qq V.gq (H0 PR);have g2:=λ{R}=>@g1.st R
  have g3:=g1.one;have eg:g.getD i (-1)=g[i]:=by rw[Zb1,H0 PR];rfl
  rw[Zd6 fC,hi];rw[hi]at q3;unfold Io;rw[Zc7,eg];by_cases h0:0<=g[i]
  . obtain⟨h,hh⟩:∃h:Nat,g[i]=(h:Int):=⟨g[i].toNat,by omega⟩
    have hn:h<J.n:=(by have:=V.og _ (Zb8 PR);omega);obtain⟨w',cp,co,II,co2,h1,h2⟩:=V.com ha hn;have r1:=λ{R}=>@h1.st R
    have r2:=h1.one;have r3:=λ{R}=>@h2.st R
    have r4:=h2.one;rw[hh]at g3 h0 ⊢;rw[Zb3 h0, <-ih (k+1) f true _ (by omega) (by omega),vE];cases si<;>simp[cL,fC,q1,q3,vc,jc,g2,g3,r1,r2,r3,r4,wr]
  . have d0:decide (0<=g[i])=false:=Za1 h0;rw[Za7 h0, <-ih (k+1) f so si (by omega) (by omega),vE];simp[cL,fC,q1,q3,vc,jc,g2,g3,d0,wr]
theorem ahv{R:Type}(K:AV->Option R)(b:Pos)(off len es:Nat)(cap:Option Nat):fh (.lenB .l) [.slice b off len cap es] K=K (.int .i64 (len:Int)):=cX K (λH n=>rfl)
theorem alg(hc:bw c)(H:kC c fv s0 I M)(V:Vw s0 vb jb j J P G q g){r:Rl}{rb:Pos}(hr:sB.heap.get rb=some (.cells r.cells 0))(tj:¬M sB rb){F:Nat}(hFu:1001<=F)(a:Nat)(s:St)(l:List Ev)(oE:a<q.length)(hI:I s l)(hF:ia M sB s)(hB:fK l+2<=1000000):
   ∃s2,I s2 (l++ZQ q (adI J r g) a)/\ia M sB s2/\∀(k2:Q2)(f:Nat),fY c F k2 (f+1) (kL vb rb fv P q.length a) s=fY c F k2 f (kL vb rb fv P q.length (a+1)) s2:=by
 have V1:=V.ai (H.ai hI);have vc:=V1.vc;have jc:=V1.jw.mA;obtain⟨y,hy⟩:∃y,q[a]? =some y:=⟨_,H0 oE⟩
 obtain⟨pb,po,p⟩:=qq V1.pq hy;have p1:=λ{R}=>@p.st R
 have p3:=p.one;have p4:=λ{R}=>@p.pr R
 have hN:=V1.EP;have jz:=V.ql;have e8:=(hF.2.2 rb _ tj hr).1;have wr:av .i64 ((a:Int)+1)=(a:Int)+1:=wrap64 (by omega) (by omega);unfold ZQ;rw[ahr hy];by_cases h0:0<=y
 . obtain⟨k,rfl,hk⟩:=V1.kB hy h0;have dn:decide ((k:Int)<0)=false:=Za1 (by omega);have ak:=GM hc V1 r hk;unfold adI aaY;simp only[Zc7];generalize th J.p.ts r.t k=e at*
   cases e
   . refine⟨s,by simpa [dZ]using hI,hF,λk2 f=> ?_⟩;simp only[kL,show((a+1:Nat):Int)=(a:Int)+1 by omega];rw[mS];simp[-au,cL,oE,p1,p3,dn,e8,ak,wr]
   . obtain⟨w1,b1,o1,h1,h2⟩:=V1.rB hk;obtain⟨w2,b2,o2,h3,h4⟩:=V1.rA hk;have m1:=λ{R}=>@h1.pr R
     have m2:=h1.one;have m3:=λ{R}=>@h3.pr R
     have m4:=h3.one;have bdB:=(aaZ V.jw.nN).1 (qL J.p.ts k) (by unfold xP;exact Zd0.2 ⟨k,Zh3.2 hk,rfl⟩);have bdA:=(aaZ V.jw.nN).2 (zV J.p.ts k) (by unfold xQ;exact Zd0.2 ⟨k,Zh3.2 hk,rfl⟩);obtain⟨wc1,_⟩:=QS.cells h2;obtain⟨wc2,_⟩:=QS.cells h4;have ef:cE (bR [AV.af] 2) ([0,1].map λi=>(i*1,1)) [w1,w2]=some [w1,w2]:=by
        simp[cE,bR,cZ,dc,aX,wc1,wc2]
     have nw:=λ(K:AV->AB->Option (AV×St))=>(qf s 1 2 [.af] [0,1] [w1,w2] K).trans (by rw[ef])
     have gN:=Grew.ah V1.wf (.cells [w1,w2] 0);have uh:=H.grow hI gN;have ZR:=hF.trans (H.fr hI gN);have V2:=V.ai (H.ai uh);have hx:=aA s (.cells [w1,w2] 0);have hn1:a<J.n:=(by omega);have l1:=λ(so si:Bool)(x55 x56:AV)(k6:Q2)=>ahu (c:=c) V2 (h2.ai gN) bdB.2 bdB.1 hn1 fv (.ptr rb 0) P (.int .i64 (q.length:Int)) (.int .i64 (a:Int)) (.slice s.next 0 2 (some 2) 1) x55 x56 F k6 (qL J.p.ts k).length 0 F so si (by omega) (by omega)
     have l2:=λ(so si:Bool)(x55 x56:AV)(k6:Q2)=>ahu (c:=c) V2 (h4.ai gN) bdA.2 bdA.1 hn1 fv (.ptr rb 0) P (.int .i64 (q.length:Int)) (.int .i64 (a:Int)) (.slice s.next 0 2 (some 2) 1) x55 x56 F k6 (zV J.p.ts k).length 0 F so si (by omega) (by omega)
     (simp only[Ze6,show((0:Nat):Int)=0 from rfl]at l1 l2;have ln1:=λ(K:AV->St->Option (AV×St))=>(h2.ai gN).lenB (c:=c) K (ah s (.cells [w1,w2] 0)));have ln2:=λ(K:AV->St->Option (AV×St))=>(h4.ai gN).lenB (c:=c) K (ah s (.cells [w1,w2] 0))
     (rw[Za4]at ln1 ln2;have ix0:=λ(K:AV->St->Option (AV×St))(s1:St)=>fG c K s1 (b:=s.next) (off:=0) (len:=2) (es:=1) (es':=1) (cap:=some 2) (k:= .i64) (i:=0) (by omega));have ix1:=λ(K:AV->St->Option (AV×St))(s1:St)=>fG c K s1 (b:=s.next) (off:=0) (len:=2) (es:=1) (es':=1) (cap:=some 2) (k:= .i64) (i:=1) (by omega)
     simp only[show((0:Nat):Int)=0 from rfl,show((1:Nat):Int)=1 from rfl,Zn9,Zf8,Zk4,Zb6]at ix0 ix1;have w11:av .i64 ((0:Int)+1)=1:=wrap64 (by omega) (by omega);have w12:av .i64 ((1:Int)+1)=2:=wrap64 (by omega) (by omega);obtain⟨F',rfl⟩:∃n,F=n+3:=⟨F - 3,by omega⟩
     have L1:∀k4:Q2,lW c (F'+3) k4 (F'+3) [.ptr vb 0,fv,.ptr rb 0,.int .i64 (a:Int),.bool false,.bool true,P,.int .i64 (q.length:Int),.int .i64 (a:Int),.slice s.next 0 2 (some 2) 1,.int .i64 2,.int .i64 0] (ah s (.cells [w1,w2] 0))=
         k4 [.ptr vb 0,fv,.ptr rb 0,.int .i64 (a:Int),.bool (aaY J g a (k:Int)).1,.bool (aaY J g a (k:Int)).2,P,.int .i64 (q.length:Int),.int .i64 (a:Int)] (ah s (.cells [w1,w2] 0)):=λk4=>by
        unfold aaY;rw[Zc7,vF];simp only[aH,bh,cY,show decide ((0:Int)<2)=true from rfl,dG,ix0,aU,hx,aB,Za8,Za5,aV,az,ln1,l1,eV,w11];rw[vF];simp only[aH,bh,cY,show decide ((1:Int)<2)=true from rfl,dG,ix1,aU,hx,aB,Za8,Za5,Zc0,aV,az,ln2,l2,eV,w12];rw[vF];simp only[aH,bh,cY,show decide ((2:Int)<2)=false from rfl,di]
     unfold aaY at L1;rw[Zc7]at L1;generalize Io J g a (zV J.p.ts k) (Io J g a (qL J.p.ts k) false true).1 (Io J g a (qL J.p.ts k) false true).2=e at*
     obtain⟨so,si⟩:=e;have tail:∃s2,I s2 (l++yH (so&&si) 1 [(a:Int)])/\ia M sB s2/\∀(k2:Q2)(f:Nat),fY c (F'+3) k2 (f+1) (kL vb rb fv P q.length a) s=fY c (F'+3) k2 f (kL vb rb fv P q.length (a+1)) s2:=by
        obtain⟨s2,v2,a1,a2,a3⟩:=H.Yu uh hB a;cases so<;>cases si
        case true.true=>
         refine⟨s2,a2,ZR.trans a3,λk2 f=> ?_⟩;simp only[kL,show((a+1:Nat):Int)=(a:Int)+1 by omega];rw[mS];simp[-au,-qf,cL,oE,p1,p3,p4,dn,e8,ak,vc,jc,m1,m2,m3,m4,nw,ahv,L1,a1,wr]
        all_goals
         refine⟨_,by simpa [dZ]using uh,ZR,λk2 f=> ?_⟩;simp only[kL,show((a+1:Nat):Int)=(a:Int)+1 by omega];rw[mS];simp[-au,-qf,cL,oE,p1,p3,p4,dn,e8,ak,vc,jc,m1,m2,m3,m4,nw,ahv,L1,wr]
     have e0:(decide (0<=(k:Int))&&(true&&(so&&si)))=(so&&si):=(by rw[Za0 h0];simp);rw[e0];exact tail
 . have dn:decide (y<0)=true:=Za0 (by omega);refine⟨s,by simpa [h0,dZ]using hI,hF,λk2 f=> ?_⟩;simp only[kL,show((a+1:Nat):Int)=(a:Int)+1 by omega];rw[mS];simp[-au,cL,oE,p1,p3,dn,wr]
theorem anh(H:kC c fv s0 I M)(hc:bw c)(V:Vw s0 vb jb j J P G q g)(r:Rl)(hI:I s l)(hB:fK l+2*q.length<=1000000):
  ∃s',c 100 [.ptr vb 0,.agg r.cells,fv] s=some (.tuple [],s')/\I s' (l++N4 (qF q) q.length (adI J r g)):=by
 refine H.fin hI (λh=>UH hc (q.length+1001) h) ?_;have hw:=(H.ai hI).wf;have gr:=Grew.ah hw (.cells r.cells 0);have dI:=H.grow hI gr;have V1:=V.ai (H.ai dI);have tj:¬M (ah s (.cells r.cells 0)) s.next:=λh=>by have:=H.mlt hI (H.mP hI gr h);omega
 have vc:=V1.vc;have ln:=λ(K:AV->St->Option (AV×St))=>V1.pq.lenB (c:=c) K (ah s (.cells r.cells 0))
 rw[Za4]at ln
 obtain⟨s',z1,z2,z3⟩:=Yv (E:=ZQ q (adI J r g)) (n:=q.length) (ahs _) (λk2=>fY c (q.length+1001) k2) (kL vb s.next fv P q.length) (λk2 f s=>by rw[mS];simp)
  (alg (c:=c) hc H V (aA s (.cells r.cells 0)) tj (F:=q.length+1001) (by omega)) q.length 0 (q.length+1001) _ l (by omega) (by omega) dI (ia.refl V1.wf) hB
 refine⟨s',?_,z1⟩;rw[YW,dm,show AV.cells (.agg r.cells)=r.cells from rfl];have z3:=z3 (λvs s=>mz vs (some (.tuple [],s)));simp only[az,bW,aO,Zb6,aU,vc,aB,Za8,Za5,Zc0,aV,ln];exact z3.trans rfl
end
def zn(J:Jt)(a:Nat):Bool:=match J.p.gs[a]? with|some g=>g.host|none=>false
def jT(J:Jt):JT:=⟨J.n,J.p.ts.length,yI J,zn J⟩
def aa0(J:Jt)(r:Rl)(t:Nat):Bool:=decide (r.t=[])||decide (r.t=Wo J.p.ts t)
section
variable{c : aj}{fv : AV}{s0 sB : St}{I : St -> List Ev -> Prop}{M : St -> Pos -> Prop}{s : St}{l l' : List Ev}{vb jb : Pos}{j : Jc}{J : Jt}{P G : AV}{q g : List Int}
theorem kC.apH(H:kC c fv s0 I M)(hI:I s l){T:Option (AV×St)}{f:FuncId}{args:List AV}{v:AV}(hr:∀{r},T=some r->c f args s=some (tidy s r))(h:∃s',T=some (v,s')/\I s' l'/\ia M s s'):
   ∃s',c f args s=some (v,s')/\I s' l'/\ia M s s':=by
 obtain⟨s',h1,h2,h4⟩:=h;have h3:=hr h1;unfold tidy at h3;split at h3
 . rename_i hk;exact⟨s,h3,H.back hI h2 hk.2,ia.refl (H.ai hI).wf⟩
 . exact⟨s',h3,h2,h4⟩
def DoC(c:aj)(dv:AV)(I:St->List Ev->Prop)(M:St->Pos->Prop)(n:Nat)(sB:St)(D:List Int->List Ev):Prop:=
 ∀  {s l}{W:AV}{who:List Int},I s l->ia M sB s->QS 1 s W (who.map bV)->who.length<=n->(∀x∈who,0<=x/\x<(n:Int))->fK l+2000<=1000000->
    ∃s' v,(∀(K:AV->St->Option (AV×St)),aq c .callV [dv,W] s K=K v s')/\I s' (l++D who)/\ia M s s'
theorem Vw.auG(V:Vw s vb jb j J P G q g){t:Nat}{T:aD}(ht:J.p.ts[t]? =some T):∃v b o,Rd s 7 j.V1 t b o (T.ax v)/\aQ (T.ax v)=true:=by
 obtain⟨s0,r1,r2,_,h,_⟩:=V.jw.ps;have hl:t<r1.length:=by rw[h.len];exact(Za2.1 ht).1
 obtain⟨v,e,hv,_⟩:=h.dX t T r1[t] ht (H0 hl);obtain⟨b,o,h4⟩:=h.out.own.rd h.out.row (H0 hl);exact⟨v,b,o,by rw[<-e];exact h4,T.Ln (by simp[aQ,hv.own.cells.2])⟩
def Lo(J:Jt)(q:List Int)(t k:Nat):List Int:=((List.range k).filter ((jT J).at (qF q) t)).map λ(g:Nat)=>(g:Int)
theorem ani(J:Jt)(q:List Int)(t k:Nat):Lo J q t (k+1)=Lo J q t k++(if(jT J).at (qF q) t k then [(k:Int)]else []):=by
 unfold Lo;rw[Zf9,Zk9,Zd3];cases h:(jT J).at (qF q) t k<;>simp[h]
theorem Sa(J:Jt)(q:List Int)(t k:Nat):(Lo J q t k).length<=k:=by unfold Lo;rw[Za4,Wj];exact Wi _ _
theorem asa(V:Vw s0 vb jb j J P G q g)(gs:Grew s0 sB){t:Nat}(ht:t<1000)(x2 x4 x18 x19 x20:AV)(F:Nat):
  ∀ (m k f:Nat)(s:St)(v:AV),k+m=q.length->m<f->Mk 1 sB s v ((Lo J q t k).map bV)->∃s' v',Mk 1 sB s' v' ((Lo J q t q.length).map bV)/\
    ∀k4,ni c F k4 f [.ptr vb 0,x2,x4,.int .i64 (t:Int),v,x18,x19,x20,P,.int .i64 (q.length:Int),.int .i64 (k:Int)] s=k4 [.ptr vb 0,x2,x4,v',x18,x19,x20] s':=by
 intro m;induction m with
 |zero=>
  intro k f s v hk hf hM;obtain⟨f,rfl⟩:∃g,f=g+1:=⟨f - 1,by omega⟩
  obtain rfl:k=q.length:=by omega
  exact⟨s,v,hM,λk4=>by rw[rq];simp⟩
 |succ m ih=>
  intro k f s v hk hf hM;obtain⟨f,rfl⟩:∃g,f=g+1:=⟨f - 1,by omega⟩
  have V1:=V.ai (gs.trans hM.ai);have vc:=V1.vc;have jc:=V1.jw.mA;have fC:k<q.length:=by omega
  obtain⟨y,hy⟩:∃y,q[k]? =some y:=⟨_,H0 fC⟩
  obtain⟨pb,po,p⟩:=qq V1.pq hy;have p1:=λ{R}=>@p.st R
  have p3:=p.one;have hN:=V1.EP;have jz:=V.ql;have wr:av .i64 ((k:Int)+1)=((k+1:Nat):Int):=wrap64 (by omega) (by omega);have wl:=Sa J q t k;have hs:=ani J q t k;have ea:(jT J).at (qF q) t k=(decide (0<=y)&&yI J y==t):=by unfold JT.at on jT;rw[jt hy]
  rw[ea]at hs;by_cases h0:0<=y
  . obtain⟨i,rfl,hi⟩:=V1.kB hy h0;obtain⟨tb,to,u⟩:=V1.rT hi;have t1:=λ{R}=>@u.st R
    have t3:=u.one;unfold yI at hs;rw[Zc7,Za0 h0,Zg6]at hs;by_cases hT:cJ J.p.ts i=t
    .   have d1:decide (((cJ J.p.ts i:Nat):Int)=(t:Int))=true:=Za0 (by omega);rw[Zb3 (by simpa using hT)]at hs;obtain⟨s5,v5,a1,a2,_,_⟩:=hM.push (R:=AV×St) (c:=c) (bytes:=8) (z:=[.int .i64 0]) (x:= .int .i64 (k:Int)) rfl rfl rfl (by omega) (by rw[Za4];omega) (by rw[Za4];omega);obtain⟨s',v',z1,z2⟩:=ih (k+1) f s5 v5 (by omega) (by omega) (by rw[hs,Zd3];exact a2);refine⟨s',v',z1,λk4=> ?_⟩;rw[<-z2 k4,rq];simp[-au,cL,fC,p1,p3,vc,jc,t1,t3,d1,a1,wr]
    .   have d1:decide (((cJ J.p.ts i:Nat):Int)=(t:Int))=false:=Za1 (by omega);rw[Za7 (by simpa using hT),Ze0]at hs;obtain⟨s',v',z1,z2⟩:=ih (k+1) f s v (by omega) (by omega) (by rw[hs];exact hM);refine⟨s',v',z1,λk4=> ?_⟩;rw[<-z2 k4,rq];simp[-au,cL,fC,p1,p3,vc,jc,t1,t3,d1,wr]
  . rw[Za1 h0,Bool.false_and,Za7 (by simp),Ze0]at hs;obtain⟨s',v',z1,z2⟩:=ih (k+1) f s v (by omega) (by omega) (by rw[hs];exact hM);refine⟨s',v',z1,λk4=> ?_⟩;rw[<-z2 k4,rq];simp[-au,cL,fC,p1,p3,h0,wr]
abbrev Sb(vb rb:Pos)(dv V1:AV)(n a:Nat):List AV:=[.ptr vb 0,dv,.ptr rb 0,V1,.int .i64 (n:Int),.int .i64 (a:Int)]
def GQ(J:Jt)(q:List Int)(r:Rl)(D:List Int->List Ev)(t:Nat):List Ev:=if aa0 J r t then D (Lo J q t q.length)else []
theorem anj (H:kC c fv s0 I M) (V:Vw s0 vb jb j J P G q g){dv:AV}{D:List Int->List Ev}(hD:DoC c dv I M J.n sB D){r:Rl}{rb:Pos}(hr:sB.heap.get rb=some (.cells r.cells 0))(tj:¬M sB rb)(F:Nat)(hFu:q.length<F)(t:Nat)(s:St)(l:List Ev)(oE:t<J.p.ts.length)(hI:I s l)(hF:ia M sB s)(hB:fK l+2000<=1000000):
   ∃s2,I s2 (l++GQ J q r D t)/\ia M sB s2/\∀(k2:Q2)(f:Nat),gO c F k2 (f+1) (Sb vb rb dv j.V1 J.p.ts.length t) s=gO c F k2 f (Sb vb rb dv j.V1 J.p.ts.length (t+1)) s2:=by
 have V1:=V.ai (H.ai hI);have vc:=V1.vc;have sU:=V1.jw.xR.ts;obtain⟨T,hT⟩:∃T,J.p.ts[t]? =some T:=⟨_,H0 oE⟩
 obtain⟨v,b,o,h1,h2⟩:=V1.auG hT;have r1:=λ{R}=>@h1.st R
 have r2:=h1.all;have e8:=(hF.2.2 rb _ tj hr).1;have wr:av .i64 ((t:Int)+1)=(t:Int)+1:=wrap64 (by omega) (by omega);have gN:=Grew.ah V1.wf (.cells (T.ax v) 0);have uh:=H.grow hI gN;have ZR:=hF.trans (H.fr hI gN);have V2:=V.ai (H.ai uh);have vc2:=V2.vc;have hx:=aA s (.cells (T.ax v) 0);have apI:=gN.get e8;have st7:∀(K:AV->St->Option (AV×St)),aq c (.store 7) [.ptr s.next 0,.agg (T.ax v)] (ah s (.cells [.str [],.int .u8 0,.int .i64 0,.int .i64 0,.af,.int .i64 0,.int .i64 0] 0)) K=K .undef (ah s (.cells (T.ax v) 0)):=λK=>
   cw c K s 7 (.agg (T.ax v)) [.str [],.int .u8 0,.int .i64 0,.int .i64 0,.af,.int .i64 0,.int .i64 0] rfl rfl h2
 have ln:=λ(K:AV->St->Option (AV×St))=>V2.pq.lenB (c:=c) K (ah s (.cells (T.ax v) 0))
 rw[Za4]at ln;have aS:decide ((t:Int)<(J.p.ts.length:Int))=true:=Za0 (by omega);have c0:(T.ax v)[0]? =some (.str T.name):=rfl;have en:Wo J.p.ts t=T.name:=by unfold Wo;rw[hT]
 obtain⟨s',v',z1,z2⟩:=asa (c:=c) V (H.ai uh) (t:=t) (by omega) dv (.ptr rb 0) j.V1 (.int .i64 (J.p.ts.length:Int)) (.int .i64 (t:Int)) F q.length 0 F _ .af (by omega) hFu (Mk.start V2.wf (Grew.refl V2.wf));simp only[show((0:Nat):Int)=0 from rfl]at z2;have jz:=V.ql;have hwl:=Sa J q t q.length;have yx:∀x∈Lo J q t q.length,0<=x/\x<(J.n:Int):=λx hx=>by unfold Lo at hx;obtain⟨i,hi,rfl⟩:=Zd0.1 hx;have:=Zh3.1 (Zm1.1 hi).1;omega
 obtain ⟨s3,v3,y1,y2,y3⟩:=hD (H.grow uh z1.ai) (ZR.trans (H.fr uh z1.ai)) z1.own (by omega) yx hB;have arl:∀(k2:Q2)(f:Nat),decide (r.t=[ ])=true\/decide (r.t=T.name)=true->gO c F k2 (f+1) (Sb vb rb dv j.V1 J.p.ts.length t) s=gO c F k2 f (Sb vb rb dv j.V1 J.p.ts.length (t+1)) s3:=λk2 f hor=>by
   simp only[Sb,show((t+1:Nat):Int)=(t:Int)+1 by omega];rw[w9];by_cases he:r.t=[]
   . have d1:decide (r.t=[])=true:=Za0 he;simp only[aH,bh,cY,aS,dG,cL,az,r1,fj,r2,eO,dh,st7,aO,aU,apI,aB,Za8,Zb6,Rl.c4,aV,aaJ,d1,Zk3,amQ,ja,di,bW,vc2,Zc0,Za5,ln,z2,y1,eV,wr]
   . have d1:decide (r.t=[])=false:=Za1 he
     have d2:decide (r.t=T.name)=true:=by rcases hor with h|h
                                          . rw[d1]at h;cases h
                                          . exact h
     simp only[aH,bh,cY,aS,dG,cL,az,r1,fj,r2,eO,dh,st7,aO,aU,apI,hx,c0,aB,Za8,Zb6,Rl.c4,aV,aaJ,d1,d2,Zk3,Zl6,gU,CU,di,bW,vc2,Zc0,Za5,ln,z2,y1,eV,wr]
 unfold GQ aa0;rw[en];by_cases he:r.t=[]
 . refine⟨s3,by simpa [he]using y2,(ZR.trans (H.fr uh z1.ai)).trans y3,λk2 f=>arl k2 f (.inl (Za0 he))⟩
 . by_cases hn:r.t=T.name
   . refine⟨s3,by simpa [hn]using y2,(ZR.trans (H.fr uh z1.ai)).trans y3,λk2 f=>arl k2 f (.inr (Za0 hn))⟩
   . refine⟨_,by simpa [he,hn]using uh,ZR,λk2 f=> ?_⟩;have d1:decide (r.t=[])=false:=Za1 he;have d2:decide (r.t=T.name)=false:=Za1 hn;simp only[Sb,show((t+1:Nat):Int)=(t:Int)+1 by omega];rw[w9];simp only[aH,bh,cY,aS,dG,cL,az,r1,fj,r2,eO,dh,st7,aO,aU,apI,hx,c0,aB,Za8,Zb6,Rl.c4,aV,aaJ,d1,d2,Zl6,gU,CU,eV,wr]
theorem adJ(H:kC c fv s0 I M)(hc:bw c)(V:Vw s0 vb jb j J P G q g){dv:AV}{D:List Int->List Ev}(hD:DoC c dv I M J.n s D)(hDW:∀who:List Int,who.length<=J.n->fK (D who)<=2000)(r:Rl)(hI:I s l)(hB:fK l+2000*J.p.ts.length<=1000000):
  ∃s',c 166 [.ptr vb 0,.agg r.cells,dv] s=some (.tuple [],s')/\I s' (l++cF (GQ J q r D) J.p.ts.length 0):=by
 refine H.fin hI (λh=>Wv hc (q.length+J.p.ts.length+1) h) ?_;have hw:=(H.ai hI).wf;have gr:=Grew.ah hw (.cells r.cells 0);have dI:=H.grow hI gr;have V1:=V.ai (H.ai dI);have tj:¬M (ah s (.cells r.cells 0)) s.next:=λh=>by have:=H.mlt hI (H.mP hI gr h);omega
 have vc:=V1.vc;have jc:=V1.jw.mA;obtain⟨s0',r1',r2',_,tsq,_⟩:=V1.jw.ps;have ln:=λ(K:AV->St->Option (AV×St))=>tsq.out.own.lenB (c:=c) K (ah s (.cells r.cells 0))
 rw[tsq.len]at ln;have hF:=H.fr hI gr;have jz:=V.ql;obtain⟨s',z1,z2,z3⟩:=Yv (E:=GQ J q r D) (n:=J.p.ts.length) (B:=2000) (λt=>by
   unfold GQ;split
   . exact hDW _ (by have:=Sa J q t q.length;omega)
   . exact Zi0 _) (λk2=>gO c (q.length+J.p.ts.length+1) k2) (Sb vb s.next dv j.V1 J.p.ts.length) (λk2 f s=>by rw[w9];simp)
  (anj (c:=c) (sB:=ah s (.cells r.cells 0)) H V (λ{s2 l2 W who} h1 h2=>hD h1 (hF.trans h2)) (aA s (.cells r.cells 0)) tj (q.length+J.p.ts.length+1) (by omega)) J.p.ts.length 0 (q.length+J.p.ts.length+1) _ l (by omega) (by omega) dI (ia.refl V1.wf) hB
 refine⟨s',?_,z1⟩;rw[aa1,dm,show AV.cells (.agg r.cells)=r.cells from rfl];have z3:=z3 (λvs s=>mz vs (some (.tuple [],s)));simp only[az,bW,aO,Zb6,aU,vc,jc,Jc.c0,aB,Za8,Za5,Zc0,aV,ln];exact z3.trans rfl
theorem asb(hc:bw c)(H:kC c fv s0 I M){n m:Nat}{r:Rl}(hn:r.n=(m:Int))(hm:m<=1000)(hn1:n<=100){rb fb:Pos}(hr:sB.heap.get rb=some (.cells r.cells 0))(tj:¬M sB rb)(hf:sB.heap.get fb=some (.cells [fv] 0))(hfM:¬M sB fb):
  DoC c (.func 172 [] [.ptr rb 0,.ptr fb 0]) I M n sB (RV m):=λ{s l W who} hI hF hW hl _ hB=>by
 have b1:=(hF.2.2 rb _ tj hr).1;have b2:=(hF.2.2 fb _ hfM hf).1;have ln:=λ(K:AV->St->Option (AV×St))=>hW.lenB (c:=c) K s
 rw[Za4]at ln;have key:∃s',c 172 [W,.ptr rb 0,.ptr fb 0] s=some (.tuple [],s')/\I s' (l++RV m who)/\ia M s s':=by
  refine H.apH hI (λh=>Sc hc 1 h) ?_;unfold RV;by_cases h:who.length<m
  . obtain⟨s',v,h1,h2,h3⟩:=H.call (k:=m - who.length) hI hW (by omega);refine⟨s',?_,by simpa [h,rf]using h2,h3⟩;have d:decide ((who.length:Int)<r.n)=true:=Za0 (by omega);have w:av .i64 (r.n - (who.length:Int))=((m - who.length:Nat):Int):=(by rw[wrap64 (by omega) (by omega)];omega);rw[GU];simp only[az,ln,aO,Zb6,aU,b1,b2,aB,Za8,Rl.c5,aV,cY,d,dG,Za5,adw,w,h1]
  . refine⟨s,?_,by simpa [h,dZ]using hI,ia.refl (H.ai hI).wf⟩;have d:decide ((who.length:Int)<r.n)=false:=Za1 (by omega);rw[GU];simp only[az,ln,aO,Zb6,aU,b1,b2,aB,Za8,Rl.c5,aV,cY,d,di]
 obtain⟨s',h1,h2,h3⟩:=key;exact⟨s',.tuple [],λK=>by rw[iU];simp only[Ze3,Zd9];rw[h1];rfl,h2,h3⟩
theorem apJ(hc:bw c)(H:kC c fv s0 I M){n m:Nat}{r:Rl}(hn:r.n=(m:Int))(hm:m<=1000)(hn1:n<=100){rb fb:Pos}(hr:sB.heap.get rb=some (.cells r.cells 0))(tj:¬M sB rb)(hf:sB.heap.get fb=some (.cells [fv] 0))(hfM:¬M sB fb):
  DoC c (.func 173 [] [.ptr rb 0,.ptr fb 0]) I M n sB (RW m):=λ{s l W who} hI hF hW hl _ hB=>by
 have b1:=(hF.2.2 rb _ tj hr).1;have b2:=(hF.2.2 fb _ hfM hf).1;have ln:=λ(K:AV->St->Option (AV×St))=>hW.lenB (c:=c) K s
 rw[Za4]at ln;have key:∃s',c 173 [W,.ptr rb 0,.ptr fb 0] s=some (.tuple [],s')/\I s' (l++RW m who)/\ia M s s':=by
  refine H.apH hI (λh=>PT hc 1 h) ?_;unfold RW;by_cases h:m<who.length
  . obtain⟨s',v,h1,h2,h3⟩:=H.call (k:=who.length - m) hI hW (by omega);refine⟨s',?_,by simpa [h,rf]using h2,h3⟩;have d:decide (r.n<(who.length:Int))=true:=Za0 (by omega);have w:av .i64 ((who.length:Int) - r.n)=((who.length - m:Nat):Int):=(by rw[wrap64 (by omega) (by omega)];omega);rw[ER];simp only[az,ln,aO,Zb6,aU,b1,b2,aB,Za8,Rl.c5,aV,oo,d,dG,Za5,adw,w,h1]
  . refine⟨s,?_,by simpa [h,dZ]using hI,ia.refl (H.ai hI).wf⟩;have d:decide (r.n<(who.length:Int))=false:=Za1 (by omega);rw[ER];simp only[az,ln,aO,Zb6,aU,b1,b2,aB,Za8,Rl.c5,aV,oo,d,di]
 obtain⟨s',h1,h2,h3⟩:=key;exact⟨s',.tuple [],λK=>by rw[iU];simp only[Ze3,Zd9];rw[h1];rfl,h2,h3⟩
theorem asc(V:Vw s vb jb j J P G q g){vp:Pos}(hv:s.heap.get vp=some (.cells [.ptr vb 0] 0)){W:AV}{who:List Int}(hW:QS 1 s W (who.map bV))(hl:who.length<=1000)(hm:∀x∈who,0<=x/\x<(J.n:Int))(x2:AV)(F:Nat)(k1 k2:Q2):
  ∀(m k f:Nat),k+m=who.length->m<f->nU c F k1 k2 f [W,.ptr vp 0,x2,W,.int .i64 (who.length:Int),.int .i64 (k:Int)] s=if(who.drop k).any (λg=>zn J g.toNat)then k1 [] s else k2 [W,x2] s:=by
 have vc:=V.vc;have jc:=V.jw.mA;intro m;induction m with
 |zero=>
  intro k f hk hf;obtain⟨f,rfl⟩:∃g,f=g+1:=⟨f - 1,by omega⟩
  obtain rfl:k=who.length:=by omega
  rw[uB];simp
 |succ m ih=>
  intro k f hk hf;obtain⟨f,rfl⟩:∃g,f=g+1:=⟨f - 1,by omega⟩
  have fC:k<who.length:=by omega
  obtain⟨wb,wo,w1⟩:=qq hW (H0 fC);have q1:=λ{R}=>@w1.st R
  have q3:=w1.one;have wr:av .i64 ((k:Int)+1)=((k+1:Nat):Int):=wrap64 (by omega) (by omega);have bd:=hm _ (Zb8 fC);obtain⟨i,hi⟩:∃i:Nat,who[k]=(i:Int):=⟨who[k].toNat,by omega⟩
  have PR:i<J.p.gs.length:=by have:J.n=J.p.gs.length:=rfl;omega
  obtain⟨v,ab,ao,h1⟩:=V.rG (H0 PR);have r1:=λ{R}=>@h1.st R
  have r2:=h1.at' 6 _ rfl;have eh:zn J i=(J.p.gs[i]).host:=by unfold zn;rw[H0 PR]
  rw[Zd6 fC,List.any_cons,hi,Zc7,eh];rw[hi]at q3;generalize (J.p.gs[i]).host=e at*
  cases e
  . rw[Bool.false_or, <-ih (k+1) f (by omega) (by omega),uB];simp[fC,q1,q3,hv,vc,jc,r1,r2,wr]
  . rw[uB];simp[fC,q1,q3,hv,vc,jc,r1,r2]
theorem ase(hc:bw c)(H:kC c fv s0 I M)(V:Vw s0 vb jb j J P G q g){vp fb:Pos}(hv:sB.heap.get vp=some (.cells [.ptr vb 0] 0))(hvM:¬M sB vp)(hf:sB.heap.get fb=some (.cells [fv] 0))(hfM:¬M sB fb):
  DoC c (.func 167 [] [.ptr vp 0,.ptr fb 0]) I M J.n sB (RU (zn J)):=λ{s l W who} hI hF hW hl yx hB=>by
 have b1:=(hF.2.2 vp _ hvM hv).1;have b2:=(hF.2.2 fb _ hfM hf).1;have V1:=V.ai (H.ai hI);have hN:=V1.EP;have ln:=λ(K:AV->St->Option (AV×St))=>hW.lenB (c:=c) K s
 rw[Za4]at ln;have lp:=λ(k1 k2:Q2)=>asc (c:=c) V1 b1 hW (by omega) yx (.ptr fb 0) (who.length+1) k1 k2 who.length 0 (who.length+1) (by omega) (by omega)
 simp only[Ze6,show((0:Nat):Int)=0 from rfl]at lp;have key:∃s',c 167 [W,.ptr vp 0,.ptr fb 0] s=some (.tuple [],s')/\I s' (l++RU (zn J) who)/\ia M s s':=by
  refine H.apH hI (λh=>Sd hc (who.length+1) h) ?_;unfold RU;generalize who.any (λg=>zn J g.toNat)=e at*
  cases e
  . by_cases h:0<who.length
    .   obtain⟨s',v,h1,h2,h3⟩:=H.call (k:=1) hI hW (by omega);refine⟨s',?_,by simpa [h,rf]using h2,h3⟩;have d:decide ((0:Int)<(who.length:Int))=true:=Za0 (by omega);simp only[show((1:Nat):Int)=1 from rfl]at h1;rw[yJ];simp only[az,ln,lp,Zf5,Zh2,aH,bh,oo,d,dG,aU,b2,aB,Za8,Za5,aV,h1]
    .   refine⟨s,?_,by simpa [h,dZ]using hI,ia.refl (H.ai hI).wf⟩;have d:decide ((0:Int)<(who.length:Int))=false:=Za1 (by omega);rw[yJ];simp only[az,ln,lp,Zf5,Zh2,aH,bh,oo,d,di]
  . refine⟨s,?_,by simpa [dZ]using hI,ia.refl (H.ai hI).wf⟩;rw[yJ];simp only[az,ln,lp,Zh5,bh]
 obtain⟨s',h1,h2,h3⟩:=key;exact⟨s',.tuple [],λK=>by rw[iU];simp only[Ze3,Zd9];rw[h1];rfl,h2,h3⟩
end
theorem ahw(h:Nat->Bool){n:Nat}(hn:n<=100)(who:List Int)(hw:who.length<=n):fK (RU h who)<=2000:=by unfold RU;have:=GJ (!who.any (λg=>h g.toNat)&&decide (0<who.length)) 1 who;omega
theorem ahx(m:Nat)(hm:m<=1000){n:Nat}(hn:n<=100)(who:List Int)(hw:who.length<=n):fK (RV m who)<=2000:=by unfold RV;have:=GJ (decide (who.length<m)) (m - who.length) who;omega
theorem ahy(m:Nat){n:Nat}(hn:n<=100)(who:List Int)(hw:who.length<=n):fK (RW m who)<=2000:=by unfold RW;have:=GJ (decide (m<who.length)) (who.length - m) who;omega
theorem acn:∀l:List Ev,kj l<=fK l
 |[]=>Za3 _
 |e::l=>by have:=acn l;show(List.map _ (e::l)).sum<=(List.map _ (e::l)).sum;rw[Zd5,Zd5,Zo8,Zo8];unfold kj fK at this;omega
section
variable{c : aj}{fv : AV}{s0 sB : St}{I : St -> List Ev -> Prop}{M : St -> Pos -> Prop}{s : St}{l l' : List Ev}{vb jb : Pos}{j : Jc}{J : Jt}{P G : AV}{q g : List Int}
theorem apK(hc:bw c)(H:kC c fv s0 I M)(V:Vw s0 vb jb j J P G q g)(r:Rl)(hI:I s l)(hB:fK l+2000*J.p.ts.length<=1000000):
  ∃s',c 98 [.ptr vb 0,.agg r.cells,fv] s=some (.tuple [],s')/\I s' (l++cF (GQ J q r (RU (zn J))) J.p.ts.length 0):=by
 refine H.fin hI (λh=>Ww hc 1 h) ?_;have hw:=(H.ai hI).wf;have hN:=(V.ai (H.ai hI)).EP;have g1:=Grew.ah hw (.cells [.ptr vb 0] 0);have dI:=H.grow hI g1;have g2:=Grew.ah g1.wf (.cells r.cells 0);have uh:=H.grow dI g2;have g3:=Grew.ah g2.wf (.cells [fv] 0);have hI3:=H.grow uh g3;have m1:∀b,M (ah (ah (ah s (.cells [.ptr vb 0] 0)) (.cells r.cells 0)) (.cells [fv] 0)) b->b.toNat<s.next.toNat:=λb h=>H.mlt hI (H.mP hI g1 (H.mP dI g2 (H.mP uh g3 h)))
 have n1:(ah s (.cells [.ptr vb 0] 0)).next.toNat=s.next.toNat+1:=by rw[bM,Pos.aF]
 have n2:(ah (ah s (.cells [.ptr vb 0] 0)) (.cells r.cells 0)).next.toNat=s.next.toNat+2:=by rw[bM,Pos.aF,n1]
 have b1:=g3.get (g2.get (aA s (.cells [.ptr vb 0] 0)));have b2:=g3.get (aA (ah s (.cells [.ptr vb 0] 0)) (.cells r.cells 0));have b3:=aA (ah (ah s (.cells [.ptr vb 0] 0)) (.cells r.cells 0)) (.cells [fv] 0);obtain⟨s',z1,z2⟩:=adJ H hc V (ase hc H V b1 (λh=>by have:=m1 _ h;omega) b3 (λh=>by have:=m1 _ h;omega)) (ahw _ hN.2) r hI3 hB;refine⟨s',?_,z2⟩;rw[aa2];simp only[dm,show AV.cells (.agg r.cells)=r.cells from rfl,show AV.cells (.ptr vb 0)=[.ptr vb 0]from rfl,H.one.1,aU,b1,aB,Za8,Za5,aV,fj,b2,Rl.cc,eO,Gi,cC,z1,bS]
theorem apL(hc:bw c)(H:kC c fv s0 I M)(V:Vw s0 vb jb j J P G q g)(r:Rl){m:Nat}(hn:r.n=(m:Int))(hm:m<=1000)(hI:I s l)(hB:fK l+2000*J.p.ts.length<=1000000):
  ∃s',c 104 [.ptr vb 0,.agg r.cells,fv] s=some (.tuple [],s')/\I s' (l++cF (GQ J q r (RV m)) J.p.ts.length 0):=by
 refine H.fin hI (λh=>Wx hc 1 h) ?_;have hw:=(H.ai hI).wf;have hN:=(V.ai (H.ai hI)).EP;have g1:=Grew.ah hw (.cells r.cells 0);have dI:=H.grow hI g1;have g2:=Grew.ah g1.wf (.cells [fv] 0);have uh:=H.grow dI g2;have m1:∀b,M (ah (ah s (.cells r.cells 0)) (.cells [fv] 0)) b->b.toNat<s.next.toNat:=λb h=>H.mlt hI (H.mP hI g1 (H.mP dI g2 h))
 have n1:(ah s (.cells r.cells 0)).next.toNat=s.next.toNat+1:=by rw[bM,Pos.aF]
 have b1:=g2.get (aA s (.cells r.cells 0));have b2:=aA (ah s (.cells r.cells 0)) (.cells [fv] 0);obtain⟨s',z1,z2⟩:=adJ H hc V (asb hc H hn hm hN.2 b1 (λh=>by have:=m1 _ h;omega) b2 (λh=>by have:=m1 _ h;omega)) (ahx m hm hN.2) r uh hB;refine⟨s',?_,z2⟩;rw[aa3];simp only[dm,az,show AV.cells (.agg r.cells)=r.cells from rfl,H.one.1,fj,b1,aB,Za8,Rl.cc,eO,Gi,cC,z1,bS]
theorem ank(hc:bw c)(H:kC c fv s0 I M)(V:Vw s0 vb jb j J P G q g)(r:Rl){m:Nat}(hn:r.n=(m:Int))(hm:m<=1000)(hI:I s l)(hB:fK l+2000*J.p.ts.length<=1000000):
  ∃s',c 105 [.ptr vb 0,.agg r.cells,fv] s=some (.tuple [],s')/\I s' (l++cF (GQ J q r (RW m)) J.p.ts.length 0):=by
 refine H.fin hI (λh=>UI hc 1 h) ?_;have hw:=(H.ai hI).wf;have hN:=(V.ai (H.ai hI)).EP;have g1:=Grew.ah hw (.cells r.cells 0);have dI:=H.grow hI g1;have g2:=Grew.ah g1.wf (.cells [fv] 0);have uh:=H.grow dI g2;have m1:∀b,M (ah (ah s (.cells r.cells 0)) (.cells [fv] 0)) b->b.toNat<s.next.toNat:=λb h=>H.mlt hI (H.mP hI g1 (H.mP dI g2 h))
 have n1:(ah s (.cells r.cells 0)).next.toNat=s.next.toNat+1:=by rw[bM,Pos.aF]
 have b1:=g2.get (aA s (.cells r.cells 0));have b2:=aA (ah s (.cells r.cells 0)) (.cells [fv] 0);obtain⟨s',z1,z2⟩:=adJ H hc V (apJ hc H hn hm hN.2 b1 (λh=>by have:=m1 _ h;omega) b2 (λh=>by have:=m1 _ h;omega)) (ahy m hN.2) r uh hB;refine⟨s',?_,z2⟩;rw[YX];simp only[dm,az,show AV.cells (.agg r.cells)=r.cells from rfl,H.one.1,fj,b1,aB,Za8,Rl.cc,eO,Gi,cC,z1,bS]
def rA(J:Jt)(r:Rl):Nat:=(gi J.p r.a).toNat
def rB(J:Jt)(r:Rl):Nat:=(gi J.p r.b).toNat
def oJ(J:Jt)(q g:List Int)(r:Rl):List Ev:=match r.k.toNat with
 |1=>Dc (qF q) (rA J r) (rB J r) (aci J r)
 |2=>Dc (qF q) (rA J r) (rB J r) (ak6 J)
 |3=>Dc (qF q) (rA J r) (rB J r) (ak7 J)
 |4=>Dc (qF q) (rA J r) (rB J r) (af7 J r)
 |5=>Dc (qF q) (rA J r) (rB J r) (ak8 J)
 |6=>Wk (qF q) (rA J r) (atP J r)
 |7=>Wk (qF q) (rA J r) (af8 J r)
 |8=>zU (qF q) q.length (rj J r (aaW J))
 |9=>cF (GQ J q r (RU (zn J))) J.p.ts.length 0
 |10=>N4 (qF q) q.length (adG J r)
 |11=>N4 (qF q) q.length (adI J r g)
 |12=>zU (qF q) q.length (rj J r (Ll J))
 |13=>zU (qF q) q.length (R9 J r)
 |14=>zU (qF q) q.length (rj J r (Wu J))
 |15=>cF (GQ J q r (RV r.n.toNat)) J.p.ts.length 0
 |16=>cF (GQ J q r (RW r.n.toNat)) J.p.ts.length 0
 |17=>N4 (qF q) q.length (adH J r)
 |18=>zU (qF q) q.length (rj J r (aaX J))
 |_=>[]
structure TJ(p:cm)(r:Rl)(m:Nat):Prop where
 k:r.k=(m:Int)
 m1:1<=m
 m2:m<=18
 a:(kd m).a=103->0<=gi p r.a
 b:(kd m).b=true->0<=gi p r.b
 n:m=15\/m=16->0<=r.n/\r.n<=24
 w:0<=r.wt/\r.wt<=1000
theorem atB{p:cm}{r:Rl}(hr:r.Ok)(h:uq p r=0):∃m,TJ p r m:=by
 have hk:∃m:Nat,r.k=(m:Int):=⟨r.k.toNat,by have:=hr.1;omega⟩
 obtain⟨m,hk⟩:=hk;unfold uq at h;rw[hk,Zc7]at h;by_cases hm:1<=m/\m<=18
 . have h2:=h;unfold Se at h;by_cases e1:(kd m).w=[]
   . rw[Zb3 e1]at h;cases h
   rw[Za7 e1]at h;by_cases e2:r.wt<0\/1000<r.wt
   . rw[Zb3 e2]at h;cases h
   rw[Za7 e2]at h;by_cases e3:Lp (kd m) r=false
   . rw[Zb3 e3]at h;cases h
   rw[Za7 e3]at h;by_cases e4:((kd m).a=103/\gi p r.a<0)\/((kd m).a=101/\r.a≠[]/\gi p r.a<0)\/((kd m).b=true/\gi p r.b<0)
   . rw[Zb3 e4]at h;cases h
   rw[Za7 e4]at h;refine⟨m,hk,hm.1,hm.2,λha=> ?_,λhb=> ?_,λhm=> ?_,by omega⟩
   . exact Int.not_lt.1 λaS=>e4 (.inl ⟨ha,aS⟩)
   . exact Int.not_lt.1 λaS=>e4 (.inr (.inr ⟨hb,aS⟩))
   . unfold adK at h;have ka:(kd m).a=0:=(by rcases hm with rfl|rfl<;>rfl);have kb:(kd m).b=false:=(by rcases hm with rfl|rfl<;>rfl);have kn:(kd m).n=true:=(by rcases hm with rfl|rfl<;>rfl);have ks:(kd m).kB=false:=(by rcases hm with rfl|rfl<;>rfl);have kl:(kd m).lo=0:=(by rcases hm with rfl|rfl<;>rfl);rw[Za7 (by rw[ka];simp),Za7 (by rw[kb];simp)]at h;unfold Yw at h;split at h
     .  cases h
     .  unfold Bu at h;simp only[ks,kn,kl,Zf5,Zh2,Zs0]at h;split at h
        . cases h
        . omega
 . exfalso;have e:kd m=⟨[],0,false,0,false,0,false,.jO⟩:=by
     unfold kd;split<;>first|rfl|(exfalso;omega)
   rw[e]at h;unfold Se at h;simp at h
theorem Yx(p:cm)(s:List Nat)(h:0<=gi p s):(gi p s).toNat<p.gs.length:=by have:=(Bv (P:=nW p.gs s) p.gs.length 0 h).2.1;unfold gi;omega
theorem asf(hc:bw c)(H:kC c fv s0 I M)(V:Vw s0 vb jb j J P G q g)(eX:J.p.cs.length=J.n\/J.p.cs.length=0){r:Rl}{m:Nat}(R:TJ J.p r m)(hI:I s []):
   ∃f s',(kd m).f= .func f [] []/\c f [.ptr vb 0,.agg r.cells,fv] s=some (.tuple [],s')/\I s' (oJ J q g r):=by
 have hN:=V.EP;have jz:=V.ql;have sU:=V.jw.xR.ts;have e0:fK []=0:=rfl;have hb3:3*q.length*q.length<=30000:=by have:q.length<=100:=(by omega);have:=Zq1 this this;have e:3*q.length*q.length=3*(q.length*q.length):=Nat.mul_assoc _ _ _;omega
 have nil:∀E:List Ev,[]++E=E:=λE=>rfl
 have two:(kd m).a=103->(kd m).b=true->Two J q r (rA J r) (rB J r) (qF q (rA J r)) (qF q (rB J r)):=λha hb=>by
   have h1:=R.a ha;have h2:=R.b hb;have l1:=Yx _ _ h1;have l2:=Yx _ _ h2;have l1:rA J r<q.length:=(by rw[jz];exact l1);have l2:rB J r<q.length:=(by rw[jz];exact l2);refine⟨by unfold rA;omega,by unfold rB;omega,?_,?_⟩
   . rw[H0 l1,jt (H0 l1)]
   . rw[H0 l2,jt (H0 l2)]
 have one:(kd m).a=103->gi J.p r.a=((rA J r:Nat):Int)/\q[rA J r]? =some (qF q (rA J r)):=λha=>by
   have h1:=R.a ha;have l1:=Yx _ _ h1;have l1:rA J r<q.length:=(by rw[jz];exact l1);exact⟨by unfold rA;omega,by rw[H0 l1,jt (H0 l1)]⟩
 have hn:m=15\/m=16->r.n=((r.n.toNat:Nat):Int)/\r.n.toNat<=1000:=λh=>by have:=R.n h;omega
 have tP:J.p.cs.length=q.length\/J.p.cs.length=0:=by rw[jz];exact eX
 unfold oJ;rw[R.k,Zc7];have m1:=R.m1;have m2:=R.m2;rcases Ca m1 m2 with rfl|rfl|rfl|rfl|rfl|rfl|rfl|rfl|rfl|rfl|rfl|rfl|rfl|rfl|rfl|rfl|rfl|rfl
 . obtain⟨s',a,b⟩:=apD hc H V (two rfl rfl) hI (by omega);exact⟨_,s',rfl,a,b⟩
 . obtain⟨s',a,b⟩:=afp hc H V (two rfl rfl) hI (by omega);exact⟨_,s',rfl,a,b⟩
 . obtain⟨s',a,b⟩:=afq hc H V (two rfl rfl) hI (by omega);exact⟨_,s',rfl,a,b⟩
 . obtain⟨s',a,b⟩:=ak9 hc H V (two rfl rfl) hI (by omega);exact⟨_,s',rfl,a,b⟩
 . obtain⟨s',a,b⟩:=ai5 hc H V (two rfl rfl) hI (by omega);exact⟨_,s',rfl,a,b⟩
 . obtain⟨s',a,b⟩:=atA hc H V (one rfl).1 (one rfl).2 hI (by omega);exact⟨_,s',rfl,a,b⟩
 . obtain⟨s',a,b⟩:=apE hc H V (one rfl).1 (one rfl).2 hI (by omega);exact⟨_,s',rfl,a,b⟩
 . obtain⟨s',a,b⟩:=afs hc H V r hI (by omega);exact⟨_,s',rfl,a,b⟩
 . obtain⟨s',a,b⟩:=apK hc H V r hI (by omega);exact⟨_,s',rfl,a,b⟩
 . obtain⟨s',a,b⟩:=ang H hc V r hI (by omega);exact⟨_,s',rfl,a,b⟩
 . obtain⟨s',a,b⟩:=anh H hc V r hI (by omega);exact⟨_,s',rfl,a,b⟩
 . obtain⟨s',a,b⟩:=anf hc H V r hI (by omega);exact⟨_,s',rfl,a,b⟩
 . obtain⟨s',a,b⟩:=ai6 hc H V r hI (by omega);exact⟨_,s',rfl,a,b⟩
 . obtain⟨s',a,b⟩:=alb hc H V tP r hI (by omega);exact⟨_,s',rfl,a,b⟩
 . obtain⟨s',a,b⟩:=apL hc H V r (hn (.inl rfl)).1 (hn (.inl rfl)).2 hI (by omega);exact⟨_,s',rfl,a,b⟩
 . obtain⟨s',a,b⟩:=ank hc H V r (hn (.inr rfl)).1 (hn (.inr rfl)).2 hI (by omega);exact⟨_,s',rfl,a,b⟩
 . obtain⟨s',a,b⟩:=ai7 H hc V r hI (by omega);exact⟨_,s',rfl,a,b⟩
 . obtain⟨s',a,b⟩:=ar9 hc H V r hI (by omega);exact⟨_,s',rfl,a,b⟩
end
end
end Go.Proofs.YtgihekklfnjkiaaGreatDoor
