/- Faults of a rule. -/
import Derived.Test.YtgihekklfnjkiaaGreatDoorTPlainC
set_option linter.all false
set_option linter.unusedSectionVars false
set_option linter.deprecated false
namespace Go.Proofs.YtgihekklfnjkiaaGreatDoor
section
set_option maxRecDepth 100000
open Go Go.Ai Go.Proofs
variable{c : au}
theorem Gg(q:List Int):q.map bV=(q.map (AV.int .i64)).map nX:=by rw[Zh4];rfl
theorem rM{s:St}{v:AV}{q:List Int}(h:QS 1 s v (q.map bV)){i:Nat}{x:Int}(hx:q[i]? =some x):∃b o,Rd s 1 v i b o [.int .i64 x]:=by
 rw[Gg]at h;exact h.Jk (by rw[Zb4,hx];rfl)
structure Jc where
 V1:AV
 V2:AV
 V3:AV
 V4:AV
 V5:AV
 M:Pos
 L0:AV
 L1:AV
 L2:AV
 L3:AV
 L4:AV
 L5:AV
 L6:AV
 L7:AV
def Jc.Vs(j:Jc):List AV:=[j.V1,j.V2,j.V3,j.V4,j.V5]
def Jc.cells(j:Jc):List AV:=[j.V1,j.V2,j.V3,j.V4,j.V5,.map j.M,j.L0,j.L1,j.L2,j.L3,j.L4,j.L5,j.L6,j.L7]
structure Jt where
 p:bM
 N:Nat
 oQ:List (List Bool)
 oR:List (List Int)
section
variable(J : Jt)
def Jt.n:Nat:=J.p.gs.length
def Jt.steps(i:Nat):List (Int×Int):=acy (yl J.p.ts J.N) (ym J.p.ts J.N) J.N (i:Int)
end
structure JW(s:St)(jb:Pos)(j:Jc)(J:Jt):Prop where
 oc:s.heap.get jb=some (.cells j.cells 0)
 ps:∃s0 r1 r2,PS s0 s j.Vs J.p/\TS s0 s j.V1 J.p.ts r1/\GS s0 s j.V2 J.p.gs r2
 cls:QS 1 s j.V4 (J.p.cs.map bV)
 gK:QS 6 s j.V5 (J.p.rs.map Rl.cells)
 kin:s.heap.get j.M=some (.map ur 18)
 tab:QS 1 s j.L0 ((BO J.p.ts J.N).map nX)
 lvl:QS 1 s j.L1 ((BP J.p.ts J.N).map nX)
 jr:QS 1 s j.L2 ((BQ J.p.ts J.N).map nX)
 bes:RQ s j.L3 ((yl J.p.ts J.N).map λr=>r.map (AV.int .i64))
 acr:RQ s j.L4 ((ym J.p.ts J.N).map λr=>r.map (AV.int .i64))
 aq:∃ms:List Pos,QS 1 s j.L5 ((ms.map AV.map).map nX)/\ms.length=J.N/\∀(i:Nat)(m:Pos),ms[i]? =some m->s.heap.get m=some (im (J.steps i))
 com:RQ s j.L6 (J.oQ.map λr=>r.map AV.bool)
 tie:RQ s j.L7 (J.oR.map λr=>r.map (AV.int .u8))
 yo:J.p.CI
 n1:J.oQ.length=J.n
 n2:J.oR.length=J.n
 n3:∀r∈J.oQ,r.length=J.n
 n4:∀r∈J.oR,r.length=J.n
 nN:(J.N:Int)=aW J.p.ts
theorem TS.ai{s0 s s':St}{V:AV}{ts:List aB}{rows:List (List AV)}(h:TS s0 s V ts rows)(g:Grew s s'):TS s0 s' V ts rows:=
 ⟨h.out.grow g,h.len,λi t r a b=>by obtain⟨v,e1,e2,e3⟩:=h.dV i t r a b;exact⟨v,e1,e2.grow g,e3⟩⟩
theorem GS.ai{s0 s s':St}{V:AV}{ts:List aQ}{rows:List (List AV)}(h:GS s0 s V ts rows)(g:Grew s s'):GS s0 s' V ts rows:=
 ⟨h.out.grow g,h.len,λi t r a b=>by obtain⟨v,e1,e2,e3⟩:=h.dV i t r a b;exact⟨v,e1,e2.grow g,e3⟩⟩
theorem PS.KO{s0 s s':St}{Vs:List AV}{p:bM}(h:PS s0 s Vs p)(g:Grew s s'):PS s0 s' Vs p:=by
 obtain⟨V1,V2,V3,V4,V5,r1,r2,rfl,h1,h2,h3,h4,h5⟩:=h.all;exact⟨h.ai.trans g,V1,V2,V3,V4,V5,r1,r2,rfl,h1.ai g,h2.ai g,h3.grow g,h4.grow g,h5.grow g⟩
theorem JW.ai{s s':St}{jb:Pos}{j:Jc}{J:Jt}(h:JW s jb j J)(g:Grew s s'):JW s' jb j J where
 oc:=g.get h.oc
 ps:=by obtain⟨s0,r1,r2,a,b,d⟩:=h.ps;exact⟨s0,r1,r2,a.KO g,b.ai g,d.ai g⟩
 cls:=h.cls.ai g
 gK:=h.gK.ai g
 kin:=g.get h.kin
 tab:=h.tab.ai g
 lvl:=h.lvl.ai g
 jr:=h.jr.ai g
 bes:=h.bes.ai g
 acr:=h.acr.ai g
 aq:=by obtain⟨ms,a,b,d⟩:=h.aq;exact⟨ms,a.ai g,b,λi m hm=>g.get (d i m hm)⟩
 com:=h.com.ai g
 tie:=h.tie.ai g
 yo:=h.yo
 n1:=h.n1
 n2:=h.n2
 n3:=h.n3
 n4:=h.n4
 nN:=h.nN
theorem JW.of{s0 s1 s:St}{jb:Pos}{Vs:List AV}{p:bM}{N:Nat}{oQ:List (List Bool)}{oR:List (List Int)}(h:JD s1 s jb Vs p.ts N p.gs.length oQ oR)(hp:PS s0 s Vs p)(hf:p.CI)(hN:(N:Int)=aW p.ts):
   ∃j:Jc,JW s jb j ⟨p,N,oQ,oR⟩/\j.Vs=Vs:=by
 obtain⟨V1,V2,V3,V4,V5,r1,r2,rfl,h1,h2,h3,h4,h5⟩:=hp.all;obtain⟨m,L0,L1,L2,L3,L4,L5,L6,L7,wB,wA,ms,r6,r7,k0,k1,k2,k3,k4,k5,k6,k7,k8,k9⟩:=h.all;have lb:=Oa p.ts N;refine⟨⟨V1,V2,V3,V4,V5,m,L0,L1,L2,L3,L4,L5,L6,L7⟩,⟨k0,⟨s0,r1,r2,hp,h1,h2⟩,h4.own,h5.own,k1.2,k2.1,k3.1,k4.1,⟨wB,k5.1.1,by rw[k5.2.1,Za5,lb.1],λi w r a b=> ?_⟩,⟨wA,k6.1.1,by rw[k6.2.1,Za5,lb.2],λi w r a b=> ?_⟩,
   ⟨ms,k7.1.1,k7.2.1,λi m hm=>(k7.2.2 i m hm).2⟩,⟨r6,k8.1.1,by rw[k8.2.1,Za5];exact h.n1.symm,λi w r a b=> ?_⟩,⟨r7,k9.1.1,by rw[k9.2.1,Za5];exact h.n2.symm,λi w r a b=> ?_⟩,hf,h.n1,h.n2,h.n3,h.n4,hN⟩,rfl⟩
 all_goals
   rw[Zb4]at b;obtain⟨r,hr,rfl⟩:=Zf1.1 b
 . rw[<-Gg];exact(k5.2.2 i w r a hr).1
 . rw[<-Gg];exact(k6.2.2 i w r a hr).1
 . exact(k8.2.2 i w r a hr).1
 . exact(k9.2.2 i w r a hr).1
theorem apT(hc:bH c){s0 s:St}{Vs:List AV}{p:bM}(P:PS s0 s Vs p)(hp:p.CI)(nm:List Nat):c 109 [.agg Vs,.str nm] s=some (.int .i64 (gi p nm),s):=by
 obtain⟨p',e,S⟩:=P.ey 1;refine hc.at (s:=IL 109) rfl (ahj ?_ (bI.int _ _));rw[Zd2,Zd2,Zg3,e, <-S.gi nm];exact anq rfl p' (S.yo hp) nm (emptyAt s) (KM s)
structure Vw(s:St)(vb jb:Pos)(j:Jc)(J:Jt)(P G:AV)(q g:List Int):Prop where
 jw:JW s jb j J
 vc:s.heap.get vb=some (.cells [.ptr jb 0,P,G] 0)
 wf:Wf s
 pq:QS 1 s P (q.map bV)
 gq:QS 1 s G (g.map bV)
 ql:q.length=J.n
 gl:g.length=J.N
 ok:∀x∈q,-1<=x/\x<(J.N:Int)
 og:∀x∈g,-1<=x/\x<(J.n:Int)
theorem Vw.ai{s s':St}{vb jb:Pos}{j:Jc}{J:Jt}{P G:AV}{q g:List Int}(h:Vw s vb jb j J P G q g)(k:Grew s s'):Vw s' vb jb j J P G q g:=
 ⟨h.jw.ai k,k.get h.vc,k.wf,h.pq.ai k,h.gq.ai k,h.ql,h.gl,h.ok,h.og⟩
@[simp] theorem Jc.c0(j:Jc):j.cells[0]? =some j.V1:=id rfl
@[simp] theorem Jc.c1(j:Jc):j.cells[1]? =some j.V2:=id rfl
@[simp] theorem Jc.c3(j:Jc):j.cells[3]? =some j.V4:=id rfl
@[simp] theorem Jc.c4(j:Jc):j.cells[4]? =some j.V5:=id rfl
@[simp] theorem Jc.c5(j:Jc):j.cells[5]? =some (.map j.M):=id rfl
@[simp] theorem Jc.c6(j:Jc):j.cells[6]? =some j.L0:=id rfl
@[simp] theorem Jc.c7(j:Jc):j.cells[7]? =some j.L1:=id rfl
@[simp] theorem Jc.c8(j:Jc):j.cells[8]? =some j.L2:=id rfl
@[simp] theorem Jc.c9(j:Jc):j.cells[9]? =some j.L3:=id rfl
@[simp] theorem Jc.c10(j:Jc):j.cells[10]? =some j.L4:=id rfl
@[simp] theorem Jc.c11(j:Jc):j.cells[11]? =some j.L5:=id rfl
@[simp] theorem Jc.c12(j:Jc):j.cells[12]? =some j.L6:=id rfl
@[simp] theorem Jc.c13(j:Jc):j.cells[13]? =some j.L7:=id rfl
@[simp] theorem Jc.cc(j:Jc):cut j.cells 0 5=some j.Vs:=id rfl
section
variable{s : St}{vb jb : Pos}{j : Jc}{J : Jt}{P G : AV}{q g : List Int}(V : Vw s vb jb j J P G q g)
include V
theorem Vw.kD{a:Nat}{x:Int}(ha:q[a]? =some x)(hx:0<=x):∃i:Nat,x=(i:Int)/\i<J.N:=by
 have:=V.ok x (Zc0 ha);exact⟨x.toNat,by omega,by omega⟩
theorem Vw.rT{i:Nat}(hi:i<J.N):∃b o,Rd s 1 j.L0 i b o [.int .i64 ((cE J.p.ts i:Nat):Int)]:=
 V.jw.tab.Jk (by unfold BO;rw[Zb4,Zh5 hi];rfl)
theorem Vw.rL{i:Nat}(hi:i<J.N):∃b o,Rd s 1 j.L1 i b o [.int .i64 (IM J.p.ts ((i:Nat):Int))]:=
 V.jw.lvl.Jk (by unfold BP;rw[Zb4,Zh5 hi];rfl)
theorem Vw.rO{i:Nat}(hi:i<J.N):∃b o,Rd s 1 j.L2 i b o [.bool (OV J.p.ts ((i:Nat):Int))]:=
 V.jw.jr.Jk (by unfold BQ;rw[Zb4,Zh5 hi];rfl)
theorem Vw.rB{i:Nat}(hi:i<J.N):∃w b o,Rd s 1 j.L3 i b o [w]/\QS 1 s w ((qM J.p.ts i).map bV):=by
 obtain⟨w,b,o,h1,h2⟩:=V.jw.bes.rd (i:=i) (r:=(qM J.p.ts i).map (AV.int .i64)) (by unfold yl;rw[Zb4,Zb4,Zh5 hi];rfl);exact⟨w,b,o,h1,by rw[Gg];exact h2⟩
theorem Vw.rA{i:Nat}(hi:i<J.N):∃w b o,Rd s 1 j.L4 i b o [w]/\QS 1 s w ((AI J.p.ts i).map bV):=by
 obtain⟨w,b,o,h1,h2⟩:=V.jw.acr.rd (i:=i) (r:=(AI J.p.ts i).map (AV.int .i64)) (by unfold ym;rw[Zb4,Zb4,Zh5 hi];rfl);exact⟨w,b,o,h1,by rw[Gg];exact h2⟩
theorem Vw.rS{i:Nat}(hi:i<J.N):∃m b o,Rd s 1 j.L5 i b o [.map m]/\s.heap.get m=some (im (J.steps i)):=by
 obtain⟨ms,h1,h2,h3⟩:=V.jw.aq;have hl:i<ms.length:=by omega
 obtain⟨b,o,h4⟩:=h1.Jk (i:=i) (x:= .map ms[i]) (by rw[Zb4,H0 hl];rfl);exact⟨_,b,o,h4,h3 i _ (H0 hl)⟩
theorem Vw.rTab{t:Nat}{T:aB}(ht:J.p.ts[t]? =some T):∃v b o,Rd s 7 j.V1 t b o (T.aj v):=by
 obtain⟨s0,r1,r2,_,h,_⟩:=V.jw.ps;have hl:t<r1.length:=by rw[h.len];exact(Za1.1 ht).1
 obtain⟨v,e,_⟩:=h.dV t T r1[t] ht (H0 hl);obtain⟨b,o,h4⟩:=h.out.own.rd h.out.row (H0 hl);exact⟨v,b,o,by rw[<-e];exact h4⟩
theorem Vw.rG{t:Nat}{T:aQ}(ht:J.p.gs[t]? =some T):∃v b o,Rd s 9 j.V2 t b o (T.aj v):=by
 obtain⟨s0,r1,r2,_,_,h⟩:=V.jw.ps;have hl:t<r2.length:=by rw[h.len];exact(Za1.1 ht).1
 obtain⟨v,e,_⟩:=h.dV t T r2[t] ht (H0 hl);obtain⟨b,o,h4⟩:=h.out.own.rd h.out.row (H0 hl);exact⟨v,b,o,by rw[<-e];exact h4⟩
theorem Vw.rC{a b:Nat}{r:List Bool}{x:Bool}(ha:J.oQ[a]? =some r)(hb:r[b]? =some x):∃w p o p2 o2,Rd s 1 j.L6 a p o [w]/\Rd s 1 w b p2 o2 [.bool x]:=by
 obtain⟨w,p,o,h1,h2⟩:=V.jw.com.rd (i:=a) (r:=r.map AV.bool) (by rw[Zb4,ha];rfl);obtain⟨p2,o2,h3⟩:=h2.Jk (i:=b) (x:= .bool x) (by rw[Zb4,hb];rfl);exact⟨w,p,o,p2,o2,h1,h3⟩
theorem Vw.rK{a b:Nat}{r:List Int}{x:Int}(ha:J.oR[a]? =some r)(hb:r[b]? =some x):∃w p o p2 o2,Rd s 1 j.L7 a p o [w]/\Rd s 1 w b p2 o2 [.int .u8 x]:=by
 obtain⟨w,p,o,h1,h2⟩:=V.jw.tie.rd (i:=a) (r:=r.map (AV.int .u8)) (by rw[Zb4,ha];rfl);obtain⟨p2,o2,h3⟩:=h2.Jk (i:=b) (x:= .int .u8 x) (by rw[Zb4,hb];rfl);exact⟨w,p,o,p2,o2,h1,h3⟩
end
end
section
set_option maxRecDepth 100000
open Go Go.Ai Go.Proofs
variable{c : au}{s : St}{vb jb : Pos}{j : Jc}{J : Jt}{P G : AV}{q g : List Int}
theorem apU(V:Vw s vb jb j J P G q g){w:AV}{r:List Int}(hw:QS 1 s w (r.map bV))(hl:r.length<=1000000){b:Nat}{x:Int}(hb:q[b]? =some x)(F:Nat):
  ∀(m k:Nat),r.length<=k+m->k<=r.length->∀k1 k2,oD c F k1 k2 (m+1) [.ptr vb 0,.int .i64 (b:Int),w,.int .i64 (r.length:Int),.int .i64 (k:Int)] s=if(r.drop k).contains x then k1 [.bool true] s else k2 [] s:=by
 obtain⟨pb,po,p⟩:=rM V.pq hb;have p1:=λ{R}=>@p.st R
 have p3:=p.one;have vc:=V.vc;intro m;induction m with
 |zero=>
  intro k h1 h2 k1 k2;obtain rfl:k=r.length:=by omega
  rw[qc];simp
 |succ m ih=>
  intro k h1 h2 k1 k2;by_cases hk:k<r.length
  . obtain⟨wb,wo,w⟩:=rM hw (H0 hk);have w1:=λ{R}=>@w.st R
    have w3:=w.one;have wr:ax .i64 ((k:Int)+1)=((k+1:Nat):Int):=wrap64 (by omega) (by omega);rw[Zd9 hk,List.contains_cons];by_cases he:r[k]=x
    .   rw[qc];simp[hk,w1,w3,p1,p3,vc,he]
    .   have Qf:(x==r[k])=false:=(by simpa using λe=>he e.symm);rw[Qf,Zp8, <-ih (k+1) (by omega) (by omega) k1 k2,qc];simp[hk,w1,w3,p1,p3,vc,he,wr]
  . obtain rfl:k=r.length:=(by omega);rw[qc];simp
theorem Gh(hc:bH c)(V:Vw s vb jb j J P G q g){L:AV}{i:Nat}{lb:Pos}{lo:Nat}{w:AV}{r:List Int}(hL:Rd s 1 L i lb lo [w])(hw:QS 1 s w (r.map bV))(hlen:r.length<=1000){a b:Nat}{x:Int}(ha:q[a]? =some (i:Int))(hb:q[b]? =some x):
  c 163 [.ptr vb 0,L,.int .i64 (a:Int),.int .i64 (b:Int)] s=some (.bool (r.contains x),s):=by
 obtain⟨pb,po,p⟩:=rM V.pq ha;have p1:=λ{R}=>@p.st R
 have p3:=p.one;have l1:=λ{R}=>@hL.st R
 have l3:=hL.one;have vc:=V.vc;have ln:=λ(K:AV->St->Option (AV×St))=>hw.lenB (c:=c) K s
 rw[Za5]at ln;rw[Vc hc (r.length+1) (r:=(.bool (r.contains x),s)),aE (Plain.bool _) (aT.refl s)];have lp:=apU (c:=c) V hw (by omega) hb (r.length+1) r.length 0 (by omega) (by omega);rw[Zf3]at lp;rw[Ze];simp only[aA,cJ,aS,Zc3,bf,vc,aJ,Zb1,Za4,Zb8,bg,p1,p3,l1,l3,ln];rw[show(0:Int)=((0:Nat):Int)from rfl,lp];generalize r.contains x=e;cases e<;>simp
theorem Lo(ts:List aB)(i:Nat):(qM ts i).length<=1000/\(AI ts i).length<=1000:=by
 have h:OW ts i<=24:=by
  unfold OW;split
  . rename_i t ht;have:=Xb t;omega
  . omega
 exact⟨Zb0 (KP _ _ _) (by omega),Zb0 (KP _ _ _) (by omega)⟩
def YY(ts:List aB)(i:Nat)(x:Int):Bool:=(qM ts i).contains x||(AI ts i).contains x
theorem aeZ(hc:bH c)(V:Vw s vb jb j J P G q g){a b i:Nat}{x:Int}(ha:q[a]? =some (i:Int))(hi:i<J.N)(hb:q[b]? =some x):
  c 170 [.ptr vb 0,.int .i64 (a:Int),.int .i64 (b:Int)] s=some (.bool (YY J.p.ts i x),s):=by
 obtain⟨w,wb,wo,h1,h2⟩:=V.rB hi;obtain⟨w',wb',wo',h3,h4⟩:=V.rA hi;have c1:=Gh hc V h1 h2 (Lo _ _).1 ha hb;have c2:=Gh hc V h3 h4 (Lo _ _).2 ha hb;have vc:=V.vc;have jc:=V.jw.oc;rw[SL hc 1 (r:=(.bool (YY J.p.ts i x),s)),aE (Plain.bool _) (aT.refl s)];rw[Xc];unfold YY;cases h:(qM J.p.ts i).contains x<;>simp only[h]at c1<;>simp[vc,jc,c1,c2,-List.elem_eq_contains,-List.contains_eq_mem]
theorem aba:∀(ts:List aB)(i:Nat),(i:Int)<aW ts->cE ts i<ts.length
 |[],i,h=>by simp[aW]at h;omega
 |t ::ts,i,h=>by
  unfold cE;split
  . simp
  . rename_i hn;have n1:0<=bJ t:=Xd t;have e:aW (t::ts)=bJ t+aW ts:=(by simp[aW]);have:=aba ts (i - (bJ t).toNat) (by omega);simpa using this
theorem Vw.auW(V:Vw s vb jb j J P G q g){i:Nat}(hi:i<J.N):cE J.p.ts i<J.p.ts.length:=aba _ _ (by have:=V.jw.nN;omega)
def o6(ts:List aB)(t:Nat):List Nat:=match ts[t]? with|some t=>t.name|none=>[]
def oE(ts:List aB)(nm:List Nat)(i:Nat):Bool:=decide (nm=[])||decide (nm=o6 ts (cE ts i))
theorem Vw.rN(V:Vw s vb jb j J P G q g){i:Nat}(hi:i<J.N):∃T v b o,J.p.ts[cE J.p.ts i]? =some T/\o6 J.p.ts (cE J.p.ts i)=T.name/\Rd s 7 j.V1 (cE J.p.ts i) b o (T.aj v):=by
 have hT:=H0 (V.auW hi);obtain⟨v,b,o,h⟩:=V.rTab hT;exact⟨_,v,b,o,hT,by unfold o6;rw[hT],h⟩
theorem Hv(hc:bH c)(V:Vw s vb jb j J P G q g)(r:Rl){i:Nat}(hi:i<J.N):c 168 [.ptr vb 0,.agg r.cells,.int .i64 (i:Int)] s=some (.bool (oE J.p.ts r.t i),s):=by
 rw[Vd hc 1 (r:=(.bool (oE J.p.ts r.t i),ah s (.cells r.cells 0))),aE (Plain.bool _) (cm V.wf)];rw[Zf,dI];have V1:=V.ai (Grew.ah V.wf (.cells r.cells 0));have hb:=az s (.cells r.cells 0);have e:AV.cells (.agg r.cells)=r.cells:=rfl;rw[e];generalize ah s (.cells r.cells 0)=s1 at*
 have vc:=V1.vc;have jc:=V1.jw.oc;obtain⟨b1,o1,t1⟩:=V1.rT hi;have t2:=λ{R}=>@t1.pr R
 have t3:=t1.one;obtain⟨T,v,b,o,_,hn,h⟩:=V1.rN hi;have h1:=λ{R}=>@h.pr R
 have h2:=h.at' 0 _ rfl;rw[Zg0]at h2;unfold oE;rw[hn];by_cases h0:r.t=[]
 . simp[hb,h0]
 . have d0:decide (r.t=[])=false:=Za2 h0;simp[hb,vc,jc,t2,t3,h1,h2,d0]
theorem apV{R:Type}(K:AV->Option R){h:T AB}{m:Pos}{E:List (Int×Int)}(hm:h.get m=some (im E))(x:Int):
  ia (.lookup .i (.int .i64 0) true) [.map m,.int .i64 x] h (λ_=>true) K=K (.tuple [.int .i64 ((jZ E x).getD 0),.bool (jZ E x).isSome]):=by
 unfold ia;have e:aF.run (λ_=>none) .h (.lookup .i (.int .i64 0) true) [.map m,.int .i64 x]=none:=rfl;rw[e];simp only;have:aF.run (λb=>h.get b) .h (.lookup .i (.int .i64 0) true) [.map m,.int .i64 x]=some (.val (.tuple [.int .i64 ((jZ E x).getD 0),.bool (jZ E x).isSome])):=by
  unfold im at hm;cases hl:jZ E x with
  |none=>simp only[aF.run,kq,hm,(CE x E 0 0).1 hl];rfl
  |some d=>obtain⟨n,e⟩:=(CE x E 0 0).2 d hl;simp only[aF.run,kq,hm,e];rfl
 rw[this]
theorem anr(hc:bH c)(V:Vw s vb jb j J P G q g){a b i:Nat}{x:Int}(ha:q[a]? =some (i:Int))(hi:i<J.N)(hb:q[b]? =some x):
  c 162 [.ptr vb 0,.int .i64 (a:Int),.int .i64 (b:Int)] s=some (.tuple [.int .i64 ((jZ (J.steps i) x).getD 0),.bool (jZ (J.steps i) x).isSome],s):=by
 obtain⟨pb,po,p⟩:=rM V.pq ha;obtain⟨qb,qo,p'⟩:=rM V.pq hb;have p1:=λ{R}=>@p.pr R
 have p3:=p.one;have p4:=λ{R}=>@p'.pr R
 have p6:=p'.one;obtain⟨m,b1,o1,t1,t0⟩:=V.rS hi;have t2:=λ{R}=>@t1.pr R
 have t3:=t1.one;have vc:=V.vc;have jc:=V.jw.oc;have lk:=λ(K:AV->Option (AV×St))=>apV K t0 x
 rw[Zg hc 1 (r:=(.tuple [.int .i64 ((jZ (J.steps i) x).getD 0),.bool (jZ (J.steps i) x).isSome],s)),aE (Plain.tuple (by simp[Plain.int,Plain.bool])) (aT.refl s)];rw[acz];simp[vc,jc,p1,p3,p4,p6,t2,t3,lk]
theorem QS.Xe{es:Nat}{v:AV}{rows:List (List AV)}(h:QS es s v rows):dc 3 v:=by
 rcases h with⟨rfl,_⟩|⟨b,off,cap,cs,rfl,_⟩|⟨b,off,rfl,_⟩
 . exact .flat rfl
 . refine .flat ?_;cases cap<;>simp[fP,Pos.beq_eq.2 rfl]
 . refine .flat ?_;simp[fP,Pos.beq_eq.2 rfl]
theorem JW.beq{s:St}(h:JW s jb j J):eo (.agg j.Vs) (.agg j.Vs)=true:=by
 obtain⟨s0,r1,r2,_,h1,h2⟩:=h.ps;obtain⟨V1,V2,V3,V4,V5,_,_,e,_,_,h3,_⟩:=(show PS s0 s j.Vs J.p from by assumption).all;refine BM λv hv=> ?_
 simp only[Jc.Vs,Za8,Zb7,Ze4]at hv;simp only[Jc.Vs,Zf7]at e;rcases hv with rfl|rfl|rfl|rfl|rfl
 . exact QS.Xe h1.out.own
 . exact QS.Xe h2.out.own
 . rw[e.2.2.1];exact QS.Xe h3.own
 . exact QS.Xe h.cls
 . exact QS.Xe h.gK
theorem Vw.who(hc:bH c)(V:Vw s vb jb j J P G q g)(nm:List Nat):c 109 [.agg j.Vs,.str nm] s=some (.int .i64 (gi J.p nm),s):=by obtain⟨s0,r1,r2,h,_,_⟩:=V.jw.ps;exact apT hc h V.jw.yo nm
theorem QG(hc:bH c)(V:Vw s vb jb j J P G q g)(r:Rl){a b:Nat}{x y:Int}(ga:gi J.p r.a=(a:Int))(gb:gi J.p r.b=(b:Int))(ha:q[a]? =some x)(hb:q[b]? =some y):
   c 161 [.ptr vb 0,.agg r.cells] s=some (.tuple [.int .i64 (a:Int),.int .i64 (b:Int),.bool (decide (0<=x)&&decide (0<=y))],s):=by
 rw[Xf hc 1 (r:=(.tuple [.int .i64 (a:Int),.int .i64 (b:Int),.bool (decide (0<=x)&&decide (0<=y))],ah s (.cells r.cells 0))),aE (Plain.tuple (by simp[Plain.int,Plain.bool])) (cm V.wf)];rw[abb,dI];have V1:=V.ai (Grew.ah V.wf (.cells r.cells 0));have fh:=az s (.cells r.cells 0);have e:AV.cells (.agg r.cells)=r.cells:=rfl;rw[e];generalize ah s (.cells r.cells 0)=s1 at*
 have vc:=V1.vc;have jc:=V1.jw.oc;obtain⟨pb,po,p⟩:=rM V1.pq ha;obtain⟨qb,qo,p'⟩:=rM V1.pq hb;have p1:=λ{R}=>@p.pr R
 have p3:=p.one;have p4:=λ{R}=>@p'.pr R
 have p6:=p'.one;have w1:=V1.who hc r.a;have w2:=V1.who hc r.b;rw[ga]at w1;rw[gb]at w2;have k1:=λ(K:AV->Option (AV×St))=>kg K (p:=vb) (o:=0) (h:=s1.heap) (h2:=s1.heap) (v:= .ptr jb 0) (by rw[vc];rfl) (by rw[vc];rfl) (by simp[eo,mV,fP,Pos.beq_eq.2 rfl])
 have k2:=λ(K:AV->Option (AV×St))=>Sz K (m:=5) (p:=jb) (o:=0) (h:=s1.heap) (h2:=s1.heap) (l:=j.Vs) (by rw[jc];rfl) (by rw[jc];rfl) V1.jw.beq
 have k3:=λ(K:AV->Option (AV×St))=>kg K (p:=s.next) (o:=3) (h:=s1.heap) (h2:=s1.heap) (v:= .str r.b) (by rw[fh];rfl) (by rw[fh];rfl) (by simp[eo,mV,fP,mH.2 rfl])
 by_cases hx:0<=x
 . have d:decide (0<=x)=true:=Za0 hx;simp[fh,vc,jc,p1,p3,p4,p6,w1,w2,k1,k2,k3,d,hx]
 . have d:decide (0<=x)=false:=Za2 hx;simp[fh,vc,jc,p1,p3,p4,p6,w1,w2,k1,k2,k3,d,hx]
end
section
set_option maxRecDepth 100000
open Go Go.Ai Go.Proofs
def ic(M:St->Pos->Prop)(s s':St):Prop:=s.next.toNat<=s'.next.toNat/\Wf s'/\∀b x,¬M s b->s.heap.get b=some x->s'.heap.get b=some x/\¬M s' b
theorem ic.refl{M:St->Pos->Prop}{s:St}(hw:Wf s):ic M s s:=⟨Za3 _,hw,λ_ _ h1 h2=>⟨h2,h1⟩⟩
theorem ic.trans{M:St->Pos->Prop}{a b d:St}(h:ic M a b)(k:ic M b d):ic M a d:=⟨Zb0 h.1 k.1,k.2.1,λp x h1 h2=>by obtain⟨e1,e2⟩:=h.2.2 p x h1 h2;exact k.2.2 p x e2 e1⟩
structure kF(c:au)(fv:AV)(s0:St)(I:St->List Ev->Prop)(M:St->Pos->Prop):Prop where
 ai:∀{s l},I s l->Grew s0 s
 grow:∀{s s' l},I s l->Grew s s'->I s' l
 mK:∀{s s' l b},I s l->Grew s s'->M s' b->M s b
 mlt:∀{s l b},I s l->M s b->b.toNat<s.next.toNat
 back:∀{s s' l l'},I s l->I s' l'->aT s s'->I s l'
 call:∀{s l}{k:Nat}{W:AV}{who:List Int},I s l->QS 1 s W (who.map bV)->fH l+k+who.length<=1000000->
  ∃s' v,(∀(K:AV->St->Option (AV×St)),aq c .callV [fv,.int .i64 (k:Int),W] s K=K v s')/\I s' (l++[(k,who)])/\ic M s s'
 one:fv.cells=[fv]/\fv.one=true
def qF(q:List Int)(g:Nat):Int:=q.getD g (-1)
theorem yp{q:List Int}{a:Nat}{x:Int}(h:q[a]? =some x):qF q a=x:=by unfold qF;rw[Zb5,h];rfl
section
variable{c : au}{fv : AV}{s0 : St}{I : St -> List Ev -> Prop}{M : St -> Pos -> Prop}{s : St}{l l' : List Ev}
theorem kF.fin(H:kF c fv s0 I M)(hI:I s l){T:Option (AV×St)}{f:FuncId}{args:List AV}{v:AV}(hr:∀{r},T=some r->c f args s=some (tidy s r))(h:∃s',T=some (v,s')/\I s' l'):
   ∃s',c f args s=some (v,s')/\I s' l':=by
 obtain⟨s',h1,h2⟩:=h;have h3:=hr h1;unfold tidy at h3;split at h3
 . rename_i hk;exact⟨s,h3,H.back hI h2 hk.2⟩
 . exact⟨s',h3,h2⟩
theorem kF.fr(H:kF c fv s0 I M){s':St}(hI:I s l)(g:Grew s s'):ic M s s':=⟨g.next,g.wf,λb x h1 h2=>⟨g.get h2,λh=>h1 (H.mK hI g h)⟩⟩
theorem kF.SM(H:kF c fv s0 I M)(hI:I s l)(hB:fH l+3<=1000000)(a b:Nat):
  ∃s' v,(∀(K:AV->St->Option (AV×St)),aq c (.buildSlice 1 2 [.int .i64 0] [0,1]) [.int .i64 (a:Int),.int .i64 (b:Int)] s (λx s=>aq c .callV [fv,.int .i64 1,x] s K)=K v s')/\I s' (l++[(1,[(a:Int),(b:Int)])])/\ic M s s':=by
 have hw:=(H.ai hI).wf;have e:bY (bU [AV.int .i64 0] 2) ([0,1].map λi=>(i*1,1)) [.int .i64 (a:Int),.int .i64 (b:Int)]=some [.int .i64 (a:Int),.int .i64 (b:Int)]:=by
  simp[bY,bU,cV,cU,aU,AV.cells]
 obtain⟨s',v,h1,h2,h3⟩:=H.call (k:=1) (W:= .slice s.next 0 2 (some 2) 1) (who:=[(a:Int),(b:Int)]) (H.grow hI (Grew.ah hw (.cells [.int .i64 (a:Int),.int .i64 (b:Int)] 0)))
  (.inr (.inl ⟨s.next,0,some 2,_,rfl,az _ _,by simp,by simp,.inr rfl⟩)) (by simp;omega)
 exact⟨s',v,λK=>by rw[av,e,gO];exact h1 K,h2,(H.fr hI (Grew.ah hw _)).trans h3⟩
theorem kF.YZ(H:kF c fv s0 I M)(hI:I s l)(hB:fH l+2<=1000000)(a:Nat):
  ∃s' v,(∀(K:AV->St->Option (AV×St)),aq c (.buildSlice 1 1 [.int .i64 0] [0]) [.int .i64 (a:Int)] s (λx s=>aq c .callV [fv,.int .i64 1,x] s K)=K v s')/\I s' (l++[(1,[(a:Int)])])/\ic M s s':=by
 have hw:=(H.ai hI).wf
 obtain⟨s',v,h1,h2,h3⟩:=H.call (k:=1) (W:= .slice s.next 0 1 (some 1) 1) (who:=[(a:Int)]) (H.grow hI (Grew.ah hw (.cells [.int .i64 (a:Int)] 0)))
  (.inr (.inl ⟨s.next,0,some 1,_,rfl,az _ _,by simp,by simp,.inr rfl⟩)) (by simp;omega)
 exact⟨s',v,λK=>by rw[Ge rfl rfl];exact h1 K,h2,(H.fr hI (Grew.ah hw _)).trans h3⟩
end
section
variable{c : au}{fv : AV}{s0 : St}{I : St -> List Ev -> Prop}{M : St -> Pos -> Prop}{s : St}{l : List Ev}{vb jb : Pos}{j : Jc}{J : Jt}{P G : AV}{q g : List Int}
def adP(J:Jt)(x y:Int):Option Int:=jZ (J.steps x.toNat) y
def yZ(J:Jt)(x:Int):Nat:=cE J.p.ts x.toNat
def acA(J:Jt)(r:Rl)(x y:Int):Bool:=decide (yZ J x=yZ J y)&&(decide (r.n=0)||((adP J x y).isSome&&decide ((adP J x y).getD 0<r.n)))
def aln(J:Jt)(x y:Int):Bool:= !(qM J.p.ts x.toNat).contains y
def alo(J:Jt)(x y:Int):Bool:= !(AI J.p.ts x.toNat).contains y
def agf(J:Jt)(r:Rl)(x y:Int):Bool:= !(adP J x y).isSome||decide (r.n<(adP J x y).getD 0)
def alp(J:Jt)(x y:Int):Bool:= !decide (yZ J x=yZ J y)
structure Two(J:Jt)(q:List Int)(r:Rl)(a b:Nat)(x y:Int):Prop where
 ga:gi J.p r.a=(a:Int)
 gb:gi J.p r.b=(b:Int)
 qa:q[a]? =some x
 qb:q[b]? =some y
theorem Two.two{r:Rl}{a b:Nat}{x y:Int}(h:Two J q r a b x y)(P:Int->Int->Bool):DE (qF q) a b P=yY (decide (0<=x)&&decide (0<=y)&&P x y) 1 [(a:Int),(b:Int)]:=by
 unfold DE on;rw[yp h.qa,yp h.qb]
theorem apW (hc:bH c)(H:kF c fv s0 I M)(V:Vw s0 vb jb j J P G q g){r:Rl}{a b:Nat}{x y:Int}(hT:Two J q r a b x y)(hI:I s l)(hB:fH l+3<=1000000):
   ∃s',c 90 [.ptr vb 0,.agg r.cells,fv] s=some (.tuple [],s')/\I s' (l++DE (qF q) a b (acA J r)):=by
 refine H.fin hI (λh=>Ve hc 1 h) ?_;have hw:=(H.ai hI).wf;have dJ:=H.grow hI (Grew.ah hw (.cells r.cells 0));have V1:=V.ai (H.ai dJ);have fh:=az s (.cells r.cells 0);rw[hT.two,Zh,dI,show AV.cells (.agg r.cells)=r.cells from rfl];generalize ah s (.cells r.cells 0)=s1 at*
 have vc:=V1.vc;have jc:=V1.jw.oc;have bo:=QG hc V1 r hT.ga hT.gb hT.qa hT.qb;obtain⟨pb,po,p⟩:=rM V1.pq hT.qa;obtain⟨qb,qo,p'⟩:=rM V1.pq hT.qb;have p1:=λ{R}=>@p.pr R
 have p3:=p.one;have p4:=λ{R}=>@p'.pr R
 have p6:=p'.one;obtain⟨s2,v2,e1,e2,_⟩:=H.SM dJ hB a b;by_cases hx:0<=x
 . by_cases hy:0<=y
   . obtain ⟨ i,rfl,hi⟩:=V1.kD hT.qa hx;obtain⟨k,rfl,hk⟩:=V1.kD hT.qb hy;obtain⟨tb,to,t⟩:=V1.rT hi;obtain⟨ub,uo,u⟩:=V1.rT hk;have t1:=λ{R}=>@t.pr R
     have t3:=t.one;have u1:=λ{R}=>@u.pr R
     have u3:=u.one;have fa:=anr hc V1 hT.qa hi hT.qb;unfold acA yZ adP;simp only[Zd4];by_cases ht:cE J.p.ts i=cE J.p.ts k
     .  have d1:decide (((cE J.p.ts i:Nat):Int)=((cE J.p.ts k:Nat):Int))=true:=Za0 (by omega);by_cases hn:r.n=0
        . refine⟨s2,?_,by simpa [hx,hy,ht,hn,rj]using e2⟩;simp[-av,fh,bo,hx,hy,vc,jc,p1,p3,p4,p6,t1,t3,u1,u3,ht,fa,hn,e1]
        . by_cases hs:(jZ (J.steps i) (k:Int)).isSome=true
          . by_cases hl:(jZ (J.steps i) (k:Int)).getD 0<r.n
            . refine⟨s2,?_,by simpa [hx,hy,ht,hn,hs,hl,rj]using e2⟩;simp[-av,fh,bo,hx,hy,vc,jc,p1,p3,p4,p6,t1,t3,u1,u3,ht,fa,hn,hs,hl,e1]
            . refine⟨s1,?_,by simpa [hx,hy,ht,hn,hs,hl,eu]using dJ⟩;simp[-av,fh,bo,hx,hy,vc,jc,p1,p3,p4,p6,t1,t3,u1,u3,ht,fa,hn,hs,hl,e1]
          . have hs:(jZ (J.steps i) (k:Int)).isSome=false:=(by simpa using hs);refine⟨s1,?_,by simpa [hx,hy,ht,hn,hs,eu]using dJ⟩;simp[-av,fh,bo,hx,hy,vc,jc,p1,p3,p4,p6,t1,t3,u1,u3,ht,fa,hn,hs,e1]
     .  have d1:decide (((cE J.p.ts i:Nat):Int)=((cE J.p.ts k:Nat):Int))=false:=Za2 (by omega);refine⟨s1,?_,by simpa [ht,eu]using dJ⟩;simp[-av,fh,bo,hx,hy,vc,jc,p1,p3,p4,p6,t1,t3,u1,u3,d1]
   . refine⟨s1,?_,by simpa [hy,eu]using dJ⟩;simp[-av,fh,bo,hy]
 . refine⟨s1,?_,by simpa [hx,eu]using dJ⟩;simp[-av,fh,bo,hx]
theorem afw(hc:bH c)(H:kF c fv s0 I M)(V:Vw s0 vb jb j J P G q g){r:Rl}{a b:Nat}{x y:Int}(hT:Two J q r a b x y)(hI:I s l)(hB:fH l+3<=1000000):
   ∃s',c 91 [.ptr vb 0,.agg r.cells,fv] s=some (.tuple [],s')/\I s' (l++DE (qF q) a b (aln J)):=by
 refine H.fin hI (λh=>LW hc 1 h) ?_;have hw:=(H.ai hI).wf;have dJ:=H.grow hI (Grew.ah hw (.cells r.cells 0));have V1:=V.ai (H.ai dJ);have fh:=az s (.cells r.cells 0);rw[hT.two,OX,dI,show AV.cells (.agg r.cells)=r.cells from rfl];generalize ah s (.cells r.cells 0)=s1 at*
 have vc:=V1.vc;have jc:=V1.jw.oc;have bo:=QG hc V1 r hT.ga hT.gb hT.qa hT.qb;obtain⟨s2,v2,e1,e2,_⟩:=H.SM dJ hB a b;by_cases hx:0<=x
 . by_cases hy:0<=y
   . obtain⟨i,rfl,hi⟩:=V1.kD hT.qa hx;obtain⟨w,wb,wo,h1,h2⟩:=V1.rB hi;have c1:=Gh hc V1 h1 h2 (Lo _ _).1 hT.qa hT.qb;unfold aln;simp only[Zd4];generalize (qM J.p.ts i).contains y=e at*
     cases e
     .  refine⟨s2,?_,by simpa [hx,hy,rj]using e2⟩;simp[-av,fh,bo,hx,hy,vc,jc,c1,e1]
     .  refine⟨s1,?_,by simpa [hx,hy,eu]using dJ⟩;simp[-av,fh,bo,hx,hy,vc,jc,c1]
   . refine⟨s1,?_,by simpa [hy,eu]using dJ⟩;simp[-av,fh,bo,hy]
 . refine⟨s1,?_,by simpa [hx,eu]using dJ⟩;simp[-av,fh,bo,hx]
theorem afx(hc:bH c)(H:kF c fv s0 I M)(V:Vw s0 vb jb j J P G q g){r:Rl}{a b:Nat}{x y:Int}(hT:Two J q r a b x y)(hI:I s l)(hB:fH l+3<=1000000):
   ∃s',c 92 [.ptr vb 0,.agg r.cells,fv] s=some (.tuple [],s')/\I s' (l++DE (qF q) a b (alo J)):=by
 refine H.fin hI (λh=>LX hc 1 h) ?_;have hw:=(H.ai hI).wf;have dJ:=H.grow hI (Grew.ah hw (.cells r.cells 0));have V1:=V.ai (H.ai dJ);have fh:=az s (.cells r.cells 0);rw[hT.two,OY,dI,show AV.cells (.agg r.cells)=r.cells from rfl];generalize ah s (.cells r.cells 0)=s1 at*
 have vc:=V1.vc;have jc:=V1.jw.oc;have bo:=QG hc V1 r hT.ga hT.gb hT.qa hT.qb;obtain⟨s2,v2,e1,e2,_⟩:=H.SM dJ hB a b;by_cases hx:0<=x
 . by_cases hy:0<=y
   . obtain⟨i,rfl,hi⟩:=V1.kD hT.qa hx;obtain⟨w,wb,wo,h1,h2⟩:=V1.rA hi;have c1:=Gh hc V1 h1 h2 (Lo _ _).2 hT.qa hT.qb;unfold alo;simp only[Zd4];generalize (AI J.p.ts i).contains y=e at*
     cases e
     .  refine⟨s2,?_,by simpa [hx,hy,rj]using e2⟩;simp[-av,fh,bo,hx,hy,vc,jc,c1,e1]
     .  refine⟨s1,?_,by simpa [hx,hy,eu]using dJ⟩;simp[-av,fh,bo,hx,hy,vc,jc,c1]
   . refine⟨s1,?_,by simpa [hy,eu]using dJ⟩;simp[-av,fh,bo,hy]
 . refine⟨s1,?_,by simpa [hx,eu]using dJ⟩;simp[-av,fh,bo,hx]
theorem alq(hc:bH c)(H:kF c fv s0 I M)(V:Vw s0 vb jb j J P G q g){r:Rl}{a b:Nat}{x y:Int}(hT:Two J q r a b x y)(hI:I s l)(hB:fH l+3<=1000000):
   ∃s',c 93 [.ptr vb 0,.agg r.cells,fv] s=some (.tuple [],s')/\I s' (l++DE (qF q) a b (agf J r)):=by
 refine H.fin hI (λh=>SN hc 1 h) ?_;have hw:=(H.ai hI).wf;have dJ:=H.grow hI (Grew.ah hw (.cells r.cells 0));have V1:=V.ai (H.ai dJ);have fh:=az s (.cells r.cells 0);rw[hT.two,Xg,dI,show AV.cells (.agg r.cells)=r.cells from rfl];generalize ah s (.cells r.cells 0)=s1 at*
 have vc:=V1.vc;have jc:=V1.jw.oc;have bo:=QG hc V1 r hT.ga hT.gb hT.qa hT.qb;obtain⟨s2,v2,e1,e2,_⟩:=H.SM dJ hB a b;by_cases hx:0<=x
 . by_cases hy:0<=y
   . obtain⟨i,rfl,hi⟩:=V1.kD hT.qa hx;have fa:=anr hc V1 hT.qa hi hT.qb;unfold agf adP;simp only[Zd4];by_cases hs:(jZ (J.steps i) y).isSome=true
     .  by_cases hl:r.n<(jZ (J.steps i) y).getD 0
        . refine⟨s2,?_,by simpa [hx,hy,hs,hl,rj]using e2⟩;simp[-av,fh,bo,hx,hy,vc,jc,fa,hs,hl,e1]
        . refine⟨s1,?_,by simpa [hx,hy,hs,hl,eu]using dJ⟩;simp[-av,fh,bo,hx,hy,vc,jc,fa,hs,hl,e1]
     .  have hs:(jZ (J.steps i) y).isSome=false:=(by simpa using hs);refine⟨s2,?_,by simpa [hx,hy,hs,rj]using e2⟩;simp[-av,fh,bo,hx,hy,vc,jc,fa,hs,e1]
   . refine⟨s1,?_,by simpa [hy,eu]using dJ⟩;simp[-av,fh,bo,hy]
 . refine⟨s1,?_,by simpa [hx,eu]using dJ⟩;simp[-av,fh,bo,hx]
theorem aji(hc:bH c)(H:kF c fv s0 I M)(V:Vw s0 vb jb j J P G q g){r:Rl}{a b:Nat}{x y:Int}(hT:Two J q r a b x y)(hI:I s l)(hB:fH l+3<=1000000):
   ∃s',c 94 [.ptr vb 0,.agg r.cells,fv] s=some (.tuple [],s')/\I s' (l++DE (qF q) a b (alp J)):=by
 refine H.fin hI (λh=>OZ hc 1 h) ?_;have hw:=(H.ai hI).wf;have dJ:=H.grow hI (Grew.ah hw (.cells r.cells 0));have V1:=V.ai (H.ai dJ);have fh:=az s (.cells r.cells 0);rw[hT.two,SP,dI,show AV.cells (.agg r.cells)=r.cells from rfl];generalize ah s (.cells r.cells 0)=s1 at*
 have vc:=V1.vc;have jc:=V1.jw.oc;have bo:=QG hc V1 r hT.ga hT.gb hT.qa hT.qb;obtain⟨pb,po,p⟩:=rM V1.pq hT.qa;obtain⟨qb,qo,p'⟩:=rM V1.pq hT.qb;have p1:=λ{R}=>@p.pr R
 have p3:=p.one;have p4:=λ{R}=>@p'.pr R
 have p6:=p'.one;obtain⟨s2,v2,e1,e2,_⟩:=H.SM dJ hB a b;by_cases hx:0<=x
 . by_cases hy:0<=y
   . obtain⟨i,rfl,hi⟩:=V1.kD hT.qa hx;obtain⟨k,rfl,hk⟩:=V1.kD hT.qb hy;obtain⟨tb,to,t⟩:=V1.rT hi;obtain⟨ub,uo,u⟩:=V1.rT hk;have t1:=λ{R}=>@t.pr R
     have t3:=t.one;have u1:=λ{R}=>@u.pr R
     have u3:=u.one;unfold alp yZ;simp only[Zd4];by_cases ht:cE J.p.ts i=cE J.p.ts k
     .  refine⟨s1,?_,by simpa [ht,eu]using dJ⟩;simp[-av,fh,bo,hx,hy,vc,jc,p1,p3,p4,p6,t1,t3,u1,u3,ht]
     .  have d1:decide (((cE J.p.ts i:Nat):Int)=((cE J.p.ts k:Nat):Int))=false:=Za2 (by omega);refine⟨s2,?_,by simpa [hx,hy,ht,rj]using e2⟩;simp[-av,fh,bo,hx,hy,vc,jc,p1,p3,p4,p6,t1,t3,u1,u3,d1,e1]
   . refine⟨s1,?_,by simpa [hy,eu]using dJ⟩;simp[-av,fh,bo,hy]
 . refine⟨s1,?_,by simpa [hx,eu]using dJ⟩;simp[-av,fh,bo,hx]
def atP(J:Jt)(r:Rl)(x:Int):Bool:= !decide (o6 J.p.ts (yZ J x)=r.t)
def agh(J:Jt)(r:Rl)(x:Int):Bool:= !decide (o6 J.p.ts (yZ J x)=r.t)|| !decide (x - ((BN (cE J.p.ts) (yZ J x) x.toNat:Nat):Int)=r.n)
theorem akj{a:Nat}{x:Int}(h:q[a]? =some x)(P:Int->Bool):Xa (qF q) a P=yY (decide (0<=x)&&P x) 1 [(a:Int)]:=by
 unfold Xa on;rw[yp h]
theorem atO(hc:bH c)(H:kF c fv s0 I M)(V:Vw s0 vb jb j J P G q g){r:Rl}{a:Nat}{x:Int}(ga:gi J.p r.a=(a:Int))(ha:q[a]? =some x)(hI:I s l)(hB:fH l+2<=1000000):
   ∃s',c 95 [.ptr vb 0,.agg r.cells,fv] s=some (.tuple [],s')/\I s' (l++Xa (qF q) a (atP J r)):=by
 refine H.fin hI (λh=>abc hc 1 h) ?_;have hw:=(H.ai hI).wf;have dJ:=H.grow hI (Grew.ah hw (.cells r.cells 0));have V1:=V.ai (H.ai dJ);have fh:=az s (.cells r.cells 0);rw[akj ha,adQ,dI,show AV.cells (.agg r.cells)=r.cells from rfl];generalize ah s (.cells r.cells 0)=s1 at*
 have vc:=V1.vc;have jc:=V1.jw.oc;have wh:=V1.who hc r.a;rw[ga]at wh;obtain⟨pb,po,p⟩:=rM V1.pq ha;have p1:=λ{R}=>@p.st R
 have p3:=p.one;obtain⟨s2,v2,e1,e2,_⟩:=H.YZ dJ hB a;by_cases hx:0<=x
 . obtain⟨i,rfl,hi⟩:=V1.kD ha hx;obtain⟨tb,to,t⟩:=V1.rT hi;have t1:=λ{R}=>@t.pr R
   have t3:=t.one;obtain⟨T,v,b,o,_,hn,h⟩:=V1.rN hi;have h1:=λ{R}=>@h.pr R
   have h2:=h.at' 0 _ rfl;rw[Zg0]at h2;unfold atP yZ;simp only[Zd4,hn];by_cases hd:T.name=r.t
   . refine⟨s1,?_,by simpa [hd,eu]using dJ⟩;simp[-av,fh,vc,jc,wh,p1,p3,hx,t1,t3,h1,h2,hd]
   . have d1:decide (T.name=r.t)=false:=Za2 hd;refine⟨s2,?_,by simpa [hd,rj]using e2⟩;simp[-av,fh,vc,jc,wh,p1,p3,hx,t1,t3,h1,h2,d1,e1]
 . refine⟨s1,?_,by simpa [hx,eu]using dJ⟩;simp[-av,fh,vc,jc,wh,p1,p3,hx]
theorem ass(V:Vw s vb jb j J P G q g){i0:Nat}(sV:i0<J.N)(x2 x4 x6:AV)(F:Nat)(k2):∀(m i f:Nat),m<f->i<=m->i<J.N->
  pH c F k2 f [.ptr vb 0,x2,x4,x6,.int .i64 (i0:Int),.int .i64 (i:Int)] s=k2 [.ptr vb 0,x2,x4,x6,.int .i64 (i0:Int),.int .i64 ((BN (cE J.p.ts) (cE J.p.ts i0) i:Nat):Int)] s:=by
 have vc:=V.vc;have jc:=V.jw.oc;obtain⟨tb,to,t⟩:=V.rT sV;have t1:=λ{R}=>@t.pr R
 have t3:=t.one;intro m;induction m with
 |zero=>
  intro i f hf hi _;obtain⟨f,rfl⟩:∃g,f=g+1:=⟨f - 1,by omega⟩
  obtain rfl:i=0:=by omega
  rw[rq];simp[BN]
 |succ m ih=>
  intro i f hf hi hN;obtain⟨f,rfl⟩:∃g,f=g+1:=⟨f - 1,by omega⟩
  cases i with
  |zero=>rw[rq];simp[BN]
  |succ i=>
   have wr:ax .i64 (((i+1:Nat):Int) - 1)=(i:Int):=(by rw[wrap64 (by omega) (by have:=V.jw.nN;have:=V.jw.yo.ts;have:=(o7 J.p.ts).2;omega)];omega);obtain⟨ub,uo,u⟩:=V.rT (i:=i) (by omega);have u1:=λ{R}=>@u.pr R
   have u3:=u.one;have hp:(0:Int)<((i+1:Nat):Int):=(by omega);unfold BN;by_cases ht:cE J.p.ts i=cE J.p.ts i0
   .    rw[Zb3 ht, <-ih i f (by omega) (by omega) (by omega),rq];have d1:decide (((cE J.p.ts i:Nat):Int)=((cE J.p.ts i0:Nat):Int))=true:=Za0 (by omega);have yM:(0:Int)<(i:Int)+1:=(by omega);have wr2:ax .i64 ((i:Int)+1 - 1)=(i:Int):=(by rw[show((i:Int)+1)=((i+1:Nat):Int)by omega];exact wr);simp only[aH,br,dK,aj2,Za0 hp,ajV,qz,bu,Zc3,ajW,kQ,vc,jc,aJ,Zb1,Za4,Jc.c6,bg,aj9,wr,u1,u3,t1,t3,aj5,d1,ach,dW,aA,adF]
   .    rw[Za7 ht,rq];have d1:decide (((cE J.p.ts i:Nat):Int)=((cE J.p.ts i0:Nat):Int))=false:=Za2 (by omega);simp only[aH,br,dK,aj2,Za0 hp,ajV,qz,bu,Zc3,ajW,kQ,vc,jc,aJ,Zb1,Za4,Jc.c6,bg,aj9,wr,u1,u3,t1,t3,aj5,d1,ach,dQ]
theorem Vw.LY(V:Vw s vb jb j J P G q g):J.N<=100000/\J.n<=100:=by have:=V.jw.nN;have:=V.jw.yo.ts;have:=(o7 J.p.ts).2;have:=V.jw.yo.gs;unfold Jt.n;omega
theorem ahz(tab:Nat->Nat)(t:Nat):∀i,BN tab t i<=i
 |0=>Za3 _
 |i+1=>by have:=ahz tab t i;unfold BN;split<;>omega
theorem apX(hc:bH c)(H:kF c fv s0 I M)(V:Vw s0 vb jb j J P G q g){r:Rl}{a:Nat}{x:Int}(ga:gi J.p r.a=(a:Int))(ha:q[a]? =some x)(hI:I s l)(hB:fH l+2<=1000000):
   ∃s',c 96 [.ptr vb 0,.agg r.cells,fv] s=some (.tuple [],s')/\I s' (l++Xa (qF q) a (agh J r)):=by
 refine H.fin hI (λh=>Xh hc (x.toNat+1) h) ?_;have hw:=(H.ai hI).wf;have dJ:=H.grow hI (Grew.ah hw (.cells r.cells 0));have V1:=V.ai (H.ai dJ);have fh:=az s (.cells r.cells 0);rw[akj ha,abd,dI,show AV.cells (.agg r.cells)=r.cells from rfl];generalize ah s (.cells r.cells 0)=s1 at*
 have vc:=V1.vc;have jc:=V1.jw.oc;have wh:=V1.who hc r.a;rw[ga]at wh;obtain⟨pb,po,p⟩:=rM V1.pq ha;have p1:=λ{R}=>@p.st R
 have p3:=p.one;obtain⟨s2,v2,e1,e2,_⟩:=H.YZ dJ hB a;by_cases hx:0<=x
 . obtain⟨i,rfl,hi⟩:=V1.kD ha hx;have hN:=V1.LY;obtain⟨tb,to,t⟩:=V1.rT hi;have t1:=λ{R}=>@t.pr R
   have t3:=t.one;obtain⟨T,v,b,o,_,hn,h⟩:=V1.rN hi;have h1:=λ{R}=>@h.pr R
   have h2:=h.at' 0 _ rfl;rw[Zg0]at h2;have lp:=λk2=>ass (c:=c) V1 hi fv (.ptr s.next 0) (.int .i64 (a:Int)) (i+1) k2 i i (i+1) (by omega) (by omega) hi
   have bl:=ahz (cE J.p.ts) (cE J.p.ts i) i;have ws:ax .i64 ((i:Int) - ((BN (cE J.p.ts) (cE J.p.ts i) i:Nat):Int))=(i:Int) - ((BN (cE J.p.ts) (cE J.p.ts i) i:Nat):Int):=wrap64 (by omega) (by omega);unfold agh yZ;simp only[Zd4,hn];have dx:decide ((i:Int)<0)=false:=Za2 (by omega);by_cases hd:T.name=r.t
   . by_cases hm:(i:Int) - ((BN (cE J.p.ts) (cE J.p.ts i) i:Nat):Int)=r.n
     .  refine⟨s1,?_,by simpa [hd,hm,eu]using dJ⟩;have ws':ax .i64 r.n=r.n:=(by rw[<-hm];exact ws);simp[-av,fh,vc,jc,wh,p1,p3,dx,lp,t1,t3,h1,h2,hd,ws',hm]
     .  have d2:decide ((i:Int) - ((BN (cE J.p.ts) (cE J.p.ts i) i:Nat):Int)=r.n)=false:=Za2 hm;refine⟨s2,?_,by simpa [hd,hm,rj]using e2⟩;simp[-av,fh,vc,jc,wh,p1,p3,dx,lp,t1,t3,h1,h2,hd,ws,d2,e1]
   . have d1:decide (T.name=r.t)=false:=Za2 hd;refine⟨s2,?_,by simpa [hd,rj]using e2⟩;simp[-av,fh,vc,jc,wh,p1,p3,dx,lp,t1,t3,h1,h2,d1,e1]
 . have dx:decide (x<0)=true:=Za0 (by omega);refine⟨s1,?_,by simpa [hx,eu]using dJ⟩;simp[-av,fh,vc,jc,wh,p1,p3,dx]
end
def SoC(c:au)(sv:AV)(M:St->Pos->Prop)(s0 sB:St)(J:Jt)(q:List Int)(S:Nat->Nat->Int->Int->Bool):Prop:=
 ∀{s},Grew s0 s->ic M sB s->∀{a b i k:Nat},q[a]? =some (i:Int)->q[b]? =some (k:Int)->i<J.N->k<J.N->∀(K:AV->St->Option (AV×St)),aq c .callV [sv,.int .i64 (a:Int),.int .i64 (b:Int)] s K=K (.bool (S a b (i:Int) (k:Int))) s
section
variable{c : au}{fv : AV}{s0 sB : St}{I : St -> List Ev -> Prop}{M : St -> Pos -> Prop}{s : St}{l : List Ev}{vb jb : Pos}{j : Jc}{J : Jt}{P G : AV}{q g : List Int}
def prP(J:Jt)(S:Nat->Nat->Int->Int->Bool)(a b:Nat)(x y:Int):Bool:=decide (yZ J y=yZ J x)&&S a b x y
theorem ans{a b:Nat}{x y:Int}(ha:q[a]? =some x)(hb:q[b]? =some y)(P:Nat->Nat->Int->Int->Bool):vG (qF q) P a b=yY (decide (0<=x)&&decide (0<=y)&&P a b x y) 1 [(a:Int),(b:Int)]:=by
 unfold vG on;rw[yp ha,yp hb]
theorem ahA(P:Nat->Nat->Int->Int->Bool)(a b:Nat):fH (vG (qF q) P a b)<=3:=Hu _ _ _
theorem apY(H:kF c fv s0 I M)(V:Vw s0 vb jb j J P G q g){sv:AV}{S:Nat->Nat->Int->Int->Bool}(hS:SoC c sv M s0 sB J q S){a i:Nat}(ha:q[a]? =some (i:Int))(hi:i<J.N)(x5 x15 x16 x17:AV)(F:Nat):
  ∀(m b f:Nat)(s:St)(l:List Ev),b+m=q.length->m<f->I s l->ic M sB s->fH l+3*m<=1000000->∃s',I s' (l++cw (vG (qF q) (prP J S) a) m b)/\ic M sB s'/\
   ∀k4,iu c F k4 f [.ptr vb 0,sv,fv,x5,.int .i64 (a:Int),.int .i64 (i:Int),.int .i64 (b:Int),x15,x16,x17] s=k4 [.ptr vb 0,sv,fv,x5,x15,x16,x17] s':=by
 intro m;induction m with
 |zero=>
  intro b f s l hb hf hI hF hB;obtain⟨f,rfl⟩:∃g,f=g+1:=⟨f - 1,by omega⟩
  have V1:=V.ai (H.ai hI);have vc:=V1.vc;have ln:=λ(K:AV->St->Option (AV×St))=>V1.pq.lenB (c:=c) K s
  rw[Za5]at ln;refine⟨s,by simpa [cw]using hI,hF,λk4=> ?_⟩;obtain rfl:b=q.length:=by omega
  rw[mL];simp[vc,ln]
 |succ m ih=>
  intro b f s l hb hf hI hF hB;obtain⟨f,rfl⟩:∃g,f=g+1:=⟨f - 1,by omega⟩
  have V1:=V.ai (H.ai hI);have vc:=V1.vc;have jc:=V1.jw.oc;have ln:=λ(K:AV->St->Option (AV×St))=>V1.pq.lenB (c:=c) K s
  rw[Za5]at ln;have Af:b<q.length:=by omega
  obtain⟨y,hy⟩:∃y,q[b]? =some y:=⟨_,H0 Af⟩
  obtain⟨pb,po,p⟩:=rM V1.pq hy;have p1:=λ{R}=>@p.st R
  have p3:=p.one;have hN:=V1.LY;have qp:=V.ql;have wr:ax .i64 ((b:Int)+1)=((b+1:Nat):Int):=wrap64 (by omega) (by omega)
  have step:∃s2,I s2 (l++vG (qF q) (prP J S) a b)/\ic M sB s2/\∀k4,iu c F k4 (f+1) [.ptr vb 0,sv,fv,x5,.int .i64 (a:Int),.int .i64 (i:Int),.int .i64 (b:Int),x15,x16,x17] s=
        iu c F k4 f [.ptr vb 0,sv,fv,x5,.int .i64 (a:Int),.int .i64 (i:Int),.int .i64 ((b+1:Nat):Int),x15,x16,x17] s2:=by
   rw[ans ha hy];by_cases h0:0<=y
   .    obtain⟨k,rfl,hk⟩:=V1.kD hy h0;obtain⟨tb,to,t⟩:=V1.rT hi;obtain⟨ub,uo,u⟩:=V1.rT hk;have t1:=λ{R}=>@t.pr R
        have t3:=t.one;have u1:=λ{R}=>@u.pr R
        have u3:=u.one;unfold prP yZ;simp only[Zd4];by_cases ht:cE J.p.ts k=cE J.p.ts i
        . have so:=hS (H.ai hI) hF ha hy hi hk;generalize S a b (i:Int) (k:Int)=e at*
          cases e
          . refine⟨s,by simpa [ht,eu]using hI,hF,λk4=> ?_⟩;rw[mL];simp[-av,dz,Af,vc,ln,jc,p1,p3,t1,t3,u1,u3,ht,so,wr]
          . obtain⟨s2,v2,e1,e2,e3⟩:=H.SM hI (by omega) a b;refine⟨s2,by simpa [ht,rj]using e2,hF.trans e3,λk4=> ?_⟩;rw[mL];simp[-av,dz,Af,vc,ln,jc,p1,p3,t1,t3,u1,u3,ht,so,wr,e1]
        . have d1:decide (((cE J.p.ts k:Nat):Int)=((cE J.p.ts i:Nat):Int))=false:=Za2 (by omega);refine⟨s,by simpa [ht,eu]using hI,hF,λk4=> ?_⟩;rw[mL];simp[-av,dz,Af,vc,ln,jc,p1,p3,t1,t3,u1,u3,d1,wr]
   .    refine⟨s,by simpa [h0,eu]using hI,hF,λk4=> ?_⟩;rw[mL];simp[-av,dz,Af,vc,ln,jc,p1,p3,h0,wr]
  obtain⟨s2,a1,a2,a3⟩:=step;have rI:=ahA (q:=q) (prP J S) a b;obtain⟨s',z1,z2,z3⟩:=ih (b+1) f s2 _ (by omega) (by omega) a1 a2 (by rw[Ln];omega);exact⟨s',by rw[cw, <-Zf2];exact z1,z2,λk4=>by rw[a3,z3]⟩
def oq(J:Jt)(r:Rl)(S:Nat->Nat->Int->Int->Bool)(a b:Nat)(x y:Int):Bool:=oE J.p.ts r.t x.toNat&&prP J S a b x y
theorem Xi(P:Nat->Nat->Int->Int->Bool)(a:Nat):∀m k,fH (cw (vG (qF q) P a) m k)<=3*m:=λm k=>by have:=A9 (f:=vG (qF q) P a) (B:=3) (λk=>ahA P a k) m k;omega
theorem apZ(hc:bH c)(H:kF c fv s0 I M)(V:Vw s0 vb jb j J P G q g){sv:AV}{S:Nat->Nat->Int->Int->Bool}(hS:SoC c sv M s0 sB J q S){r:Rl}{rb:Pos}(hr:sB.heap.get rb=some (.cells r.cells 0))(tj:¬M sB rb)(F:Nat)(hFu:q.length<F):
  ∀(m a f:Nat)(s:St)(l:List Ev),a+m=q.length->m<f->I s l->ic M sB s->fH l+3*q.length*m<=1000000->∃s',I s' (l++cw (λa=>cw (vG (qF q) (oq J r S) a) (q.length - (a+1)) (a+1)) m a)/\ic M sB s'/\
   ∀k2,jE c F k2 f [.ptr vb 0,sv,fv,.ptr rb 0,P,.int .i64 (q.length:Int),.int .i64 (a:Int)] s=k2 [] s':=by
 intro m;induction m with
 |zero=>
  intro a f s l hb hf hI hF hB;obtain⟨f,rfl⟩:∃g,f=g+1:=⟨f - 1,by omega⟩
  refine⟨s,by simpa [cw]using hI,hF,λk2=> ?_⟩;obtain rfl:a=q.length:=by omega
  rw[qd];simp
 |succ m ih=>
  intro a f s l hb hf hI hF hB;obtain⟨f,rfl⟩:∃g,f=g+1:=⟨f - 1,by omega⟩
  have V1:=V.ai (H.ai hI);have vc:=V1.vc;have oa:a<q.length:=by omega
  obtain⟨y,hy⟩:∃y,q[a]? =some y:=⟨_,H0 oa⟩
  obtain⟨pb,po,p⟩:=rM V1.pq hy;have p1:=λ{R}=>@p.st R
  have p3:=p.one;have hN:=V1.LY;have qp:=V.ql;have fh:=(hF.2.2 rb _ tj hr).1;have wr:ax .i64 ((a:Int)+1)=((a+1:Nat):Int):=wrap64 (by omega) (by omega);rw[Nat.mul_succ]at hB;have fp:=aki (qF q) (λx=>oE J.p.ts r.t x.toNat) (prP J S) a (q.length - (a+1)) (a+1);have fp:cw (vG (qF q) (oq J r S) a) (q.length - (a+1)) (a+1)=_:=fp;have e0:on (qF q) a=decide (0<=y):=by unfold on;rw[yp hy]
  rw[e0,yp hy]at fp
  have step:∃s2,I s2 (l++cw (vG (qF q) (oq J r S) a) (q.length - (a+1)) (a+1))/\ic M sB s2/\∀k2,jE c F k2 (f+1) [.ptr vb 0,sv,fv,.ptr rb 0,P,.int .i64 (q.length:Int),.int .i64 (a:Int)] s=
        jE c F k2 f [.ptr vb 0,sv,fv,.ptr rb 0,P,.int .i64 (q.length:Int),.int .i64 ((a+1:Nat):Int)] s2:=by
   rw[fp];by_cases h0:0<=y
   .    obtain⟨i,rfl,hi⟩:=V1.kD hy h0;have dn:decide ((i:Int)<0)=false:=Za2 (by omega);have ak:=Hv hc V1 r hi;simp only[Zd4,Za0 h0,Zf6];generalize oE J.p.ts r.t i=e at*
        cases e
        . refine⟨s,by simpa using hI,hF,λk2=> ?_⟩;rw[qd];simp[-av,dz,oa,p1,p3,dn,fh,ak,wr]
        . obtain⟨s2,z1,z2,z3⟩:=apY (c:=c) H V hS hy hi (.ptr rb 0) P (.int .i64 (q.length:Int)) (.int .i64 (a:Int)) F (q.length - (a+1)) (a+1) F s l (by omega) (by omega) hI hF (by have:=Zl0 3 (show q.length - (a+1)<=q.length by omega);omega);refine⟨s2,by simpa using z1,z2,λk2=> ?_⟩;simp only[show((a+1:Nat):Int)=(a:Int)+1 by omega]at z3 wr ⊢;rw[qd];simp[-av,dz,oa,p1,p3,dn,fh,ak,wr,z3]
   .    have dn:decide (y<0)=true:=Za0 (by omega);refine⟨s,by simpa [h0]using hI,hF,λk2=> ?_⟩;rw[qd];simp[-av,dz,oa,p1,p3,dn,wr]
  obtain⟨s2,a1,a2,a3⟩:=step;have rI:=Xi (q:=q) (oq J r S) a (q.length - (a+1)) (a+1);obtain⟨s',z1,z2,z3⟩:=ih (a+1) f s2 _ (by omega) (by omega) a1 a2 (by rw[Ln];have:=Zl0 3 (show q.length - (a+1)<=q.length by omega);omega);exact⟨s',by rw[cw, <-Zf2];exact z1,z2,λk2=>by rw[a3,z3]⟩
theorem SQ(hc:bH c)(H:kF c fv s0 I M)(V:Vw s0 vb jb j J P G q g){sv:AV}{S:Nat->Nat->Int->Int->Bool}(hS:SoC c sv M s0 s J q S)(r:Rl)(hI:I s l)(hB:fH l+3*q.length*q.length<=1000000):
  ∃s',c 164 [.ptr vb 0,.agg r.cells,sv,fv] s=some (.tuple [],s')/\I s' (l++AH (qF q) q.length (oq J r S)):=by
 refine H.fin hI (λh=>Vf hc (q.length+1) h) ?_;have hw:=(H.ai hI).wf;have gr:=Grew.ah hw (.cells r.cells 0);have dJ:=H.grow hI gr;have V1:=V.ai (H.ai dJ);have hF:=H.fr hI gr;have Ah:SoC c sv M s0 (ah s (.cells r.cells 0)) J q S:=λ{s2} g1 g2=>hS g1 (hF.trans g2)
 have tj:¬M (ah s (.cells r.cells 0)) s.next:=λh=>by have:=H.mlt hI (H.mK hI gr h);omega
 have vc:=V1.vc;have ln:=λ(K:AV->St->Option (AV×St))=>V1.pq.lenB (c:=c) K (ah s (.cells r.cells 0))
 rw[Za5]at ln;obtain⟨s',z1,z2,z3⟩:=apZ (c:=c) hc H V Ah (az s (.cells r.cells 0)) tj (q.length+1) (by omega) q.length 0 (q.length+1) _ l (by omega) (by omega) dJ (ic.refl V1.wf) hB;refine⟨s',?_,z1⟩;rw[Zi,dI,show AV.cells (.agg r.cells)=r.cells from rfl];have z3:=z3 (λvs s=>iT vs (some (.tuple [],s)));simp only[aA,cJ,aS,Zc3,bf,vc,aJ,Zb1,Za4,Zb8,bg,ln];rw[show(0:Int)=((0:Nat):Int)from rfl,z3];rfl
end
def agi(J:Jt)(a:Nat):Int:=match J.p.gs[a]? with|some g=>g.side|none=>0
def acB(J:Jt)(a:Nat):List Nat:=match J.p.gs[a]? with|some g=>g.jP|none=>[]
def LZ(J:Jt)(a b:Nat):Int:=(J.oR.getD a []).getD b 0
def rW(J:Jt)(a:Nat):Int:=J.p.cs.getD a 0
def Xj(J:Jt)(a b:Nat)(x y:Int):Bool:=decide (0<agi J a)&&decide (agi J a=agi J b)&&(qM J.p.ts x.toNat).contains y
def Xk(J:Jt)(a b:Nat)(x y:Int):Bool:= !decide (acB J a=[])&&decide (acB J a=acB J b)&&(qM J.p.ts x.toNat).contains y
def Hw(J:Jt)(a b:Nat)(x y:Int):Bool:=decide (LZ J a b=2)&&YY J.p.ts x.toNat y
def ahB(J:Jt)(x:Int):Int:=IM J.p.ts x
def SS(J:Jt)(a b:Nat)(x y:Int):Bool:=if rW J b<rW J a then decide (rW J b<rW J a)&&decide (ahB J x<ahB J y)else decide (rW J a<rW J b)&&decide (ahB J y<ahB J x)
section
variable{c : au}{fv : AV}{s0 sB : St}{I : St -> List Ev -> Prop}{M : St -> Pos -> Prop}{s : St}{l : List Ev}{vb jb : Pos}{j : Jc}{J : Jt}{P G : AV}{q g : List Int}
theorem Vw.qj(V:Vw s vb jb j J P G q g){a:Nat}{x:Int}(ha:q[a]? =some x):∃A v b o,J.p.gs[a]? =some A/\Rd s 9 j.V2 a b o (A.aj v):=by
 have h:a<J.p.gs.length:=by have:=V.ql;unfold Jt.n at this;rw[<-this];exact(Za1.1 ha).1
 obtain⟨v,b,o,h1⟩:=V.rG (H0 h);exact⟨_,v,b,o,H0 h,h1⟩
theorem afy(hc:bH c)(V:Vw s vb jb j J P G q g){vp:Pos}(hv:s.heap.get vp=some (.cells [.ptr vb 0] 0)){a b i:Nat}{y:Int}(ha:q[a]? =some (i:Int))(hb:q[b]? =some y)(hi:i<J.N):
   c 165 [.int .i64 (a:Int),.int .i64 (b:Int),.ptr vp 0] s=some (.bool (Xj J a b (i:Int) y),s):=by
 rw[KQ hc 1 (r:=(.bool (Xj J a b (i:Int) y),s)),aE (Plain.bool _) (aT.refl s)];rw[Nu];have vc:=V.vc;have jc:=V.jw.oc;obtain⟨A,v,ab,ao,hA,h1⟩:=V.qj ha;obtain⟨B,v',bb,bo,hB,h2⟩:=V.qj hb;have r1:=λ{R}=>@h1.pr R
 have r2:=h1.at' 4 _ rfl;have r3:=λ{R}=>@h2.pr R
 have r4:=h2.at' 4 _ rfl;obtain⟨w,wb,wo,h3,h4⟩:=V.rB hi;have cl:=Gh hc V h3 h4 (Lo _ _).1 ha hb;unfold Xj agi;rw[hA,hB];simp only[Zd4];generalize (qM J.p.ts i).contains y=e at*
 by_cases d1:0<A.side
 . by_cases d2:A.side=B.side
   . have Hx:0<B.side:=(by rw[<-d2];exact d1);simp[hv,vc,jc,r1,r2,r3,r4,d1,Hx,d2,cl]
   . have L8:decide (A.side=B.side)=false:=Za2 d2;simp[hv,vc,jc,r1,r2,r3,r4,d1,L8]
 . have Hx:decide (0<A.side)=false:=Za2 d1;simp[hv,vc,jc,r1,r2,r3,r4,Hx]
theorem ast(hc:bH c)(V:Vw s vb jb j J P G q g){vp:Pos}(hv:s.heap.get vp=some (.cells [.ptr vb 0] 0)){a b i:Nat}{y:Int}(ha:q[a]? =some (i:Int))(hb:q[b]? =some y)(hi:i<J.N):
   c 174 [.int .i64 (a:Int),.int .i64 (b:Int),.ptr vp 0] s=some (.bool (Xk J a b (i:Int) y),s):=by
 rw[Vg hc 1 (r:=(.bool (Xk J a b (i:Int) y),s)),aE (Plain.bool _) (aT.refl s)];rw[Zj];have vc:=V.vc;have jc:=V.jw.oc;obtain⟨A,v,ab,ao,hA,h1⟩:=V.qj ha;obtain⟨B,v',bb,bo,hB,h2⟩:=V.qj hb;have r1:=λ{R}=>@h1.pr R
 have r2:=h1.at' 2 _ rfl;have r3:=λ{R}=>@h2.pr R
 have r4:=h2.at' 2 _ rfl;obtain⟨w,wb,wo,h3,h4⟩:=V.rB hi;have cl:=Gh hc V h3 h4 (Lo _ _).1 ha hb;unfold Xk acB;rw[hA,hB];simp only[Zd4];generalize (qM J.p.ts i).contains y=e at*
 by_cases d1:A.jP=[]
 . have Hx:decide (A.jP=[])=true:=Za0 d1;simp[hv,vc,jc,r1,r2,r3,r4,Hx]
 . have Hx:decide (A.jP=[])=false:=Za2 d1;by_cases d2:A.jP=B.jP
   . have L8:decide (A.jP=B.jP)=true:=Za0 d2;simp[hv,vc,jc,r1,r2,r3,r4,Hx,L8,cl]
   . have L8:decide (A.jP=B.jP)=false:=Za2 d2;simp[hv,vc,jc,r1,r2,r3,r4,Hx,L8]
theorem Vw.tie(V:Vw s vb jb j J P G q g){a b:Nat}{x y:Int}(ha:q[a]? =some x)(hb:q[b]? =some y):∃w p o p2 o2,Rd s 1 j.L7 a p o [w]/\Rd s 1 w b p2 o2 [.int .u8 (LZ J a b)]:=by
 have h1:a<J.oR.length:=by rw[V.jw.n2, <-V.ql];exact(Za1.1 ha).1
 have h2:b<J.oR[a].length:=by rw[V.jw.n4 _ (Zc2 h1), <-V.ql];exact(Za1.1 hb).1
 have e:LZ J a b=J.oR[a][b]:=by
  unfold LZ;rw[Zb5,Zb5,H0 h1,Ze9,H0 h2,Ze9]
 rw[e];exact V.rK (H0 h1) (H0 h2)
theorem ant(hc:bH c)(V:Vw s vb jb j J P G q g){vp:Pos}(hv:s.heap.get vp=some (.cells [.ptr vb 0] 0)){a b i:Nat}{y:Int}(ha:q[a]? =some (i:Int))(hb:q[b]? =some y)(hi:i<J.N):
   c 169 [.int .i64 (a:Int),.int .i64 (b:Int),.ptr vp 0] s=some (.bool (Hw J a b (i:Int) y),s):=by
 rw[QH hc 1 (r:=(.bool (Hw J a b (i:Int) y),s)),aE (Plain.bool _) (aT.refl s)];rw[Vh];have vc:=V.vc;have jc:=V.jw.oc;obtain⟨w,p,o,p2,o2,h1,h2⟩:=V.tie ha hb;have r1:=λ{R}=>@h1.st R
 have r2:=h1.one;have r3:=λ{R}=>@h2.st R
 have r4:=h2.one;have nr:=aeZ hc V ha hi hb;unfold Hw;simp only[Zd4];by_cases d1:LZ J a b=2
 . have Hx:decide (LZ J a b=2)=true:=Za0 d1;simp[hv,vc,jc,r1,r2,r3,r4,Hx,nr]
 . have Hx:decide (LZ J a b=2)=false:=Za2 d1;simp[hv,vc,jc,r1,r2,r3,r4,Hx]
theorem Vw.cls(V:Vw s vb jb j J P G q g)(fC:J.p.cs.length=q.length){a:Nat}{x:Int}(ha:q[a]? =some x):∃b o,Rd s 1 j.V4 a b o [.int .i64 (rW J a)]:=by
 have h1:a<J.p.cs.length:=by rw[fC];exact(Za1.1 ha).1
 refine rM V.jw.cls (i:=a) ?_;unfold rW;rw[Zb5,H0 h1];rfl
theorem alr(hc:bH c)(V:Vw s vb jb j J P G q g)(fC:J.p.cs.length=q.length){vp:Pos}(hv:s.heap.get vp=some (.cells [.ptr vb 0] 0)){a b i k:Nat}(ha:q[a]? =some (i:Int))(hb:q[b]? =some (k:Int))(hi:i<J.N)(hk:k<J.N):
   c 171 [.int .i64 (a:Int),.int .i64 (b:Int),.ptr vp 0] s=some (.bool (SS J a b (i:Int) (k:Int)),s):=by
 rw[O8 hc 1 (r:=(.bool (SS J a b (i:Int) (k:Int)),s)),aE (Plain.bool _) (aT.refl s)];rw[SU];have vc:=V.vc;have jc:=V.jw.oc;obtain⟨ab,ao,h1⟩:=V.cls fC ha;obtain⟨bb,bo,h2⟩:=V.cls fC hb;have r1:=λ{R}=>@h1.pr R
 have r2:=h1.one;have r3:=λ{R}=>@h2.pr R
 have r4:=h2.one;obtain⟨pb,po,p⟩:=rM V.pq ha;obtain⟨qb,qo,p'⟩:=rM V.pq hb;have p1:=λ{R}=>@p.pr R
 have p3:=p.one;have p4:=λ{R}=>@p'.pr R
 have p6:=p'.one;obtain⟨tb,to,t⟩:=V.rL hi;obtain⟨ub,uo,u⟩:=V.rL hk;have t1:=λ{R}=>@t.pr R
 have t3:=t.one;have u1:=λ{R}=>@u.pr R
 have u3:=u.one;unfold SS ahB;by_cases d1:rW J b<rW J a
 . rw[Zb3 d1];have Hx:decide (rW J b<rW J a)=true:=Za0 d1;simp[dz,hv,vc,jc,r1,r2,r3,r4,p1,p3,p4,p6,t1,t3,u1,u3,Hx]
 . rw[Za7 d1];have Hx:decide (rW J b<rW J a)=false:=Za2 d1;by_cases d2:rW J a<rW J b
   . have L8:decide (rW J a<rW J b)=true:=Za0 d2;simp[dz,hv,vc,jc,r1,r2,r3,r4,p1,p3,p4,p6,t1,t3,u1,u3,Hx,L8]
   . have L8:decide (rW J a<rW J b)=false:=Za2 d2;simp[dz,hv,vc,jc,r1,r2,r3,r4,p1,p3,p4,p6,t1,t3,u1,u3,Hx,L8]
theorem acC(V:Vw s0 vb jb j J P G q g){f:FuncId}{vp:Pos}{S:Nat->Nat->Int->Int->Bool}(hv:sB.heap.get vp=some (.cells [.ptr vb 0] 0))(hM:¬M sB vp)
  (dG:∀{s},Vw s vb jb j J P G q g->s.heap.get vp=some (.cells [.ptr vb 0] 0)->∀{a b i k:Nat},q[a]? =some (i:Int)->q[b]? =some (k:Int)->i<J.N->k<J.N->c f [.int .i64 (a:Int),.int .i64 (b:Int),.ptr vp 0] s=some (.bool (S a b (i:Int) (k:Int)),s)):
  SoC c (.func f [] [.ptr vp 0]) M s0 sB J q S:=λ{s} g1 hF {a b i k} ha hb hi hk K=>by
 rw[jC];simp only[Ze1,Zd7];rw[dG (V.ai g1) (hF.2.2 vp _ hM hv).1 ha hb hi hk];rfl
theorem asu{q:Nat->Int}{P:Nat->Nat->Int->Int->Bool}(h:∀a b x y,P a b x y=false)(n:Nat):AH q n P=[]:=by
 have h1:∀a m k,cw (vG q P a) m k=[]:=λa m=>by
  induction m with
  |zero=>intro k;rfl
  |succ m ih=>intro k;rw[cw,ih (k+1)];unfold vG;rw[h];simp[yY]
 have h2:∀m k,cw (λa=>cw (vG q P a) (n - (a+1)) (a+1)) m k=[]:=λm=>by
  induction m with
  |zero=>intro k;rfl
  |succ m ih=>intro k;rw[cw,ih (k+1),h1];rfl
 exact h2 _ _
theorem afz(hc:bH c)(H:kF c fv s0 I M)(V:Vw s0 vb jb j J P G q g)(r:Rl)(hI:I s l)(hB:fH l+3*q.length*q.length<=1000000):
  ∃s',c 97 [.ptr vb 0,.agg r.cells,fv] s=some (.tuple [],s')/\I s' (l++AH (qF q) q.length (oq J r (Xj J))):=by
 refine H.fin hI (λh=>Nv hc 1 h) ?_;have hw:=(H.ai hI).wf;have g1:=Grew.ah hw (.cells [.ptr vb 0] 0);have dJ:=H.grow hI g1;have g2:=Grew.ah g1.wf (.cells r.cells 0);have uu:=H.grow dJ g2;have b1:=g2.get (az s (.cells [.ptr vb 0] 0));have b2:=az (ah s (.cells [.ptr vb 0] 0)) (.cells r.cells 0);have hM:¬M (ah (ah s (.cells [.ptr vb 0] 0)) (.cells r.cells 0)) s.next:=λh=>by have:=H.mlt hI (H.mK hI g1 (H.mK dJ g2 h));omega
 obtain⟨s',z1,z2⟩:=SQ hc H V (acC (f:=165) (S:=Xj J) V b1 hM λ{s} V hv {a b i k} ha hb hi hk=>afy hc V hv ha hb hi) r uu hB;refine⟨s',?_,z2⟩;rw[QI];simp[show AV.cells (.agg r.cells)=r.cells from rfl,show AV.cells (.ptr vb 0)=[.ptr vb 0]from rfl,b1,b2,z1]
theorem asv(hc:bH c)(H:kF c fv s0 I M)(V:Vw s0 vb jb j J P G q g)(r:Rl)(hI:I s l)(hB:fH l+3*q.length*q.length<=1000000):
  ∃s',c 107 [.ptr vb 0,.agg r.cells,fv] s=some (.tuple [],s')/\I s' (l++AH (qF q) q.length (oq J r (Xk J))):=by
 refine H.fin hI (λh=>Zk hc 1 h) ?_;have hw:=(H.ai hI).wf;have g1:=Grew.ah hw (.cells [.ptr vb 0] 0);have dJ:=H.grow hI g1;have g2:=Grew.ah g1.wf (.cells r.cells 0);have uu:=H.grow dJ g2;have b1:=g2.get (az s (.cells [.ptr vb 0] 0));have b2:=az (ah s (.cells [.ptr vb 0] 0)) (.cells r.cells 0);have hM:¬M (ah (ah s (.cells [.ptr vb 0] 0)) (.cells r.cells 0)) s.next:=λh=>by have:=H.mlt hI (H.mK hI g1 (H.mK dJ g2 h));omega
 obtain⟨s',z1,z2⟩:=SQ hc H V (acC (f:=174) (S:=Xk J) V b1 hM λ{s} V hv {a b i k} ha hb hi hk=>ast hc V hv ha hb hi) r uu hB;refine⟨s',?_,z2⟩;rw[acD];simp[show AV.cells (.agg r.cells)=r.cells from rfl,show AV.cells (.ptr vb 0)=[.ptr vb 0]from rfl,b1,b2,z1]
theorem anu(hc:bH c)(H:kF c fv s0 I M)(V:Vw s0 vb jb j J P G q g)(r:Rl)(hI:I s l)(hB:fH l+3*q.length*q.length<=1000000):
  ∃s',c 101 [.ptr vb 0,.agg r.cells,fv] s=some (.tuple [],s')/\I s' (l++AH (qF q) q.length (oq J r (Hw J))):=by
 refine H.fin hI (λh=>Vi hc 1 h) ?_;have hw:=(H.ai hI).wf;have g1:=Grew.ah hw (.cells [.ptr vb 0] 0);have dJ:=H.grow hI g1;have g2:=Grew.ah g1.wf (.cells r.cells 0);have uu:=H.grow dJ g2;have b1:=g2.get (az s (.cells [.ptr vb 0] 0));have b2:=az (ah s (.cells [.ptr vb 0] 0)) (.cells r.cells 0);have hM:¬M (ah (ah s (.cells [.ptr vb 0] 0)) (.cells r.cells 0)) s.next:=λh=>by have:=H.mlt hI (H.mK hI g1 (H.mK dJ g2 h));omega
 obtain⟨s',z1,z2⟩:=SQ hc H V (acC (f:=169) (S:=Hw J) V b1 hM λ{s} V hv {a b i k} ha hb hi hk=>ant hc V hv ha hb hi) r uu hB;refine⟨s',?_,z2⟩;rw[Zl];simp[show AV.cells (.agg r.cells)=r.cells from rfl,show AV.cells (.ptr vb 0)=[.ptr vb 0]from rfl,b1,b2,z1]
theorem als(hc:bH c)(H:kF c fv s0 I M)(V:Vw s0 vb jb j J P G q g)(fC:J.p.cs.length=q.length\/J.p.cs.length=0)(r:Rl)(hI:I s l)(hB:fH l+3*q.length*q.length<=1000000):
   ∃s',c 103 [.ptr vb 0,.agg r.cells,fv] s=some (.tuple [],s')/\I s' (l++AH (qF q) q.length (oq J r (SS J))):=by
 refine H.fin hI (λh=>SV hc 1 h) ?_;have hw:=(H.ai hI).wf;have g1:=Grew.ah hw (.cells [.ptr vb 0] 0);have dJ:=H.grow hI g1;have g2:=Grew.ah g1.wf (.cells r.cells 0);have uu:=H.grow dJ g2;have b1:=g2.get (az s (.cells [.ptr vb 0] 0));have b2:=az (ah s (.cells [.ptr vb 0] 0)) (.cells r.cells 0);have hM:¬M (ah (ah s (.cells [.ptr vb 0] 0)) (.cells r.cells 0)) s.next:=λh=>by have:=H.mlt hI (H.mK hI g1 (H.mK dJ g2 h));omega
 have V2:=V.ai (H.ai uu);have vc:=V2.vc;have jc:=V2.jw.oc;have ln:=λ(K:AV->St->Option (AV×St))(s:St)=>V2.jw.cls.lenB (c:=c) K s
 rw[Za5]at ln;by_cases h0:J.p.cs.length=0
 . refine⟨_,?_,by
    rw[asu,Ze0];· exact uu
    .   (intro a b x y;have e:∀a,rW J a=0:=λa=>by unfold rW;rw[Zc5 h0];rfl);unfold oq prP SS;rw[e,e];simp⟩
   rw[Hy];simp[show AV.cells (.agg r.cells)=r.cells from rfl,show AV.cells (.ptr vb 0)=[.ptr vb 0]from rfl,b1,b2,vc,jc,ln,h0]
 . have h1:J.p.cs.length=q.length:=(by omega);obtain⟨s',z1,z2⟩:=SQ hc H V (acC (f:=171) (S:=SS J) V b1 hM λ{s} V hv {a b i k} ha hb hi hk=>alr hc V h1 hv ha hb hi hk) r uu hB;refine⟨s',?_,z2⟩;have d0:decide ((J.p.cs.length:Int)=0)=false:=Za2 (by omega);rw[Hy];simp only[dI,show AV.cells (.agg r.cells)=r.cells from rfl,show AV.cells (.ptr vb 0)=[.ptr vb 0]from rfl,bf,b1,b2,aJ,Zb1,Za4,bg,cJ,aS,Zc3,vc,jc,Jc.c3,ln,fR,d0,dQ,gG,Rl.cc,gO,GQ,aA,dD,z1,cO]
end
def arD(J:Jt)(a:Nat):List Nat:=match J.p.gs[a]? with|some g=>g.name|none=>[]
def arE(J:Jt)(a:Nat):List Nat:=match J.p.gs[a]? with|some g=>g.o8|none=>[]
def gAcc(J:Jt)(a:Nat):Bool:=match J.p.gs[a]? with|some g=>g.access|none=>false
def SX(J:Jt)(r:Rl)(a b:Nat)(x y:Int):Bool:=decide (LZ J a b=1)&&(oE J.p.ts r.t x.toNat||oE J.p.ts r.t y.toNat)&& !YY J.p.ts x.toNat y
def adR(J:Jt)(r:Rl)(a:Nat)(x:Int):Bool:= !OV J.p.ts x&&(decide (r.a=arD J a)||(decide (r.a=[])&&gAcc J a))
def adS(J:Jt)(r:Rl)(a:Nat)(x:Int):Bool:=decide (arE J a=r.a)&& !oE J.p.ts r.t x.toNat
section
variable{c : au}{fv : AV}{s0 sB : St}{I : St -> List Ev -> Prop}{M : St -> Pos -> Prop}{s : St}{l : List Ev}{vb jb : Pos}{j : Jc}{J : Jt}{P G : AV}{q g : List Int}
theorem alu (hc:bH c)(H:kF c fv s0 I M)(V:Vw s0 vb jb j J P G q g){r:Rl}{rb:Pos}(hr:sB.heap.get rb=some (.cells r.cells 0))(tj:¬M sB rb){a:Nat}{x:Int}(ha:q[a]? =some x)(x13 x14 x15:AV)(F:Nat):
  ∀(m b f:Nat)(s:St)(l:List Ev),b+m=q.length->m<f->I s l->ic M sB s->fH l+3*m<=1000000->∃s',I s' (l++cw (vG (qF q) (SX J r) a) m b)/\ic M sB s'/\
   ∀k4,fW c F k4 f [.ptr vb 0,fv,.ptr rb 0,.int .i64 (a:Int),.int .i64 x,.int .i64 (b:Int),x13,x14,x15] s=k4 [.ptr vb 0,fv,.ptr rb 0,x13,x14,x15] s':=by
 intro m;induction m with
 |zero=>
  intro b f s l hb hf hI hF hB;obtain⟨f,rfl⟩:∃g,f=g+1:=⟨f - 1,by omega⟩
  have V1:=V.ai (H.ai hI);have vc:=V1.vc;have ln:=λ(K:AV->St->Option (AV×St))=>V1.pq.lenB (c:=c) K s
  rw[Za5]at ln;refine⟨s,by simpa [cw]using hI,hF,λk4=> ?_⟩;obtain rfl:b=q.length:=by omega
  rw[iN];simp[vc,ln]
 |succ m ih  =>
  intro b f s l hb hf hI hF hB;obtain⟨f,rfl⟩:∃g,f=g+1:=⟨f - 1,by omega⟩
  have V1:=V.ai (H.ai hI);have vc:=V1.vc;have jc:=V1.jw.oc;have ln:=λ(K:AV->St->Option (AV×St))=>V1.pq.lenB (c:=c) K s
  rw[Za5]at ln;have Af:b<q.length:=by omega
  obtain⟨y,hy⟩:∃y,q[b]? =some y:=⟨_,H0 Af⟩
  obtain⟨pb,po,p⟩:=rM V1.pq hy;have p1:=λ{R}=>@p.st R
  have p3:=p.one;have hN:=V1.LY;have qp:=V.ql;have fh:=(hF.2.2 rb _ tj hr).1;have wr:ax .i64 ((b:Int)+1)=((b+1:Nat):Int):=wrap64 (by omega) (by omega)
  have step  :∃s2,I s2 (l++vG (qF q) (SX J r) a b)/\ic M sB s2/\∀k4,fW c F k4 (f+1) [.ptr vb 0,fv,.ptr rb 0,.int .i64 (a:Int),.int .i64 x,.int .i64 (b:Int),x13,x14,x15] s=
        fW c F k4 f [.ptr vb 0,fv,.ptr rb 0,.int .i64 (a:Int),.int .i64 x,.int .i64 ((b+1:Nat):Int),x13,x14,x15] s2:=by
   rw[ans ha hy];by_cases hx:0<=x
   .    by_cases h0:0<=y
        . obtain⟨i,rfl,hi⟩:=V1.kD ha hx;obtain⟨k,rfl,hk⟩:=V1.kD hy h0;obtain⟨w,tp,to,tp2,to2,h1,h2⟩:=V1.tie ha hy;have r1:=λ{R}=>@h1.st R
          have r2:=h1.one;have r3:=λ{R}=>@h2.st R
          have r4:=h2.one;have nr:=aeZ hc V1 ha hi hy;have a1:=Hv hc V1 r hi;have a2:=Hv hc V1 r hk;unfold SX;simp only[Zd4];by_cases ht:LZ J a b=1
          . have dt:decide (LZ J a b=1)=true:=Za0 ht;generalize YY J.p.ts i (k:Int)=e at*
            generalize oE J.p.ts r.t i=e1 at*
            generalize oE J.p.ts r.t k=e2 at*
            cases e1<;>cases e2<;>cases e
            case false.false.false|false.false.true|false.true.true|true.false.true|true.true.true=>
             refine⟨s,by simpa [eu]using hI,hF,λk4=> ?_⟩;rw[iN];simp[-av,dz,Af,vc,ln,jc,p1,p3,r1,r2,r3,r4,dt,a1,a2,nr,fh,wr]
            all_goals
             obtain⟨s2,v2,e1,e2,e3⟩:=H.SM hI (by omega) a b;refine⟨s2,by simpa [dt,rj]using e2,hF.trans e3,λk4=> ?_⟩;rw[iN];simp[-av,dz,Af,vc,ln,jc,p1,p3,r1,r2,r3,r4,dt,a1,a2,nr,fh,wr,e1]
          . have dt:decide (LZ J a b=1)=false:=Za2 ht;refine⟨s,by simpa [ht,eu]using hI,hF,λk4=> ?_⟩;rw[iN];simp[-av,dz,Af,vc,ln,jc,p1,p3,r1,r2,r3,r4,dt,wr]
        . refine⟨s,by simpa [h0,eu]using hI,hF,λk4=> ?_⟩;rw[iN];simp[-av,dz,Af,vc,ln,jc,p1,p3,h0,hx,wr]
   .    refine⟨s,by simpa [hx,eu]using hI,hF,λk4=> ?_⟩;rw[iN];simp[-av,dz,Af,vc,ln,jc,p1,p3,hx,wr]
  obtain⟨s2,a1,a2,a3⟩:=step;have rI:=ahA (q:=q) (SX J r) a b;obtain⟨s',z1,z2,z3⟩:=ih (b+1) f s2 _ (by omega) (by omega) a1 a2 (by rw[Ln];omega);exact⟨s',by rw[cw, <-Zf2];exact z1,z2,λk4=>by rw[a3,z3]⟩
theorem alv(hc:bH c)(H:kF c fv s0 I M)(V:Vw s0 vb jb j J P G q g){r:Rl}{rb:Pos}(hr:sB.heap.get rb=some (.cells r.cells 0))(tj:¬M sB rb)(F:Nat)(hFu:q.length<F):
  ∀(m a f:Nat)(s:St)(l:List Ev),a+m=q.length->m<f->I s l->ic M sB s->fH l+3*q.length*m<=1000000->∃s',I s' (l++cw (λa=>cw (vG (qF q) (SX J r) a) (q.length - (a+1)) (a+1)) m a)/\ic M sB s'/\
   ∀k2,mM c F k2 f [.ptr vb 0,fv,.ptr rb 0,P,.int .i64 (q.length:Int),.int .i64 (a:Int)] s=k2 [] s':=by
 intro m;induction m with
 |zero=>
  intro a f s l hb hf hI hF hB;obtain⟨f,rfl⟩:∃g,f=g+1:=⟨f - 1,by omega⟩
  refine⟨s,by simpa [cw]using hI,hF,λk2=> ?_⟩;obtain rfl:a=q.length:=by omega
  rw[Ba];simp
 |succ m ih=>
  intro a f s l hb hf hI hF hB;obtain⟨f,rfl⟩:∃g,f=g+1:=⟨f - 1,by omega⟩
  have V1:=V.ai (H.ai hI);have oa:a<q.length:=by omega
  obtain⟨y,hy⟩:∃y,q[a]? =some y:=⟨_,H0 oa⟩
  obtain⟨pb,po,p⟩:=rM V1.pq hy;have p1:=λ{R}=>@p.st R
  have p3:=p.one;have hN:=V1.LY;have qp:=V.ql;have wr:ax .i64 ((a:Int)+1)=(a:Int)+1:=wrap64 (by omega) (by omega);rw[Nat.mul_succ]at hB;have b3:=Zl0 3 (show q.length - (a+1)<=q.length by omega);obtain⟨s2,z1,z2,z3⟩:=alu (c:=c) hc H V hr tj hy P (.int .i64 (q.length:Int)) (.int .i64 (a:Int)) F (q.length - (a+1)) (a+1) F s l (by omega) (by omega) hI hF (by omega);simp only[show((a+1:Nat):Int)=(a:Int)+1 by omega]at z3;have rI:=Xi (q:=q) (SX J r) a (q.length - (a+1)) (a+1);obtain⟨s',y1,y2,y3⟩:=ih (a+1) f s2 _ (by omega) (by omega) z1 z2 (by rw[Ln];omega);simp only[show((a+1:Nat):Int)=(a:Int)+1 by omega]at y3;refine⟨s',by rw[cw, <-Zf2];exact y1,y2,λk2=> ?_⟩;rw[<-y3 k2,Ba];simp[-av,oa,p1,p3,wr,z3]
theorem ajj(hc:bH c)(H:kF c fv s0 I M)(V:Vw s0 vb jb j J P G q g)(r:Rl)(hI:I s l)(hB:fH l+3*q.length*q.length<=1000000):
  ∃s',c 102 [.ptr vb 0,.agg r.cells,fv] s=some (.tuple [],s')/\I s' (l++AH (qF q) q.length (SX J r)):=by
 refine H.fin hI (λh=>QJ hc (q.length+1) h) ?_;have hw:=(H.ai hI).wf;have gr:=Grew.ah hw (.cells r.cells 0);have dJ:=H.grow hI gr;have V1:=V.ai (H.ai dJ);have tj:¬M (ah s (.cells r.cells 0)) s.next:=λh=>by have:=H.mlt hI (H.mK hI gr h);omega
 have vc:=V1.vc;have ln:=λ(K:AV->St->Option (AV×St))=>V1.pq.lenB (c:=c) K (ah s (.cells r.cells 0))
 rw[Za5]at ln;obtain⟨s',z1,z2,z3⟩:=alv (c:=c) hc H V (az s (.cells r.cells 0)) tj (q.length+1) (by omega) q.length 0 (q.length+1) _ l (by omega) (by omega) dJ (ic.refl V1.wf) hB;refine⟨s',?_,z1⟩;rw[Vj,dI,show AV.cells (.agg r.cells)=r.cells from rfl];have z3:=z3 (λvs s=>iT vs (some (.tuple [],s)));simp only[aA,cJ,aS,Zc3,bf,vc,aJ,Zb1,Za4,Zb8,bg,ln];rw[show(0:Int)=((0:Nat):Int)from rfl,z3];rfl
theorem ahC{a:Nat}{x:Int}(ha:q[a]? =some x)(P:Nat->Int->Bool):yY (on (qF q) a&&P a (qF q a)) 1 [(a:Int)]=yY (decide (0<=x)&&P a x) 1 [(a:Int)]:=by
 unfold on;rw[yp ha]
end
section
variable{c : au}{fv : AV}{s0 sB : St}{I : St -> List Ev -> Prop}{M : St -> Pos -> Prop}{s : St}{l : List Ev}{vb jb : Pos}{j : Jc}{J : Jt}{P G : AV}{q g : List Int}
theorem Y0{E:Nat->List Ev}{B n:Nat}(hE:∀a,fH (E a)<=B)(L:Q2->Nat->List AV->St->Option (AV×St))(args:Nat->List AV)(hz:∀(k2:Q2)(f:Nat)(s:St),L k2 (f+1) (args n) s=k2 [] s)
  (hs:∀(a:Nat)(s:St)(l:List Ev),a<n->I s l->ic M sB s->fH l+B<=1000000->∃s2,I s2 (l++E a)/\ic M sB s2/\∀(k2:Q2)(f:Nat),L k2 (f+1) (args a) s=L k2 f (args (a+1)) s2):
  ∀(m a f:Nat)(s:St)(l:List Ev),a+m=n->m<f->I s l->ic M sB s->fH l+B*m<=1000000->∃s',I s' (l++cw E m a)/\ic M sB s'/\∀k2,L k2 f (args a) s=k2 [] s':=by
 intro m;induction m with
 |zero=>
  intro a f s l hb hf hI hF hB;obtain⟨f,rfl⟩:∃g,f=g+1:=⟨f - 1,by omega⟩
  obtain rfl:a=n:=by omega
  exact⟨s,by simpa [cw]using hI,hF,λk2=>hz k2 f s⟩
 |succ m ih=>
  intro a f s l hb hf hI hF hB;obtain⟨f,rfl⟩:∃g,f=g+1:=⟨f - 1,by omega⟩
  rw[Nat.mul_succ]at hB;obtain⟨s2,a1,a2,a3⟩:=hs a s l (by omega) hI hF (by omega);have:=hE a;obtain⟨s',z1,z2,z3⟩:=ih (a+1) f s2 _ (by omega) (by omega) a1 a2 (by rw[Ln];omega);exact⟨s',by rw[cw, <-Zf2];exact z1,z2,λk2=>by rw[a3,z3]⟩
def gsE(q:List Int)(P:Nat->Int->Bool)(a:Nat):List Ev:=yY (on (qF q) a&&P a (qF q a)) 1 [(a:Int)]
theorem ahD(P:Nat->Int->Bool)(a:Nat):fH (gsE q P a)<=2:=Hu _ _ _
abbrev kR(vb rb:Pos)(fv P:AV)(n a:Nat):List AV:=[.ptr vb 0,fv,.ptr rb 0,P,.int .i64 (n:Int),.int .i64 (a:Int)]
theorem alw(H:kF c fv s0 I M)(V:Vw s0 vb jb j J P G q g){r:Rl}{rb:Pos}(hr:sB.heap.get rb=some (.cells r.cells 0))(tj:¬M sB rb)(F:Nat)(a:Nat)(s:St)(l:List Ev)(oa:a<q.length)(hI:I s l)(hF:ic M sB s)(hB:fH l+2<=1000000):
   ∃s2,I s2 (l++gsE q (adR J r) a)/\ic M sB s2/\∀(k2:Q2)(f:Nat),jF c F k2 (f+1) (kR vb rb fv P q.length a) s=jF c F k2 f (kR vb rb fv P q.length (a+1)) s2:=by
 have V1:=V.ai (H.ai hI);have vc:=V1.vc;have jc:=V1.jw.oc;obtain⟨y,hy⟩:∃y,q[a]? =some y:=⟨_,H0 oa⟩
 obtain⟨pb,po,p⟩:=rM V1.pq hy;have p1:=λ{R}=>@p.st R
 have p3:=p.one;have hN:=V1.LY;have qp:=V.ql;have fh:=(hF.2.2 rb _ tj hr).1;have wr:ax .i64 ((a:Int)+1)=(a:Int)+1:=wrap64 (by omega) (by omega);unfold gsE;rw[ahC hy];by_cases h0:0<=y
 . obtain ⟨ k,rfl,hk⟩:=V1.kD hy h0;obtain⟨ub,uo,u⟩:=V1.rO hk;have u1:=λ{R}=>@u.pr R
   have u3:=u.one;obtain⟨A,v,ab,ao,hA,h1⟩:=V1.qj hy;have r1:=λ{R}=>@h1.pr R
   have r2:=h1.at' 0 _ rfl;rw[Zg0]at r2;have r3:=h1.at' 7 _ rfl;unfold adR arD gAcc;rw[hA];simp only;generalize OV J.p.ts (k:Int)=o at*
   cases o
   . by_cases hn:r.a=A.name
     .  obtain⟨s2,v2,a1,a2,a3⟩:=H.YZ hI hB a;refine⟨s2,by simpa [hn,rj]using a2,hF.trans a3,λk2 f=> ?_⟩;simp only[kR,show((a+1:Nat):Int)=(a:Int)+1 by omega];rw[iD];simp[-av,dz,oa,p1,p3,vc,jc,u1,u3,r1,r2,r3,fh,hn,a1,wr]
     .  have DF:decide (r.a=A.name)=false:=Za2 hn;by_cases he:r.a=[]
        . have Qf:decide (r.a=[])=true:=Za0 he;cases hac:A.access
          . refine⟨s,by simpa [hn,hac,eu]using hI,hF,λk2 f=> ?_⟩;rw[hac]at r3;simp only[kR,show((a+1:Nat):Int)=(a:Int)+1 by omega];rw[iD];simp[-av,dz,oa,p1,p3,vc,jc,u1,u3,r1,r2,r3,fh,DF,Qf,wr]
          . obtain⟨s2,v2,a1,a2,a3⟩:=H.YZ hI hB a;rw[hac]at r3;refine⟨s2,by simpa [he,hac,rj]using a2,hF.trans a3,λk2 f=> ?_⟩;simp only[kR,show((a+1:Nat):Int)=(a:Int)+1 by omega];rw[iD];simp[-av,dz,oa,p1,p3,vc,jc,u1,u3,r1,r2,r3,fh,DF,Qf,a1,wr]
        . have Qf:decide (r.a=[])=false:=Za2 he;refine⟨s,by simpa [hn,he,eu]using hI,hF,λk2 f=> ?_⟩;simp only[kR,show((a+1:Nat):Int)=(a:Int)+1 by omega];rw[iD];simp[-av,dz,oa,p1,p3,vc,jc,u1,u3,r1,r2,r3,fh,DF,Qf,wr]
   . refine⟨s,by simpa [eu]using hI,hF,λk2 f=> ?_⟩;simp only[kR,show((a+1:Nat):Int)=(a:Int)+1 by omega];rw[iD];simp[-av,dz,oa,p1,p3,vc,jc,u1,u3,wr]
 . refine⟨s,by simpa [h0,eu]using hI,hF,λk2 f=> ?_⟩;simp only[kR,show((a+1:Nat):Int)=(a:Int)+1 by omega];rw[iD];simp[-av,dz,oa,p1,p3,h0,wr]
theorem ahE(hc:bH c)(H:kF c fv s0 I M)(V:Vw s0 vb jb j J P G q g){r:Rl}{rb:Pos}(hr:sB.heap.get rb=some (.cells r.cells 0))(tj:¬M sB rb)(F:Nat)(a:Nat)(s:St)(l:List Ev)(oa:a<q.length)(hI:I s l)(hF:ic M sB s)(hB:fH l+2<=1000000):
   ∃s2,I s2 (l++gsE q (adS J r) a)/\ic M sB s2/\∀(k2:Q2)(f:Nat),iE c F k2 (f+1) (kR vb rb fv P q.length a) s=iE c F k2 f (kR vb rb fv P q.length (a+1)) s2:=by
 have V1:=V.ai (H.ai hI);have vc:=V1.vc;have jc:=V1.jw.oc;obtain⟨y,hy⟩:∃y,q[a]? =some y:=⟨_,H0 oa⟩
 obtain⟨pb,po,p⟩:=rM V1.pq hy;have p1:=λ{R}=>@p.st R
 have p3:=p.one;have hN:=V1.LY;have qp:=V.ql;have fh:=(hF.2.2 rb _ tj hr).1;have wr:ax .i64 ((a:Int)+1)=(a:Int)+1:=wrap64 (by omega) (by omega);unfold gsE;rw[ahC hy];by_cases h0:0<=y
 . obtain⟨k,rfl,hk⟩:=V1.kD hy h0;have ak:=Hv hc V1 r hk;obtain⟨A,v,ab,ao,hA,h1⟩:=V1.qj hy;have r1:=λ{R}=>@h1.pr R
   have r2:=h1.at' 5 _ rfl;unfold adS arE;rw[hA];simp only[Zd4];generalize oE J.p.ts r.t k=e at*
   by_cases hn:A.o8=r.a
   . have DF:decide (A.o8=r.a)=true:=Za0 hn;cases e
     .  obtain⟨s2,v2,a1,a2,a3⟩:=H.YZ hI hB a;refine⟨s2,by simpa [hn,rj]using a2,hF.trans a3,λk2 f=> ?_⟩;simp only[kR,show((a+1:Nat):Int)=(a:Int)+1 by omega];rw[kG];simp[-av,dz,oa,p1,p3,vc,jc,r1,r2,fh,DF,ak,a1,wr]
     .  refine⟨s,by simpa [eu]using hI,hF,λk2 f=> ?_⟩;simp only[kR,show((a+1:Nat):Int)=(a:Int)+1 by omega];rw[kG];simp[-av,dz,oa,p1,p3,vc,jc,r1,r2,fh,DF,ak,wr]
   . have DF:decide (A.o8=r.a)=false:=Za2 hn;refine⟨s,by simpa [hn,eu]using hI,hF,λk2 f=> ?_⟩;simp only[kR,show((a+1:Nat):Int)=(a:Int)+1 by omega];rw[kG];simp[-av,dz,oa,p1,p3,vc,jc,r1,r2,fh,DF,wr]
 . refine⟨s,by simpa [h0,eu]using hI,hF,λk2 f=> ?_⟩;simp only[kR,show((a+1:Nat):Int)=(a:Int)+1 by omega];rw[kG];simp[-av,dz,oa,p1,p3,h0,wr]
theorem anv(H:kF c fv s0 I M)(hc:bH c)(V:Vw s0 vb jb j J P G q g)(r:Rl)(hI:I s l)(hB:fH l+2*q.length<=1000000):
  ∃s',c 99 [.ptr vb 0,.agg r.cells,fv] s=some (.tuple [],s')/\I s' (l++OU (qF q) q.length (adR J r)):=by
 refine H.fin hI (λh=>Vk hc (q.length+1) h) ?_;have hw:=(H.ai hI).wf;have gr:=Grew.ah hw (.cells r.cells 0);have dJ:=H.grow hI gr;have V1:=V.ai (H.ai dJ);have tj:¬M (ah s (.cells r.cells 0)) s.next:=λh=>by have:=H.mlt hI (H.mK hI gr h);omega
 have vc:=V1.vc;have ln:=λ(K:AV->St->Option (AV×St))=>V1.pq.lenB (c:=c) K (ah s (.cells r.cells 0))
 rw[Za5]at ln
 obtain⟨s',z1,z2,z3⟩:=Y0 (E:=gsE q (adR J r)) (n:=q.length) (ahD _) (λk2=>jF c (q.length+1) k2) (kR vb s.next fv P q.length) (λk2 f s=>by rw[iD];simp)
  (alw (c:=c) H V (az s (.cells r.cells 0)) tj (q.length+1)) q.length 0 (q.length+1) _ l (by omega) (by omega) dJ (ic.refl V1.wf) hB
 refine⟨s',?_,z1⟩;rw[Zm,dI,show AV.cells (.agg r.cells)=r.cells from rfl];have z3:=z3 (λvs s=>iT vs (some (.tuple [],s)));simp only[aA,cJ,aS,Zc3,bf,vc,aJ,Zb1,Za4,Zb8,bg,ln];exact z3.trans rfl
theorem ajk(H:kF c fv s0 I M)(hc:bH c)(V:Vw s0 vb jb j J P G q g)(r:Rl)(hI:I s l)(hB:fH l+2*q.length<=1000000):
  ∃s',c 106 [.ptr vb 0,.agg r.cells,fv] s=some (.tuple [],s')/\I s' (l++OU (qF q) q.length (adS J r)):=by
 refine H.fin hI (λh=>QK hc (q.length+1) h) ?_;have hw:=(H.ai hI).wf;have gr:=Grew.ah hw (.cells r.cells 0);have dJ:=H.grow hI gr;have V1:=V.ai (H.ai dJ);have tj:¬M (ah s (.cells r.cells 0)) s.next:=λh=>by have:=H.mlt hI (H.mK hI gr h);omega
 have vc:=V1.vc;have ln:=λ(K:AV->St->Option (AV×St))=>V1.pq.lenB (c:=c) K (ah s (.cells r.cells 0))
 rw[Za5]at ln
 obtain⟨s',z1,z2,z3⟩:=Y0 (E:=gsE q (adS J r)) (n:=q.length) (ahD _) (λk2=>iE c (q.length+1) k2) (kR vb s.next fv P q.length) (λk2 f s=>by rw[kG];simp)
  (ahE (c:=c) hc H V (az s (.cells r.cells 0)) tj (q.length+1)) q.length 0 (q.length+1) _ l (by omega) (by omega) dJ (ic.refl V1.wf) hB
 refine⟨s',?_,z1⟩;rw[Vl,dI,show AV.cells (.agg r.cells)=r.cells from rfl];have z3:=z3 (λvs s=>iT vs (some (.tuple [],s)));simp only[aA,cJ,aS,Zc3,bf,vc,aJ,Zb1,Za4,Zb8,bg,ln];exact z3.trans rfl
end
def alx(J:Jt)(a:Nat)(h:Int):Bool:=(J.oQ.getD a []).getD h.toNat false
def IN(J:Jt)(g:List Int)(a:Nat):List Int->Bool->Bool->Bool×Bool
 |[],so,si=>(so,si)
 |k::r,so,si=>if 0<=g.getD k.toNat (-1)then IN J g a r true (si&& !alx J a (g.getD k.toNat (-1)))else IN J g a r so si
def abe(J:Jt)(g:List Int)(a:Nat)(x:Int):Bool×Bool:=IN J g a (AI J.p.ts x.toNat) (IN J g a (qM J.p.ts x.toNat) false true).1 (IN J g a (qM J.p.ts x.toNat) false true).2
def SY(J:Jt)(r:Rl)(g:List Int)(a:Nat)(x:Int):Bool:=oE J.p.ts r.t x.toNat&&((abe J g a x).1&&(abe J g a x).2)
section
variable{c : au}{fv : AV}{s0 sB : St}{I : St -> List Ev -> Prop}{M : St -> Pos -> Prop}{s : St}{l : List Ev}{vb jb : Pos}{j : Jc}{J : Jt}{P G : AV}{q g : List Int}
theorem Vw.com(V:Vw s vb jb j J P G q g){a b:Nat}(ha:a<J.n)(hb:b<J.n):∃w p o p2 o2,Rd s 1 j.L6 a p o [w]/\Rd s 1 w b p2 o2 [.bool (alx J a (b:Int))]:=by
 have h1:a<J.oQ.length:=by rw[V.jw.n1];exact ha
 have h2:b<J.oQ[a].length:=by rw[V.jw.n3 _ (Zc2 h1)];exact hb
 have e:alx J a (b:Int)=J.oQ[a][b]:=by
  unfold alx;rw[Zd4,Zb5,Zb5,H0 h1,Ze9,H0 h2,Ze9]
 rw[e];exact V.rC (H0 h1) (H0 h2)
theorem ahF(V:Vw s vb jb j J P G q g){w:AV}{r:List Int}(hw:QS 1 s w (r.map bV))(hr:∀k∈r,0<=k/\k<(J.N:Int))(hl:r.length<=1000){a:Nat}(ha:a<J.n)(x2 x4 Hz x19 x20 x54 x55 x56:AV)(F:Nat)(k6:Q2):
  ∀ (m k f:Nat)(so si:Bool),k+m=r.length->m<f->jG c F k6 f [.ptr vb 0,x2,x4,.int .i64 (a:Int),.bool so,.bool si,Hz,x19,x20,x54,x55,x56,w,.int .i64 (r.length:Int),.int .i64 (k:Int)] s=
    k6 [.ptr vb 0,x2,x4,.int .i64 (a:Int),.bool (IN J g a (r.drop k) so si).1,.bool (IN J g a (r.drop k) so si).2,Hz,x19,x20,x54,x55,x56] s:=by
 have vc:=V.vc;have jc:=V.jw.oc;intro m;induction m with
 |zero=>
  intro k f so si hk hf;obtain⟨f,rfl⟩:∃g,f=g+1:=⟨f - 1,by omega⟩
  obtain rfl:k=r.length:=by omega
  rw[vX];simp[IN]
 |succ m ih=>
  intro k f so si hk hf;obtain⟨f,rfl⟩:∃g,f=g+1:=⟨f - 1,by omega⟩
  have jO:k<r.length:=by omega
  obtain⟨wb,wo,w1⟩:=rM hw (H0 jO);have q1:=λ{R}=>@w1.st R
  have q3:=w1.one;have wr:ax .i64 ((k:Int)+1)=((k+1:Nat):Int):=wrap64 (by omega) (by omega);have bd:=hr _ (Zc2 jO);obtain⟨i,hi⟩:∃i:Nat,r[k]=(i:Int):=⟨r[k].toNat,by omega⟩
  have hiN:i<J.N:=by omega
  have QL:i<g.length:=by rw[V.gl];exact hiN
  obtain⟨gb,go,g1⟩:=rM V.gq (H0 QL);have g2:=λ{R}=>@g1.st R
  have g3:=g1.one;have eg:g.getD i (-1)=g[i]:=by rw[Zb5,H0 QL];rfl
  rw[Zd9 jO,hi];rw[hi]at q3;unfold IN;rw[Zd4,eg];by_cases h0:0<=g[i]
  . obtain⟨h,hh⟩:∃h:Nat,g[i]=(h:Int):=⟨g[i].toNat,by omega⟩
    have hn:h<J.n:=(by have:=V.og _ (Zc2 QL);omega);obtain⟨w',cp,co,Jj,co2,h1,h2⟩:=V.com ha hn;have r1:=λ{R}=>@h1.st R
    have r2:=h1.one;have r3:=λ{R}=>@h2.st R
    have r4:=h2.one;rw[hh]at g3 h0 ⊢;rw[Zb3 h0, <-ih (k+1) f true _ (by omega) (by omega),vX];cases si<;>simp[dz,jO,q1,q3,vc,jc,g2,g3,r1,r2,r3,r4,wr]
  . have d0:decide (0<=g[i])=false:=Za2 h0;rw[Za7 h0, <-ih (k+1) f so si (by omega) (by omega),vX];simp[dz,jO,q1,q3,vc,jc,g2,g3,d0,wr]
theorem ahG{R:Type}(K:AV->Option R)(b:Pos)(off len es:Nat)(cap:Option Nat):fD (.lenB .l) [.slice b off len cap es] K=K (.int .i64 (len:Int)):=dB K (λH n=>rfl)
theorem aly(hc:bH c)(H:kF c fv s0 I M)(V:Vw s0 vb jb j J P G q g){r:Rl}{rb:Pos}(hr:sB.heap.get rb=some (.cells r.cells 0))(tj:¬M sB rb){F:Nat}(hFu:1001<=F)(a:Nat)(s:St)(l:List Ev)(oa:a<q.length)(hI:I s l)(hF:ic M sB s)(hB:fH l+2<=1000000):
   ∃s2,I s2 (l++gsE q (SY J r g) a)/\ic M sB s2/\∀(k2:Q2)(f:Nat),fX c F k2 (f+1) (kR vb rb fv P q.length a) s=fX c F k2 f (kR vb rb fv P q.length (a+1)) s2:=by
 have V1:=V.ai (H.ai hI);have vc:=V1.vc;have jc:=V1.jw.oc;obtain⟨y,hy⟩:∃y,q[a]? =some y:=⟨_,H0 oa⟩
 obtain⟨pb,po,p⟩:=rM V1.pq hy;have p1:=λ{R}=>@p.st R
 have p3:=p.one;have p4:=λ{R}=>@p.pr R
 have hN:=V1.LY;have qp:=V.ql;have fh:=(hF.2.2 rb _ tj hr).1;have wr:ax .i64 ((a:Int)+1)=(a:Int)+1:=wrap64 (by omega) (by omega);unfold gsE;rw[ahC hy];by_cases h0:0<=y
 . obtain⟨k,rfl,hk⟩:=V1.kD hy h0;have dn:decide ((k:Int)<0)=false:=Za2 (by omega);have ak:=Hv hc V1 r hk;unfold SY abe;simp only[Zd4];generalize oE J.p.ts r.t k=e at*
   cases e
   . refine⟨s,by simpa [eu]using hI,hF,λk2 f=> ?_⟩;simp only[kR,show((a+1:Nat):Int)=(a:Int)+1 by omega];rw[mN];simp[-av,dz,oa,p1,p3,dn,fh,ak,wr]
   . obtain⟨w1,b1,o1,h1,h2⟩:=V1.rB hk;obtain⟨w2,b2,o2,h3,h4⟩:=V1.rA hk;have m1:=λ{R}=>@h1.pr R
     have m2:=h1.one;have m3:=λ{R}=>@h3.pr R
     have m4:=h3.one;have bdB:=(abf V.jw.nN).1 (qM J.p.ts k) (by unfold yl;exact Zc7.2 ⟨k,Zh6.2 hk,rfl⟩);have bdA:=(abf V.jw.nN).2 (AI J.p.ts k) (by unfold ym;exact Zc7.2 ⟨k,Zh6.2 hk,rfl⟩);obtain⟨wc1,_⟩:=QS.cells h2;obtain⟨wc2,_⟩:=QS.cells h4;have ef:bY (bU [AV.af] 2) ([0,1].map λi=>(i*1,1)) [w1,w2]=some [w1,w2]:=by
        simp[bY,bU,cU,cV,aU,wc1,wc2]
     have nw:=λ(K:AV->AB->Option (AV×St))=>(p7 s 1 2 [.af] [0,1] [w1,w2] K).trans (by rw[ef])
     have gN:=Grew.ah V1.wf (.cells [w1,w2] 0);have uu:=H.grow hI gN;have hF2:=hF.trans (H.fr hI gN);have V2:=V.ai (H.ai uu);have hx:=az s (.cells [w1,w2] 0);have hn1:a<J.n:=(by omega);have l1:=λ(so si:Bool)(x55 x56:AV)(k6:Q2)=>ahF (c:=c) V2 (h2.ai gN) bdB.2 bdB.1 hn1 fv (.ptr rb 0) P (.int .i64 (q.length:Int)) (.int .i64 (a:Int)) (.slice s.next 0 2 (some 2) 1) x55 x56 F k6 (qM J.p.ts k).length 0 F so si (by omega) (by omega)
     have l2:=λ(so si:Bool)(x55 x56:AV)(k6:Q2)=>ahF (c:=c) V2 (h4.ai gN) bdA.2 bdA.1 hn1 fv (.ptr rb 0) P (.int .i64 (q.length:Int)) (.int .i64 (a:Int)) (.slice s.next 0 2 (some 2) 1) x55 x56 F k6 (AI J.p.ts k).length 0 F so si (by omega) (by omega)
     (simp only[Zf3,show((0:Nat):Int)=0 from rfl]at l1 l2;have ln1:=λ(K:AV->St->Option (AV×St))=>(h2.ai gN).lenB (c:=c) K (ah s (.cells [w1,w2] 0)));have ln2:=λ(K:AV->St->Option (AV×St))=>(h4.ai gN).lenB (c:=c) K (ah s (.cells [w1,w2] 0))
     (rw[Za5]at ln1 ln2;have ix0:=λ(K:AV->St->Option (AV×St))(s1:St)=>iV c K s1 (b:=s.next) (off:=0) (len:=2) (es:=1) (es':=1) (cap:=some 2) (k:= .i64) (i:=0) (by omega));have ix1:=λ(K:AV->St->Option (AV×St))(s1:St)=>iV c K s1 (b:=s.next) (off:=0) (len:=2) (es:=1) (es':=1) (cap:=some 2) (k:= .i64) (i:=1) (by omega)
     simp only[show((0:Nat):Int)=0 from rfl,show((1:Nat):Int)=1 from rfl,Zn4,Zg0,Zo7,Zc3]at ix0 ix1;have w11:ax .i64 ((0:Int)+1)=1:=wrap64 (by omega) (by omega);have w12:ax .i64 ((1:Int)+1)=2:=wrap64 (by omega) (by omega);obtain⟨F',rfl⟩:∃n,F=n+3:=⟨F - 3,by omega⟩
     have L1:∀k4:Q2,lV c (F'+3) k4 (F'+3) [.ptr vb 0,fv,.ptr rb 0,.int .i64 (a:Int),.bool false,.bool true,P,.int .i64 (q.length:Int),.int .i64 (a:Int),.slice s.next 0 2 (some 2) 1,.int .i64 2,.int .i64 0] (ah s (.cells [w1,w2] 0))=
         k4 [.ptr vb 0,fv,.ptr rb 0,.int .i64 (a:Int),.bool (abe J g a (k:Int)).1,.bool (abe J g a (k:Int)).2,P,.int .i64 (q.length:Int),.int .i64 (a:Int)] (ah s (.cells [w1,w2] 0)):=λk4=>by
        unfold abe;rw[Zd4,vY];simp only[aH,br,dS,show decide ((0:Int)<2)=true from rfl,dW,ix0,bf,hx,aJ,Zb1,Za4,bg,aA,ln1,l1,fS,w11];rw[vY];simp only[aH,br,dS,show decide ((1:Int)<2)=true from rfl,dW,ix1,bf,hx,aJ,Zb1,Za4,Zb8,bg,aA,ln2,l2,fS,w12];rw[vY];simp only[aH,br,dS,show decide ((2:Int)<2)=false from rfl,dQ]
     unfold abe at L1;rw[Zd4]at L1;generalize IN J g a (AI J.p.ts k) (IN J g a (qM J.p.ts k) false true).1 (IN J g a (qM J.p.ts k) false true).2=e at*
     obtain⟨so,si⟩:=e;have tail:∃s2,I s2 (l++yY (so&&si) 1 [(a:Int)])/\ic M sB s2/\∀(k2:Q2)(f:Nat),fX c (F'+3) k2 (f+1) (kR vb rb fv P q.length a) s=fX c (F'+3) k2 f (kR vb rb fv P q.length (a+1)) s2:=by
        obtain⟨s2,v2,a1,a2,a3⟩:=H.YZ uu hB a;cases so<;>cases si
        case true.true=>
         refine⟨s2,a2,hF2.trans a3,λk2 f=> ?_⟩;simp only[kR,show((a+1:Nat):Int)=(a:Int)+1 by omega];rw[mN];simp[-av,-p7,dz,oa,p1,p3,p4,dn,fh,ak,vc,jc,m1,m2,m3,m4,nw,ahG,L1,a1,wr]
        all_goals
         refine⟨_,by simpa [eu]using uu,hF2,λk2 f=> ?_⟩;simp only[kR,show((a+1:Nat):Int)=(a:Int)+1 by omega];rw[mN];simp[-av,-p7,dz,oa,p1,p3,p4,dn,fh,ak,vc,jc,m1,m2,m3,m4,nw,ahG,L1,wr]
     have e0:(decide (0<=(k:Int))&&(true&&(so&&si)))=(so&&si):=(by rw[Za0 h0];simp);rw[e0];exact tail
 . have dn:decide (y<0)=true:=Za0 (by omega);refine⟨s,by simpa [h0,eu]using hI,hF,λk2 f=> ?_⟩;simp only[kR,show((a+1:Nat):Int)=(a:Int)+1 by omega];rw[mN];simp[-av,dz,oa,p1,p3,dn,wr]
theorem anw(H:kF c fv s0 I M)(hc:bH c)(V:Vw s0 vb jb j J P G q g)(r:Rl)(hI:I s l)(hB:fH l+2*q.length<=1000000):
  ∃s',c 100 [.ptr vb 0,.agg r.cells,fv] s=some (.tuple [],s')/\I s' (l++OU (qF q) q.length (SY J r g)):=by
 refine H.fin hI (λh=>Vm hc (q.length+1001) h) ?_;have hw:=(H.ai hI).wf;have gr:=Grew.ah hw (.cells r.cells 0);have dJ:=H.grow hI gr;have V1:=V.ai (H.ai dJ);have tj:¬M (ah s (.cells r.cells 0)) s.next:=λh=>by have:=H.mlt hI (H.mK hI gr h);omega
 have vc:=V1.vc;have ln:=λ(K:AV->St->Option (AV×St))=>V1.pq.lenB (c:=c) K (ah s (.cells r.cells 0))
 rw[Za5]at ln
 obtain⟨s',z1,z2,z3⟩:=Y0 (E:=gsE q (SY J r g)) (n:=q.length) (ahD _) (λk2=>fX c (q.length+1001) k2) (kR vb s.next fv P q.length) (λk2 f s=>by rw[mN];simp)
  (aly (c:=c) hc H V (az s (.cells r.cells 0)) tj (F:=q.length+1001) (by omega)) q.length 0 (q.length+1001) _ l (by omega) (by omega) dJ (ic.refl V1.wf) hB
 refine⟨s',?_,z1⟩;rw[Zn,dI,show AV.cells (.agg r.cells)=r.cells from rfl];have z3:=z3 (λvs s=>iT vs (some (.tuple [],s)));simp only[aA,cJ,aS,Zc3,bf,vc,aJ,Zb1,Za4,Zb8,bg,ln];exact z3.trans rfl
end
def KR(J:Jt)(a:Nat):Bool:=match J.p.gs[a]? with|some g=>g.host|none=>false
def jT(J:Jt):JT:=⟨J.n,J.p.ts.length,yZ J,KR J⟩
def O9(J:Jt)(r:Rl)(t:Nat):Bool:=decide (r.t=[])||decide (r.t=o6 J.p.ts t)
section
variable{c : au}{fv : AV}{s0 sB : St}{I : St -> List Ev -> Prop}{M : St -> Pos -> Prop}{s : St}{l l' : List Ev}{vb jb : Pos}{j : Jc}{J : Jt}{P G : AV}{q g : List Int}
theorem kF.ap0(H:kF c fv s0 I M)(hI:I s l){T:Option (AV×St)}{f:FuncId}{args:List AV}{v:AV}(hr:∀{r},T=some r->c f args s=some (tidy s r))(h:∃s',T=some (v,s')/\I s' l'/\ic M s s'):
   ∃s',c f args s=some (v,s')/\I s' l'/\ic M s s':=by
 obtain⟨s',h1,h2,h4⟩:=h;have h3:=hr h1;unfold tidy at h3;split at h3
 . rename_i hk;exact⟨s,h3,H.back hI h2 hk.2,ic.refl (H.ai hI).wf⟩
 . exact⟨s',h3,h2,h4⟩
def DoC(c:au)(dv:AV)(I:St->List Ev->Prop)(M:St->Pos->Prop)(n:Nat)(sB:St)(D:List Int->List Ev):Prop:=
 ∀  {s l}{W:AV}{who:List Int},I s l->ic M sB s->QS 1 s W (who.map bV)->who.length<=n->(∀x∈who,0<=x/\x<(n:Int))->fH l+2000<=1000000->
    ∃s' v,(∀(K:AV->St->Option (AV×St)),aq c .callV [dv,W] s K=K v s')/\I s' (l++D who)/\ic M s s'
theorem Vw.auX(V:Vw s vb jb j J P G q g){t:Nat}{T:aB}(ht:J.p.ts[t]? =some T):∃v b o,Rd s 7 j.V1 t b o (T.aj v)/\aM (T.aj v)=true:=by
 obtain⟨s0,r1,r2,_,h,_⟩:=V.jw.ps;have hl:t<r1.length:=by rw[h.len];exact(Za1.1 ht).1
 obtain⟨v,e,hv,_⟩:=h.dV t T r1[t] ht (H0 hl);obtain⟨b,o,h4⟩:=h.out.own.rd h.out.row (H0 hl);exact⟨v,b,o,by rw[<-e];exact h4,T.Gi (by simp[aM,hv.own.cells.2])⟩
def L9(J:Jt)(q:List Int)(t k:Nat):List Int:=((List.range k).filter ((jT J).at (qF q) t)).map λ(g:Nat)=>(g:Int)
theorem anx(J:Jt)(q:List Int)(t k:Nat):L9 J q t (k+1)=L9 J q t k++(if(jT J).at (qF q) t k then [(k:Int)]else []):=by
 unfold L9;rw[Zf8,Zk5,Zc8];cases h:(jT J).at (qF q) t k<;>simp[h]
theorem S6(J:Jt)(q:List Int)(t k:Nat):(L9 J q t k).length<=k:=by unfold L9;rw[Za5,W9];exact atN _ _
theorem asw(V:Vw s0 vb jb j J P G q g)(gs:Grew s0 sB){t:Nat}(ht:t<1000)(x2 x4 Hz x19 x20:AV)(F:Nat):
  ∀ (m k f:Nat)(s:St)(v:AV),k+m=q.length->m<f->Mk 1 sB s v ((L9 J q t k).map bV)->∃s' v',Mk 1 sB s' v' ((L9 J q t q.length).map bV)/\
    ∀k4,mX c F k4 f [.ptr vb 0,x2,x4,.int .i64 (t:Int),v,Hz,x19,x20,P,.int .i64 (q.length:Int),.int .i64 (k:Int)] s=k4 [.ptr vb 0,x2,x4,v',Hz,x19,x20] s':=by
 intro m;induction m with
 |zero=>
  intro k f s v hk hf hM;obtain⟨f,rfl⟩:∃g,f=g+1:=⟨f - 1,by omega⟩
  obtain rfl:k=q.length:=by omega
  exact⟨s,v,hM,λk4=>by rw[ru];simp⟩
 |succ m ih=>
  intro k f s v hk hf hM;obtain⟨f,rfl⟩:∃g,f=g+1:=⟨f - 1,by omega⟩
  have V1:=V.ai (gs.trans hM.ai);have vc:=V1.vc;have jc:=V1.jw.oc;have jO:k<q.length:=by omega
  obtain⟨y,hy⟩:∃y,q[k]? =some y:=⟨_,H0 jO⟩
  obtain⟨pb,po,p⟩:=rM V1.pq hy;have p1:=λ{R}=>@p.st R
  have p3:=p.one;have hN:=V1.LY;have qp:=V.ql;have wr:ax .i64 ((k:Int)+1)=((k+1:Nat):Int):=wrap64 (by omega) (by omega);have wl:=S6 J q t k;have hs:=anx J q t k;have ea:(jT J).at (qF q) t k=(decide (0<=y)&&yZ J y==t):=by unfold JT.at on jT;rw[yp hy]
  rw[ea]at hs;by_cases h0:0<=y
  . obtain⟨i,rfl,hi⟩:=V1.kD hy h0;obtain⟨tb,to,u⟩:=V1.rT hi;have t1:=λ{R}=>@u.st R
    have t3:=u.one;unfold yZ at hs;rw[Zd4,Za0 h0,Zf6]at hs;by_cases hT:cE J.p.ts i=t
    .   have d1:decide (((cE J.p.ts i:Nat):Int)=(t:Int))=true:=Za0 (by omega);rw[Zb3 (by simpa using hT)]at hs;obtain⟨s5,v5,a1,a2,_,_⟩:=hM.push (R:=AV×St) (c:=c) (bytes:=8) (z:=[.int .i64 0]) (x:= .int .i64 (k:Int)) rfl rfl rfl (by omega) (by rw[Za5];omega) (by rw[Za5];omega);obtain⟨s',v',z1,z2⟩:=ih (k+1) f s5 v5 (by omega) (by omega) (by rw[hs,Zc8];exact a2);refine⟨s',v',z1,λk4=> ?_⟩;rw[<-z2 k4,ru];simp[-av,dz,jO,p1,p3,vc,jc,t1,t3,d1,a1,wr]
    .   have d1:decide (((cE J.p.ts i:Nat):Int)=(t:Int))=false:=Za2 (by omega);rw[Za7 (by simpa using hT),Ze0]at hs;obtain⟨s',v',z1,z2⟩:=ih (k+1) f s v (by omega) (by omega) (by rw[hs];exact hM);refine⟨s',v',z1,λk4=> ?_⟩;rw[<-z2 k4,ru];simp[-av,dz,jO,p1,p3,vc,jc,t1,t3,d1,wr]
  . rw[Za2 h0,Bool.false_and,Za7 (by simp),Ze0]at hs;obtain⟨s',v',z1,z2⟩:=ih (k+1) f s v (by omega) (by omega) (by rw[hs];exact hM);refine⟨s',v',z1,λk4=> ?_⟩;rw[<-z2 k4,ru];simp[-av,dz,jO,p1,p3,h0,wr]
abbrev S7(vb rb:Pos)(dv V1:AV)(n a:Nat):List AV:=[.ptr vb 0,dv,.ptr rb 0,V1,.int .i64 (n:Int),.int .i64 (a:Int)]
def HA(J:Jt)(q:List Int)(r:Rl)(D:List Int->List Ev)(t:Nat):List Ev:=if O9 J r t then D (L9 J q t q.length)else []
theorem anz (H:kF c fv s0 I M) (V:Vw s0 vb jb j J P G q g){dv:AV}{D:List Int->List Ev}(hD:DoC c dv I M J.n sB D){r:Rl}{rb:Pos}(hr:sB.heap.get rb=some (.cells r.cells 0))(tj:¬M sB rb)(F:Nat)(hFu:q.length<F)(t:Nat)(s:St)(l:List Ev)(oa:t<J.p.ts.length)(hI:I s l)(hF:ic M sB s)(hB:fH l+2000<=1000000):
   ∃s2,I s2 (l++HA J q r D t)/\ic M sB s2/\∀(k2:Q2)(f:Nat),gQ c F k2 (f+1) (S7 vb rb dv j.V1 J.p.ts.length t) s=gQ c F k2 f (S7 vb rb dv j.V1 J.p.ts.length (t+1)) s2:=by
 have V1:=V.ai (H.ai hI);have vc:=V1.vc;have um:=V1.jw.yo.ts;obtain⟨T,hT⟩:∃T,J.p.ts[t]? =some T:=⟨_,H0 oa⟩
 obtain⟨v,b,o,h1,h2⟩:=V1.auX hT;have r1:=λ{R}=>@h1.st R
 have r2:=h1.all;have fh:=(hF.2.2 rb _ tj hr).1;have wr:ax .i64 ((t:Int)+1)=(t:Int)+1:=wrap64 (by omega) (by omega);have gN:=Grew.ah V1.wf (.cells (T.aj v) 0);have uu:=H.grow hI gN;have hF2:=hF.trans (H.fr hI gN);have V2:=V.ai (H.ai uu);have vc2:=V2.vc;have hx:=az s (.cells (T.aj v) 0);have ap1:=gN.get fh;have st7:∀(K:AV->St->Option (AV×St)),aq c (.store 7) [.ptr s.next 0,.agg (T.aj v)] (ah s (.cells [.str [],.int .u8 0,.int .i64 0,.int .i64 0,.af,.int .i64 0,.int .i64 0] 0)) K=K .undef (ah s (.cells (T.aj v) 0)):=λK=>
   cr c K s 7 (.agg (T.aj v)) [.str [],.int .u8 0,.int .i64 0,.int .i64 0,.af,.int .i64 0,.int .i64 0] rfl rfl h2
 have ln:=λ(K:AV->St->Option (AV×St))=>V2.pq.lenB (c:=c) K (ah s (.cells (T.aj v) 0))
 rw[Za5]at ln;have aV:decide ((t:Int)<(J.p.ts.length:Int))=true:=Za0 (by omega);have c0:(T.aj v)[0]? =some (.str T.name):=rfl;have en:o6 J.p.ts t=T.name:=by unfold o6;rw[hT]
 obtain⟨s',v',z1,z2⟩:=asw (c:=c) V (H.ai uu) (t:=t) (by omega) dv (.ptr rb 0) j.V1 (.int .i64 (J.p.ts.length:Int)) (.int .i64 (t:Int)) F q.length 0 F _ .af (by omega) hFu (Mk.start V2.wf (Grew.refl V2.wf));simp only[show((0:Nat):Int)=0 from rfl]at z2;have qp:=V.ql;have hwl:=S6 J q t q.length;have Dp:∀x∈L9 J q t q.length,0<=x/\x<(J.n:Int):=λx hx=>by unfold L9 at hx;obtain⟨i,hi,rfl⟩:=Zc7.1 hx;have:=Zh6.1 (Zl3.1 hi).1;omega
 obtain ⟨s3,v3,y1,y2,y3⟩:=hD (H.grow uu z1.ai) (hF2.trans (H.fr uu z1.ai)) z1.own (by omega) Dp hB;have arF:∀(k2:Q2)(f:Nat),decide (r.t=[ ])=true\/decide (r.t=T.name)=true->gQ c F k2 (f+1) (S7 vb rb dv j.V1 J.p.ts.length t) s=gQ c F k2 f (S7 vb rb dv j.V1 J.p.ts.length (t+1)) s3:=λk2 f hor=>by
   simp only[S7,show((t+1:Nat):Int)=(t:Int)+1 by omega];rw[xL];by_cases he:r.t=[]
   . have d1:decide (r.t=[])=true:=Za0 he;simp only[aH,br,dS,aV,dW,dz,aA,r1,gG,r2,gO,dF,st7,aS,bf,ap1,aJ,Zb1,Zc3,Rl.c4,bg,aa0,d1,Zk0,atI,pZ,dQ,cJ,vc2,Zb8,Za4,ln,z2,y1,fS,wr]
   . have d1:decide (r.t=[])=false:=Za2 he
     have d2:decide (r.t=T.name)=true:=by rcases hor with h|h
                                          . rw[d1]at h;cases h
                                          . exact h
     simp only[aH,br,dS,aV,dW,dz,aA,r1,gG,r2,gO,dF,st7,aS,bf,ap1,hx,c0,aJ,Zb1,Zc3,Rl.c4,bg,aa0,d1,d2,Zk0,Zk1,lS,Dv,dQ,cJ,vc2,Zb8,Za4,ln,z2,y1,fS,wr]
 unfold HA O9;rw[en];by_cases he:r.t=[]
 . refine⟨s3,by simpa [he]using y2,(hF2.trans (H.fr uu z1.ai)).trans y3,λk2 f=>arF k2 f (.inl (Za0 he))⟩
 . by_cases hn:r.t=T.name
   . refine⟨s3,by simpa [hn]using y2,(hF2.trans (H.fr uu z1.ai)).trans y3,λk2 f=>arF k2 f (.inr (Za0 hn))⟩
   . refine⟨_,by simpa [he,hn]using uu,hF2,λk2 f=> ?_⟩;have d1:decide (r.t=[])=false:=Za2 he;have d2:decide (r.t=T.name)=false:=Za2 hn;simp only[S7,show((t+1:Nat):Int)=(t:Int)+1 by omega];rw[xL];simp only[aH,br,dS,aV,dW,dz,aA,r1,gG,r2,gO,dF,st7,aS,bf,ap1,hx,c0,aJ,Zb1,Zc3,Rl.c4,bg,aa0,d1,d2,Zk1,lS,Dv,fS,wr]
theorem adT(H:kF c fv s0 I M)(hc:bH c)(V:Vw s0 vb jb j J P G q g){dv:AV}{D:List Int->List Ev}(hD:DoC c dv I M J.n s D)(hDW:∀who:List Int,who.length<=J.n->fH (D who)<=2000)(r:Rl)(hI:I s l)(hB:fH l+2000*J.p.ts.length<=1000000):
  ∃s',c 166 [.ptr vb 0,.agg r.cells,dv] s=some (.tuple [],s')/\I s' (l++cw (HA J q r D) J.p.ts.length 0):=by
 refine H.fin hI (λh=>Xl hc (q.length+J.p.ts.length+1) h) ?_;have hw:=(H.ai hI).wf;have gr:=Grew.ah hw (.cells r.cells 0);have dJ:=H.grow hI gr;have V1:=V.ai (H.ai dJ);have tj:¬M (ah s (.cells r.cells 0)) s.next:=λh=>by have:=H.mlt hI (H.mK hI gr h);omega
 have vc:=V1.vc;have jc:=V1.jw.oc;obtain⟨s0',r1',r2',_,tsq,_⟩:=V1.jw.ps;have ln:=λ(K:AV->St->Option (AV×St))=>tsq.out.own.lenB (c:=c) K (ah s (.cells r.cells 0))
 rw[tsq.len]at ln;have hF:=H.fr hI gr;have qp:=V.ql;obtain⟨s',z1,z2,z3⟩:=Y0 (E:=HA J q r D) (n:=J.p.ts.length) (B:=2000) (λt=>by
   unfold HA;split
   . exact hDW _ (by have:=S6 J q t q.length;omega)
   . exact Zi8 _) (λk2=>gQ c (q.length+J.p.ts.length+1) k2) (S7 vb s.next dv j.V1 J.p.ts.length) (λk2 f s=>by rw[xL];simp)
  (anz (c:=c) (sB:=ah s (.cells r.cells 0)) H V (λ{s2 l2 W who} h1 h2=>hD h1 (hF.trans h2)) (az s (.cells r.cells 0)) tj (q.length+J.p.ts.length+1) (by omega)) J.p.ts.length 0 (q.length+J.p.ts.length+1) _ l (by omega) (by omega) dJ (ic.refl V1.wf) hB
 refine⟨s',?_,z1⟩;rw[abg,dI,show AV.cells (.agg r.cells)=r.cells from rfl];have z3:=z3 (λvs s=>iT vs (some (.tuple [],s)));simp only[aA,cJ,aS,Zc3,bf,vc,jc,Jc.c0,aJ,Zb1,Za4,Zb8,bg,ln];exact z3.trans rfl
theorem asx(hc:bH c)(H:kF c fv s0 I M){n m:Nat}{r:Rl}(hn:r.n=(m:Int))(hm:m<=1000)(hn1:n<=100){rb fb:Pos}(hr:sB.heap.get rb=some (.cells r.cells 0))(tj:¬M sB rb)(hf:sB.heap.get fb=some (.cells [fv] 0))(hfM:¬M sB fb):
  DoC c (.func 172 [] [.ptr rb 0,.ptr fb 0]) I M n sB (SJ m):=λ{s l W who} hI hF hW hl _ hB=>by
 have b1:=(hF.2.2 rb _ tj hr).1;have b2:=(hF.2.2 fb _ hfM hf).1;have ln:=λ(K:AV->St->Option (AV×St))=>hW.lenB (c:=c) K s
 rw[Za5]at ln;have key:∃s',c 172 [W,.ptr rb 0,.ptr fb 0] s=some (.tuple [],s')/\I s' (l++SJ m who)/\ic M s s':=by
  refine H.ap0 hI (λh=>S8 hc 1 h) ?_;unfold SJ;by_cases h:who.length<m
  . obtain⟨s',v,h1,h2,h3⟩:=H.call (k:=m - who.length) hI hW (by omega);refine⟨s',?_,by simpa [h,rj]using h2,h3⟩;have d:decide ((who.length:Int)<r.n)=true:=Za0 (by omega);have w:ax .i64 (r.n - (who.length:Int))=((m - who.length:Nat):Int):=(by rw[wrap64 (by omega) (by omega)];omega);rw[HC];simp only[aA,ln,aS,Zc3,bf,b1,b2,aJ,Zb1,Rl.c5,bg,dS,d,dW,Za4,adF,w,h1]
  . refine⟨s,?_,by simpa [h,eu]using hI,ic.refl (H.ai hI).wf⟩;have d:decide ((who.length:Int)<r.n)=false:=Za2 (by omega);rw[HC];simp only[aA,ln,aS,Zc3,bf,b1,b2,aJ,Zb1,Rl.c5,bg,dS,d,dQ]
 obtain⟨s',h1,h2,h3⟩:=key;exact⟨s',.tuple [],λK=>by rw[jC];simp only[Ze1,Zd7];rw[h1];rfl,h2,h3⟩
theorem ap2(hc:bH c)(H:kF c fv s0 I M){n m:Nat}{r:Rl}(hn:r.n=(m:Int))(hm:m<=1000)(hn1:n<=100){rb fb:Pos}(hr:sB.heap.get rb=some (.cells r.cells 0))(tj:¬M sB rb)(hf:sB.heap.get fb=some (.cells [fv] 0))(hfM:¬M sB fb):
  DoC c (.func 173 [] [.ptr rb 0,.ptr fb 0]) I M n sB (SK m):=λ{s l W who} hI hF hW hl _ hB=>by
 have b1:=(hF.2.2 rb _ tj hr).1;have b2:=(hF.2.2 fb _ hfM hf).1;have ln:=λ(K:AV->St->Option (AV×St))=>hW.lenB (c:=c) K s
 rw[Za5]at ln;have key:∃s',c 173 [W,.ptr rb 0,.ptr fb 0] s=some (.tuple [],s')/\I s' (l++SK m who)/\ic M s s':=by
  refine H.ap0 hI (λh=>QM hc 1 h) ?_;unfold SK;by_cases h:m<who.length
  . obtain⟨s',v,h1,h2,h3⟩:=H.call (k:=who.length - m) hI hW (by omega);refine⟨s',?_,by simpa [h,rj]using h2,h3⟩;have d:decide (r.n<(who.length:Int))=true:=Za0 (by omega);have w:ax .i64 ((who.length:Int) - r.n)=((who.length - m:Nat):Int):=(by rw[wrap64 (by omega) (by omega)];omega);rw[Fl];simp only[aA,ln,aS,Zc3,bf,b1,b2,aJ,Zb1,Rl.c5,bg,CB,d,dW,Za4,adF,w,h1]
  . refine⟨s,?_,by simpa [h,eu]using hI,ic.refl (H.ai hI).wf⟩;have d:decide (r.n<(who.length:Int))=false:=Za2 (by omega);rw[Fl];simp only[aA,ln,aS,Zc3,bf,b1,b2,aJ,Zb1,Rl.c5,bg,CB,d,dQ]
 obtain⟨s',h1,h2,h3⟩:=key;exact⟨s',.tuple [],λK=>by rw[jC];simp only[Ze1,Zd7];rw[h1];rfl,h2,h3⟩
theorem asy(V:Vw s vb jb j J P G q g){vp:Pos}(hv:s.heap.get vp=some (.cells [.ptr vb 0] 0)){W:AV}{who:List Int}(hW:QS 1 s W (who.map bV))(hl:who.length<=1000)(hm:∀x∈who,0<=x/\x<(J.n:Int))(x2:AV)(F:Nat)(k1 k2:Q2):
  ∀(m k f:Nat),k+m=who.length->m<f->nI c F k1 k2 f [W,.ptr vp 0,x2,W,.int .i64 (who.length:Int),.int .i64 (k:Int)] s=if(who.drop k).any (λg=>KR J g.toNat)then k1 [] s else k2 [W,x2] s:=by
 have vc:=V.vc;have jc:=V.jw.oc;intro m;induction m with
 |zero=>
  intro k f hk hf;obtain⟨f,rfl⟩:∃g,f=g+1:=⟨f - 1,by omega⟩
  obtain rfl:k=who.length:=by omega
  rw[uJ];simp
 |succ m ih=>
  intro k f hk hf;obtain⟨f,rfl⟩:∃g,f=g+1:=⟨f - 1,by omega⟩
  have jO:k<who.length:=by omega
  obtain⟨wb,wo,w1⟩:=rM hW (H0 jO);have q1:=λ{R}=>@w1.st R
  have q3:=w1.one;have wr:ax .i64 ((k:Int)+1)=((k+1:Nat):Int):=wrap64 (by omega) (by omega);have bd:=hm _ (Zc2 jO);obtain⟨i,hi⟩:∃i:Nat,who[k]=(i:Int):=⟨who[k].toNat,by omega⟩
  have QL:i<J.p.gs.length:=by have:J.n=J.p.gs.length:=rfl;omega
  obtain⟨v,ab,ao,h1⟩:=V.rG (H0 QL);have r1:=λ{R}=>@h1.st R
  have r2:=h1.at' 6 _ rfl;have eh:KR J i=(J.p.gs[i]).host:=by unfold KR;rw[H0 QL]
  rw[Zd9 jO,List.any_cons,hi,Zd4,eh];rw[hi]at q3;generalize (J.p.gs[i]).host=e at*
  cases e
  . rw[Zp8, <-ih (k+1) f (by omega) (by omega),uJ];simp[jO,q1,q3,hv,vc,jc,r1,r2,wr]
  . rw[uJ];simp[jO,q1,q3,hv,vc,jc,r1,r2]
theorem asz(hc:bH c)(H:kF c fv s0 I M)(V:Vw s0 vb jb j J P G q g){vp fb:Pos}(hv:sB.heap.get vp=some (.cells [.ptr vb 0] 0))(hvM:¬M sB vp)(hf:sB.heap.get fb=some (.cells [fv] 0))(hfM:¬M sB fb):
  DoC c (.func 167 [] [.ptr vp 0,.ptr fb 0]) I M J.n sB (SH (KR J)):=λ{s l W who} hI hF hW hl Dp hB=>by
 have b1:=(hF.2.2 vp _ hvM hv).1;have b2:=(hF.2.2 fb _ hfM hf).1;have V1:=V.ai (H.ai hI);have hN:=V1.LY;have ln:=λ(K:AV->St->Option (AV×St))=>hW.lenB (c:=c) K s
 rw[Za5]at ln;have lp:=λ(k1 k2:Q2)=>asy (c:=c) V1 b1 hW (by omega) Dp (.ptr fb 0) (who.length+1) k1 k2 who.length 0 (who.length+1) (by omega) (by omega)
 simp only[Zf3,show((0:Nat):Int)=0 from rfl]at lp;have key:∃s',c 167 [W,.ptr vp 0,.ptr fb 0] s=some (.tuple [],s')/\I s' (l++SH (KR J) who)/\ic M s s':=by
  refine H.ap0 hI (λh=>S9 hc (who.length+1) h) ?_;unfold SH;generalize who.any (λg=>KR J g.toNat)=e at*
  cases e
  . by_cases h:0<who.length
    .   obtain⟨s',v,h1,h2,h3⟩:=H.call (k:=1) hI hW (by omega);refine⟨s',?_,by simpa [h,rj]using h2,h3⟩;have d:decide ((0:Int)<(who.length:Int))=true:=Za0 (by omega);simp only[show((1:Nat):Int)=1 from rfl]at h1;rw[y9];simp only[aA,ln,lp,Zf4,Zh0,aH,br,CB,d,dW,bf,b2,aJ,Zb1,Za4,bg,h1]
    .   refine⟨s,?_,by simpa [h,eu]using hI,ic.refl (H.ai hI).wf⟩;have d:decide ((0:Int)<(who.length:Int))=false:=Za2 (by omega);rw[y9];simp only[aA,ln,lp,Zf4,Zh0,aH,br,CB,d,dQ]
  . refine⟨s,?_,by simpa [eu]using hI,ic.refl (H.ai hI).wf⟩;rw[y9];simp only[aA,ln,lp,Zh7,br]
 obtain⟨s',h1,h2,h3⟩:=key;exact⟨s',.tuple [],λK=>by rw[jC];simp only[Ze1,Zd7];rw[h1];rfl,h2,h3⟩
end
theorem ahH(h:Nat->Bool){n:Nat}(hn:n<=100)(who:List Int)(hw:who.length<=n):fH (SH h who)<=2000:=by unfold SH;have:=Hu (!who.any (λg=>h g.toNat)&&decide (0<who.length)) 1 who;omega
theorem ahI(m:Nat)(hm:m<=1000){n:Nat}(hn:n<=100)(who:List Int)(hw:who.length<=n):fH (SJ m who)<=2000:=by unfold SJ;have:=Hu (decide (who.length<m)) (m - who.length) who;omega
theorem ahJ(m:Nat){n:Nat}(hn:n<=100)(who:List Int)(hw:who.length<=n):fH (SK m who)<=2000:=by unfold SK;have:=Hu (decide (m<who.length)) (who.length - m) who;omega
theorem ahK:∀l:List Ev,pG l<=fH l
 |[]=>Za3 _
 |e::l=>by have:=ahK l;show(List.map _ (e::l)).sum<=(List.map _ (e::l)).sum;rw[Zd2,Zd2,Zo5,Zo5];unfold pG fH at this;omega
section
variable{c : au}{fv : AV}{s0 sB : St}{I : St -> List Ev -> Prop}{M : St -> Pos -> Prop}{s : St}{l l' : List Ev}{vb jb : Pos}{j : Jc}{J : Jt}{P G : AV}{q g : List Int}
theorem ap3(hc:bH c)(H:kF c fv s0 I M)(V:Vw s0 vb jb j J P G q g)(r:Rl)(hI:I s l)(hB:fH l+2000*J.p.ts.length<=1000000):
  ∃s',c 98 [.ptr vb 0,.agg r.cells,fv] s=some (.tuple [],s')/\I s' (l++cw (HA J q r (SH (KR J))) J.p.ts.length 0):=by
 refine H.fin hI (λh=>Xm hc 1 h) ?_;have hw:=(H.ai hI).wf;have hN:=(V.ai (H.ai hI)).LY;have g1:=Grew.ah hw (.cells [.ptr vb 0] 0);have dJ:=H.grow hI g1;have g2:=Grew.ah g1.wf (.cells r.cells 0);have uu:=H.grow dJ g2;have g3:=Grew.ah g2.wf (.cells [fv] 0);have hI3:=H.grow uu g3;have m1:∀b,M (ah (ah (ah s (.cells [.ptr vb 0] 0)) (.cells r.cells 0)) (.cells [fv] 0)) b->b.toNat<s.next.toNat:=λb h=>H.mlt hI (H.mK hI g1 (H.mK dJ g2 (H.mK uu g3 h)))
 have n1:(ah s (.cells [.ptr vb 0] 0)).next.toNat=s.next.toNat+1:=by rw[bD,Pos.aC]
 have n2:(ah (ah s (.cells [.ptr vb 0] 0)) (.cells r.cells 0)).next.toNat=s.next.toNat+2:=by rw[bD,Pos.aC,n1]
 have b1:=g3.get (g2.get (az s (.cells [.ptr vb 0] 0)));have b2:=g3.get (az (ah s (.cells [.ptr vb 0] 0)) (.cells r.cells 0));have b3:=az (ah (ah s (.cells [.ptr vb 0] 0)) (.cells r.cells 0)) (.cells [fv] 0);obtain⟨s',z1,z2⟩:=adT H hc V (asz hc H V b1 (λh=>by have:=m1 _ h;omega) b3 (λh=>by have:=m1 _ h;omega)) (ahH _ hN.2) r hI3 hB;refine⟨s',?_,z2⟩;rw[abh];simp only[dI,show AV.cells (.agg r.cells)=r.cells from rfl,show AV.cells (.ptr vb 0)=[.ptr vb 0]from rfl,H.one.1,bf,b1,aJ,Zb1,Za4,bg,gG,b2,Rl.cc,gO,GQ,dD,z1,cO]
theorem ap4(hc:bH c)(H:kF c fv s0 I M)(V:Vw s0 vb jb j J P G q g)(r:Rl){m:Nat}(hn:r.n=(m:Int))(hm:m<=1000)(hI:I s l)(hB:fH l+2000*J.p.ts.length<=1000000):
  ∃s',c 104 [.ptr vb 0,.agg r.cells,fv] s=some (.tuple [],s')/\I s' (l++cw (HA J q r (SJ m)) J.p.ts.length 0):=by
 refine H.fin hI (λh=>Xn hc 1 h) ?_;have hw:=(H.ai hI).wf;have hN:=(V.ai (H.ai hI)).LY;have g1:=Grew.ah hw (.cells r.cells 0);have dJ:=H.grow hI g1;have g2:=Grew.ah g1.wf (.cells [fv] 0);have uu:=H.grow dJ g2;have m1:∀b,M (ah (ah s (.cells r.cells 0)) (.cells [fv] 0)) b->b.toNat<s.next.toNat:=λb h=>H.mlt hI (H.mK hI g1 (H.mK dJ g2 h))
 have n1:(ah s (.cells r.cells 0)).next.toNat=s.next.toNat+1:=by rw[bD,Pos.aC]
 have b1:=g2.get (az s (.cells r.cells 0));have b2:=az (ah s (.cells r.cells 0)) (.cells [fv] 0);obtain⟨s',z1,z2⟩:=adT H hc V (asx hc H hn hm hN.2 b1 (λh=>by have:=m1 _ h;omega) b2 (λh=>by have:=m1 _ h;omega)) (ahI m hm hN.2) r uu hB;refine⟨s',?_,z2⟩;rw[abi];simp only[dI,aA,show AV.cells (.agg r.cells)=r.cells from rfl,H.one.1,gG,b1,aJ,Zb1,Rl.cc,gO,GQ,dD,z1,cO]
theorem anA(hc:bH c)(H:kF c fv s0 I M)(V:Vw s0 vb jb j J P G q g)(r:Rl){m:Nat}(hn:r.n=(m:Int))(hm:m<=1000)(hI:I s l)(hB:fH l+2000*J.p.ts.length<=1000000):
  ∃s',c 105 [.ptr vb 0,.agg r.cells,fv] s=some (.tuple [],s')/\I s' (l++cw (HA J q r (SK m)) J.p.ts.length 0):=by
 refine H.fin hI (λh=>Vn hc 1 h) ?_;have hw:=(H.ai hI).wf;have hN:=(V.ai (H.ai hI)).LY;have g1:=Grew.ah hw (.cells r.cells 0);have dJ:=H.grow hI g1;have g2:=Grew.ah g1.wf (.cells [fv] 0);have uu:=H.grow dJ g2;have m1:∀b,M (ah (ah s (.cells r.cells 0)) (.cells [fv] 0)) b->b.toNat<s.next.toNat:=λb h=>H.mlt hI (H.mK hI g1 (H.mK dJ g2 h))
 have n1:(ah s (.cells r.cells 0)).next.toNat=s.next.toNat+1:=by rw[bD,Pos.aC]
 have b1:=g2.get (az s (.cells r.cells 0));have b2:=az (ah s (.cells r.cells 0)) (.cells [fv] 0);obtain⟨s',z1,z2⟩:=adT H hc V (ap2 hc H hn hm hN.2 b1 (λh=>by have:=m1 _ h;omega) b2 (λh=>by have:=m1 _ h;omega)) (ahJ m hN.2) r uu hB;refine⟨s',?_,z2⟩;rw[Zo];simp only[dI,aA,show AV.cells (.agg r.cells)=r.cells from rfl,H.one.1,gG,b1,aJ,Zb1,Rl.cc,gO,GQ,dD,z1,cO]
def rA(J:Jt)(r:Rl):Nat:=(gi J.p r.a).toNat
def rB(J:Jt)(r:Rl):Nat:=(gi J.p r.b).toNat
def KS(J:Jt)(q g:List Int)(r:Rl):List Ev:=match r.k.toNat with
 |1=>DE (qF q) (rA J r) (rB J r) (acA J r)
 |2=>DE (qF q) (rA J r) (rB J r) (aln J)
 |3=>DE (qF q) (rA J r) (rB J r) (alo J)
 |4=>DE (qF q) (rA J r) (rB J r) (agf J r)
 |5=>DE (qF q) (rA J r) (rB J r) (alp J)
 |6=>Xa (qF q) (rA J r) (atP J r)
 |7=>Xa (qF q) (rA J r) (agh J r)
 |8=>AH (qF q) q.length (oq J r (Xj J))
 |9=>cw (HA J q r (SH (KR J))) J.p.ts.length 0
 |10=>OU (qF q) q.length (adR J r)
 |11=>OU (qF q) q.length (SY J r g)
 |12=>AH (qF q) q.length (oq J r (Hw J))
 |13=>AH (qF q) q.length (SX J r)
 |14=>AH (qF q) q.length (oq J r (SS J))
 |15=>cw (HA J q r (SJ r.n.toNat)) J.p.ts.length 0
 |16=>cw (HA J q r (SK r.n.toNat)) J.p.ts.length 0
 |17=>OU (qF q) q.length (adS J r)
 |18=>AH (qF q) q.length (oq J r (Xk J))
 |_=>[]
structure RuV(p:bM)(r:Rl)(m:Nat):Prop where
 k:r.k=(m:Int)
 m1:1<=m
 m2:m<=18
 a:(kd m).a=103->0<=gi p r.a
 b:(kd m).b=true->0<=gi p r.b
 n:m=15\/m=16->0<=r.n/\r.n<=24
 w:0<=r.wt/\r.wt<=1000
theorem atQ{p:bM}{r:Rl}(hr:r.Ok)(h:fY p r=0):∃m,RuV p r m:=by
 have hk:∃m:Nat,r.k=(m:Int):=⟨r.k.toNat,by have:=hr.1;omega⟩
 obtain⟨m,hk⟩:=hk;unfold fY at h;rw[hk,Zd4]at h;by_cases hm:1<=m/\m<=18
 . have h2:=h;unfold IP at h;by_cases e1:(kd m).w=[]
   . rw[Zb3 e1]at h;cases h
   rw[Za7 e1]at h;by_cases e2:r.wt<0\/1000<r.wt
   . rw[Zb3 e2]at h;cases h
   rw[Za7 e2]at h;by_cases e3:DG (kd m) r=false
   . rw[Zb3 e3]at h;cases h
   rw[Za7 e3]at h;by_cases e4:((kd m).a=103/\gi p r.a<0)\/((kd m).a=101/\r.a≠[]/\gi p r.a<0)\/((kd m).b=true/\gi p r.b<0)
   . rw[Zb3 e4]at h;cases h
   rw[Za7 e4]at h;refine⟨m,hk,hm.1,hm.2,λha=> ?_,λhb=> ?_,λhm=> ?_,by omega⟩
   . exact Int.not_lt.1 λaV=>e4 (.inl ⟨ha,aV⟩)
   . exact Int.not_lt.1 λaV=>e4 (.inr (.inr ⟨hb,aV⟩))
   . unfold Xo at h;have ka:(kd m).a=0:=(by rcases hm with rfl|rfl<;>rfl);have kb:(kd m).b=false:=(by rcases hm with rfl|rfl<;>rfl);have kn:(kd m).n=true:=(by rcases hm with rfl|rfl<;>rfl);have ks:(kd m).kD=false:=(by rcases hm with rfl|rfl<;>rfl);have kl:(kd m).lo=0:=(by rcases hm with rfl|rfl<;>rfl);rw[Za7 (by rw[ka];simp),Za7 (by rw[kb];simp)]at h;unfold Ob at h;split at h
     .  cases h
     .  unfold zc at h;simp only[ks,kn,kl,Zf4,Zh0,Zr2]at h;split at h
        . cases h
        . omega
 . exfalso;have e:kd m=⟨[],0,false,0,false,0,false,.iI⟩:=by
     unfold kd;split<;>first|rfl|(exfalso;omega)
   rw[e]at h;unfold IP at h;simp at h
theorem alz(p:bM)(s:List Nat)(h:0<=gi p s):(gi p s).toNat<p.gs.length:=by have:=(B7 (P:=oF p.gs s) p.gs.length 0 h).2.1;unfold gi;omega
theorem asA(hc:bH c)(H:kF c fv s0 I M)(V:Vw s0 vb jb j J P G q g)(fC:J.p.cs.length=J.n\/J.p.cs.length=0){r:Rl}{m:Nat}(R:RuV J.p r m)(hI:I s []):
   ∃f s',(kd m).f= .func f [] []/\c f [.ptr vb 0,.agg r.cells,fv] s=some (.tuple [],s')/\I s' (KS J q g r):=by
 have hN:=V.LY;have qp:=V.ql;have um:=V.jw.yo.ts;have e0:fH []=0:=rfl;have hb3:3*q.length*q.length<=30000:=by have:q.length<=100:=(by omega);have:=Nat.mul_le_mul this this;have e:3*q.length*q.length=3*(q.length*q.length):=Nat.mul_assoc _ _ _;omega
 have nil:∀E:List Ev,[]++E=E:=λE=>rfl
 have two:(kd m).a=103->(kd m).b=true->Two J q r (rA J r) (rB J r) (qF q (rA J r)) (qF q (rB J r)):=λha hb=>by
   have h1:=R.a ha;have h2:=R.b hb;have l1:=alz _ _ h1;have l2:=alz _ _ h2;have l1:rA J r<q.length:=(by rw[qp];exact l1);have l2:rB J r<q.length:=(by rw[qp];exact l2);refine⟨by unfold rA;omega,by unfold rB;omega,?_,?_⟩
   . rw[H0 l1,yp (H0 l1)]
   . rw[H0 l2,yp (H0 l2)]
 have one:(kd m).a=103->gi J.p r.a=((rA J r:Nat):Int)/\q[rA J r]? =some (qF q (rA J r)):=λha=>by
   have h1:=R.a ha;have l1:=alz _ _ h1;have l1:rA J r<q.length:=(by rw[qp];exact l1);exact⟨by unfold rA;omega,by rw[H0 l1,yp (H0 l1)]⟩
 have hn:m=15\/m=16->r.n=((r.n.toNat:Nat):Int)/\r.n.toNat<=1000:=λh=>by have:=R.n h;omega
 have tQ:J.p.cs.length=q.length\/J.p.cs.length=0:=by rw[qp];exact fC
 unfold KS;rw[R.k,Zd4];have m1:=R.m1;have m2:=R.m2;rcases Lm m1 m2 with rfl|rfl|rfl|rfl|rfl|rfl|rfl|rfl|rfl|rfl|rfl|rfl|rfl|rfl|rfl|rfl|rfl|rfl
 . obtain⟨s',a,b⟩:=apW hc H V (two rfl rfl) hI (by omega);exact⟨_,s',rfl,a,b⟩
 . obtain⟨s',a,b⟩:=afw hc H V (two rfl rfl) hI (by omega);exact⟨_,s',rfl,a,b⟩
 . obtain⟨s',a,b⟩:=afx hc H V (two rfl rfl) hI (by omega);exact⟨_,s',rfl,a,b⟩
 . obtain⟨s',a,b⟩:=alq hc H V (two rfl rfl) hI (by omega);exact⟨_,s',rfl,a,b⟩
 . obtain⟨s',a,b⟩:=aji hc H V (two rfl rfl) hI (by omega);exact⟨_,s',rfl,a,b⟩
 . obtain⟨s',a,b⟩:=atO hc H V (one rfl).1 (one rfl).2 hI (by omega);exact⟨_,s',rfl,a,b⟩
 . obtain⟨s',a,b⟩:=apX hc H V (one rfl).1 (one rfl).2 hI (by omega);exact⟨_,s',rfl,a,b⟩
 . obtain⟨s',a,b⟩:=afz hc H V r hI (by omega);exact⟨_,s',rfl,a,b⟩
 . obtain⟨s',a,b⟩:=ap3 hc H V r hI (by omega);exact⟨_,s',rfl,a,b⟩
 . obtain⟨s',a,b⟩:=anv H hc V r hI (by omega);exact⟨_,s',rfl,a,b⟩
 . obtain⟨s',a,b⟩:=anw H hc V r hI (by omega);exact⟨_,s',rfl,a,b⟩
 . obtain⟨s',a,b⟩:=anu hc H V r hI (by omega);exact⟨_,s',rfl,a,b⟩
 . obtain⟨s',a,b⟩:=ajj hc H V r hI (by omega);exact⟨_,s',rfl,a,b⟩
 . obtain⟨s',a,b⟩:=als hc H V tQ r hI (by omega);exact⟨_,s',rfl,a,b⟩
 . obtain⟨s',a,b⟩:=ap4 hc H V r (hn (.inl rfl)).1 (hn (.inl rfl)).2 hI (by omega);exact⟨_,s',rfl,a,b⟩
 . obtain⟨s',a,b⟩:=anA hc H V r (hn (.inr rfl)).1 (hn (.inr rfl)).2 hI (by omega);exact⟨_,s',rfl,a,b⟩
 . obtain⟨s',a,b⟩:=ajk H hc V r hI (by omega);exact⟨_,s',rfl,a,b⟩
 . obtain⟨s',a,b⟩:=asv hc H V r hI (by omega);exact⟨_,s',rfl,a,b⟩
end
end
end Go.Proofs.YtgihekklfnjkiaaGreatDoor
