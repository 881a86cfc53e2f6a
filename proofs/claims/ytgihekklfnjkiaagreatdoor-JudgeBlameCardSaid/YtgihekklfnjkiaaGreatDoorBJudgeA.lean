/- Faults of a rule. -/
import Derived.Test.YtgihekklfnjkiaaGreatDoorBPlainC
set_option linter.all false
set_option maxRecDepth 100000
namespace Go.Proofs.YtgihekklfnjkiaaGreatDoor
section
open Go Go.Ai Go.Proofs
variable{c:aj}
theorem FE(q:List Int):q.map bJ=(q.map (AV.int .i64)).map oe:=by rw[Zh8];rfl
theorem rq{s:St}{v:AV}{q:List Int}(h:QS 1 s v (q.map bJ)){i:Nat}{x:Int}(hx:q[i]? =some x):∃b o,Rd s 1 v i b o [.int .i64 x]:=by
 rw[FE]at h;exact h.KY (by rw[Zb7,hx];rfl)
structure Jc where
 V1:AV
 V2:AV
 V3:AV
 V4:AV
 V5:AV
 M:Pos
 L0:AV
 L1:AV
 L2:AV
 L3:AV
 L4:AV
 L5:AV
 L6:AV
 L7:AV
def Jc.Vs(j:Jc):List AV:=[j.V1,j.V2,j.V3,j.V4,j.V5]
def Jc.cells(j:Jc):List AV:=[j.V1,j.V2,j.V3,j.V4,j.V5,.map j.M,j.L0,j.L1,j.L2,j.L3,j.L4,j.L5,j.L6,j.L7]
structure Jt where
 p:cr
 N:Nat
 iQ:List (List Bool)
 jL:List (List Int)
section
variable(J:Jt)
def Jt.n:Nat:=J.p.gs.length
def Jt.steps(i:Nat):List (Int×Int):=ab6 (xO J.p.ts J.N) (xP J.p.ts J.N) J.N (i:Int)
end
structure JW(s:St)(jb:Pos)(j:Jc)(J:Jt):Prop where
 nk:s.heap.get jb=some (.cells j.cells 0)
 ps:∃s0 r1 r2,PS s0 s j.Vs J.p/\TS s0 s j.V1 J.p.ts r1/\GS s0 s j.V2 J.p.gs r2
 cls:QS 1 s j.V4 (J.p.cs.map bJ)
 jx:QS 6 s j.V5 (J.p.rs.map Rl.cells)
 kin:s.heap.get j.M=some (.map EL 18)
 tab:QS 1 s j.L0 ((A7 J.p.ts J.N).map oe)
 lvl:QS 1 s j.L1 ((A8 J.p.ts J.N).map oe)
 kA:QS 1 s j.L2 ((A9 J.p.ts J.N).map oe)
 bes:RQ s j.L3 ((xO J.p.ts J.N).map λr=>r.map (AV.int .i64))
 acr:RQ s j.L4 ((xP J.p.ts J.N).map λr=>r.map (AV.int .i64))
 aq:∃ms:List Pos,QS 1 s j.L5 ((ms.map AV.map).map oe)/\ms.length=J.N/\∀(i:Nat)(m:Pos),ms[i]? =some m->s.heap.get m=some (im (J.steps i))
 com:RQ s j.L6 (J.iQ.map λr=>r.map AV.bool)
 tie:RQ s j.L7 (J.jL.map λr=>r.map (AV.int .u8))
 zC:J.p.Gw
 n1:J.iQ.length=J.n
 n2:J.jL.length=J.n
 n3:∀r∈J.iQ,r.length=J.n
 n4:∀r∈J.jL,r.length=J.n
 nN:(J.N:Int)=aU J.p.ts
theorem TS.ai{s0 s s':St}{V:AV}{ts:List aB}{rows:List (List AV)}(h:TS s0 s V ts rows)(g:Grew s s'):TS s0 s' V ts rows:=
 ⟨h.out.grow g,h.len,λi t r a b=>by obtain⟨v,e1,e2,e3⟩:=h.dY i t r a b;exact⟨v,e1,e2.grow g,e3⟩⟩
theorem GS.ai{s0 s s':St}{V:AV}{ts:List aR}{rows:List (List AV)}(h:GS s0 s V ts rows)(g:Grew s s'):GS s0 s' V ts rows:=
 ⟨h.out.grow g,h.len,λi t r a b=>by obtain⟨v,e1,e2,e3⟩:=h.dY i t r a b;exact⟨v,e1,e2.grow g,e3⟩⟩
theorem PS.Yn{s0 s s':St}{Vs:List AV}{p:cr}(h:PS s0 s Vs p)(g:Grew s s'):PS s0 s' Vs p:=by
 obtain⟨V1,V2,V3,V4,V5,r1,r2,rfl,h1,h2,h3,h4,h5⟩:=h.all;exact⟨h.ai.trans g,V1,V2,V3,V4,V5,r1,r2,rfl,h1.ai g,h2.ai g,h3.grow g,h4.grow g,h5.grow g⟩
theorem JW.ai{s s':St}{jb:Pos}{j:Jc}{J:Jt}(h:JW s jb j J)(g:Grew s s'):JW s' jb j J where
 nk:=g.get h.nk
 ps:=by obtain⟨s0,r1,r2,a,b,d⟩:=h.ps;exact⟨s0,r1,r2,a.Yn g,b.ai g,d.ai g⟩
 cls:=h.cls.ai g
 jx:=h.jx.ai g
 kin:=g.get h.kin
 tab:=h.tab.ai g
 lvl:=h.lvl.ai g
 kA:=h.kA.ai g
 bes:=h.bes.ai g
 acr:=h.acr.ai g
 aq:=by obtain⟨ms,a,b,d⟩:=h.aq;exact⟨ms,a.ai g,b,λi m hm=>g.get (d i m hm)⟩
 com:=h.com.ai g
 tie:=h.tie.ai g
 zC:=h.zC
 n1:=h.n1
 n2:=h.n2
 n3:=h.n3
 n4:=h.n4
 nN:=h.nN
theorem JW.of{s0 s1 s:St}{jb:Pos}{Vs:List AV}{p:cr}{N:Nat}{iQ:List (List Bool)}{jL:List (List Int)}(h:JD s1 s jb Vs p.ts N p.gs.length iQ jL)(hp:PS s0 s Vs p)(hf:p.Gw)(hN:(N:Int)=aU p.ts):
   ∃j:Jc,JW s jb j ⟨p,N,iQ,jL⟩/\j.Vs=Vs:=by
 obtain⟨V1,V2,V3,V4,V5,r1,r2,rfl,h1,h2,h3,h4,h5⟩:=hp.all;obtain⟨m,L0,L1,L2,L3,L4,L5,L6,L7,wB,wA,ms,r6,r7,k0,k1,k2,k3,k4,k5,k6,k7,k8,k9⟩:=h.all;have lb:=M8 p.ts N;refine⟨⟨V1,V2,V3,V4,V5,m,L0,L1,L2,L3,L4,L5,L6,L7⟩,⟨k0,⟨s0,r1,r2,hp,h1,h2⟩,h4.own,h5.own,k1.2,k2.1,k3.1,k4.1,⟨wB,k5.1.1,by rw[k5.2.1,Za5,lb.1],λi w r a b=> ?_⟩,⟨wA,k6.1.1,by rw[k6.2.1,Za5,lb.2],λi w r a b=> ?_⟩,
   ⟨ms,k7.1.1,k7.2.1,λi m hm=>(k7.2.2 i m hm).2⟩,⟨r6,k8.1.1,by rw[k8.2.1,Za5];exact h.n1.symm,λi w r a b=> ?_⟩,⟨r7,k9.1.1,by rw[k9.2.1,Za5];exact h.n2.symm,λi w r a b=> ?_⟩,hf,h.n1,h.n2,h.n3,h.n4,hN⟩,rfl⟩
 all_goals
   rw[Zb7]at b;obtain⟨r,hr,rfl⟩:=Zf6.1 b
 .rw[<-FE];exact(k5.2.2 i w r a hr).1
 .rw[<-FE];exact(k6.2.2 i w r a hr).1
 .exact(k8.2.2 i w r a hr).1
 .exact(k9.2.2 i w r a hr).1
theorem ap0(hc:bH c){s0 s:St}{Vs:List AV}{p:cr}(P:PS s0 s Vs p)(hp:p.Gw)(nm:List Nat):c 109 [.agg Vs,.str nm] s=some (.int .i64 (gi p nm),s):=by
 obtain⟨p',e,S⟩:=P.fT 1;refine hc.at (s:=NT 109) rfl (apT ?_ (bM.int _ _));rw[Zd3,Zd3,Zi8,e, <-S.gi nm];exact anc rfl p' (S.zC hp) nm (emptyAt s) (abZ s)
structure Vw(s:St)(vb jb:Pos)(j:Jc)(J:Jt)(P G:AV)(q g:List Int):Prop where
 jw:JW s jb j J
 vc:s.heap.get vb=some (.cells [.ptr jb 0,P,G] 0)
 wf:Wf s
 pq:QS 1 s P (q.map bJ)
 gq:QS 1 s G (g.map bJ)
 ql:q.length=J.n
 gl:g.length=J.N
 ok:∀x∈q,-1<=x/\x<(J.N:Int)
 og:∀x∈g,-1<=x/\x<(J.n:Int)
theorem Vw.ai{s s':St}{vb jb:Pos}{j:Jc}{J:Jt}{P G:AV}{q g:List Int}(h:Vw s vb jb j J P G q g)(k:Grew s s'):Vw s' vb jb j J P G q g:=
 ⟨h.jw.ai k,k.get h.vc,k.wf,h.pq.ai k,h.gq.ai k,h.ql,h.gl,h.ok,h.og⟩
@[simp] theorem Jc.c0(j:Jc):j.cells[0]? =some j.V1:=id rfl
@[simp] theorem Jc.c1(j:Jc):j.cells[1]? =some j.V2:=id rfl
@[simp] theorem Jc.c3(j:Jc):j.cells[3]? =some j.V4:=id rfl
@[simp] theorem Jc.c4(j:Jc):j.cells[4]? =some j.V5:=id rfl
@[simp] theorem Jc.c5(j:Jc):j.cells[5]? =some (.map j.M):=id rfl
@[simp] theorem Jc.c6(j:Jc):j.cells[6]? =some j.L0:=id rfl
@[simp] theorem Jc.c7(j:Jc):j.cells[7]? =some j.L1:=id rfl
@[simp] theorem Jc.c8(j:Jc):j.cells[8]? =some j.L2:=id rfl
@[simp] theorem Jc.c9(j:Jc):j.cells[9]? =some j.L3:=id rfl
@[simp] theorem Jc.c10(j:Jc):j.cells[10]? =some j.L4:=id rfl
@[simp] theorem Jc.c11(j:Jc):j.cells[11]? =some j.L5:=id rfl
@[simp] theorem Jc.c12(j:Jc):j.cells[12]? =some j.L6:=id rfl
@[simp] theorem Jc.c13(j:Jc):j.cells[13]? =some j.L7:=id rfl
@[simp] theorem Jc.cc(j:Jc):cut j.cells 0 5=some j.Vs:=id rfl
section
variable{s:St}{vb jb:Pos}{j:Jc}{J:Jt}{P G:AV}{q g:List Int}(V:Vw s vb jb j J P G q g)
include V
theorem Vw.kB{a:Nat}{x:Int}(ha:q[a]? =some x)(hx:0<=x):∃i:Nat,x=(i:Int)/\i<J.N:=by
 have:=V.ok x (Zc1 ha);exact⟨x.toNat,by omega,by omega⟩
theorem Vw.rT{i:Nat}(hi:i<J.N):∃b o,Rd s 1 j.L0 i b o [.int .i64 ((bQ J.p.ts i:Nat):Int)]:=
 V.jw.tab.KY (by unfold A7;rw[Zb7,Zh6 hi];rfl)
theorem Vw.rL{i:Nat}(hi:i<J.N):∃b o,Rd s 1 j.L1 i b o [.int .i64 (H9 J.p.ts ((i:Nat):Int))]:=
 V.jw.lvl.KY (by unfold A8;rw[Zb7,Zh6 hi];rfl)
theorem Vw.rO{i:Nat}(hi:i<J.N):∃b o,Rd s 1 j.L2 i b o [.bool (NU J.p.ts ((i:Nat):Int))]:=
 V.jw.kA.KY (by unfold A9;rw[Zb7,Zh6 hi];rfl)
theorem Vw.rB{i:Nat}(hi:i<J.N):∃w b o,Rd s 1 j.L3 i b o [w]/\QS 1 s w ((oh J.p.ts i).map bJ):=by
 obtain⟨w,b,o,h1,h2⟩:=V.jw.bes.rd (i:=i) (r:=(oh J.p.ts i).map (AV.int .i64)) (by unfold xO;rw[Zb7,Zb7,Zh6 hi];rfl);exact⟨w,b,o,h1,by rw[FE];exact h2⟩
theorem Vw.rA{i:Nat}(hi:i<J.N):∃w b o,Rd s 1 j.L4 i b o [w]/\QS 1 s w ((uy J.p.ts i).map bJ):=by
 obtain⟨w,b,o,h1,h2⟩:=V.jw.acr.rd (i:=i) (r:=(uy J.p.ts i).map (AV.int .i64)) (by unfold xP;rw[Zb7,Zb7,Zh6 hi];rfl);exact⟨w,b,o,h1,by rw[FE];exact h2⟩
theorem Vw.rS{i:Nat}(hi:i<J.N):∃m b o,Rd s 1 j.L5 i b o [.map m]/\s.heap.get m=some (im (J.steps i)):=by
 obtain⟨ms,h1,h2,h3⟩:=V.jw.aq;have hl:i<ms.length:=by omega
 obtain⟨b,o,h4⟩:=h1.KY (i:=i) (x:= .map ms[i]) (by rw[Zb7,H0 hl];rfl);exact⟨_,b,o,h4,h3 i _ (H0 hl)⟩
theorem Vw.rTab{t:Nat}{T:aB}(ht:J.p.ts[t]? =some T):∃v b o,Rd s 7 j.V1 t b o (T.av v):=by
 obtain⟨s0,r1,r2,_,h,_⟩:=V.jw.ps;have hl:t<r1.length:=by rw[h.len];exact(Za1.1 ht).1
 obtain⟨v,e,_⟩:=h.dY t T r1[t] ht (H0 hl);obtain⟨b,o,h4⟩:=h.out.own.rd h.out.row (H0 hl);exact⟨v,b,o,by rw[<-e];exact h4⟩
theorem Vw.rG{t:Nat}{T:aR}(ht:J.p.gs[t]? =some T):∃v b o,Rd s 9 j.V2 t b o (T.av v):=by
 obtain⟨s0,r1,r2,_,_,h⟩:=V.jw.ps;have hl:t<r2.length:=by rw[h.len];exact(Za1.1 ht).1
 obtain⟨v,e,_⟩:=h.dY t T r2[t] ht (H0 hl);obtain⟨b,o,h4⟩:=h.out.own.rd h.out.row (H0 hl);exact⟨v,b,o,by rw[<-e];exact h4⟩
theorem Vw.rC{a b:Nat}{r:List Bool}{x:Bool}(ha:J.iQ[a]? =some r)(hb:r[b]? =some x):∃w p o p2 o2,Rd s 1 j.L6 a p o [w]/\Rd s 1 w b p2 o2 [.bool x]:=by
 obtain⟨w,p,o,h1,h2⟩:=V.jw.com.rd (i:=a) (r:=r.map AV.bool) (by rw[Zb7,ha];rfl);obtain⟨p2,o2,h3⟩:=h2.KY (i:=b) (x:= .bool x) (by rw[Zb7,hb];rfl);exact⟨w,p,o,p2,o2,h1,h3⟩
theorem Vw.rK{a b:Nat}{r:List Int}{x:Int}(ha:J.jL[a]? =some r)(hb:r[b]? =some x):∃w p o p2 o2,Rd s 1 j.L7 a p o [w]/\Rd s 1 w b p2 o2 [.int .u8 x]:=by
 obtain⟨w,p,o,h1,h2⟩:=V.jw.tie.rd (i:=a) (r:=r.map (AV.int .u8)) (by rw[Zb7,ha];rfl);obtain⟨p2,o2,h3⟩:=h2.KY (i:=b) (x:= .int .u8 x) (by rw[Zb7,hb];rfl);exact⟨w,p,o,p2,o2,h1,h3⟩
end
end
section
open Go Go.Ai Go.Proofs
variable{c:aj}{s:St}{vb jb:Pos}{j:Jc}{J:Jt}{P G:AV}{q g:List Int}
theorem ap1(V:Vw s vb jb j J P G q g){w:AV}{r:List Int}(hw:QS 1 s w (r.map bJ))(hl:r.length<=1000000){b:Nat}{x:Int}(hb:q[b]? =some x)(F:Nat):
  ∀(m k:Nat),r.length<=k+m->k<=r.length->∀k1 k2,oM c F k1 k2 (m+1) [.ptr vb 0,.int .i64 (b:Int),w,.int .i64 (r.length:Int),.int .i64 (k:Int)] s=if(r.drop k).contains x then k1 [.bool true] s else k2 [] s:=by
 obtain⟨pb,po,p⟩:=rq V.pq hb;have p1:=λ{R}=>@p.st R
 have p3:=p.one;have vc:=V.vc;intro m;induction m with
 |zero=>
  intro k h1 h2 k1 k2;obtain rfl:k=r.length:=by omega
  rw[pZ];simp
 |succ m ih=>
  intro k h1 h2 k1 k2;by_cases hk:k<r.length
  . obtain⟨wb,wo,w⟩:=rq hw (H0 hk);have w1:=λ{R}=>@w.st R
    have w3:=w.one;have wr:ax .i64 ((k:Int)+1)=((k+1:Nat):Int):=wrap64 (by omega) (by omega);rw[Ze2 hk,List.contains_cons];by_cases he:r[k]=x
    .   rw[pZ];simp[hk,w1,w3,p1,p3,vc,he]
    .   have OU:(x==r[k])=false:=(by simpa using λe=>he e.symm);rw[OU,Zn3, <-ih (k+1) (by omega) (by omega) k1 k2,pZ];simp[hk,w1,w3,p1,p3,vc,he,wr]
  .obtain rfl:k=r.length:=(by omega);rw[pZ];simp
theorem FF(hc:bH c)(V:Vw s vb jb j J P G q g){L:AV}{i:Nat}{lb:Pos}{lo:Nat}{w:AV}{r:List Int}(hL:Rd s 1 L i lb lo [w])(hw:QS 1 s w (r.map bJ))(hlen:r.length<=1000){a b:Nat}{x:Int}(ha:q[a]? =some (i:Int))(hb:q[b]? =some x):
  c 163 [.ptr vb 0,L,.int .i64 (a:Int),.int .i64 (b:Int)] s=some (.bool (r.contains x),s):=by
 obtain⟨pb,po,p⟩:=rq V.pq ha;have p1:=λ{R}=>@p.st R
 have p3:=p.one;have l1:=λ{R}=>@hL.st R
 have l3:=hL.one;have vc:=V.vc;have ln:=λ(K:AV->St->Option (AV×St))=>hw.lenB (c:=c) K s
 rw[Za5]at ln;rw[Uw hc (r.length+1) (r:=(.bool (r.contains x),s)),aF (Plain.bool _) (aX.refl s)];have lp:=ap1 (c:=c) V hw (by omega) hb (r.length+1) r.length 0 (by omega) (by omega);rw[Ze6]at lp;rw[YH];simp only[az,cE,aT,Zb9,aY,vc,aG,Zb1,Za4,Zb6,aW,p1,p3,l1,l3,ln];rw[show(0:Int)=((0:Nat):Int)from rfl,lp];generalize r.contains x=e;cases e<;>simp
theorem Ku(ts:List aB)(i:Nat):(oh ts i).length<=1000/\(uy ts i).length<=1000:=by
 have h:yC ts i<=24:=by
  unfold yC;split
  .rename_i t ht;have:=We t;omega
  .omega
 exact⟨Zb3 (J7 _ _ _) (by omega),Zb3 (J7 _ _ _) (by omega)⟩
def Yo(ts:List aB)(i:Nat)(x:Int):Bool:=(oh ts i).contains x||(uy ts i).contains x
theorem aeG(hc:bH c)(V:Vw s vb jb j J P G q g){a b i:Nat}{x:Int}(ha:q[a]? =some (i:Int))(hi:i<J.N)(hb:q[b]? =some x):
  c 170 [.ptr vb 0,.int .i64 (a:Int),.int .i64 (b:Int)] s=some (.bool (Yo J.p.ts i x),s):=by
 obtain⟨w,wb,wo,h1,h2⟩:=V.rB hi;obtain⟨w',wb',wo',h3,h4⟩:=V.rA hi;have c1:=FF hc V h1 h2 (Ku _ _).1 ha hb;have c2:=FF hc V h3 h4 (Ku _ _).2 ha hb;have vc:=V.vc;have jc:=V.jw.nk;rw[RU hc 1 (r:=(.bool (Yo J.p.ts i x),s)),aF (Plain.bool _) (aX.refl s)];rw[Wg];unfold Yo;cases h:(oh J.p.ts i).contains x<;>simp only[h]at c1<;>simp[vc,jc,c1,c2,-List.elem_eq_contains,-List.contains_eq_mem]
theorem ahe:∀(ts:List aB)(i:Nat),(i:Int)<aU ts->bQ ts i<ts.length
 |[],i,h=>by simp[aU]at h;omega
 |t ::ts,i,h=>by
  unfold bQ;split
  .simp
  .rename_i hn;have n1:0<=bw t:=KZ t;have e:aU (t::ts)=bw t+aU ts:=(by simp[aU]);have:=ahe ts (i - (bw t).toNat) (by omega);simpa using this
theorem Vw.au8(V:Vw s vb jb j J P G q g){i:Nat}(hi:i<J.N):bQ J.p.ts i<J.p.ts.length:=ahe _ _ (by have:=V.jw.nN;omega)
def Wh(ts:List aB)(t:Nat):List Nat:=match ts[t]? with|some t=>t.name|none=>[]
def qD(ts:List aB)(nm:List Nat)(i:Nat):Bool:=decide (nm=[])||decide (nm=Wh ts (bQ ts i))
theorem Vw.rN(V:Vw s vb jb j J P G q g){i:Nat}(hi:i<J.N):∃T v b o,J.p.ts[bQ J.p.ts i]? =some T/\Wh J.p.ts (bQ J.p.ts i)=T.name/\Rd s 7 j.V1 (bQ J.p.ts i) b o (T.av v):=by
 have hT:=H0 (V.au8 hi);obtain⟨v,b,o,h⟩:=V.rTab hT;exact⟨_,v,b,o,hT,by unfold Wh;rw[hT],h⟩
theorem Gx(hc:bH c)(V:Vw s vb jb j J P G q g)(r:Rl){i:Nat}(hi:i<J.N):c 168 [.ptr vb 0,.agg r.cells,.int .i64 (i:Int)] s=some (.bool (qD J.p.ts r.t i),s):=by
 rw[Ux hc 1 (r:=(.bool (qD J.p.ts r.t i),ah s (.cells r.cells 0))),aF (Plain.bool _) (cq V.wf)];rw[YI,dy];have V1:=V.ai (Grew.ah V.wf (.cells r.cells 0));have hb:=aA s (.cells r.cells 0);have e:AV.cells (.agg r.cells)=r.cells:=rfl;rw[e];generalize ah s (.cells r.cells 0)=s1 at*
 have vc:=V1.vc;have jc:=V1.jw.nk;obtain⟨b1,o1,t1⟩:=V1.rT hi;have t2:=λ{R}=>@t1.pr R
 have t3:=t1.one;obtain⟨T,v,b,o,_,hn,h⟩:=V1.rN hi;have h1:=λ{R}=>@h.pr R
 have h2:=h.at' 0 _ rfl;rw[Zf5]at h2;unfold qD;rw[hn];by_cases h0:r.t=[]
 .simp[hb,h0]
 .have d0:decide (r.t=[])=false:=Za2 h0;simp[hb,vc,jc,t2,t3,h1,h2,d0]
theorem ap2{R:Type}(K:AV->Option R){h:T AB}{m:Pos}{E:List (Int×Int)}(hm:h.get m=some (im E))(x:Int):
  jt (.lookup .i (.int .i64 0) true) [.map m,.int .i64 x] h (λ_=>true) K=K (.tuple [.int .i64 ((jX E x).getD 0),.bool (jX E x).isSome]):=by
 unfold jt;have e:aE.run (λ_=>none) .h (.lookup .i (.int .i64 0) true) [.map m,.int .i64 x]=none:=rfl;rw[e];simp only;have:aE.run (λb=>h.get b) .h (.lookup .i (.int .i64 0) true) [.map m,.int .i64 x]=some (.val (.tuple [.int .i64 ((jX E x).getD 0),.bool (jX E x).isSome])):=by
  unfold im at hm;cases hl:jX E x with
  |none=>simp only[aE.run,lz,hm,(BX x E 0 0).1 hl];rfl
  |some d=>obtain⟨n,e⟩:=(BX x E 0 0).2 d hl;simp only[aE.run,lz,hm,e];rfl
 rw[this]
theorem ane(hc:bH c)(V:Vw s vb jb j J P G q g){a b i:Nat}{x:Int}(ha:q[a]? =some (i:Int))(hi:i<J.N)(hb:q[b]? =some x):
  c 162 [.ptr vb 0,.int .i64 (a:Int),.int .i64 (b:Int)] s=some (.tuple [.int .i64 ((jX (J.steps i) x).getD 0),.bool (jX (J.steps i) x).isSome],s):=by
 obtain⟨pb,po,p⟩:=rq V.pq ha;obtain⟨qb,qo,p'⟩:=rq V.pq hb;have p1:=λ{R}=>@p.pr R
 have p3:=p.one;have p4:=λ{R}=>@p'.pr R
 have p6:=p'.one;obtain⟨m,b1,o1,t1,t0⟩:=V.rS hi;have t2:=λ{R}=>@t1.pr R
 have t3:=t1.one;have vc:=V.vc;have jc:=V.jw.nk;have lk:=λ(K:AV->Option (AV×St))=>ap2 K t0 x
 rw[YJ hc 1 (r:=(.tuple [.int .i64 ((jX (J.steps i) x).getD 0),.bool (jX (J.steps i) x).isSome],s)),aF (Plain.tuple (by simp[Plain.int,Plain.bool])) (aX.refl s)];rw[ab7];simp[vc,jc,p1,p3,p4,p6,t2,t3,lk]
theorem QS.Wi{es:Nat}{v:AV}{rows:List (List AV)}(h:QS es s v rows):fS 3 v:=by
 rcases h with⟨rfl,_⟩|⟨b,off,cap,cs,rfl,_⟩|⟨b,off,rfl,_⟩
 .exact .flat rfl
 .refine .flat ?_;cases cap<;>simp[fL,Pos.beq_eq.2 rfl]
 .refine .flat ?_;simp[fL,Pos.beq_eq.2 rfl]
theorem JW.beq{s:St}(h:JW s jb j J):eO (.agg j.Vs) (.agg j.Vs)=true:=by
 obtain⟨s0,r1,r2,_,h1,h2⟩:=h.ps;obtain⟨V1,V2,V3,V4,V5,_,_,e,_,_,h3,_⟩:=(show PS s0 s j.Vs J.p from by assumption).all;refine TE λv hv=> ?_
 simp only[Jc.Vs,Za9,Zc3,Zf0]at hv;simp only[Jc.Vs,Zf9]at e;rcases hv with rfl|rfl|rfl|rfl|rfl
 .exact QS.Wi h1.out.own
 .exact QS.Wi h2.out.own
 .rw[e.2.2.1];exact QS.Wi h3.own
 .exact QS.Wi h.cls
 .exact QS.Wi h.jx
theorem Vw.who(hc:bH c)(V:Vw s vb jb j J P G q g)(nm:List Nat):c 109 [.agg j.Vs,.str nm] s=some (.int .i64 (gi J.p nm),s):=by obtain⟨s0,r1,r2,h,_,_⟩:=V.jw.ps;exact ap0 hc h V.jw.zC nm
theorem Pz(hc:bH c)(V:Vw s vb jb j J P G q g)(r:Rl){a b:Nat}{x y:Int}(ga:gi J.p r.a=(a:Int))(gb:gi J.p r.b=(b:Int))(ha:q[a]? =some x)(hb:q[b]? =some y):
   c 161 [.ptr vb 0,.agg r.cells] s=some (.tuple [.int .i64 (a:Int),.int .i64 (b:Int),.bool (decide (0<=x)&&decide (0<=y))],s):=by
 rw[Wj hc 1 (r:=(.tuple [.int .i64 (a:Int),.int .i64 (b:Int),.bool (decide (0<=x)&&decide (0<=y))],ah s (.cells r.cells 0))),aF (Plain.tuple (by simp[Plain.int,Plain.bool])) (cq V.wf)];rw[aaO,dy];have V1:=V.ai (Grew.ah V.wf (.cells r.cells 0));have eZ:=aA s (.cells r.cells 0);have e:AV.cells (.agg r.cells)=r.cells:=rfl;rw[e];generalize ah s (.cells r.cells 0)=s1 at*
 have vc:=V1.vc;have jc:=V1.jw.nk;obtain⟨pb,po,p⟩:=rq V1.pq ha;obtain⟨qb,qo,p'⟩:=rq V1.pq hb;have p1:=λ{R}=>@p.pr R
 have p3:=p.one;have p4:=λ{R}=>@p'.pr R
 have p6:=p'.one;have w1:=V1.who hc r.a;have w2:=V1.who hc r.b;rw[ga]at w1;rw[gb]at w2;have k1:=λ(K:AV->Option (AV×St))=>kW K (p:=vb) (o:=0) (h:=s1.heap) (h2:=s1.heap) (v:= .ptr jb 0) (by rw[vc];rfl) (by rw[vc];rfl) (by simp[eO,mW,fL,Pos.beq_eq.2 rfl])
 have k2:=λ(K:AV->Option (AV×St))=>agW K (m:=5) (p:=jb) (o:=0) (h:=s1.heap) (h2:=s1.heap) (l:=j.Vs) (by rw[jc];rfl) (by rw[jc];rfl) V1.jw.beq
 have k3:=λ(K:AV->Option (AV×St))=>kW K (p:=s.next) (o:=3) (h:=s1.heap) (h2:=s1.heap) (v:= .str r.b) (by rw[eZ];rfl) (by rw[eZ];rfl) (by simp[eO,mW,fL,mH.2 rfl])
 by_cases hx:0<=x
 .have d:decide (0<=x)=true:=Za0 hx;simp[eZ,vc,jc,p1,p3,p4,p6,w1,w2,k1,k2,k3,d,hx]
 .have d:decide (0<=x)=false:=Za2 hx;simp[eZ,vc,jc,p1,p3,p4,p6,w1,w2,k1,k2,k3,d,hx]
end
section
open Go Go.Ai Go.Proofs
def gK(M:St->Pos->Prop)(s s':St):Prop:=s.next.toNat<=s'.next.toNat/\Wf s'/\∀b x,¬M s b->s.heap.get b=some x->s'.heap.get b=some x/\¬M s' b
theorem gK.refl{M:St->Pos->Prop}{s:St}(hw:Wf s):gK M s s:=⟨Za3 _,hw,λ_ _ h1 h2=>⟨h2,h1⟩⟩
theorem gK.trans{M:St->Pos->Prop}{a b d:St}(h:gK M a b)(k:gK M b d):gK M a d:=⟨Zb3 h.1 k.1,k.2.1,λp x h1 h2=>by obtain⟨e1,e2⟩:=h.2.2 p x h1 h2;exact k.2.2 p x e2 e1⟩
structure ki(c:aj)(fv:AV)(s0:St)(I:St->List Ev->Prop)(M:St->Pos->Prop):Prop where
 ai:∀{s l},I s l->Grew s0 s
 grow:∀{s s' l},I s l->Grew s s'->I s' l
 l9:∀{s s' l b},I s l->Grew s s'->M s' b->M s b
 mlt:∀{s l b},I s l->M s b->b.toNat<s.next.toNat
 back:∀{s s' l l'},I s l->I s' l'->aX s s'->I s l'
 call:∀{s l}{k:Nat}{W:AV}{who:List Int},I s l->QS 1 s W (who.map bJ)->fu l+k+who.length<=1000000->
  ∃s' v,(∀(K:AV->St->Option (AV×St)),aq c .callV [fv,.int .i64 (k:Int),W] s K=K v s')/\I s' (l++[(k,who)])/\gK M s s'
 one:fv.cells=[fv]/\fv.one=true
def qF(q:List Int)(g:Nat):Int:=q.getD g (-1)
theorem nH{q:List Int}{a:Nat}{x:Int}(h:q[a]? =some x):qF q a=x:=by unfold qF;rw[Za8,h];rfl
section
variable{c:aj}{fv:AV}{s0:St}{I:St->List Ev->Prop}{M:St->Pos->Prop}{s:St}{l l':List Ev}
theorem ki.fin(H:ki c fv s0 I M)(hI:I s l){T:Option (AV×St)}{f:FuncId}{args:List AV}{v:AV}(hr:∀{r},T=some r->c f args s=some (tidy s r))(h:∃s',T=some (v,s')/\I s' l'):
   ∃s',c f args s=some (v,s')/\I s' l':=by
 obtain⟨s',h1,h2⟩:=h;have h3:=hr h1;unfold tidy at h3;split at h3
 .rename_i hk;exact⟨s,h3,H.back hI h2 hk.2⟩
 .exact⟨s',h3,h2⟩
theorem ki.fr(H:ki c fv s0 I M){s':St}(hI:I s l)(g:Grew s s'):gK M s s':=⟨g.next,g.wf,λb x h1 h2=>⟨g.get h2,λh=>h1 (H.l9 hI g h)⟩⟩
theorem ki.RV(H:ki c fv s0 I M)(hI:I s l)(hB:fu l+3<=1000000)(a b:Nat):
  ∃s' v,(∀(K:AV->St->Option (AV×St)),aq c (.buildSlice 1 2 [.int .i64 0] [0,1]) [.int .i64 (a:Int),.int .i64 (b:Int)] s (λx s=>aq c .callV [fv,.int .i64 1,x] s K)=K v s')/\I s' (l++[(1,[(a:Int),(b:Int)])])/\gK M s s':=by
 have hw:=(H.ai hI).wf;have e:cF (bU [AV.int .i64 0] 2) ([0,1].map λi=>(i*1,1)) [.int .i64 (a:Int),.int .i64 (b:Int)]=some [.int .i64 (a:Int),.int .i64 (b:Int)]:=by
  simp[cF,bU,cK,cM,aQ,AV.cells]
 obtain⟨s',v,h1,h2,h3⟩:=H.call (k:=1) (W:= .slice s.next 0 2 (some 2) 1) (who:=[(a:Int),(b:Int)]) (H.grow hI (Grew.ah hw (.cells [.int .i64 (a:Int),.int .i64 (b:Int)] 0)))
  (.inr (.inl ⟨s.next,0,some 2,_,rfl,aA _ _,by simp,by simp,.inr rfl⟩)) (by simp;omega)
 exact⟨s',v,λK=>by rw[au,e,fC];exact h1 K,h2,(H.fr hI (Grew.ah hw _)).trans h3⟩
theorem ki.Yp(H:ki c fv s0 I M)(hI:I s l)(hB:fu l+2<=1000000)(a:Nat):
  ∃s' v,(∀(K:AV->St->Option (AV×St)),aq c (.buildSlice 1 1 [.int .i64 0] [0]) [.int .i64 (a:Int)] s (λx s=>aq c .callV [fv,.int .i64 1,x] s K)=K v s')/\I s' (l++[(1,[(a:Int)])])/\gK M s s':=by
 have hw:=(H.ai hI).wf
 obtain⟨s',v,h1,h2,h3⟩:=H.call (k:=1) (W:= .slice s.next 0 1 (some 1) 1) (who:=[(a:Int)]) (H.grow hI (Grew.ah hw (.cells [.int .i64 (a:Int)] 0)))
  (.inr (.inl ⟨s.next,0,some 1,_,rfl,aA _ _,by simp,by simp,.inr rfl⟩)) (by simp;omega)
 exact⟨s',v,λK=>by rw[FB rfl rfl];exact h1 K,h2,(H.fr hI (Grew.ah hw _)).trans h3⟩
end
section
variable{c:aj}{fv:AV}{s0:St}{I:St->List Ev->Prop}{M:St->Pos->Prop}{s:St}{l:List Ev}{vb jb:Pos}{j:Jc}{J:Jt}{P G:AV}{q g:List Int}
def adw(J:Jt)(x y:Int):Option Int:=jX (J.steps x.toNat) y
def yD(J:Jt)(x:Int):Nat:=bQ J.p.ts x.toNat
def ab8(J:Jt)(r:Rl)(x y:Int):Bool:=decide (yD J x=yD J y)&&(decide (r.n=0)||((adw J x y).isSome&&decide ((adw J x y).getD 0<r.n)))
def ak6(J:Jt)(x y:Int):Bool:= !(oh J.p.ts x.toNat).contains y
def ak7(J:Jt)(x y:Int):Bool:= !(uy J.p.ts x.toNat).contains y
def afW(J:Jt)(r:Rl)(x y:Int):Bool:= !(adw J x y).isSome||decide (r.n<(adw J x y).getD 0)
def ak8(J:Jt)(x y:Int):Bool:= !decide (yD J x=yD J y)
structure Two(J:Jt)(q:List Int)(r:Rl)(a b:Nat)(x y:Int):Prop where
 ga:gi J.p r.a=(a:Int)
 gb:gi J.p r.b=(b:Int)
 qa:q[a]? =some x
 qb:q[b]? =some y
theorem Two.two{r:Rl}{a b:Nat}{x y:Int}(h:Two J q r a b x y)(P:Int->Int->Bool):vC (qF q) a b P=tU (decide (0<=x)&&decide (0<=y)&&P x y) 1 [(a:Int),(b:Int)]:=by
 unfold vC on;rw[nH h.qa,nH h.qb]
theorem ap3 (hc:bH c)(H:ki c fv s0 I M)(V:Vw s0 vb jb j J P G q g){r:Rl}{a b:Nat}{x y:Int}(hT:Two J q r a b x y)(hI:I s l)(hB:fu l+3<=1000000):
   ∃s',c 90 [.ptr vb 0,.agg r.cells,fv] s=some (.tuple [],s')/\I s' (l++vC (qF q) a b (ab8 J r)):=by
 refine H.fin hI (λh=>Uy hc 1 h) ?_;have hw:=(H.ai hI).wf;have dF:=H.grow hI (Grew.ah hw (.cells r.cells 0));have V1:=V.ai (H.ai dF);have eZ:=aA s (.cells r.cells 0);rw[hT.two,YK,dy,show AV.cells (.agg r.cells)=r.cells from rfl];generalize ah s (.cells r.cells 0)=s1 at*
 have vc:=V1.vc;have jc:=V1.jw.nk;have bo:=Pz hc V1 r hT.ga hT.gb hT.qa hT.qb;obtain⟨pb,po,p⟩:=rq V1.pq hT.qa;obtain⟨qb,qo,p'⟩:=rq V1.pq hT.qb;have p1:=λ{R}=>@p.pr R
 have p3:=p.one;have p4:=λ{R}=>@p'.pr R
 have p6:=p'.one;obtain⟨s2,v2,e1,e2,_⟩:=H.RV dF hB a b;by_cases hx:0<=x
 . by_cases hy:0<=y
   . obtain ⟨ i,rfl,hi⟩:=V1.kB hT.qa hx;obtain⟨k,rfl,hk⟩:=V1.kB hT.qb hy;obtain⟨tb,to,t⟩:=V1.rT hi;obtain⟨ub,uo,u⟩:=V1.rT hk;have t1:=λ{R}=>@t.pr R
     have t3:=t.one;have u1:=λ{R}=>@u.pr R
     have u3:=u.one;have fa:=ane hc V1 hT.qa hi hT.qb;unfold ab8 yD adw;simp only[Zd0];by_cases ht:bQ J.p.ts i=bQ J.p.ts k
     .  have d1:decide (((bQ J.p.ts i:Nat):Int)=((bQ J.p.ts k:Nat):Int))=true:=Za0 (by omega);by_cases hn:r.n=0
        .refine⟨s2,?_,by simpa [hx,hy,ht,hn,qQ]using e2⟩;simp[-au,eZ,bo,hx,hy,vc,jc,p1,p3,p4,p6,t1,t3,u1,u3,ht,fa,hn,e1]
        . by_cases hs:(jX (J.steps i) (k:Int)).isSome=true
          . by_cases hl:(jX (J.steps i) (k:Int)).getD 0<r.n
            .refine⟨s2,?_,by simpa [hx,hy,ht,hn,hs,hl,qQ]using e2⟩;simp[-au,eZ,bo,hx,hy,vc,jc,p1,p3,p4,p6,t1,t3,u1,u3,ht,fa,hn,hs,hl,e1]
            .refine⟨s1,?_,by simpa [hx,hy,ht,hn,hs,hl,eu]using dF⟩;simp[-au,eZ,bo,hx,hy,vc,jc,p1,p3,p4,p6,t1,t3,u1,u3,ht,fa,hn,hs,hl,e1]
          .have hs:(jX (J.steps i) (k:Int)).isSome=false:=(by simpa using hs);refine⟨s1,?_,by simpa [hx,hy,ht,hn,hs,eu]using dF⟩;simp[-au,eZ,bo,hx,hy,vc,jc,p1,p3,p4,p6,t1,t3,u1,u3,ht,fa,hn,hs,e1]
     .  have d1:decide (((bQ J.p.ts i:Nat):Int)=((bQ J.p.ts k:Nat):Int))=false:=Za2 (by omega);refine⟨s1,?_,by simpa [ht,eu]using dF⟩;simp[-au,eZ,bo,hx,hy,vc,jc,p1,p3,p4,p6,t1,t3,u1,u3,d1]
   .refine⟨s1,?_,by simpa [hy,eu]using dF⟩;simp[-au,eZ,bo,hy]
 .refine⟨s1,?_,by simpa [hx,eu]using dF⟩;simp[-au,eZ,bo,hx]
theorem afd(hc:bH c)(H:ki c fv s0 I M)(V:Vw s0 vb jb j J P G q g){r:Rl}{a b:Nat}{x y:Int}(hT:Two J q r a b x y)(hI:I s l)(hB:fu l+3<=1000000):
   ∃s',c 91 [.ptr vb 0,.agg r.cells,fv] s=some (.tuple [],s')/\I s' (l++vC (qF q) a b (ak6 J)):=by
 refine H.fin hI (λh=>K7 hc 1 h) ?_;have hw:=(H.ai hI).wf;have dF:=H.grow hI (Grew.ah hw (.cells r.cells 0));have V1:=V.ai (H.ai dF);have eZ:=aA s (.cells r.cells 0);rw[hT.two,NV,dy,show AV.cells (.agg r.cells)=r.cells from rfl];generalize ah s (.cells r.cells 0)=s1 at*
 have vc:=V1.vc;have jc:=V1.jw.nk;have bo:=Pz hc V1 r hT.ga hT.gb hT.qa hT.qb;obtain⟨s2,v2,e1,e2,_⟩:=H.RV dF hB a b;by_cases hx:0<=x
 . by_cases hy:0<=y
   . obtain⟨i,rfl,hi⟩:=V1.kB hT.qa hx;obtain⟨w,wb,wo,h1,h2⟩:=V1.rB hi;have c1:=FF hc V1 h1 h2 (Ku _ _).1 hT.qa hT.qb;unfold ak6;simp only[Zd0];generalize (oh J.p.ts i).contains y=e at*
     cases e
     .  refine⟨s2,?_,by simpa [hx,hy,qQ]using e2⟩;simp[-au,eZ,bo,hx,hy,vc,jc,c1,e1]
     .  refine⟨s1,?_,by simpa [hx,hy,eu]using dF⟩;simp[-au,eZ,bo,hx,hy,vc,jc,c1]
   .refine⟨s1,?_,by simpa [hy,eu]using dF⟩;simp[-au,eZ,bo,hy]
 .refine⟨s1,?_,by simpa [hx,eu]using dF⟩;simp[-au,eZ,bo,hx]
theorem afe(hc:bH c)(H:ki c fv s0 I M)(V:Vw s0 vb jb j J P G q g){r:Rl}{a b:Nat}{x y:Int}(hT:Two J q r a b x y)(hI:I s l)(hB:fu l+3<=1000000):
   ∃s',c 92 [.ptr vb 0,.agg r.cells,fv] s=some (.tuple [],s')/\I s' (l++vC (qF q) a b (ak7 J)):=by
 refine H.fin hI (λh=>K8 hc 1 h) ?_;have hw:=(H.ai hI).wf;have dF:=H.grow hI (Grew.ah hw (.cells r.cells 0));have V1:=V.ai (H.ai dF);have eZ:=aA s (.cells r.cells 0);rw[hT.two,NW,dy,show AV.cells (.agg r.cells)=r.cells from rfl];generalize ah s (.cells r.cells 0)=s1 at*
 have vc:=V1.vc;have jc:=V1.jw.nk;have bo:=Pz hc V1 r hT.ga hT.gb hT.qa hT.qb;obtain⟨s2,v2,e1,e2,_⟩:=H.RV dF hB a b;by_cases hx:0<=x
 . by_cases hy:0<=y
   . obtain⟨i,rfl,hi⟩:=V1.kB hT.qa hx;obtain⟨w,wb,wo,h1,h2⟩:=V1.rA hi;have c1:=FF hc V1 h1 h2 (Ku _ _).2 hT.qa hT.qb;unfold ak7;simp only[Zd0];generalize (uy J.p.ts i).contains y=e at*
     cases e
     .  refine⟨s2,?_,by simpa [hx,hy,qQ]using e2⟩;simp[-au,eZ,bo,hx,hy,vc,jc,c1,e1]
     .  refine⟨s1,?_,by simpa [hx,hy,eu]using dF⟩;simp[-au,eZ,bo,hx,hy,vc,jc,c1]
   .refine⟨s1,?_,by simpa [hy,eu]using dF⟩;simp[-au,eZ,bo,hy]
 .refine⟨s1,?_,by simpa [hx,eu]using dF⟩;simp[-au,eZ,bo,hx]
theorem ak9(hc:bH c)(H:ki c fv s0 I M)(V:Vw s0 vb jb j J P G q g){r:Rl}{a b:Nat}{x y:Int}(hT:Two J q r a b x y)(hI:I s l)(hB:fu l+3<=1000000):
   ∃s',c 93 [.ptr vb 0,.agg r.cells,fv] s=some (.tuple [],s')/\I s' (l++vC (qF q) a b (afW J r)):=by
 refine H.fin hI (λh=>RW hc 1 h) ?_;have hw:=(H.ai hI).wf;have dF:=H.grow hI (Grew.ah hw (.cells r.cells 0));have V1:=V.ai (H.ai dF);have eZ:=aA s (.cells r.cells 0);rw[hT.two,Wk,dy,show AV.cells (.agg r.cells)=r.cells from rfl];generalize ah s (.cells r.cells 0)=s1 at*
 have vc:=V1.vc;have jc:=V1.jw.nk;have bo:=Pz hc V1 r hT.ga hT.gb hT.qa hT.qb;obtain⟨s2,v2,e1,e2,_⟩:=H.RV dF hB a b;by_cases hx:0<=x
 . by_cases hy:0<=y
   . obtain⟨i,rfl,hi⟩:=V1.kB hT.qa hx;have fa:=ane hc V1 hT.qa hi hT.qb;unfold afW adw;simp only[Zd0];by_cases hs:(jX (J.steps i) y).isSome=true
     .  by_cases hl:r.n<(jX (J.steps i) y).getD 0
        .refine⟨s2,?_,by simpa [hx,hy,hs,hl,qQ]using e2⟩;simp[-au,eZ,bo,hx,hy,vc,jc,fa,hs,hl,e1]
        .refine⟨s1,?_,by simpa [hx,hy,hs,hl,eu]using dF⟩;simp[-au,eZ,bo,hx,hy,vc,jc,fa,hs,hl,e1]
     .  have hs:(jX (J.steps i) y).isSome=false:=(by simpa using hs);refine⟨s2,?_,by simpa [hx,hy,hs,qQ]using e2⟩;simp[-au,eZ,bo,hx,hy,vc,jc,fa,hs,e1]
   .refine⟨s1,?_,by simpa [hy,eu]using dF⟩;simp[-au,eZ,bo,hy]
 .refine⟨s1,?_,by simpa [hx,eu]using dF⟩;simp[-au,eZ,bo,hx]
theorem aiY(hc:bH c)(H:ki c fv s0 I M)(V:Vw s0 vb jb j J P G q g){r:Rl}{a b:Nat}{x y:Int}(hT:Two J q r a b x y)(hI:I s l)(hB:fu l+3<=1000000):
   ∃s',c 94 [.ptr vb 0,.agg r.cells,fv] s=some (.tuple [],s')/\I s' (l++vC (qF q) a b (ak8 J)):=by
 refine H.fin hI (λh=>NX hc 1 h) ?_;have hw:=(H.ai hI).wf;have dF:=H.grow hI (Grew.ah hw (.cells r.cells 0));have V1:=V.ai (H.ai dF);have eZ:=aA s (.cells r.cells 0);rw[hT.two,RX,dy,show AV.cells (.agg r.cells)=r.cells from rfl];generalize ah s (.cells r.cells 0)=s1 at*
 have vc:=V1.vc;have jc:=V1.jw.nk;have bo:=Pz hc V1 r hT.ga hT.gb hT.qa hT.qb;obtain⟨pb,po,p⟩:=rq V1.pq hT.qa;obtain⟨qb,qo,p'⟩:=rq V1.pq hT.qb;have p1:=λ{R}=>@p.pr R
 have p3:=p.one;have p4:=λ{R}=>@p'.pr R
 have p6:=p'.one;obtain⟨s2,v2,e1,e2,_⟩:=H.RV dF hB a b;by_cases hx:0<=x
 . by_cases hy:0<=y
   . obtain⟨i,rfl,hi⟩:=V1.kB hT.qa hx;obtain⟨k,rfl,hk⟩:=V1.kB hT.qb hy;obtain⟨tb,to,t⟩:=V1.rT hi;obtain⟨ub,uo,u⟩:=V1.rT hk;have t1:=λ{R}=>@t.pr R
     have t3:=t.one;have u1:=λ{R}=>@u.pr R
     have u3:=u.one;unfold ak8 yD;simp only[Zd0];by_cases ht:bQ J.p.ts i=bQ J.p.ts k
     .  refine⟨s1,?_,by simpa [ht,eu]using dF⟩;simp[-au,eZ,bo,hx,hy,vc,jc,p1,p3,p4,p6,t1,t3,u1,u3,ht]
     .  have d1:decide (((bQ J.p.ts i:Nat):Int)=((bQ J.p.ts k:Nat):Int))=false:=Za2 (by omega);refine⟨s2,?_,by simpa [hx,hy,ht,qQ]using e2⟩;simp[-au,eZ,bo,hx,hy,vc,jc,p1,p3,p4,p6,t1,t3,u1,u3,d1,e1]
   .refine⟨s1,?_,by simpa [hy,eu]using dF⟩;simp[-au,eZ,bo,hy]
 .refine⟨s1,?_,by simpa [hx,eu]using dF⟩;simp[-au,eZ,bo,hx]
def atP(J:Jt)(r:Rl)(x:Int):Bool:= !decide (Wh J.p.ts (yD J x)=r.t)
def afX(J:Jt)(r:Rl)(x:Int):Bool:= !decide (Wh J.p.ts (yD J x)=r.t)|| !decide (x - ((A5 (bQ J.p.ts) (yD J x) x.toNat:Nat):Int)=r.n)
theorem ajY{a:Nat}{x:Int}(h:q[a]? =some x)(P:Int->Bool):FD (qF q) a P=tU (decide (0<=x)&&P x) 1 [(a:Int)]:=by
 unfold FD on;rw[nH h]
theorem at3(hc:bH c)(H:ki c fv s0 I M)(V:Vw s0 vb jb j J P G q g){r:Rl}{a:Nat}{x:Int}(ga:gi J.p r.a=(a:Int))(ha:q[a]? =some x)(hI:I s l)(hB:fu l+2<=1000000):
   ∃s',c 95 [.ptr vb 0,.agg r.cells,fv] s=some (.tuple [],s')/\I s' (l++FD (qF q) a (atP J r)):=by
 refine H.fin hI (λh=>aaP hc 1 h) ?_;have hw:=(H.ai hI).wf;have dF:=H.grow hI (Grew.ah hw (.cells r.cells 0));have V1:=V.ai (H.ai dF);have eZ:=aA s (.cells r.cells 0);rw[ajY ha,adx,dy,show AV.cells (.agg r.cells)=r.cells from rfl];generalize ah s (.cells r.cells 0)=s1 at*
 have vc:=V1.vc;have jc:=V1.jw.nk;have wh:=V1.who hc r.a;rw[ga]at wh;obtain⟨pb,po,p⟩:=rq V1.pq ha;have p1:=λ{R}=>@p.st R
 have p3:=p.one;obtain⟨s2,v2,e1,e2,_⟩:=H.Yp dF hB a;by_cases hx:0<=x
 . obtain⟨i,rfl,hi⟩:=V1.kB ha hx;obtain⟨tb,to,t⟩:=V1.rT hi;have t1:=λ{R}=>@t.pr R
   have t3:=t.one;obtain⟨T,v,b,o,_,hn,h⟩:=V1.rN hi;have h1:=λ{R}=>@h.pr R
   have h2:=h.at' 0 _ rfl;rw[Zf5]at h2;unfold atP yD;simp only[Zd0,hn];by_cases hd:T.name=r.t
   .refine⟨s1,?_,by simpa [hd,eu]using dF⟩;simp[-au,eZ,vc,jc,wh,p1,p3,hx,t1,t3,h1,h2,hd]
   .have d1:decide (T.name=r.t)=false:=Za2 hd;refine⟨s2,?_,by simpa [hd,qQ]using e2⟩;simp[-au,eZ,vc,jc,wh,p1,p3,hx,t1,t3,h1,h2,d1,e1]
 .refine⟨s1,?_,by simpa [hx,eu]using dF⟩;simp[-au,eZ,vc,jc,wh,p1,p3,hx]
theorem asx(V:Vw s vb jb j J P G q g){i0:Nat}(sF:i0<J.N)(x2 x4 x6:AV)(F:Nat)(k2):∀(m i f:Nat),m<f->i<=m->i<J.N->
  pH c F k2 f [.ptr vb 0,x2,x4,x6,.int .i64 (i0:Int),.int .i64 (i:Int)] s=k2 [.ptr vb 0,x2,x4,x6,.int .i64 (i0:Int),.int .i64 ((A5 (bQ J.p.ts) (bQ J.p.ts i0) i:Nat):Int)] s:=by
 have vc:=V.vc;have jc:=V.jw.nk;obtain⟨tb,to,t⟩:=V.rT sF;have t1:=λ{R}=>@t.pr R
 have t3:=t.one;intro m;induction m with
 |zero=>
  intro i f hf hi _;obtain⟨f,rfl⟩:∃g,f=g+1:=⟨f - 1,by omega⟩
  obtain rfl:i=0:=by omega
  rw[qR];simp[A5]
 |succ m ih=>
  intro i f hf hi hN;obtain⟨f,rfl⟩:∃g,f=g+1:=⟨f - 1,by omega⟩
  cases i with
  |zero=>rw[qR];simp[A5]
  |succ i=>
   have wr:ax .i64 (((i+1:Nat):Int) - 1)=(i:Int):=(by rw[wrap64 (by omega) (by have:=V.jw.nN;have:=V.jw.zC.ts;have:=(om J.p.ts).2;omega)];omega);obtain⟨ub,uo,u⟩:=V.rT (i:=i) (by omega);have u1:=λ{R}=>@u.pr R
   have u3:=u.one;have hp:(0:Int)<((i+1:Nat):Int):=(by omega);unfold A5;by_cases ht:bQ J.p.ts i=bQ J.p.ts i0
   .    rw[Zb4 ht, <-ih i f (by omega) (by omega) (by omega),qR];have d1:decide (((bQ J.p.ts i:Nat):Int)=((bQ J.p.ts i0:Nat):Int))=true:=Za0 (by omega);have Gk:(0:Int)<(i:Int)+1:=(by omega);have wr2:ax .i64 ((i:Int)+1 - 1)=(i:Int):=(by rw[show((i:Int)+1)=((i+1:Nat):Int)by omega];exact wr);simp only[aL,bu,di,ajH,Za0 hp,adk,oc,br,Zb9,ajB,jN,vc,jc,aG,Zb1,Za4,Jc.c6,aW,ajO,wr,u1,u3,t1,t3,adm,d1,RD,eo,az,adn]
   .    rw[Za6 ht,qR];have d1:decide (((bQ J.p.ts i:Nat):Int)=((bQ J.p.ts i0:Nat):Int))=false:=Za2 (by omega);simp only[aL,bu,di,ajH,Za0 hp,adk,oc,br,Zb9,ajB,jN,vc,jc,aG,Zb1,Za4,Jc.c6,aW,ajO,wr,u1,u3,t1,t3,adm,d1,RD,dQ]
theorem Vw.K9(V:Vw s vb jb j J P G q g):J.N<=100000/\J.n<=100:=by have:=V.jw.nN;have:=V.jw.zC.ts;have:=(om J.p.ts).2;have:=V.jw.zC.gs;unfold Jt.n;omega
theorem ahf(tab:Nat->Nat)(t:Nat):∀i,A5 tab t i<=i
 |0=>Za3 _
 |i+1=>by have:=ahf tab t i;unfold A5;split<;>omega
theorem ap4(hc:bH c)(H:ki c fv s0 I M)(V:Vw s0 vb jb j J P G q g){r:Rl}{a:Nat}{x:Int}(ga:gi J.p r.a=(a:Int))(ha:q[a]? =some x)(hI:I s l)(hB:fu l+2<=1000000):
   ∃s',c 96 [.ptr vb 0,.agg r.cells,fv] s=some (.tuple [],s')/\I s' (l++FD (qF q) a (afX J r)):=by
 refine H.fin hI (λh=>Wl hc (x.toNat+1) h) ?_;have hw:=(H.ai hI).wf;have dF:=H.grow hI (Grew.ah hw (.cells r.cells 0));have V1:=V.ai (H.ai dF);have eZ:=aA s (.cells r.cells 0);rw[ajY ha,aaQ,dy,show AV.cells (.agg r.cells)=r.cells from rfl];generalize ah s (.cells r.cells 0)=s1 at*
 have vc:=V1.vc;have jc:=V1.jw.nk;have wh:=V1.who hc r.a;rw[ga]at wh;obtain⟨pb,po,p⟩:=rq V1.pq ha;have p1:=λ{R}=>@p.st R
 have p3:=p.one;obtain⟨s2,v2,e1,e2,_⟩:=H.Yp dF hB a;by_cases hx:0<=x
 . obtain⟨i,rfl,hi⟩:=V1.kB ha hx;have hN:=V1.K9;obtain⟨tb,to,t⟩:=V1.rT hi;have t1:=λ{R}=>@t.pr R
   have t3:=t.one;obtain⟨T,v,b,o,_,hn,h⟩:=V1.rN hi;have h1:=λ{R}=>@h.pr R
   have h2:=h.at' 0 _ rfl;rw[Zf5]at h2;have lp:=λk2=>asx (c:=c) V1 hi fv (.ptr s.next 0) (.int .i64 (a:Int)) (i+1) k2 i i (i+1) (by omega) (by omega) hi
   have bl:=ahf (bQ J.p.ts) (bQ J.p.ts i) i;have ws:ax .i64 ((i:Int) - ((A5 (bQ J.p.ts) (bQ J.p.ts i) i:Nat):Int))=(i:Int) - ((A5 (bQ J.p.ts) (bQ J.p.ts i) i:Nat):Int):=wrap64 (by omega) (by omega);unfold afX yD;simp only[Zd0,hn];have dx:decide ((i:Int)<0)=false:=Za2 (by omega);by_cases hd:T.name=r.t
   . by_cases hm:(i:Int) - ((A5 (bQ J.p.ts) (bQ J.p.ts i) i:Nat):Int)=r.n
     .  refine⟨s1,?_,by simpa [hd,hm,eu]using dF⟩;have ws':ax .i64 r.n=r.n:=(by rw[<-hm];exact ws);simp[-au,eZ,vc,jc,wh,p1,p3,dx,lp,t1,t3,h1,h2,hd,ws',hm]
     .  have d2:decide ((i:Int) - ((A5 (bQ J.p.ts) (bQ J.p.ts i) i:Nat):Int)=r.n)=false:=Za2 hm;refine⟨s2,?_,by simpa [hd,hm,qQ]using e2⟩;simp[-au,eZ,vc,jc,wh,p1,p3,dx,lp,t1,t3,h1,h2,hd,ws,d2,e1]
   .have d1:decide (T.name=r.t)=false:=Za2 hd;refine⟨s2,?_,by simpa [hd,qQ]using e2⟩;simp[-au,eZ,vc,jc,wh,p1,p3,dx,lp,t1,t3,h1,h2,d1,e1]
 .have dx:decide (x<0)=true:=Za0 (by omega);refine⟨s1,?_,by simpa [hx,eu]using dF⟩;simp[-au,eZ,vc,jc,wh,p1,p3,dx]
end
def SoC(c:aj)(sv:AV)(M:St->Pos->Prop)(s0 sB:St)(J:Jt)(q:List Int)(S:Nat->Nat->Int->Int->Bool):Prop:=
 ∀{s},Grew s0 s->gK M sB s->∀{a b i k:Nat},q[a]? =some (i:Int)->q[b]? =some (k:Int)->i<J.N->k<J.N->∀(K:AV->St->Option (AV×St)),aq c .callV [sv,.int .i64 (a:Int),.int .i64 (b:Int)] s K=K (.bool (S a b (i:Int) (k:Int))) s
section
variable{c:aj}{fv:AV}{s0 sB:St}{I:St->List Ev->Prop}{M:St->Pos->Prop}{s:St}{l:List Ev}{vb jb:Pos}{j:Jc}{J:Jt}{P G:AV}{q g:List Int}
def prP(J:Jt)(S:Nat->Nat->Int->Int->Bool)(a b:Nat)(x y:Int):Bool:=decide (yD J y=yD J x)&&S a b x y
theorem anf{a b:Nat}{x y:Int}(ha:q[a]? =some x)(hb:q[b]? =some y)(P:Nat->Nat->Int->Int->Bool):uw (qF q) P a b=tU (decide (0<=x)&&decide (0<=y)&&P a b x y) 1 [(a:Int),(b:Int)]:=by
 unfold uw on;rw[nH ha,nH hb]
theorem ahg(P:Nat->Nat->Int->Int->Bool)(a b:Nat):fu (uw (qF q) P a b)<=3:=Gv _ _ _
theorem ap5(H:ki c fv s0 I M)(V:Vw s0 vb jb j J P G q g){sv:AV}{S:Nat->Nat->Int->Int->Bool}(hS:SoC c sv M s0 sB J q S){a i:Nat}(ha:q[a]? =some (i:Int))(hi:i<J.N)(x5 x15 x16 x17:AV)(F:Nat):
  ∀(m b f:Nat)(s:St)(l:List Ev),b+m=q.length->m<f->I s l->gK M sB s->fu l+3*m<=1000000->∃s',I s' (l++bX (uw (qF q) (prP J S) a) m b)/\gK M sB s'/\
   ∀k4,ij c F k4 f [.ptr vb 0,sv,fv,x5,.int .i64 (a:Int),.int .i64 (i:Int),.int .i64 (b:Int),x15,x16,x17] s=k4 [.ptr vb 0,sv,fv,x5,x15,x16,x17] s':=by
 intro m;induction m with
 |zero=>
  intro b f s l hb hf hI hF hB;obtain⟨f,rfl⟩:∃g,f=g+1:=⟨f - 1,by omega⟩
  have V1:=V.ai (H.ai hI);have vc:=V1.vc;have ln:=λ(K:AV->St->Option (AV×St))=>V1.pq.lenB (c:=c) K s
  rw[Za5]at ln;refine⟨s,by simpa [bX]using hI,hF,λk4=> ?_⟩;obtain rfl:b=q.length:=by omega
  rw[mL];simp[vc,ln]
 |succ m ih=>
  intro b f s l hb hf hI hF hB;obtain⟨f,rfl⟩:∃g,f=g+1:=⟨f - 1,by omega⟩
  have V1:=V.ai (H.ai hI);have vc:=V1.vc;have jc:=V1.jw.nk;have ln:=λ(K:AV->St->Option (AV×St))=>V1.pq.lenB (c:=c) K s
  rw[Za5]at ln;have xH:b<q.length:=by omega
  obtain⟨y,hy⟩:∃y,q[b]? =some y:=⟨_,H0 xH⟩
  obtain⟨pb,po,p⟩:=rq V1.pq hy;have p1:=λ{R}=>@p.st R
  have p3:=p.one;have hN:=V1.K9;have pI:=V.ql;have wr:ax .i64 ((b:Int)+1)=((b+1:Nat):Int):=wrap64 (by omega) (by omega)
  have step:∃s2,I s2 (l++uw (qF q) (prP J S) a b)/\gK M sB s2/\∀k4,ij c F k4 (f+1) [.ptr vb 0,sv,fv,x5,.int .i64 (a:Int),.int .i64 (i:Int),.int .i64 (b:Int),x15,x16,x17] s=
        ij c F k4 f [.ptr vb 0,sv,fv,x5,.int .i64 (a:Int),.int .i64 (i:Int),.int .i64 ((b+1:Nat):Int),x15,x16,x17] s2:=by
   rw[anf ha hy];by_cases h0:0<=y
   .    obtain⟨k,rfl,hk⟩:=V1.kB hy h0;obtain⟨tb,to,t⟩:=V1.rT hi;obtain⟨ub,uo,u⟩:=V1.rT hk;have t1:=λ{R}=>@t.pr R
        have t3:=t.one;have u1:=λ{R}=>@u.pr R
        have u3:=u.one;unfold prP yD;simp only[Zd0];by_cases ht:bQ J.p.ts k=bQ J.p.ts i
        . have so:=hS (H.ai hI) hF ha hy hi hk;generalize S a b (i:Int) (k:Int)=e at*
          cases e
          .refine⟨s,by simpa [ht,eu]using hI,hF,λk4=> ?_⟩;rw[mL];simp[-au,dw,xH,vc,ln,jc,p1,p3,t1,t3,u1,u3,ht,so,wr]
          .obtain⟨s2,v2,e1,e2,e3⟩:=H.RV hI (by omega) a b;refine⟨s2,by simpa [ht,qQ]using e2,hF.trans e3,λk4=> ?_⟩;rw[mL];simp[-au,dw,xH,vc,ln,jc,p1,p3,t1,t3,u1,u3,ht,so,wr,e1]
        .have d1:decide (((bQ J.p.ts k:Nat):Int)=((bQ J.p.ts i:Nat):Int))=false:=Za2 (by omega);refine⟨s,by simpa [ht,eu]using hI,hF,λk4=> ?_⟩;rw[mL];simp[-au,dw,xH,vc,ln,jc,p1,p3,t1,t3,u1,u3,d1,wr]
   .    refine⟨s,by simpa [h0,eu]using hI,hF,λk4=> ?_⟩;rw[mL];simp[-au,dw,xH,vc,ln,jc,p1,p3,h0,wr]
  obtain⟨s2,a1,a2,a3⟩:=step;have ri:=ahg (q:=q) (prP J S) a b;obtain⟨s',z1,z2,z3⟩:=ih (b+1) f s2 _ (by omega) (by omega) a1 a2 (by rw[Kt];omega);exact⟨s',by rw[bX, <-Zf7];exact z1,z2,λk4=>by rw[a3,z3]⟩
def qU(J:Jt)(r:Rl)(S:Nat->Nat->Int->Int->Bool)(a b:Nat)(x y:Int):Bool:=qD J.p.ts r.t x.toNat&&prP J S a b x y
theorem Wm(P:Nat->Nat->Int->Int->Bool)(a:Nat):∀m k,fu (bX (uw (qF q) P a) m k)<=3*m:=λm k=>by have:=Aq (f:=uw (qF q) P a) (B:=3) (λk=>ahg P a k) m k;omega
theorem ap6(hc:bH c)(H:ki c fv s0 I M)(V:Vw s0 vb jb j J P G q g){sv:AV}{S:Nat->Nat->Int->Int->Bool}(hS:SoC c sv M s0 sB J q S){r:Rl}{rb:Pos}(hr:sB.heap.get rb=some (.cells r.cells 0))(sQ:¬M sB rb)(F:Nat)(hFu:q.length<F):
  ∀(m a f:Nat)(s:St)(l:List Ev),a+m=q.length->m<f->I s l->gK M sB s->fu l+3*q.length*m<=1000000->∃s',I s' (l++bX (λa=>bX (uw (qF q) (qU J r S) a) (q.length - (a+1)) (a+1)) m a)/\gK M sB s'/\
   ∀k2,jy c F k2 f [.ptr vb 0,sv,fv,.ptr rb 0,P,.int .i64 (q.length:Int),.int .i64 (a:Int)] s=k2 [] s':=by
 intro m;induction m with
 |zero=>
  intro a f s l hb hf hI hF hB;obtain⟨f,rfl⟩:∃g,f=g+1:=⟨f - 1,by omega⟩
  refine⟨s,by simpa [bX]using hI,hF,λk2=> ?_⟩;obtain rfl:a=q.length:=by omega
  rw[p7];simp
 |succ m ih=>
  intro a f s l hb hf hI hF hB;obtain⟨f,rfl⟩:∃g,f=g+1:=⟨f - 1,by omega⟩
  have V1:=V.ai (H.ai hI);have vc:=V1.vc;have oC:a<q.length:=by omega
  obtain⟨y,hy⟩:∃y,q[a]? =some y:=⟨_,H0 oC⟩
  obtain⟨pb,po,p⟩:=rq V1.pq hy;have p1:=λ{R}=>@p.st R
  have p3:=p.one;have hN:=V1.K9;have pI:=V.ql;have eZ:=(hF.2.2 rb _ sQ hr).1;have wr:ax .i64 ((a:Int)+1)=((a+1:Nat):Int):=wrap64 (by omega) (by omega);rw[Nat.mul_succ]at hB;have fp:=ajX (qF q) (λx=>qD J.p.ts r.t x.toNat) (prP J S) a (q.length - (a+1)) (a+1);have fp:bX (uw (qF q) (qU J r S) a) (q.length - (a+1)) (a+1)=_:=fp;have e0:on (qF q) a=decide (0<=y):=by unfold on;rw[nH hy]
  rw[e0,nH hy]at fp
  have step:∃s2,I s2 (l++bX (uw (qF q) (qU J r S) a) (q.length - (a+1)) (a+1))/\gK M sB s2/\∀k2,jy c F k2 (f+1) [.ptr vb 0,sv,fv,.ptr rb 0,P,.int .i64 (q.length:Int),.int .i64 (a:Int)] s=
        jy c F k2 f [.ptr vb 0,sv,fv,.ptr rb 0,P,.int .i64 (q.length:Int),.int .i64 ((a+1:Nat):Int)] s2:=by
   rw[fp];by_cases h0:0<=y
   .    obtain⟨i,rfl,hi⟩:=V1.kB hy h0;have dn:decide ((i:Int)<0)=false:=Za2 (by omega);have ak:=Gx hc V1 r hi;simp only[Zd0,Za0 h0,Zg5];generalize qD J.p.ts r.t i=e at*
        cases e
        .refine⟨s,by simpa using hI,hF,λk2=> ?_⟩;rw[p7];simp[-au,dw,oC,p1,p3,dn,eZ,ak,wr]
        .obtain⟨s2,z1,z2,z3⟩:=ap5 (c:=c) H V hS hy hi (.ptr rb 0) P (.int .i64 (q.length:Int)) (.int .i64 (a:Int)) F (q.length - (a+1)) (a+1) F s l (by omega) (by omega) hI hF (by have:=Zl9 3 (show q.length - (a+1)<=q.length by omega);omega);refine⟨s2,by simpa using z1,z2,λk2=> ?_⟩;simp only[show((a+1:Nat):Int)=(a:Int)+1 by omega]at z3 wr ⊢;rw[p7];simp[-au,dw,oC,p1,p3,dn,eZ,ak,wr,z3]
   .    have dn:decide (y<0)=true:=Za0 (by omega);refine⟨s,by simpa [h0]using hI,hF,λk2=> ?_⟩;rw[p7];simp[-au,dw,oC,p1,p3,dn,wr]
  obtain⟨s2,a1,a2,a3⟩:=step;have ri:=Wm (q:=q) (qU J r S) a (q.length - (a+1)) (a+1);obtain⟨s',z1,z2,z3⟩:=ih (a+1) f s2 _ (by omega) (by omega) a1 a2 (by rw[Kt];have:=Zl9 3 (show q.length - (a+1)<=q.length by omega);omega);exact⟨s',by rw[bX, <-Zf7];exact z1,z2,λk2=>by rw[a3,z3]⟩
theorem RY(hc:bH c)(H:ki c fv s0 I M)(V:Vw s0 vb jb j J P G q g){sv:AV}{S:Nat->Nat->Int->Int->Bool}(hS:SoC c sv M s0 s J q S)(r:Rl)(hI:I s l)(hB:fu l+3*q.length*q.length<=1000000):
  ∃s',c 164 [.ptr vb 0,.agg r.cells,sv,fv] s=some (.tuple [],s')/\I s' (l++ux (qF q) q.length (qU J r S)):=by
 refine H.fin hI (λh=>Uz hc (q.length+1) h) ?_;have hw:=(H.ai hI).wf;have gr:=Grew.ah hw (.cells r.cells 0);have dF:=H.grow hI gr;have V1:=V.ai (H.ai dF);have hF:=H.fr hI gr;have zz:SoC c sv M s0 (ah s (.cells r.cells 0)) J q S:=λ{s2} g1 g2=>hS g1 (hF.trans g2)
 have sQ:¬M (ah s (.cells r.cells 0)) s.next:=λh=>by have:=H.mlt hI (H.l9 hI gr h);omega
 have vc:=V1.vc;have ln:=λ(K:AV->St->Option (AV×St))=>V1.pq.lenB (c:=c) K (ah s (.cells r.cells 0))
 rw[Za5]at ln;obtain⟨s',z1,z2,z3⟩:=ap6 (c:=c) hc H V zz (aA s (.cells r.cells 0)) sQ (q.length+1) (by omega) q.length 0 (q.length+1) _ l (by omega) (by omega) dF (gK.refl V1.wf) hB;refine⟨s',?_,z1⟩;rw[YM,dy,show AV.cells (.agg r.cells)=r.cells from rfl];have z3:=z3 (λvs s=>mo vs (some (.tuple [],s)));simp only[az,cE,aT,Zb9,aY,vc,aG,Zb1,Za4,Zb6,aW,ln];rw[show(0:Int)=((0:Nat):Int)from rfl,z3];rfl
end
def afY(J:Jt)(a:Nat):Int:=match J.p.gs[a]? with|some g=>g.side|none=>0
def ab9(J:Jt)(a:Nat):List Nat:=match J.p.gs[a]? with|some g=>g.kj|none=>[]
def La(J:Jt)(a b:Nat):Int:=(J.jL.getD a []).getD b 0
def rH(J:Jt)(a:Nat):Int:=J.p.cs.getD a 0
def aaR(J:Jt)(a b:Nat)(x y:Int):Bool:=decide (0<afY J a)&&decide (afY J a=afY J b)&&(oh J.p.ts x.toNat).contains y
def aaS(J:Jt)(a b:Nat)(x y:Int):Bool:= !decide (ab9 J a=[])&&decide (ab9 J a=ab9 J b)&&(oh J.p.ts x.toNat).contains y
def Lb(J:Jt)(a b:Nat)(x y:Int):Bool:=decide (La J a b=2)&&Yo J.p.ts x.toNat y
def ahh(J:Jt)(x:Int):Int:=H9 J.p.ts x
def Wn(J:Jt)(a b:Nat)(x y:Int):Bool:=if rH J b<rH J a then decide (rH J b<rH J a)&&decide (ahh J x<ahh J y)else decide (rH J a<rH J b)&&decide (ahh J y<ahh J x)
section
variable{c:aj}{fv:AV}{s0 sB:St}{I:St->List Ev->Prop}{M:St->Pos->Prop}{s:St}{l:List Ev}{vb jb:Pos}{j:Jc}{J:Jt}{P G:AV}{q g:List Int}
theorem Vw.qy(V:Vw s vb jb j J P G q g){a:Nat}{x:Int}(ha:q[a]? =some x):∃A v b o,J.p.gs[a]? =some A/\Rd s 9 j.V2 a b o (A.av v):=by
 have h:a<J.p.gs.length:=by have:=V.ql;unfold Jt.n at this;rw[<-this];exact(Za1.1 ha).1
 obtain⟨v,b,o,h1⟩:=V.rG (H0 h);exact⟨_,v,b,o,H0 h,h1⟩
theorem aff(hc:bH c)(V:Vw s vb jb j J P G q g){vp:Pos}(hv:s.heap.get vp=some (.cells [.ptr vb 0] 0)){a b i:Nat}{y:Int}(ha:q[a]? =some (i:Int))(hb:q[b]? =some y)(hi:i<J.N):
   c 165 [.int .i64 (a:Int),.int .i64 (b:Int),.ptr vp 0] s=some (.bool (aaR J a b (i:Int) y),s):=by
 rw[J8 hc 1 (r:=(.bool (aaR J a b (i:Int) y),s)),aF (Plain.bool _) (aX.refl s)];rw[Mx];have vc:=V.vc;have jc:=V.jw.nk;obtain⟨A,v,ab,ao,hA,h1⟩:=V.qy ha;obtain⟨B,v',bb,bo,hB,h2⟩:=V.qy hb;have r1:=λ{R}=>@h1.pr R
 have r2:=h1.at' 4 _ rfl;have r3:=λ{R}=>@h2.pr R
 have r4:=h2.at' 4 _ rfl;obtain⟨w,wb,wo,h3,h4⟩:=V.rB hi;have cl:=FF hc V h3 h4 (Ku _ _).1 ha hb;unfold aaR afY;rw[hA,hB];simp only[Zd0];generalize (oh J.p.ts i).contains y=e at*
 by_cases d1:0<A.side
 . by_cases d2:A.side=B.side
   .have Gy:0<B.side:=(by rw[<-d2];exact d1);simp[hv,vc,jc,r1,r2,r3,r4,d1,Gy,d2,cl]
   .have Lc:decide (A.side=B.side)=false:=Za2 d2;simp[hv,vc,jc,r1,r2,r3,r4,d1,Lc]
 .have Gy:decide (0<A.side)=false:=Za2 d1;simp[hv,vc,jc,r1,r2,r3,r4,Gy]
theorem asy(hc:bH c)(V:Vw s vb jb j J P G q g){vp:Pos}(hv:s.heap.get vp=some (.cells [.ptr vb 0] 0)){a b i:Nat}{y:Int}(ha:q[a]? =some (i:Int))(hb:q[b]? =some y)(hi:i<J.N):
   c 174 [.int .i64 (a:Int),.int .i64 (b:Int),.ptr vp 0] s=some (.bool (aaS J a b (i:Int) y),s):=by
 rw[UA hc 1 (r:=(.bool (aaS J a b (i:Int) y),s)),aF (Plain.bool _) (aX.refl s)];rw[YN];have vc:=V.vc;have jc:=V.jw.nk;obtain⟨A,v,ab,ao,hA,h1⟩:=V.qy ha;obtain⟨B,v',bb,bo,hB,h2⟩:=V.qy hb;have r1:=λ{R}=>@h1.pr R
 have r2:=h1.at' 2 _ rfl;have r3:=λ{R}=>@h2.pr R
 have r4:=h2.at' 2 _ rfl;obtain⟨w,wb,wo,h3,h4⟩:=V.rB hi;have cl:=FF hc V h3 h4 (Ku _ _).1 ha hb;unfold aaS ab9;rw[hA,hB];simp only[Zd0];generalize (oh J.p.ts i).contains y=e at*
 by_cases d1:A.kj=[]
 .have Gy:decide (A.kj=[])=true:=Za0 d1;simp[hv,vc,jc,r1,r2,r3,r4,Gy]
 . have Gy:decide (A.kj=[])=false:=Za2 d1;by_cases d2:A.kj=B.kj
   .have Lc:decide (A.kj=B.kj)=true:=Za0 d2;simp[hv,vc,jc,r1,r2,r3,r4,Gy,Lc,cl]
   .have Lc:decide (A.kj=B.kj)=false:=Za2 d2;simp[hv,vc,jc,r1,r2,r3,r4,Gy,Lc]
theorem Vw.tie(V:Vw s vb jb j J P G q g){a b:Nat}{x y:Int}(ha:q[a]? =some x)(hb:q[b]? =some y):∃w p o p2 o2,Rd s 1 j.L7 a p o [w]/\Rd s 1 w b p2 o2 [.int .u8 (La J a b)]:=by
 have h1:a<J.jL.length:=by rw[V.jw.n2, <-V.ql];exact(Za1.1 ha).1
 have h2:b<J.jL[a].length:=by rw[V.jw.n4 _ (Zb8 h1), <-V.ql];exact(Za1.1 hb).1
 have e:La J a b=J.jL[a][b]:=by
  unfold La;rw[Za8,Za8,H0 h1,Ze8,H0 h2,Ze8]
 rw[e];exact V.rK (H0 h1) (H0 h2)
theorem ang(hc:bH c)(V:Vw s vb jb j J P G q g){vp:Pos}(hv:s.heap.get vp=some (.cells [.ptr vb 0] 0)){a b i:Nat}{y:Int}(ha:q[a]? =some (i:Int))(hb:q[b]? =some y)(hi:i<J.N):
   c 169 [.int .i64 (a:Int),.int .i64 (b:Int),.ptr vp 0] s=some (.bool (Lb J a b (i:Int) y),s):=by
 rw[PC hc 1 (r:=(.bool (Lb J a b (i:Int) y),s)),aF (Plain.bool _) (aX.refl s)];rw[UB];have vc:=V.vc;have jc:=V.jw.nk;obtain⟨w,p,o,p2,o2,h1,h2⟩:=V.tie ha hb;have r1:=λ{R}=>@h1.st R
 have r2:=h1.one;have r3:=λ{R}=>@h2.st R
 have r4:=h2.one;have nr:=aeG hc V ha hi hb;unfold Lb;simp only[Zd0];by_cases d1:La J a b=2
 .have Gy:decide (La J a b=2)=true:=Za0 d1;simp[hv,vc,jc,r1,r2,r3,r4,Gy,nr]
 .have Gy:decide (La J a b=2)=false:=Za2 d1;simp[hv,vc,jc,r1,r2,r3,r4,Gy]
theorem Vw.cls(V:Vw s vb jb j J P G q g)(eW:J.p.cs.length=q.length){a:Nat}{x:Int}(ha:q[a]? =some x):∃b o,Rd s 1 j.V4 a b o [.int .i64 (rH J a)]:=by
 have h1:a<J.p.cs.length:=by rw[eW];exact(Za1.1 ha).1
 refine rq V.jw.cls (i:=a) ?_;unfold rH;rw[Za8,H0 h1];rfl
theorem ala(hc:bH c)(V:Vw s vb jb j J P G q g)(eW:J.p.cs.length=q.length){vp:Pos}(hv:s.heap.get vp=some (.cells [.ptr vb 0] 0)){a b i k:Nat}(ha:q[a]? =some (i:Int))(hb:q[b]? =some (k:Int))(hi:i<J.N)(hk:k<J.N):
   c 171 [.int .i64 (a:Int),.int .i64 (b:Int),.ptr vp 0] s=some (.bool (Wn J a b (i:Int) (k:Int)),s):=by
 rw[NY hc 1 (r:=(.bool (Wn J a b (i:Int) (k:Int)),s)),aF (Plain.bool _) (aX.refl s)];rw[RZ];have vc:=V.vc;have jc:=V.jw.nk;obtain⟨ab,ao,h1⟩:=V.cls eW ha;obtain⟨bb,bo,h2⟩:=V.cls eW hb;have r1:=λ{R}=>@h1.pr R
 have r2:=h1.one;have r3:=λ{R}=>@h2.pr R
 have r4:=h2.one;obtain⟨pb,po,p⟩:=rq V.pq ha;obtain⟨qb,qo,p'⟩:=rq V.pq hb;have p1:=λ{R}=>@p.pr R
 have p3:=p.one;have p4:=λ{R}=>@p'.pr R
 have p6:=p'.one;obtain⟨tb,to,t⟩:=V.rL hi;obtain⟨ub,uo,u⟩:=V.rL hk;have t1:=λ{R}=>@t.pr R
 have t3:=t.one;have u1:=λ{R}=>@u.pr R
 have u3:=u.one;unfold Wn ahh;by_cases d1:rH J b<rH J a
 .rw[Zb4 d1];have Gy:decide (rH J b<rH J a)=true:=Za0 d1;simp[dw,hv,vc,jc,r1,r2,r3,r4,p1,p3,p4,p6,t1,t3,u1,u3,Gy]
 . rw[Za6 d1];have Gy:decide (rH J b<rH J a)=false:=Za2 d1;by_cases d2:rH J a<rH J b
   .have Lc:decide (rH J a<rH J b)=true:=Za0 d2;simp[dw,hv,vc,jc,r1,r2,r3,r4,p1,p3,p4,p6,t1,t3,u1,u3,Gy,Lc]
   .have Lc:decide (rH J a<rH J b)=false:=Za2 d2;simp[dw,hv,vc,jc,r1,r2,r3,r4,p1,p3,p4,p6,t1,t3,u1,u3,Gy,Lc]
theorem acd(V:Vw s0 vb jb j J P G q g){f:FuncId}{vp:Pos}{S:Nat->Nat->Int->Int->Bool}(hv:sB.heap.get vp=some (.cells [.ptr vb 0] 0))(hM:¬M sB vp)
  (dD:∀{s},Vw s vb jb j J P G q g->s.heap.get vp=some (.cells [.ptr vb 0] 0)->∀{a b i k:Nat},q[a]? =some (i:Int)->q[b]? =some (k:Int)->i<J.N->k<J.N->c f [.int .i64 (a:Int),.int .i64 (b:Int),.ptr vp 0] s=some (.bool (S a b (i:Int) (k:Int)),s)):
  SoC c (.func f [] [.ptr vp 0]) M s0 sB J q S:=λ{s} g1 hF {a b i k} ha hb hi hk K=>by
 rw[gI];simp only[Ze0,Zd7];rw[dD (V.ai g1) (hF.2.2 vp _ hM hv).1 ha hb hi hk];rfl
theorem asz{q:Nat->Int}{P:Nat->Nat->Int->Int->Bool}(h:∀a b x y,P a b x y=false)(n:Nat):ux q n P=[]:=by
 have h1:∀a m k,bX (uw q P a) m k=[]:=λa m=>by
  induction m with
  |zero=>intro k;rfl
  |succ m ih=>intro k;rw[bX,ih (k+1)];unfold uw;rw[h];simp[tU]
 have h2:∀m k,bX (λa=>bX (uw q P a) (n - (a+1)) (a+1)) m k=[]:=λm=>by
  induction m with
  |zero=>intro k;rfl
  |succ m ih=>intro k;rw[bX,ih (k+1),h1];rfl
 exact h2 _ _
theorem afg(hc:bH c)(H:ki c fv s0 I M)(V:Vw s0 vb jb j J P G q g)(r:Rl)(hI:I s l)(hB:fu l+3*q.length*q.length<=1000000):
  ∃s',c 97 [.ptr vb 0,.agg r.cells,fv] s=some (.tuple [],s')/\I s' (l++ux (qF q) q.length (qU J r (aaR J))):=by
 refine H.fin hI (λh=>My hc 1 h) ?_;have hw:=(H.ai hI).wf;have g1:=Grew.ah hw (.cells [.ptr vb 0] 0);have dF:=H.grow hI g1;have g2:=Grew.ah g1.wf (.cells r.cells 0);have tV:=H.grow dF g2;have b1:=g2.get (aA s (.cells [.ptr vb 0] 0));have b2:=aA (ah s (.cells [.ptr vb 0] 0)) (.cells r.cells 0);have hM:¬M (ah (ah s (.cells [.ptr vb 0] 0)) (.cells r.cells 0)) s.next:=λh=>by have:=H.mlt hI (H.l9 hI g1 (H.l9 dF g2 h));omega
 obtain⟨s',z1,z2⟩:=RY hc H V (acd (f:=165) (S:=aaR J) V b1 hM λ{s} V hv {a b i k} ha hb hi hk=>aff hc V hv ha hb hi) r tV hB;refine⟨s',?_,z2⟩;rw[PD];simp[show AV.cells (.agg r.cells)=r.cells from rfl,show AV.cells (.ptr vb 0)=[.ptr vb 0]from rfl,b1,b2,z1]
theorem asA(hc:bH c)(H:ki c fv s0 I M)(V:Vw s0 vb jb j J P G q g)(r:Rl)(hI:I s l)(hB:fu l+3*q.length*q.length<=1000000):
  ∃s',c 107 [.ptr vb 0,.agg r.cells,fv] s=some (.tuple [],s')/\I s' (l++ux (qF q) q.length (qU J r (aaS J))):=by
 refine H.fin hI (λh=>YO hc 1 h) ?_;have hw:=(H.ai hI).wf;have g1:=Grew.ah hw (.cells [.ptr vb 0] 0);have dF:=H.grow hI g1;have g2:=Grew.ah g1.wf (.cells r.cells 0);have tV:=H.grow dF g2;have b1:=g2.get (aA s (.cells [.ptr vb 0] 0));have b2:=aA (ah s (.cells [.ptr vb 0] 0)) (.cells r.cells 0);have hM:¬M (ah (ah s (.cells [.ptr vb 0] 0)) (.cells r.cells 0)) s.next:=λh=>by have:=H.mlt hI (H.l9 hI g1 (H.l9 dF g2 h));omega
 obtain⟨s',z1,z2⟩:=RY hc H V (acd (f:=174) (S:=aaS J) V b1 hM λ{s} V hv {a b i k} ha hb hi hk=>asy hc V hv ha hb hi) r tV hB;refine⟨s',?_,z2⟩;rw[ace];simp[show AV.cells (.agg r.cells)=r.cells from rfl,show AV.cells (.ptr vb 0)=[.ptr vb 0]from rfl,b1,b2,z1]
theorem anh(hc:bH c)(H:ki c fv s0 I M)(V:Vw s0 vb jb j J P G q g)(r:Rl)(hI:I s l)(hB:fu l+3*q.length*q.length<=1000000):
  ∃s',c 101 [.ptr vb 0,.agg r.cells,fv] s=some (.tuple [],s')/\I s' (l++ux (qF q) q.length (qU J r (Lb J))):=by
 refine H.fin hI (λh=>UC hc 1 h) ?_;have hw:=(H.ai hI).wf;have g1:=Grew.ah hw (.cells [.ptr vb 0] 0);have dF:=H.grow hI g1;have g2:=Grew.ah g1.wf (.cells r.cells 0);have tV:=H.grow dF g2;have b1:=g2.get (aA s (.cells [.ptr vb 0] 0));have b2:=aA (ah s (.cells [.ptr vb 0] 0)) (.cells r.cells 0);have hM:¬M (ah (ah s (.cells [.ptr vb 0] 0)) (.cells r.cells 0)) s.next:=λh=>by have:=H.mlt hI (H.l9 hI g1 (H.l9 dF g2 h));omega
 obtain⟨s',z1,z2⟩:=RY hc H V (acd (f:=169) (S:=Lb J) V b1 hM λ{s} V hv {a b i k} ha hb hi hk=>ang hc V hv ha hb hi) r tV hB;refine⟨s',?_,z2⟩;rw[YP];simp[show AV.cells (.agg r.cells)=r.cells from rfl,show AV.cells (.ptr vb 0)=[.ptr vb 0]from rfl,b1,b2,z1]
theorem alb(hc:bH c)(H:ki c fv s0 I M)(V:Vw s0 vb jb j J P G q g)(eW:J.p.cs.length=q.length\/J.p.cs.length=0)(r:Rl)(hI:I s l)(hB:fu l+3*q.length*q.length<=1000000):
   ∃s',c 103 [.ptr vb 0,.agg r.cells,fv] s=some (.tuple [],s')/\I s' (l++ux (qF q) q.length (qU J r (Wn J))):=by
 refine H.fin hI (λh=>R4 hc 1 h) ?_;have hw:=(H.ai hI).wf;have g1:=Grew.ah hw (.cells [.ptr vb 0] 0);have dF:=H.grow hI g1;have g2:=Grew.ah g1.wf (.cells r.cells 0);have tV:=H.grow dF g2;have b1:=g2.get (aA s (.cells [.ptr vb 0] 0));have b2:=aA (ah s (.cells [.ptr vb 0] 0)) (.cells r.cells 0);have hM:¬M (ah (ah s (.cells [.ptr vb 0] 0)) (.cells r.cells 0)) s.next:=λh=>by have:=H.mlt hI (H.l9 hI g1 (H.l9 dF g2 h));omega
 have V2:=V.ai (H.ai tV);have vc:=V2.vc;have jc:=V2.jw.nk;have ln:=λ(K:AV->St->Option (AV×St))(s:St)=>V2.jw.cls.lenB (c:=c) K s
 rw[Za5]at ln;by_cases h0:J.p.cs.length=0
 . refine⟨_,?_,by
    rw[asz,Ze1];· exact tV
    .   (intro a b x y;have e:∀a,rH J a=0:=λa=>by unfold rH;rw[Zc0 h0];rfl);unfold qU prP Wn;rw[e,e];simp⟩
   rw[Gz];simp[show AV.cells (.agg r.cells)=r.cells from rfl,show AV.cells (.ptr vb 0)=[.ptr vb 0]from rfl,b1,b2,vc,jc,ln,h0]
 .have h1:J.p.cs.length=q.length:=(by omega);obtain⟨s',z1,z2⟩:=RY hc H V (acd (f:=171) (S:=Wn J) V b1 hM λ{s} V hv {a b i k} ha hb hi hk=>ala hc V h1 hv ha hb hi hk) r tV hB;refine⟨s',?_,z2⟩;have d0:decide ((J.p.cs.length:Int)=0)=false:=Za2 (by omega);rw[Gz];simp only[dy,show AV.cells (.agg r.cells)=r.cells from rfl,show AV.cells (.ptr vb 0)=[.ptr vb 0]from rfl,aY,b1,b2,aG,Zb1,Za4,aW,cE,aT,Zb9,vc,jc,Jc.c3,ln,fN,d0,dQ,gW,Rl.cc,fC,Gb,az,cY,z1,cL]
end
def arM(J:Jt)(a:Nat):List Nat:=match J.p.gs[a]? with|some g=>g.name|none=>[]
def arN(J:Jt)(a:Nat):List Nat:=match J.p.gs[a]? with|some g=>g.nD|none=>[]
def gAcc(J:Jt)(a:Nat):Bool:=match J.p.gs[a]? with|some g=>g.access|none=>false
def R5(J:Jt)(r:Rl)(a b:Nat)(x y:Int):Bool:=decide (La J a b=1)&&(qD J.p.ts r.t x.toNat||qD J.p.ts r.t y.toNat)&& !Yo J.p.ts x.toNat y
def ady(J:Jt)(r:Rl)(a:Nat)(x:Int):Bool:= !NU J.p.ts x&&(decide (r.a=arM J a)||(decide (r.a=[])&&gAcc J a))
def adz(J:Jt)(r:Rl)(a:Nat)(x:Int):Bool:=decide (arN J a=r.a)&& !qD J.p.ts r.t x.toNat
section
variable{c:aj}{fv:AV}{s0 sB:St}{I:St->List Ev->Prop}{M:St->Pos->Prop}{s:St}{l:List Ev}{vb jb:Pos}{j:Jc}{J:Jt}{P G:AV}{q g:List Int}
theorem alc (hc:bH c)(H:ki c fv s0 I M)(V:Vw s0 vb jb j J P G q g){r:Rl}{rb:Pos}(hr:sB.heap.get rb=some (.cells r.cells 0))(sQ:¬M sB rb){a:Nat}{x:Int}(ha:q[a]? =some x)(x13 x14 x15:AV)(F:Nat):
  ∀(m b f:Nat)(s:St)(l:List Ev),b+m=q.length->m<f->I s l->gK M sB s->fu l+3*m<=1000000->∃s',I s' (l++bX (uw (qF q) (R5 J r) a) m b)/\gK M sB s'/\
   ∀k4,fU c F k4 f [.ptr vb 0,fv,.ptr rb 0,.int .i64 (a:Int),.int .i64 x,.int .i64 (b:Int),x13,x14,x15] s=k4 [.ptr vb 0,fv,.ptr rb 0,x13,x14,x15] s':=by
 intro m;induction m with
 |zero=>
  intro b f s l hb hf hI hF hB;obtain⟨f,rfl⟩:∃g,f=g+1:=⟨f - 1,by omega⟩
  have V1:=V.ai (H.ai hI);have vc:=V1.vc;have ln:=λ(K:AV->St->Option (AV×St))=>V1.pq.lenB (c:=c) K s
  rw[Za5]at ln;refine⟨s,by simpa [bX]using hI,hF,λk4=> ?_⟩;obtain rfl:b=q.length:=by omega
  rw[iJ];simp[vc,ln]
 |succ m ih  =>
  intro b f s l hb hf hI hF hB;obtain⟨f,rfl⟩:∃g,f=g+1:=⟨f - 1,by omega⟩
  have V1:=V.ai (H.ai hI);have vc:=V1.vc;have jc:=V1.jw.nk;have ln:=λ(K:AV->St->Option (AV×St))=>V1.pq.lenB (c:=c) K s
  rw[Za5]at ln;have xH:b<q.length:=by omega
  obtain⟨y,hy⟩:∃y,q[b]? =some y:=⟨_,H0 xH⟩
  obtain⟨pb,po,p⟩:=rq V1.pq hy;have p1:=λ{R}=>@p.st R
  have p3:=p.one;have hN:=V1.K9;have pI:=V.ql;have eZ:=(hF.2.2 rb _ sQ hr).1;have wr:ax .i64 ((b:Int)+1)=((b+1:Nat):Int):=wrap64 (by omega) (by omega)
  have step  :∃s2,I s2 (l++uw (qF q) (R5 J r) a b)/\gK M sB s2/\∀k4,fU c F k4 (f+1) [.ptr vb 0,fv,.ptr rb 0,.int .i64 (a:Int),.int .i64 x,.int .i64 (b:Int),x13,x14,x15] s=
        fU c F k4 f [.ptr vb 0,fv,.ptr rb 0,.int .i64 (a:Int),.int .i64 x,.int .i64 ((b+1:Nat):Int),x13,x14,x15] s2:=by
   rw[anf ha hy];by_cases hx:0<=x
   .    by_cases h0:0<=y
        . obtain⟨i,rfl,hi⟩:=V1.kB ha hx;obtain⟨k,rfl,hk⟩:=V1.kB hy h0;obtain⟨w,tp,to,tp2,to2,h1,h2⟩:=V1.tie ha hy;have r1:=λ{R}=>@h1.st R
          have r2:=h1.one;have r3:=λ{R}=>@h2.st R
          have r4:=h2.one;have nr:=aeG hc V1 ha hi hy;have a1:=Gx hc V1 r hi;have a2:=Gx hc V1 r hk;unfold R5;simp only[Zd0];by_cases ht:La J a b=1
          . have dt:decide (La J a b=1)=true:=Za0 ht;generalize Yo J.p.ts i (k:Int)=e at*
            generalize qD J.p.ts r.t i=e1 at*
            generalize qD J.p.ts r.t k=e2 at*
            cases e1<;>cases e2<;>cases e
            case false.false.false|false.false.true|false.true.true|true.false.true|true.true.true=>
             refine⟨s,by simpa [eu]using hI,hF,λk4=> ?_⟩;rw[iJ];simp[-au,dw,xH,vc,ln,jc,p1,p3,r1,r2,r3,r4,dt,a1,a2,nr,eZ,wr]
            all_goals
             obtain⟨s2,v2,e1,e2,e3⟩:=H.RV hI (by omega) a b;refine⟨s2,by simpa [dt,qQ]using e2,hF.trans e3,λk4=> ?_⟩;rw[iJ];simp[-au,dw,xH,vc,ln,jc,p1,p3,r1,r2,r3,r4,dt,a1,a2,nr,eZ,wr,e1]
          .have dt:decide (La J a b=1)=false:=Za2 ht;refine⟨s,by simpa [ht,eu]using hI,hF,λk4=> ?_⟩;rw[iJ];simp[-au,dw,xH,vc,ln,jc,p1,p3,r1,r2,r3,r4,dt,wr]
        .refine⟨s,by simpa [h0,eu]using hI,hF,λk4=> ?_⟩;rw[iJ];simp[-au,dw,xH,vc,ln,jc,p1,p3,h0,hx,wr]
   .    refine⟨s,by simpa [hx,eu]using hI,hF,λk4=> ?_⟩;rw[iJ];simp[-au,dw,xH,vc,ln,jc,p1,p3,hx,wr]
  obtain⟨s2,a1,a2,a3⟩:=step;have ri:=ahg (q:=q) (R5 J r) a b;obtain⟨s',z1,z2,z3⟩:=ih (b+1) f s2 _ (by omega) (by omega) a1 a2 (by rw[Kt];omega);exact⟨s',by rw[bX, <-Zf7];exact z1,z2,λk4=>by rw[a3,z3]⟩
theorem ald(hc:bH c)(H:ki c fv s0 I M)(V:Vw s0 vb jb j J P G q g){r:Rl}{rb:Pos}(hr:sB.heap.get rb=some (.cells r.cells 0))(sQ:¬M sB rb)(F:Nat)(hFu:q.length<F):
  ∀(m a f:Nat)(s:St)(l:List Ev),a+m=q.length->m<f->I s l->gK M sB s->fu l+3*q.length*m<=1000000->∃s',I s' (l++bX (λa=>bX (uw (qF q) (R5 J r) a) (q.length - (a+1)) (a+1)) m a)/\gK M sB s'/\
   ∀k2,mM c F k2 f [.ptr vb 0,fv,.ptr rb 0,P,.int .i64 (q.length:Int),.int .i64 (a:Int)] s=k2 [] s':=by
 intro m;induction m with
 |zero=>
  intro a f s l hb hf hI hF hB;obtain⟨f,rfl⟩:∃g,f=g+1:=⟨f - 1,by omega⟩
  refine⟨s,by simpa [bX]using hI,hF,λk2=> ?_⟩;obtain rfl:a=q.length:=by omega
  rw[Ar];simp
 |succ m ih=>
  intro a f s l hb hf hI hF hB;obtain⟨f,rfl⟩:∃g,f=g+1:=⟨f - 1,by omega⟩
  have V1:=V.ai (H.ai hI);have oC:a<q.length:=by omega
  obtain⟨y,hy⟩:∃y,q[a]? =some y:=⟨_,H0 oC⟩
  obtain⟨pb,po,p⟩:=rq V1.pq hy;have p1:=λ{R}=>@p.st R
  have p3:=p.one;have hN:=V1.K9;have pI:=V.ql;have wr:ax .i64 ((a:Int)+1)=(a:Int)+1:=wrap64 (by omega) (by omega);rw[Nat.mul_succ]at hB;have b3:=Zl9 3 (show q.length - (a+1)<=q.length by omega);obtain⟨s2,z1,z2,z3⟩:=alc (c:=c) hc H V hr sQ hy P (.int .i64 (q.length:Int)) (.int .i64 (a:Int)) F (q.length - (a+1)) (a+1) F s l (by omega) (by omega) hI hF (by omega);simp only[show((a+1:Nat):Int)=(a:Int)+1 by omega]at z3;have ri:=Wm (q:=q) (R5 J r) a (q.length - (a+1)) (a+1);obtain⟨s',y1,y2,y3⟩:=ih (a+1) f s2 _ (by omega) (by omega) z1 z2 (by rw[Kt];omega);simp only[show((a+1:Nat):Int)=(a:Int)+1 by omega]at y3;refine⟨s',by rw[bX, <-Zf7];exact y1,y2,λk2=> ?_⟩;rw[<-y3 k2,Ar];simp[-au,oC,p1,p3,wr,z3]
theorem aiZ(hc:bH c)(H:ki c fv s0 I M)(V:Vw s0 vb jb j J P G q g)(r:Rl)(hI:I s l)(hB:fu l+3*q.length*q.length<=1000000):
  ∃s',c 102 [.ptr vb 0,.agg r.cells,fv] s=some (.tuple [],s')/\I s' (l++ux (qF q) q.length (R5 J r)):=by
 refine H.fin hI (λh=>PG hc (q.length+1) h) ?_;have hw:=(H.ai hI).wf;have gr:=Grew.ah hw (.cells r.cells 0);have dF:=H.grow hI gr;have V1:=V.ai (H.ai dF);have sQ:¬M (ah s (.cells r.cells 0)) s.next:=λh=>by have:=H.mlt hI (H.l9 hI gr h);omega
 have vc:=V1.vc;have ln:=λ(K:AV->St->Option (AV×St))=>V1.pq.lenB (c:=c) K (ah s (.cells r.cells 0))
 rw[Za5]at ln;obtain⟨s',z1,z2,z3⟩:=ald (c:=c) hc H V (aA s (.cells r.cells 0)) sQ (q.length+1) (by omega) q.length 0 (q.length+1) _ l (by omega) (by omega) dF (gK.refl V1.wf) hB;refine⟨s',?_,z1⟩;rw[UD,dy,show AV.cells (.agg r.cells)=r.cells from rfl];have z3:=z3 (λvs s=>mo vs (some (.tuple [],s)));simp only[az,cE,aT,Zb9,aY,vc,aG,Zb1,Za4,Zb6,aW,ln];rw[show(0:Int)=((0:Nat):Int)from rfl,z3];rfl
theorem ahi{a:Nat}{x:Int}(ha:q[a]? =some x)(P:Nat->Int->Bool):tU (on (qF q) a&&P a (qF q a)) 1 [(a:Int)]=tU (decide (0<=x)&&P a x) 1 [(a:Int)]:=by
 unfold on;rw[nH ha]
end
section
variable{c:aj}{fv:AV}{s0 sB:St}{I:St->List Ev->Prop}{M:St->Pos->Prop}{s:St}{l:List Ev}{vb jb:Pos}{j:Jc}{J:Jt}{P G:AV}{q g:List Int}
theorem Yq{E:Nat->List Ev}{B n:Nat}(hE:∀a,fu (E a)<=B)(L:Q2->Nat->List AV->St->Option (AV×St))(args:Nat->List AV)(hz:∀(k2:Q2)(f:Nat)(s:St),L k2 (f+1) (args n) s=k2 [] s)
  (hs:∀(a:Nat)(s:St)(l:List Ev),a<n->I s l->gK M sB s->fu l+B<=1000000->∃s2,I s2 (l++E a)/\gK M sB s2/\∀(k2:Q2)(f:Nat),L k2 (f+1) (args a) s=L k2 f (args (a+1)) s2):
  ∀(m a f:Nat)(s:St)(l:List Ev),a+m=n->m<f->I s l->gK M sB s->fu l+B*m<=1000000->∃s',I s' (l++bX E m a)/\gK M sB s'/\∀k2,L k2 f (args a) s=k2 [] s':=by
 intro m;induction m with
 |zero=>
  intro a f s l hb hf hI hF hB;obtain⟨f,rfl⟩:∃g,f=g+1:=⟨f - 1,by omega⟩
  obtain rfl:a=n:=by omega
  exact⟨s,by simpa [bX]using hI,hF,λk2=>hz k2 f s⟩
 |succ m ih=>
  intro a f s l hb hf hI hF hB;obtain⟨f,rfl⟩:∃g,f=g+1:=⟨f - 1,by omega⟩
  rw[Nat.mul_succ]at hB;obtain⟨s2,a1,a2,a3⟩:=hs a s l (by omega) hI hF (by omega);have:=hE a;obtain⟨s',z1,z2,z3⟩:=ih (a+1) f s2 _ (by omega) (by omega) a1 a2 (by rw[Kt];omega);exact⟨s',by rw[bX, <-Zf7];exact z1,z2,λk2=>by rw[a3,z3]⟩
def ZJ(q:List Int)(P:Nat->Int->Bool)(a:Nat):List Ev:=tU (on (qF q) a&&P a (qF q a)) 1 [(a:Int)]
theorem ahj(P:Nat->Int->Bool)(a:Nat):fu (ZJ q P a)<=2:=Gv _ _ _
abbrev kK(vb rb:Pos)(fv P:AV)(n a:Nat):List AV:=[.ptr vb 0,fv,.ptr rb 0,P,.int .i64 (n:Int),.int .i64 (a:Int)]
theorem ale(H:ki c fv s0 I M)(V:Vw s0 vb jb j J P G q g){r:Rl}{rb:Pos}(hr:sB.heap.get rb=some (.cells r.cells 0))(sQ:¬M sB rb)(F:Nat)(a:Nat)(s:St)(l:List Ev)(oC:a<q.length)(hI:I s l)(hF:gK M sB s)(hB:fu l+2<=1000000):
   ∃s2,I s2 (l++ZJ q (ady J r) a)/\gK M sB s2/\∀(k2:Q2)(f:Nat),jz c F k2 (f+1) (kK vb rb fv P q.length a) s=jz c F k2 f (kK vb rb fv P q.length (a+1)) s2:=by
 have V1:=V.ai (H.ai hI);have vc:=V1.vc;have jc:=V1.jw.nk;obtain⟨y,hy⟩:∃y,q[a]? =some y:=⟨_,H0 oC⟩
 obtain⟨pb,po,p⟩:=rq V1.pq hy;have p1:=λ{R}=>@p.st R
 have p3:=p.one;have hN:=V1.K9;have pI:=V.ql;have eZ:=(hF.2.2 rb _ sQ hr).1;have wr:ax .i64 ((a:Int)+1)=(a:Int)+1:=wrap64 (by omega) (by omega);unfold ZJ;rw[ahi hy];by_cases h0:0<=y
 . obtain ⟨ k,rfl,hk⟩:=V1.kB hy h0;obtain⟨ub,uo,u⟩:=V1.rO hk;have u1:=λ{R}=>@u.pr R
   have u3:=u.one;obtain⟨A,v,ab,ao,hA,h1⟩:=V1.qy hy;have r1:=λ{R}=>@h1.pr R
   have r2:=h1.at' 0 _ rfl;rw[Zf5]at r2;have r3:=h1.at' 7 _ rfl;unfold ady arM gAcc;rw[hA];simp only;generalize NU J.p.ts (k:Int)=o at*
   cases o
   . by_cases hn:r.a=A.name
     .  obtain⟨s2,v2,a1,a2,a3⟩:=H.Yp hI hB a;refine⟨s2,by simpa [hn,qQ]using a2,hF.trans a3,λk2 f=> ?_⟩;simp only[kK,show((a+1:Nat):Int)=(a:Int)+1 by omega];rw[iy];simp[-au,dw,oC,p1,p3,vc,jc,u1,u3,r1,r2,r3,eZ,hn,a1,wr]
     .  have GF:decide (r.a=A.name)=false:=Za2 hn;by_cases he:r.a=[]
        . have OU:decide (r.a=[])=true:=Za0 he;cases hac:A.access
          .refine⟨s,by simpa [hn,hac,eu]using hI,hF,λk2 f=> ?_⟩;rw[hac]at r3;simp only[kK,show((a+1:Nat):Int)=(a:Int)+1 by omega];rw[iy];simp[-au,dw,oC,p1,p3,vc,jc,u1,u3,r1,r2,r3,eZ,GF,OU,wr]
          .obtain⟨s2,v2,a1,a2,a3⟩:=H.Yp hI hB a;rw[hac]at r3;refine⟨s2,by simpa [he,hac,qQ]using a2,hF.trans a3,λk2 f=> ?_⟩;simp only[kK,show((a+1:Nat):Int)=(a:Int)+1 by omega];rw[iy];simp[-au,dw,oC,p1,p3,vc,jc,u1,u3,r1,r2,r3,eZ,GF,OU,a1,wr]
        .have OU:decide (r.a=[])=false:=Za2 he;refine⟨s,by simpa [hn,he,eu]using hI,hF,λk2 f=> ?_⟩;simp only[kK,show((a+1:Nat):Int)=(a:Int)+1 by omega];rw[iy];simp[-au,dw,oC,p1,p3,vc,jc,u1,u3,r1,r2,r3,eZ,GF,OU,wr]
   .refine⟨s,by simpa [eu]using hI,hF,λk2 f=> ?_⟩;simp only[kK,show((a+1:Nat):Int)=(a:Int)+1 by omega];rw[iy];simp[-au,dw,oC,p1,p3,vc,jc,u1,u3,wr]
 .refine⟨s,by simpa [h0,eu]using hI,hF,λk2 f=> ?_⟩;simp only[kK,show((a+1:Nat):Int)=(a:Int)+1 by omega];rw[iy];simp[-au,dw,oC,p1,p3,h0,wr]
theorem ahk(hc:bH c)(H:ki c fv s0 I M)(V:Vw s0 vb jb j J P G q g){r:Rl}{rb:Pos}(hr:sB.heap.get rb=some (.cells r.cells 0))(sQ:¬M sB rb)(F:Nat)(a:Nat)(s:St)(l:List Ev)(oC:a<q.length)(hI:I s l)(hF:gK M sB s)(hB:fu l+2<=1000000):
   ∃s2,I s2 (l++ZJ q (adz J r) a)/\gK M sB s2/\∀(k2:Q2)(f:Nat),iz c F k2 (f+1) (kK vb rb fv P q.length a) s=iz c F k2 f (kK vb rb fv P q.length (a+1)) s2:=by
 have V1:=V.ai (H.ai hI);have vc:=V1.vc;have jc:=V1.jw.nk;obtain⟨y,hy⟩:∃y,q[a]? =some y:=⟨_,H0 oC⟩
 obtain⟨pb,po,p⟩:=rq V1.pq hy;have p1:=λ{R}=>@p.st R
 have p3:=p.one;have hN:=V1.K9;have pI:=V.ql;have eZ:=(hF.2.2 rb _ sQ hr).1;have wr:ax .i64 ((a:Int)+1)=(a:Int)+1:=wrap64 (by omega) (by omega);unfold ZJ;rw[ahi hy];by_cases h0:0<=y
 . obtain⟨k,rfl,hk⟩:=V1.kB hy h0;have ak:=Gx hc V1 r hk;obtain⟨A,v,ab,ao,hA,h1⟩:=V1.qy hy;have r1:=λ{R}=>@h1.pr R
   have r2:=h1.at' 5 _ rfl;unfold adz arN;rw[hA];simp only[Zd0];generalize qD J.p.ts r.t k=e at*
   by_cases hn:A.nD=r.a
   . have GF:decide (A.nD=r.a)=true:=Za0 hn;cases e
     .  obtain⟨s2,v2,a1,a2,a3⟩:=H.Yp hI hB a;refine⟨s2,by simpa [hn,qQ]using a2,hF.trans a3,λk2 f=> ?_⟩;simp only[kK,show((a+1:Nat):Int)=(a:Int)+1 by omega];rw[kC];simp[-au,dw,oC,p1,p3,vc,jc,r1,r2,eZ,GF,ak,a1,wr]
     .  refine⟨s,by simpa [eu]using hI,hF,λk2 f=> ?_⟩;simp only[kK,show((a+1:Nat):Int)=(a:Int)+1 by omega];rw[kC];simp[-au,dw,oC,p1,p3,vc,jc,r1,r2,eZ,GF,ak,wr]
   .have GF:decide (A.nD=r.a)=false:=Za2 hn;refine⟨s,by simpa [hn,eu]using hI,hF,λk2 f=> ?_⟩;simp only[kK,show((a+1:Nat):Int)=(a:Int)+1 by omega];rw[kC];simp[-au,dw,oC,p1,p3,vc,jc,r1,r2,eZ,GF,wr]
 .refine⟨s,by simpa [h0,eu]using hI,hF,λk2 f=> ?_⟩;simp only[kK,show((a+1:Nat):Int)=(a:Int)+1 by omega];rw[kC];simp[-au,dw,oC,p1,p3,h0,wr]
theorem ani(H:ki c fv s0 I M)(hc:bH c)(V:Vw s0 vb jb j J P G q g)(r:Rl)(hI:I s l)(hB:fu l+2*q.length<=1000000):
  ∃s',c 99 [.ptr vb 0,.agg r.cells,fv] s=some (.tuple [],s')/\I s' (l++Bn (qF q) q.length (ady J r)):=by
 refine H.fin hI (λh=>UE hc (q.length+1) h) ?_;have hw:=(H.ai hI).wf;have gr:=Grew.ah hw (.cells r.cells 0);have dF:=H.grow hI gr;have V1:=V.ai (H.ai dF);have sQ:¬M (ah s (.cells r.cells 0)) s.next:=λh=>by have:=H.mlt hI (H.l9 hI gr h);omega
 have vc:=V1.vc;have ln:=λ(K:AV->St->Option (AV×St))=>V1.pq.lenB (c:=c) K (ah s (.cells r.cells 0))
 rw[Za5]at ln
 obtain⟨s',z1,z2,z3⟩:=Yq (E:=ZJ q (ady J r)) (n:=q.length) (ahj _) (λk2=>jz c (q.length+1) k2) (kK vb s.next fv P q.length) (λk2 f s=>by rw[iy];simp)
  (ale (c:=c) H V (aA s (.cells r.cells 0)) sQ (q.length+1)) q.length 0 (q.length+1) _ l (by omega) (by omega) dF (gK.refl V1.wf) hB
 refine⟨s',?_,z1⟩;rw[YQ,dy,show AV.cells (.agg r.cells)=r.cells from rfl];have z3:=z3 (λvs s=>mo vs (some (.tuple [],s)));simp only[az,cE,aT,Zb9,aY,vc,aG,Zb1,Za4,Zb6,aW,ln];exact z3.trans rfl
theorem ai0(H:ki c fv s0 I M)(hc:bH c)(V:Vw s0 vb jb j J P G q g)(r:Rl)(hI:I s l)(hB:fu l+2*q.length<=1000000):
  ∃s',c 106 [.ptr vb 0,.agg r.cells,fv] s=some (.tuple [],s')/\I s' (l++Bn (qF q) q.length (adz J r)):=by
 refine H.fin hI (λh=>PI hc (q.length+1) h) ?_;have hw:=(H.ai hI).wf;have gr:=Grew.ah hw (.cells r.cells 0);have dF:=H.grow hI gr;have V1:=V.ai (H.ai dF);have sQ:¬M (ah s (.cells r.cells 0)) s.next:=λh=>by have:=H.mlt hI (H.l9 hI gr h);omega
 have vc:=V1.vc;have ln:=λ(K:AV->St->Option (AV×St))=>V1.pq.lenB (c:=c) K (ah s (.cells r.cells 0))
 rw[Za5]at ln
 obtain⟨s',z1,z2,z3⟩:=Yq (E:=ZJ q (adz J r)) (n:=q.length) (ahj _) (λk2=>iz c (q.length+1) k2) (kK vb s.next fv P q.length) (λk2 f s=>by rw[kC];simp)
  (ahk (c:=c) hc H V (aA s (.cells r.cells 0)) sQ (q.length+1)) q.length 0 (q.length+1) _ l (by omega) (by omega) dF (gK.refl V1.wf) hB
 refine⟨s',?_,z1⟩;rw[UF,dy,show AV.cells (.agg r.cells)=r.cells from rfl];have z3:=z3 (λvs s=>mo vs (some (.tuple [],s)));simp only[az,cE,aT,Zb9,aY,vc,aG,Zb1,Za4,Zb6,aW,ln];exact z3.trans rfl
end
def NZ(J:Jt)(a:Nat)(h:Int):Bool:=(J.iQ.getD a []).getD h.toNat false
def Bo(J:Jt)(g:List Int)(a:Nat):List Int->Bool->Bool->Bool×Bool
 |[],so,si=>(so,si)
 |k::r,so,si=>if 0<=g.getD k.toNat (-1)then Bo J g a r true (si&& !NZ J a (g.getD k.toNat (-1)))else Bo J g a r so si
def Wo(J:Jt)(g:List Int)(a:Nat)(x:Int):Bool×Bool:=Bo J g a (uy J.p.ts x.toNat) (Bo J g a (oh J.p.ts x.toNat) false true).1 (Bo J g a (oh J.p.ts x.toNat) false true).2
def Ld(J:Jt)(r:Rl)(g:List Int)(a:Nat)(x:Int):Bool:=qD J.p.ts r.t x.toNat&&((Wo J g a x).1&&(Wo J g a x).2)
section
variable{c:aj}{fv:AV}{s0 sB:St}{I:St->List Ev->Prop}{M:St->Pos->Prop}{s:St}{l:List Ev}{vb jb:Pos}{j:Jc}{J:Jt}{P G:AV}{q g:List Int}
theorem Vw.com(V:Vw s vb jb j J P G q g){a b:Nat}(ha:a<J.n)(hb:b<J.n):∃w p o p2 o2,Rd s 1 j.L6 a p o [w]/\Rd s 1 w b p2 o2 [.bool (NZ J a (b:Int))]:=by
 have h1:a<J.iQ.length:=by rw[V.jw.n1];exact ha
 have h2:b<J.iQ[a].length:=by rw[V.jw.n3 _ (Zb8 h1)];exact hb
 have e:NZ J a (b:Int)=J.iQ[a][b]:=by
  unfold NZ;rw[Zd0,Za8,Za8,H0 h1,Ze8,H0 h2,Ze8]
 rw[e];exact V.rC (H0 h1) (H0 h2)
theorem ahl(V:Vw s vb jb j J P G q g){w:AV}{r:List Int}(hw:QS 1 s w (r.map bJ))(hr:∀k∈r,0<=k/\k<(J.N:Int))(hl:r.length<=1000){a:Nat}(ha:a<J.n)(x2 x4 x18 x19 x20 x54 x55 x56:AV)(F:Nat)(k6:Q2):
  ∀ (m k f:Nat)(so si:Bool),k+m=r.length->m<f->jC c F k6 f [.ptr vb 0,x2,x4,.int .i64 (a:Int),.bool so,.bool si,x18,x19,x20,x54,x55,x56,w,.int .i64 (r.length:Int),.int .i64 (k:Int)] s=
    k6 [.ptr vb 0,x2,x4,.int .i64 (a:Int),.bool (Bo J g a (r.drop k) so si).1,.bool (Bo J g a (r.drop k) so si).2,x18,x19,x20,x54,x55,x56] s:=by
 have vc:=V.vc;have jc:=V.jw.nk;intro m;induction m with
 |zero=>
  intro k f so si hk hf;obtain⟨f,rfl⟩:∃g,f=g+1:=⟨f - 1,by omega⟩
  obtain rfl:k=r.length:=by omega
  rw[vD];simp[Bo]
 |succ m ih=>
  intro k f so si hk hf;obtain⟨f,rfl⟩:∃g,f=g+1:=⟨f - 1,by omega⟩
  have iO:k<r.length:=by omega
  obtain⟨wb,wo,w1⟩:=rq hw (H0 iO);have q1:=λ{R}=>@w1.st R
  have q3:=w1.one;have wr:ax .i64 ((k:Int)+1)=((k+1:Nat):Int):=wrap64 (by omega) (by omega);have bd:=hr _ (Zb8 iO);obtain⟨i,hi⟩:∃i:Nat,r[k]=(i:Int):=⟨r[k].toNat,by omega⟩
  have hiN:i<J.N:=by omega
  have PJ:i<g.length:=by rw[V.gl];exact hiN
  obtain⟨gb,go,g1⟩:=rq V.gq (H0 PJ);have g2:=λ{R}=>@g1.st R
  have g3:=g1.one;have eg:g.getD i (-1)=g[i]:=by rw[Za8,H0 PJ];rfl
  rw[Ze2 iO,hi];rw[hi]at q3;unfold Bo;rw[Zd0,eg];by_cases h0:0<=g[i]
  . obtain⟨h,hh⟩:∃h:Nat,g[i]=(h:Int):=⟨g[i].toNat,by omega⟩
    have hn:h<J.n:=(by have:=V.og _ (Zb8 PJ);omega);obtain⟨w',cp,co,Iz,co2,h1,h2⟩:=V.com ha hn;have r1:=λ{R}=>@h1.st R
    have r2:=h1.one;have r3:=λ{R}=>@h2.st R
    have r4:=h2.one;rw[hh]at g3 h0 ⊢;rw[Zb4 h0, <-ih (k+1) f true _ (by omega) (by omega),vD];cases si<;>simp[dw,iO,q1,q3,vc,jc,g2,g3,r1,r2,r3,r4,wr]
  .have d0:decide (0<=g[i])=false:=Za2 h0;rw[Za6 h0, <-ih (k+1) f so si (by omega) (by omega),vD];simp[dw,iO,q1,q3,vc,jc,g2,g3,d0,wr]
theorem ahm{R:Type}(K:AV->Option R)(b:Pos)(off len es:Nat)(cap:Option Nat):fq (.lenB .l) [.slice b off len cap es] K=K (.int .i64 (len:Int)):=cZ K (λH n=>rfl)
theorem alf(hc:bH c)(H:ki c fv s0 I M)(V:Vw s0 vb jb j J P G q g){r:Rl}{rb:Pos}(hr:sB.heap.get rb=some (.cells r.cells 0))(sQ:¬M sB rb){F:Nat}(hFu:1001<=F)(a:Nat)(s:St)(l:List Ev)(oC:a<q.length)(hI:I s l)(hF:gK M sB s)(hB:fu l+2<=1000000):
   ∃s2,I s2 (l++ZJ q (Ld J r g) a)/\gK M sB s2/\∀(k2:Q2)(f:Nat),fV c F k2 (f+1) (kK vb rb fv P q.length a) s=fV c F k2 f (kK vb rb fv P q.length (a+1)) s2:=by
 have V1:=V.ai (H.ai hI);have vc:=V1.vc;have jc:=V1.jw.nk;obtain⟨y,hy⟩:∃y,q[a]? =some y:=⟨_,H0 oC⟩
 obtain⟨pb,po,p⟩:=rq V1.pq hy;have p1:=λ{R}=>@p.st R
 have p3:=p.one;have p4:=λ{R}=>@p.pr R
 have hN:=V1.K9;have pI:=V.ql;have eZ:=(hF.2.2 rb _ sQ hr).1;have wr:ax .i64 ((a:Int)+1)=(a:Int)+1:=wrap64 (by omega) (by omega);unfold ZJ;rw[ahi hy];by_cases h0:0<=y
 . obtain⟨k,rfl,hk⟩:=V1.kB hy h0;have dn:decide ((k:Int)<0)=false:=Za2 (by omega);have ak:=Gx hc V1 r hk;unfold Ld Wo;simp only[Zd0];generalize qD J.p.ts r.t k=e at*
   cases e
   .refine⟨s,by simpa [eu]using hI,hF,λk2 f=> ?_⟩;simp only[kK,show((a+1:Nat):Int)=(a:Int)+1 by omega];rw[mN];simp[-au,dw,oC,p1,p3,dn,eZ,ak,wr]
   . obtain⟨w1,b1,o1,h1,h2⟩:=V1.rB hk;obtain⟨w2,b2,o2,h3,h4⟩:=V1.rA hk;have m1:=λ{R}=>@h1.pr R
     have m2:=h1.one;have m3:=λ{R}=>@h3.pr R
     have m4:=h3.one;have bdB:=(aaT V.jw.nN).1 (oh J.p.ts k) (by unfold xO;exact Zc6.2 ⟨k,Zg3.2 hk,rfl⟩);have bdA:=(aaT V.jw.nN).2 (uy J.p.ts k) (by unfold xP;exact Zc6.2 ⟨k,Zg3.2 hk,rfl⟩);obtain⟨wc1,_⟩:=QS.cells h2;obtain⟨wc2,_⟩:=QS.cells h4;have ef:cF (bU [AV.af] 2) ([0,1].map λi=>(i*1,1)) [w1,w2]=some [w1,w2]:=by
        simp[cF,bU,cM,cK,aQ,wc1,wc2]
     have nw:=λ(K:AV->AB->Option (AV×St))=>(pY s 1 2 [.af] [0,1] [w1,w2] K).trans (by rw[ef])
     have gN:=Grew.ah V1.wf (.cells [w1,w2] 0);have tV:=H.grow hI gN;have hF2:=hF.trans (H.fr hI gN);have V2:=V.ai (H.ai tV);have hx:=aA s (.cells [w1,w2] 0);have hn1:a<J.n:=(by omega);have l1:=λ(so si:Bool)(x55 x56:AV)(k6:Q2)=>ahl (c:=c) V2 (h2.ai gN) bdB.2 bdB.1 hn1 fv (.ptr rb 0) P (.int .i64 (q.length:Int)) (.int .i64 (a:Int)) (.slice s.next 0 2 (some 2) 1) x55 x56 F k6 (oh J.p.ts k).length 0 F so si (by omega) (by omega)
     have l2:=λ(so si:Bool)(x55 x56:AV)(k6:Q2)=>ahl (c:=c) V2 (h4.ai gN) bdA.2 bdA.1 hn1 fv (.ptr rb 0) P (.int .i64 (q.length:Int)) (.int .i64 (a:Int)) (.slice s.next 0 2 (some 2) 1) x55 x56 F k6 (uy J.p.ts k).length 0 F so si (by omega) (by omega)
     (simp only[Ze6,show((0:Nat):Int)=0 from rfl]at l1 l2;have ln1:=λ(K:AV->St->Option (AV×St))=>(h2.ai gN).lenB (c:=c) K (ah s (.cells [w1,w2] 0)));have ln2:=λ(K:AV->St->Option (AV×St))=>(h4.ai gN).lenB (c:=c) K (ah s (.cells [w1,w2] 0))
     (rw[Za5]at ln1 ln2;have ix0:=λ(K:AV->St->Option (AV×St))(s1:St)=>iR c K s1 (b:=s.next) (off:=0) (len:=2) (es:=1) (es':=1) (cap:=some 2) (k:= .i64) (i:=0) (by omega));have ix1:=λ(K:AV->St->Option (AV×St))(s1:St)=>iR c K s1 (b:=s.next) (off:=0) (len:=2) (es:=1) (es':=1) (cap:=some 2) (k:= .i64) (i:=1) (by omega)
     simp only[show((0:Nat):Int)=0 from rfl,show((1:Nat):Int)=1 from rfl,Zo4,Zf5,Zn8,Zb9]at ix0 ix1;have w11:ax .i64 ((0:Int)+1)=1:=wrap64 (by omega) (by omega);have w12:ax .i64 ((1:Int)+1)=2:=wrap64 (by omega) (by omega);obtain⟨F',rfl⟩:∃n,F=n+3:=⟨F - 3,by omega⟩
     have L1:∀k4:Q2,lR c (F'+3) k4 (F'+3) [.ptr vb 0,fv,.ptr rb 0,.int .i64 (a:Int),.bool false,.bool true,P,.int .i64 (q.length:Int),.int .i64 (a:Int),.slice s.next 0 2 (some 2) 1,.int .i64 2,.int .i64 0] (ah s (.cells [w1,w2] 0))=
         k4 [.ptr vb 0,fv,.ptr rb 0,.int .i64 (a:Int),.bool (Wo J g a (k:Int)).1,.bool (Wo J g a (k:Int)).2,P,.int .i64 (q.length:Int),.int .i64 (a:Int)] (ah s (.cells [w1,w2] 0)):=λk4=>by
        unfold Wo;rw[Zd0,vE];simp only[aL,bu,dI,show decide ((0:Int)<2)=true from rfl,eo,ix0,aY,hx,aG,Zb1,Za4,aW,az,ln1,l1,gC,w11];rw[vE];simp only[aL,bu,dI,show decide ((1:Int)<2)=true from rfl,eo,ix1,aY,hx,aG,Zb1,Za4,Zb6,aW,az,ln2,l2,gC,w12];rw[vE];simp only[aL,bu,dI,show decide ((2:Int)<2)=false from rfl,dQ]
     unfold Wo at L1;rw[Zd0]at L1;generalize Bo J g a (uy J.p.ts k) (Bo J g a (oh J.p.ts k) false true).1 (Bo J g a (oh J.p.ts k) false true).2=e at*
     obtain⟨so,si⟩:=e;have tail:∃s2,I s2 (l++tU (so&&si) 1 [(a:Int)])/\gK M sB s2/\∀(k2:Q2)(f:Nat),fV c (F'+3) k2 (f+1) (kK vb rb fv P q.length a) s=fV c (F'+3) k2 f (kK vb rb fv P q.length (a+1)) s2:=by
        obtain⟨s2,v2,a1,a2,a3⟩:=H.Yp tV hB a;cases so<;>cases si
        case true.true=>
         refine⟨s2,a2,hF2.trans a3,λk2 f=> ?_⟩;simp only[kK,show((a+1:Nat):Int)=(a:Int)+1 by omega];rw[mN];simp[-au,-pY,dw,oC,p1,p3,p4,dn,eZ,ak,vc,jc,m1,m2,m3,m4,nw,ahm,L1,a1,wr]
        all_goals
         refine⟨_,by simpa [eu]using tV,hF2,λk2 f=> ?_⟩;simp only[kK,show((a+1:Nat):Int)=(a:Int)+1 by omega];rw[mN];simp[-au,-pY,dw,oC,p1,p3,p4,dn,eZ,ak,vc,jc,m1,m2,m3,m4,nw,ahm,L1,wr]
     have e0:(decide (0<=(k:Int))&&(true&&(so&&si)))=(so&&si):=(by rw[Za0 h0];simp);rw[e0];exact tail
 .have dn:decide (y<0)=true:=Za0 (by omega);refine⟨s,by simpa [h0,eu]using hI,hF,λk2 f=> ?_⟩;simp only[kK,show((a+1:Nat):Int)=(a:Int)+1 by omega];rw[mN];simp[-au,dw,oC,p1,p3,dn,wr]
theorem anj(H:ki c fv s0 I M)(hc:bH c)(V:Vw s0 vb jb j J P G q g)(r:Rl)(hI:I s l)(hB:fu l+2*q.length<=1000000):
  ∃s',c 100 [.ptr vb 0,.agg r.cells,fv] s=some (.tuple [],s')/\I s' (l++Bn (qF q) q.length (Ld J r g)):=by
 refine H.fin hI (λh=>UG hc (q.length+1001) h) ?_;have hw:=(H.ai hI).wf;have gr:=Grew.ah hw (.cells r.cells 0);have dF:=H.grow hI gr;have V1:=V.ai (H.ai dF);have sQ:¬M (ah s (.cells r.cells 0)) s.next:=λh=>by have:=H.mlt hI (H.l9 hI gr h);omega
 have vc:=V1.vc;have ln:=λ(K:AV->St->Option (AV×St))=>V1.pq.lenB (c:=c) K (ah s (.cells r.cells 0))
 rw[Za5]at ln
 obtain⟨s',z1,z2,z3⟩:=Yq (E:=ZJ q (Ld J r g)) (n:=q.length) (ahj _) (λk2=>fV c (q.length+1001) k2) (kK vb s.next fv P q.length) (λk2 f s=>by rw[mN];simp)
  (alf (c:=c) hc H V (aA s (.cells r.cells 0)) sQ (F:=q.length+1001) (by omega)) q.length 0 (q.length+1001) _ l (by omega) (by omega) dF (gK.refl V1.wf) hB
 refine⟨s',?_,z1⟩;rw[YR,dy,show AV.cells (.agg r.cells)=r.cells from rfl];have z3:=z3 (λvs s=>mo vs (some (.tuple [],s)));simp only[az,cE,aT,Zb9,aY,vc,aG,Zb1,Za4,Zb6,aW,ln];exact z3.trans rfl
end
def J9(J:Jt)(a:Nat):Bool:=match J.p.gs[a]? with|some g=>g.host|none=>false
def jT(J:Jt):JT:=⟨J.n,J.p.ts.length,yD J,J9 J⟩
def Wp(J:Jt)(r:Rl)(t:Nat):Bool:=decide (r.t=[])||decide (r.t=Wh J.p.ts t)
section
variable{c:aj}{fv:AV}{s0 sB:St}{I:St->List Ev->Prop}{M:St->Pos->Prop}{s:St}{l l':List Ev}{vb jb:Pos}{j:Jc}{J:Jt}{P G:AV}{q g:List Int}
theorem ki.ap7(H:ki c fv s0 I M)(hI:I s l){T:Option (AV×St)}{f:FuncId}{args:List AV}{v:AV}(hr:∀{r},T=some r->c f args s=some (tidy s r))(h:∃s',T=some (v,s')/\I s' l'/\gK M s s'):
   ∃s',c f args s=some (v,s')/\I s' l'/\gK M s s':=by
 obtain⟨s',h1,h2,h4⟩:=h;have h3:=hr h1;unfold tidy at h3;split at h3
 .rename_i hk;exact⟨s,h3,H.back hI h2 hk.2,gK.refl (H.ai hI).wf⟩
 .exact⟨s',h3,h2,h4⟩
def DoC(c:aj)(dv:AV)(I:St->List Ev->Prop)(M:St->Pos->Prop)(n:Nat)(sB:St)(D:List Int->List Ev):Prop:=
 ∀  {s l}{W:AV}{who:List Int},I s l->gK M sB s->QS 1 s W (who.map bJ)->who.length<=n->(∀x∈who,0<=x/\x<(n:Int))->fu l+2000<=1000000->
    ∃s' v,(∀(K:AV->St->Option (AV×St)),aq c .callV [dv,W] s K=K v s')/\I s' (l++D who)/\gK M s s'
theorem Vw.au9(V:Vw s vb jb j J P G q g){t:Nat}{T:aB}(ht:J.p.ts[t]? =some T):∃v b o,Rd s 7 j.V1 t b o (T.av v)/\aN (T.av v)=true:=by
 obtain⟨s0,r1,r2,_,h,_⟩:=V.jw.ps;have hl:t<r1.length:=by rw[h.len];exact(Za1.1 ht).1
 obtain⟨v,e,hv,_⟩:=h.dY t T r1[t] ht (H0 hl);obtain⟨b,o,h4⟩:=h.out.own.rd h.out.row (H0 hl);exact⟨v,b,o,by rw[<-e];exact h4,T.Le (by simp[aN,hv.own.cells.2])⟩
def wX(J:Jt)(q:List Int)(t k:Nat):List Int:=((List.range k).filter ((jT J).at (qF q) t)).map λ(g:Nat)=>(g:Int)
theorem ank(J:Jt)(q:List Int)(t k:Nat):wX J q t (k+1)=wX J q t k++(if(jT J).at (qF q) t k then [(k:Int)]else []):=by
 unfold wX;rw[Zg2,Zk4,Zc8];cases h:(jT J).at (qF q) t k<;>simp[h]
theorem R6(J:Jt)(q:List Int)(t k:Nat):(wX J q t k).length<=k:=by unfold wX;rw[Za5,Wd];exact at2 _ _
theorem asB(V:Vw s0 vb jb j J P G q g)(gs:Grew s0 sB){t:Nat}(ht:t<1000)(x2 x4 x18 x19 x20:AV)(F:Nat):
  ∀ (m k f:Nat)(s:St)(v:AV),k+m=q.length->m<f->Mk 1 sB s v ((wX J q t k).map bJ)->∃s' v',Mk 1 sB s' v' ((wX J q t q.length).map bJ)/\
    ∀k4,mY c F k4 f [.ptr vb 0,x2,x4,.int .i64 (t:Int),v,x18,x19,x20,P,.int .i64 (q.length:Int),.int .i64 (k:Int)] s=k4 [.ptr vb 0,x2,x4,v',x18,x19,x20] s':=by
 intro m;induction m with
 |zero=>
  intro k f s v hk hf hM;obtain⟨f,rfl⟩:∃g,f=g+1:=⟨f - 1,by omega⟩
  obtain rfl:k=q.length:=by omega
  exact⟨s,v,hM,λk4=>by rw[qV];simp⟩
 |succ m ih=>
  intro k f s v hk hf hM;obtain⟨f,rfl⟩:∃g,f=g+1:=⟨f - 1,by omega⟩
  have V1:=V.ai (gs.trans hM.ai);have vc:=V1.vc;have jc:=V1.jw.nk;have iO:k<q.length:=by omega
  obtain⟨y,hy⟩:∃y,q[k]? =some y:=⟨_,H0 iO⟩
  obtain⟨pb,po,p⟩:=rq V1.pq hy;have p1:=λ{R}=>@p.st R
  have p3:=p.one;have hN:=V1.K9;have pI:=V.ql;have wr:ax .i64 ((k:Int)+1)=((k+1:Nat):Int):=wrap64 (by omega) (by omega);have wl:=R6 J q t k;have hs:=ank J q t k;have ea:(jT J).at (qF q) t k=(decide (0<=y)&&yD J y==t):=by unfold JT.at on jT;rw[nH hy]
  rw[ea]at hs;by_cases h0:0<=y
  . obtain⟨i,rfl,hi⟩:=V1.kB hy h0;obtain⟨tb,to,u⟩:=V1.rT hi;have t1:=λ{R}=>@u.st R
    have t3:=u.one;unfold yD at hs;rw[Zd0,Za0 h0,Zg5]at hs;by_cases hT:bQ J.p.ts i=t
    .   have d1:decide (((bQ J.p.ts i:Nat):Int)=(t:Int))=true:=Za0 (by omega);rw[Zb4 (by simpa using hT)]at hs;obtain⟨s5,v5,a1,a2,_,_⟩:=hM.push (R:=AV×St) (c:=c) (bytes:=8) (z:=[.int .i64 0]) (x:= .int .i64 (k:Int)) rfl rfl rfl (by omega) (by rw[Za5];omega) (by rw[Za5];omega);obtain⟨s',v',z1,z2⟩:=ih (k+1) f s5 v5 (by omega) (by omega) (by rw[hs,Zc8];exact a2);refine⟨s',v',z1,λk4=> ?_⟩;rw[<-z2 k4,qV];simp[-au,dw,iO,p1,p3,vc,jc,t1,t3,d1,a1,wr]
    .   have d1:decide (((bQ J.p.ts i:Nat):Int)=(t:Int))=false:=Za2 (by omega);rw[Za6 (by simpa using hT),Ze1]at hs;obtain⟨s',v',z1,z2⟩:=ih (k+1) f s v (by omega) (by omega) (by rw[hs];exact hM);refine⟨s',v',z1,λk4=> ?_⟩;rw[<-z2 k4,qV];simp[-au,dw,iO,p1,p3,vc,jc,t1,t3,d1,wr]
  .rw[Za2 h0,Bool.false_and,Za6 (by simp),Ze1]at hs;obtain⟨s',v',z1,z2⟩:=ih (k+1) f s v (by omega) (by omega) (by rw[hs];exact hM);refine⟨s',v',z1,λk4=> ?_⟩;rw[<-z2 k4,qV];simp[-au,dw,iO,p1,p3,h0,wr]
abbrev R7(vb rb:Pos)(dv V1:AV)(n a:Nat):List AV:=[.ptr vb 0,dv,.ptr rb 0,V1,.int .i64 (n:Int),.int .i64 (a:Int)]
def u9(J:Jt)(q:List Int)(r:Rl)(D:List Int->List Ev)(t:Nat):List Ev:=if Wp J r t then D (wX J q t q.length)else []
theorem anl (H:ki c fv s0 I M) (V:Vw s0 vb jb j J P G q g){dv:AV}{D:List Int->List Ev}(hD:DoC c dv I M J.n sB D){r:Rl}{rb:Pos}(hr:sB.heap.get rb=some (.cells r.cells 0))(sQ:¬M sB rb)(F:Nat)(hFu:q.length<F)(t:Nat)(s:St)(l:List Ev)(oC:t<J.p.ts.length)(hI:I s l)(hF:gK M sB s)(hB:fu l+2000<=1000000):
   ∃s2,I s2 (l++u9 J q r D t)/\gK M sB s2/\∀(k2:Q2)(f:Nat),gO c F k2 (f+1) (R7 vb rb dv j.V1 J.p.ts.length t) s=gO c F k2 f (R7 vb rb dv j.V1 J.p.ts.length (t+1)) s2:=by
 have V1:=V.ai (H.ai hI);have vc:=V1.vc;have um:=V1.jw.zC.ts;obtain⟨T,hT⟩:∃T,J.p.ts[t]? =some T:=⟨_,H0 oC⟩
 obtain⟨v,b,o,h1,h2⟩:=V1.au9 hT;have r1:=λ{R}=>@h1.st R
 have r2:=h1.all;have eZ:=(hF.2.2 rb _ sQ hr).1;have wr:ax .i64 ((t:Int)+1)=(t:Int)+1:=wrap64 (by omega) (by omega);have gN:=Grew.ah V1.wf (.cells (T.av v) 0);have tV:=H.grow hI gN;have hF2:=hF.trans (H.fr hI gN);have V2:=V.ai (H.ai tV);have vc2:=V2.vc;have hx:=aA s (.cells (T.av v) 0);have ap8:=gN.get eZ;have st7:∀(K:AV->St->Option (AV×St)),aq c (.store 7) [.ptr s.next 0,.agg (T.av v)] (ah s (.cells [.str [],.int .u8 0,.int .i64 0,.int .i64 0,.af,.int .i64 0,.int .i64 0] 0)) K=K .undef (ah s (.cells (T.av v) 0)):=λK=>
   cG c K s 7 (.agg (T.av v)) [.str [],.int .u8 0,.int .i64 0,.int .i64 0,.af,.int .i64 0,.int .i64 0] rfl rfl h2
 have ln:=λ(K:AV->St->Option (AV×St))=>V2.pq.lenB (c:=c) K (ah s (.cells (T.av v) 0))
 rw[Za5]at ln;have aV:decide ((t:Int)<(J.p.ts.length:Int))=true:=Za0 (by omega);have c0:(T.av v)[0]? =some (.str T.name):=rfl;have en:Wh J.p.ts t=T.name:=by unfold Wh;rw[hT]
 obtain⟨s',v',z1,z2⟩:=asB (c:=c) V (H.ai tV) (t:=t) (by omega) dv (.ptr rb 0) j.V1 (.int .i64 (J.p.ts.length:Int)) (.int .i64 (t:Int)) F q.length 0 F _ .af (by omega) hFu (Mk.start V2.wf (Grew.refl V2.wf));simp only[show((0:Nat):Int)=0 from rfl]at z2;have pI:=V.ql;have hwl:=R6 J q t q.length;have CJ:∀x∈wX J q t q.length,0<=x/\x<(J.n:Int):=λx hx=>by unfold wX at hx;obtain⟨i,hi,rfl⟩:=Zc6.1 hx;have:=Zg3.1 (Zj4.1 hi).1;omega
 obtain ⟨s3,v3,y1,y2,y3⟩:=hD (H.grow tV z1.ai) (hF2.trans (H.fr tV z1.ai)) z1.own (by omega) CJ hB;have arO:∀(k2:Q2)(f:Nat),decide (r.t=[ ])=true\/decide (r.t=T.name)=true->gO c F k2 (f+1) (R7 vb rb dv j.V1 J.p.ts.length t) s=gO c F k2 f (R7 vb rb dv j.V1 J.p.ts.length (t+1)) s3:=λk2 f hor=>by
   simp only[R7,show((t+1:Nat):Int)=(t:Int)+1 by omega];rw[wY];by_cases he:r.t=[]
   .have d1:decide (r.t=[])=true:=Za0 he;simp only[aL,bu,dI,aV,eo,dw,az,r1,gW,r2,fC,dB,st7,aT,aY,ap8,aG,Zb1,Zb9,Rl.c4,aW,aaE,d1,Zj6,atW,pX,dQ,cE,vc2,Zb6,Za4,ln,z2,y1,gC,wr]
   . have d1:decide (r.t=[])=false:=Za2 he
     have d2:decide (r.t=T.name)=true:=by rcases hor with h|h
                                          .rw[d1]at h;cases h
                                          .exact h
     simp only[aL,bu,dI,aV,eo,dw,az,r1,gW,r2,fC,dB,st7,aT,aY,ap8,hx,c0,aG,Zb1,Zb9,Rl.c4,aW,aaE,d1,d2,Zj6,Zl3,lM,RB,dQ,cE,vc2,Zb6,Za4,ln,z2,y1,gC,wr]
 unfold u9 Wp;rw[en];by_cases he:r.t=[]
 .refine⟨s3,by simpa [he]using y2,(hF2.trans (H.fr tV z1.ai)).trans y3,λk2 f=>arO k2 f (.inl (Za0 he))⟩
 . by_cases hn:r.t=T.name
   .refine⟨s3,by simpa [hn]using y2,(hF2.trans (H.fr tV z1.ai)).trans y3,λk2 f=>arO k2 f (.inr (Za0 hn))⟩
   .refine⟨_,by simpa [he,hn]using tV,hF2,λk2 f=> ?_⟩;have d1:decide (r.t=[])=false:=Za2 he;have d2:decide (r.t=T.name)=false:=Za2 hn;simp only[R7,show((t+1:Nat):Int)=(t:Int)+1 by omega];rw[wY];simp only[aL,bu,dI,aV,eo,dw,az,r1,gW,r2,fC,dB,st7,aT,aY,ap8,hx,c0,aG,Zb1,Zb9,Rl.c4,aW,aaE,d1,d2,Zl3,lM,RB,gC,wr]
theorem adA(H:ki c fv s0 I M)(hc:bH c)(V:Vw s0 vb jb j J P G q g){dv:AV}{D:List Int->List Ev}(hD:DoC c dv I M J.n s D)(hDW:∀who:List Int,who.length<=J.n->fu (D who)<=2000)(r:Rl)(hI:I s l)(hB:fu l+2000*J.p.ts.length<=1000000):
  ∃s',c 166 [.ptr vb 0,.agg r.cells,dv] s=some (.tuple [],s')/\I s' (l++bX (u9 J q r D) J.p.ts.length 0):=by
 refine H.fin hI (λh=>Wq hc (q.length+J.p.ts.length+1) h) ?_;have hw:=(H.ai hI).wf;have gr:=Grew.ah hw (.cells r.cells 0);have dF:=H.grow hI gr;have V1:=V.ai (H.ai dF);have sQ:¬M (ah s (.cells r.cells 0)) s.next:=λh=>by have:=H.mlt hI (H.l9 hI gr h);omega
 have vc:=V1.vc;have jc:=V1.jw.nk;obtain⟨s0',r1',r2',_,tsq,_⟩:=V1.jw.ps;have ln:=λ(K:AV->St->Option (AV×St))=>tsq.out.own.lenB (c:=c) K (ah s (.cells r.cells 0))
 rw[tsq.len]at ln;have hF:=H.fr hI gr;have pI:=V.ql;obtain⟨s',z1,z2,z3⟩:=Yq (E:=u9 J q r D) (n:=J.p.ts.length) (B:=2000) (λt=>by
   unfold u9;split
   .exact hDW _ (by have:=R6 J q t q.length;omega)
   .exact Zi1 _) (λk2=>gO c (q.length+J.p.ts.length+1) k2) (R7 vb s.next dv j.V1 J.p.ts.length) (λk2 f s=>by rw[wY];simp)
  (anl (c:=c) (sB:=ah s (.cells r.cells 0)) H V (λ{s2 l2 W who} h1 h2=>hD h1 (hF.trans h2)) (aA s (.cells r.cells 0)) sQ (q.length+J.p.ts.length+1) (by omega)) J.p.ts.length 0 (q.length+J.p.ts.length+1) _ l (by omega) (by omega) dF (gK.refl V1.wf) hB
 refine⟨s',?_,z1⟩;rw[aaU,dy,show AV.cells (.agg r.cells)=r.cells from rfl];have z3:=z3 (λvs s=>mo vs (some (.tuple [],s)));simp only[az,cE,aT,Zb9,aY,vc,jc,Jc.c0,aG,Zb1,Za4,Zb6,aW,ln];exact z3.trans rfl
theorem asC(hc:bH c)(H:ki c fv s0 I M){n m:Nat}{r:Rl}(hn:r.n=(m:Int))(hm:m<=1000)(hn1:n<=100){rb fb:Pos}(hr:sB.heap.get rb=some (.cells r.cells 0))(sQ:¬M sB rb)(hf:sB.heap.get fb=some (.cells [fv] 0))(hfM:¬M sB fb):
  DoC c (.func 172 [] [.ptr rb 0,.ptr fb 0]) I M n sB (NS m):=λ{s l W who} hI hF hW hl _ hB=>by
 have b1:=(hF.2.2 rb _ sQ hr).1;have b2:=(hF.2.2 fb _ hfM hf).1;have ln:=λ(K:AV->St->Option (AV×St))=>hW.lenB (c:=c) K s
 rw[Za5]at ln;have key:∃s',c 172 [W,.ptr rb 0,.ptr fb 0] s=some (.tuple [],s')/\I s' (l++NS m who)/\gK M s s':=by
  refine H.ap7 hI (λh=>R8 hc 1 h) ?_;unfold NS;by_cases h:who.length<m
  .obtain⟨s',v,h1,h2,h3⟩:=H.call (k:=m - who.length) hI hW (by omega);refine⟨s',?_,by simpa [h,qQ]using h2,h3⟩;have d:decide ((who.length:Int)<r.n)=true:=Za0 (by omega);have w:ax .i64 (r.n - (who.length:Int))=((m - who.length:Nat):Int):=(by rw[wrap64 (by omega) (by omega)];omega);rw[GG];simp only[az,ln,aT,Zb9,aY,b1,b2,aG,Zb1,Rl.c5,aW,dI,d,eo,Za4,adn,w,h1]
  .refine⟨s,?_,by simpa [h,eu]using hI,gK.refl (H.ai hI).wf⟩;have d:decide ((who.length:Int)<r.n)=false:=Za2 (by omega);rw[GG];simp only[az,ln,aT,Zb9,aY,b1,b2,aG,Zb1,Rl.c5,aW,dI,d,dQ]
 obtain⟨s',h1,h2,h3⟩:=key;exact⟨s',.tuple [],λK=>by rw[gI];simp only[Ze0,Zd7];rw[h1];rfl,h2,h3⟩
theorem ap9(hc:bH c)(H:ki c fv s0 I M){n m:Nat}{r:Rl}(hn:r.n=(m:Int))(hm:m<=1000)(hn1:n<=100){rb fb:Pos}(hr:sB.heap.get rb=some (.cells r.cells 0))(sQ:¬M sB rb)(hf:sB.heap.get fb=some (.cells [fv] 0))(hfM:¬M sB fb):
  DoC c (.func 173 [] [.ptr rb 0,.ptr fb 0]) I M n sB (KW m):=λ{s l W who} hI hF hW hl _ hB=>by
 have b1:=(hF.2.2 rb _ sQ hr).1;have b2:=(hF.2.2 fb _ hfM hf).1;have ln:=λ(K:AV->St->Option (AV×St))=>hW.lenB (c:=c) K s
 rw[Za5]at ln;have key:∃s',c 173 [W,.ptr rb 0,.ptr fb 0] s=some (.tuple [],s')/\I s' (l++KW m who)/\gK M s s':=by
  refine H.ap7 hI (λh=>PM hc 1 h) ?_;unfold KW;by_cases h:m<who.length
  .obtain⟨s',v,h1,h2,h3⟩:=H.call (k:=who.length - m) hI hW (by omega);refine⟨s',?_,by simpa [h,qQ]using h2,h3⟩;have d:decide (r.n<(who.length:Int))=true:=Za0 (by omega);have w:ax .i64 ((who.length:Int) - r.n)=((who.length - m:Nat):Int):=(by rw[wrap64 (by omega) (by omega)];omega);rw[EM];simp only[az,ln,aT,Zb9,aY,b1,b2,aG,Zb1,Rl.c5,aW,BV,d,eo,Za4,adn,w,h1]
  .refine⟨s,?_,by simpa [h,eu]using hI,gK.refl (H.ai hI).wf⟩;have d:decide (r.n<(who.length:Int))=false:=Za2 (by omega);rw[EM];simp only[az,ln,aT,Zb9,aY,b1,b2,aG,Zb1,Rl.c5,aW,BV,d,dQ]
 obtain⟨s',h1,h2,h3⟩:=key;exact⟨s',.tuple [],λK=>by rw[gI];simp only[Ze0,Zd7];rw[h1];rfl,h2,h3⟩
theorem asD(V:Vw s vb jb j J P G q g){vp:Pos}(hv:s.heap.get vp=some (.cells [.ptr vb 0] 0)){W:AV}{who:List Int}(hW:QS 1 s W (who.map bJ))(hl:who.length<=1000)(hm:∀x∈who,0<=x/\x<(J.n:Int))(x2:AV)(F:Nat)(k1 k2:Q2):
  ∀(m k f:Nat),k+m=who.length->m<f->nO c F k1 k2 f [W,.ptr vp 0,x2,W,.int .i64 (who.length:Int),.int .i64 (k:Int)] s=if(who.drop k).any (λg=>J9 J g.toNat)then k1 [] s else k2 [W,x2] s:=by
 have vc:=V.vc;have jc:=V.jw.nk;intro m;induction m with
 |zero=>
  intro k f hk hf;obtain⟨f,rfl⟩:∃g,f=g+1:=⟨f - 1,by omega⟩
  obtain rfl:k=who.length:=by omega
  rw[uz];simp
 |succ m ih=>
  intro k f hk hf;obtain⟨f,rfl⟩:∃g,f=g+1:=⟨f - 1,by omega⟩
  have iO:k<who.length:=by omega
  obtain⟨wb,wo,w1⟩:=rq hW (H0 iO);have q1:=λ{R}=>@w1.st R
  have q3:=w1.one;have wr:ax .i64 ((k:Int)+1)=((k+1:Nat):Int):=wrap64 (by omega) (by omega);have bd:=hm _ (Zb8 iO);obtain⟨i,hi⟩:∃i:Nat,who[k]=(i:Int):=⟨who[k].toNat,by omega⟩
  have PJ:i<J.p.gs.length:=by have:J.n=J.p.gs.length:=rfl;omega
  obtain⟨v,ab,ao,h1⟩:=V.rG (H0 PJ);have r1:=λ{R}=>@h1.st R
  have r2:=h1.at' 6 _ rfl;have eh:J9 J i=(J.p.gs[i]).host:=by unfold J9;rw[H0 PJ]
  rw[Ze2 iO,List.any_cons,hi,Zd0,eh];rw[hi]at q3;generalize (J.p.gs[i]).host=e at*
  cases e
  .rw[Zn3, <-ih (k+1) f (by omega) (by omega),uz];simp[iO,q1,q3,hv,vc,jc,r1,r2,wr]
  .rw[uz];simp[iO,q1,q3,hv,vc,jc,r1,r2]
theorem asE(hc:bH c)(H:ki c fv s0 I M)(V:Vw s0 vb jb j J P G q g){vp fb:Pos}(hv:sB.heap.get vp=some (.cells [.ptr vb 0] 0))(hvM:¬M sB vp)(hf:sB.heap.get fb=some (.cells [fv] 0))(hfM:¬M sB fb):
  DoC c (.func 167 [] [.ptr vp 0,.ptr fb 0]) I M J.n sB (KV (J9 J)):=λ{s l W who} hI hF hW hl CJ hB=>by
 have b1:=(hF.2.2 vp _ hvM hv).1;have b2:=(hF.2.2 fb _ hfM hf).1;have V1:=V.ai (H.ai hI);have hN:=V1.K9;have ln:=λ(K:AV->St->Option (AV×St))=>hW.lenB (c:=c) K s
 rw[Za5]at ln;have lp:=λ(k1 k2:Q2)=>asD (c:=c) V1 b1 hW (by omega) CJ (.ptr fb 0) (who.length+1) k1 k2 who.length 0 (who.length+1) (by omega) (by omega)
 simp only[Ze6,show((0:Nat):Int)=0 from rfl]at lp;have key:∃s',c 167 [W,.ptr vp 0,.ptr fb 0] s=some (.tuple [],s')/\I s' (l++KV (J9 J) who)/\gK M s s':=by
  refine H.ap7 hI (λh=>R9 hc (who.length+1) h) ?_;unfold KV;generalize who.any (λg=>J9 J g.toNat)=e at*
  cases e
  . by_cases h:0<who.length
    .   obtain⟨s',v,h1,h2,h3⟩:=H.call (k:=1) hI hW (by omega);refine⟨s',?_,by simpa [h,qQ]using h2,h3⟩;have d:decide ((0:Int)<(who.length:Int))=true:=Za0 (by omega);simp only[show((1:Nat):Int)=1 from rfl]at h1;rw[yE];simp only[az,ln,lp,Zf4,Zh0,aL,bu,BV,d,eo,aY,b2,aG,Zb1,Za4,aW,h1]
    .   refine⟨s,?_,by simpa [h,eu]using hI,gK.refl (H.ai hI).wf⟩;have d:decide ((0:Int)<(who.length:Int))=false:=Za2 (by omega);rw[yE];simp only[az,ln,lp,Zf4,Zh0,aL,bu,BV,d,dQ]
  .refine⟨s,?_,by simpa [eu]using hI,gK.refl (H.ai hI).wf⟩;rw[yE];simp only[az,ln,lp,Zh1,bu]
 obtain⟨s',h1,h2,h3⟩:=key;exact⟨s',.tuple [],λK=>by rw[gI];simp only[Ze0,Zd7];rw[h1];rfl,h2,h3⟩
end
theorem ahn(h:Nat->Bool){n:Nat}(hn:n<=100)(who:List Int)(hw:who.length<=n):fu (KV h who)<=2000:=by unfold KV;have:=Gv (!who.any (λg=>h g.toNat)&&decide (0<who.length)) 1 who;omega
theorem aho(m:Nat)(hm:m<=1000){n:Nat}(hn:n<=100)(who:List Int)(hw:who.length<=n):fu (NS m who)<=2000:=by unfold NS;have:=Gv (decide (who.length<m)) (m - who.length) who;omega
theorem ahp(m:Nat){n:Nat}(hn:n<=100)(who:List Int)(hw:who.length<=n):fu (KW m who)<=2000:=by unfold KW;have:=Gv (decide (m<who.length)) (who.length - m) who;omega
theorem anm:∀l:List Ev,nM l<=fu l
 |[]=>Za3 _
 |e::l=>by have:=anm l;show(List.map _ (e::l)).sum<=(List.map _ (e::l)).sum;rw[Zd3,Zd3,Zm2,Zm2];unfold nM fu at this;omega
section
variable{c:aj}{fv:AV}{s0 sB:St}{I:St->List Ev->Prop}{M:St->Pos->Prop}{s:St}{l l':List Ev}{vb jb:Pos}{j:Jc}{J:Jt}{P G:AV}{q g:List Int}
theorem aqa(hc:bH c)(H:ki c fv s0 I M)(V:Vw s0 vb jb j J P G q g)(r:Rl)(hI:I s l)(hB:fu l+2000*J.p.ts.length<=1000000):
  ∃s',c 98 [.ptr vb 0,.agg r.cells,fv] s=some (.tuple [],s')/\I s' (l++bX (u9 J q r (KV (J9 J))) J.p.ts.length 0):=by
 refine H.fin hI (λh=>Wr hc 1 h) ?_;have hw:=(H.ai hI).wf;have hN:=(V.ai (H.ai hI)).K9;have g1:=Grew.ah hw (.cells [.ptr vb 0] 0);have dF:=H.grow hI g1;have g2:=Grew.ah g1.wf (.cells r.cells 0);have tV:=H.grow dF g2;have g3:=Grew.ah g2.wf (.cells [fv] 0);have hI3:=H.grow tV g3;have m1:∀b,M (ah (ah (ah s (.cells [.ptr vb 0] 0)) (.cells r.cells 0)) (.cells [fv] 0)) b->b.toNat<s.next.toNat:=λb h=>H.mlt hI (H.l9 hI g1 (H.l9 dF g2 (H.l9 tV g3 h)))
 have n1:(ah s (.cells [.ptr vb 0] 0)).next.toNat=s.next.toNat+1:=by rw[bN,Pos.aD]
 have n2:(ah (ah s (.cells [.ptr vb 0] 0)) (.cells r.cells 0)).next.toNat=s.next.toNat+2:=by rw[bN,Pos.aD,n1]
 have b1:=g3.get (g2.get (aA s (.cells [.ptr vb 0] 0)));have b2:=g3.get (aA (ah s (.cells [.ptr vb 0] 0)) (.cells r.cells 0));have b3:=aA (ah (ah s (.cells [.ptr vb 0] 0)) (.cells r.cells 0)) (.cells [fv] 0);obtain⟨s',z1,z2⟩:=adA H hc V (asE hc H V b1 (λh=>by have:=m1 _ h;omega) b3 (λh=>by have:=m1 _ h;omega)) (ahn _ hN.2) r hI3 hB;refine⟨s',?_,z2⟩;rw[aaV];simp only[dy,show AV.cells (.agg r.cells)=r.cells from rfl,show AV.cells (.ptr vb 0)=[.ptr vb 0]from rfl,H.one.1,aY,b1,aG,Zb1,Za4,aW,gW,b2,Rl.cc,fC,Gb,cY,z1,cL]
theorem aqb(hc:bH c)(H:ki c fv s0 I M)(V:Vw s0 vb jb j J P G q g)(r:Rl){m:Nat}(hn:r.n=(m:Int))(hm:m<=1000)(hI:I s l)(hB:fu l+2000*J.p.ts.length<=1000000):
  ∃s',c 104 [.ptr vb 0,.agg r.cells,fv] s=some (.tuple [],s')/\I s' (l++bX (u9 J q r (NS m)) J.p.ts.length 0):=by
 refine H.fin hI (λh=>Ws hc 1 h) ?_;have hw:=(H.ai hI).wf;have hN:=(V.ai (H.ai hI)).K9;have g1:=Grew.ah hw (.cells r.cells 0);have dF:=H.grow hI g1;have g2:=Grew.ah g1.wf (.cells [fv] 0);have tV:=H.grow dF g2;have m1:∀b,M (ah (ah s (.cells r.cells 0)) (.cells [fv] 0)) b->b.toNat<s.next.toNat:=λb h=>H.mlt hI (H.l9 hI g1 (H.l9 dF g2 h))
 have n1:(ah s (.cells r.cells 0)).next.toNat=s.next.toNat+1:=by rw[bN,Pos.aD]
 have b1:=g2.get (aA s (.cells r.cells 0));have b2:=aA (ah s (.cells r.cells 0)) (.cells [fv] 0);obtain⟨s',z1,z2⟩:=adA H hc V (asC hc H hn hm hN.2 b1 (λh=>by have:=m1 _ h;omega) b2 (λh=>by have:=m1 _ h;omega)) (aho m hm hN.2) r tV hB;refine⟨s',?_,z2⟩;rw[aaW];simp only[dy,az,show AV.cells (.agg r.cells)=r.cells from rfl,H.one.1,gW,b1,aG,Zb1,Rl.cc,fC,Gb,cY,z1,cL]
theorem ann(hc:bH c)(H:ki c fv s0 I M)(V:Vw s0 vb jb j J P G q g)(r:Rl){m:Nat}(hn:r.n=(m:Int))(hm:m<=1000)(hI:I s l)(hB:fu l+2000*J.p.ts.length<=1000000):
  ∃s',c 105 [.ptr vb 0,.agg r.cells,fv] s=some (.tuple [],s')/\I s' (l++bX (u9 J q r (KW m)) J.p.ts.length 0):=by
 refine H.fin hI (λh=>UH hc 1 h) ?_;have hw:=(H.ai hI).wf;have hN:=(V.ai (H.ai hI)).K9;have g1:=Grew.ah hw (.cells r.cells 0);have dF:=H.grow hI g1;have g2:=Grew.ah g1.wf (.cells [fv] 0);have tV:=H.grow dF g2;have m1:∀b,M (ah (ah s (.cells r.cells 0)) (.cells [fv] 0)) b->b.toNat<s.next.toNat:=λb h=>H.mlt hI (H.l9 hI g1 (H.l9 dF g2 h))
 have n1:(ah s (.cells r.cells 0)).next.toNat=s.next.toNat+1:=by rw[bN,Pos.aD]
 have b1:=g2.get (aA s (.cells r.cells 0));have b2:=aA (ah s (.cells r.cells 0)) (.cells [fv] 0);obtain⟨s',z1,z2⟩:=adA H hc V (ap9 hc H hn hm hN.2 b1 (λh=>by have:=m1 _ h;omega) b2 (λh=>by have:=m1 _ h;omega)) (ahp m hN.2) r tV hB;refine⟨s',?_,z2⟩;rw[YS];simp only[dy,az,show AV.cells (.agg r.cells)=r.cells from rfl,H.one.1,gW,b1,aG,Zb1,Rl.cc,fC,Gb,cY,z1,cL]
def rA(J:Jt)(r:Rl):Nat:=(gi J.p r.a).toNat
def rB(J:Jt)(r:Rl):Nat:=(gi J.p r.b).toNat
def mg(J:Jt)(q g:List Int)(r:Rl):List Ev:=match r.k.toNat with
 |1=>vC (qF q) (rA J r) (rB J r) (ab8 J r)
 |2=>vC (qF q) (rA J r) (rB J r) (ak6 J)
 |3=>vC (qF q) (rA J r) (rB J r) (ak7 J)
 |4=>vC (qF q) (rA J r) (rB J r) (afW J r)
 |5=>vC (qF q) (rA J r) (rB J r) (ak8 J)
 |6=>FD (qF q) (rA J r) (atP J r)
 |7=>FD (qF q) (rA J r) (afX J r)
 |8=>ux (qF q) q.length (qU J r (aaR J))
 |9=>bX (u9 J q r (KV (J9 J))) J.p.ts.length 0
 |10=>Bn (qF q) q.length (ady J r)
 |11=>Bn (qF q) q.length (Ld J r g)
 |12=>ux (qF q) q.length (qU J r (Lb J))
 |13=>ux (qF q) q.length (R5 J r)
 |14=>ux (qF q) q.length (qU J r (Wn J))
 |15=>bX (u9 J q r (NS r.n.toNat)) J.p.ts.length 0
 |16=>bX (u9 J q r (KW r.n.toNat)) J.p.ts.length 0
 |17=>Bn (qF q) q.length (adz J r)
 |18=>ux (qF q) q.length (qU J r (aaS J))
 |_=>[]
structure ZK(p:cr)(r:Rl)(m:Nat):Prop where
 k:r.k=(m:Int)
 m1:1<=m
 m2:m<=18
 a:(kd m).a=103->0<=gi p r.a
 b:(kd m).b=true->0<=gi p r.b
 n:m=15\/m=16->0<=r.n/\r.n<=24
 w:0<=r.wt/\r.wt<=1000
theorem at4{p:cr}{r:Rl}(hr:r.Ok)(h:ua p r=0):∃m,ZK p r m:=by
 have hk:∃m:Nat,r.k=(m:Int):=⟨r.k.toNat,by have:=hr.1;omega⟩
 obtain⟨m,hk⟩:=hk;unfold ua at h;rw[hk,Zd0]at h;by_cases hm:1<=m/\m<=18
 . have h2:=h;unfold Sa at h;by_cases e1:(kd m).w=[]
   .rw[Zb4 e1]at h;cases h
   rw[Za6 e1]at h;by_cases e2:r.wt<0\/1000<r.wt
   .rw[Zb4 e2]at h;cases h
   rw[Za6 e2]at h;by_cases e3:Lf (kd m) r=false
   .rw[Zb4 e3]at h;cases h
   rw[Za6 e3]at h;by_cases e4:((kd m).a=103/\gi p r.a<0)\/((kd m).a=101/\r.a≠[]/\gi p r.a<0)\/((kd m).b=true/\gi p r.b<0)
   .rw[Zb4 e4]at h;cases h
   rw[Za6 e4]at h;refine⟨m,hk,hm.1,hm.2,λha=> ?_,λhb=> ?_,λhm=> ?_,by omega⟩
   .exact Int.not_lt.1 λaV=>e4 (.inl ⟨ha,aV⟩)
   .exact Int.not_lt.1 λaV=>e4 (.inr (.inr ⟨hb,aV⟩))
   . unfold adB at h;have ka:(kd m).a=0:=(by rcases hm with rfl|rfl<;>rfl);have kb:(kd m).b=false:=(by rcases hm with rfl|rfl<;>rfl);have kn:(kd m).n=true:=(by rcases hm with rfl|rfl<;>rfl);have ks:(kd m).kB=false:=(by rcases hm with rfl|rfl<;>rfl);have kl:(kd m).lo=0:=(by rcases hm with rfl|rfl<;>rfl);rw[Za6 (by rw[ka];simp),Za6 (by rw[kb];simp)]at h;unfold Yr at h;split at h
     .  cases h
     .  unfold Bp at h;simp only[ks,kn,kl,Zf4,Zh0,Zr1]at h;split at h
        .cases h
        .omega
 . exfalso;have e:kd m=⟨[],0,false,0,false,0,false,.jM⟩:=by
     unfold kd;split<;>first|rfl|(exfalso;omega)
   rw[e]at h;unfold Sa at h;simp at h
theorem alg(p:cr)(s:List Nat)(h:0<=gi p s):(gi p s).toNat<p.gs.length:=by have:=(Bq (P:=nP p.gs s) p.gs.length 0 h).2.1;unfold gi;omega
theorem ajZ(hc:bH c)(H:ki c fv s0 I M)(V:Vw s0 vb jb j J P G q g)(eW:J.p.cs.length=J.n\/J.p.cs.length=0){r:Rl}{m:Nat}(R:ZK J.p r m)(hI:I s []):
   ∃f s',(kd m).f= .func f [] []/\c f [.ptr vb 0,.agg r.cells,fv] s=some (.tuple [],s')/\I s' (mg J q g r):=by
 have hN:=V.K9;have pI:=V.ql;have um:=V.jw.zC.ts;have e0:fu []=0:=rfl;have hb3:3*q.length*q.length<=30000:=by have:q.length<=100:=(by omega);have:=Nat.mul_le_mul this this;have e:3*q.length*q.length=3*(q.length*q.length):=Nat.mul_assoc _ _ _;omega
 have nil:∀E:List Ev,[]++E=E:=λE=>rfl
 have two:(kd m).a=103->(kd m).b=true->Two J q r (rA J r) (rB J r) (qF q (rA J r)) (qF q (rB J r)):=λha hb=>by
   have h1:=R.a ha;have h2:=R.b hb;have l1:=alg _ _ h1;have l2:=alg _ _ h2;have l1:rA J r<q.length:=(by rw[pI];exact l1);have l2:rB J r<q.length:=(by rw[pI];exact l2);refine⟨by unfold rA;omega,by unfold rB;omega,?_,?_⟩
   .rw[H0 l1,nH (H0 l1)]
   .rw[H0 l2,nH (H0 l2)]
 have one:(kd m).a=103->gi J.p r.a=((rA J r:Nat):Int)/\q[rA J r]? =some (qF q (rA J r)):=λha=>by
   have h1:=R.a ha;have l1:=alg _ _ h1;have l1:rA J r<q.length:=(by rw[pI];exact l1);exact⟨by unfold rA;omega,by rw[H0 l1,nH (H0 l1)]⟩
 have hn:m=15\/m=16->r.n=((r.n.toNat:Nat):Int)/\r.n.toNat<=1000:=λh=>by have:=R.n h;omega
 have tF:J.p.cs.length=q.length\/J.p.cs.length=0:=by rw[pI];exact eW
 unfold mg;rw[R.k,Zd0];have m1:=R.m1;have m2:=R.m2;rcases B4 m1 m2 with rfl|rfl|rfl|rfl|rfl|rfl|rfl|rfl|rfl|rfl|rfl|rfl|rfl|rfl|rfl|rfl|rfl|rfl
 .obtain⟨s',a,b⟩:=ap3 hc H V (two rfl rfl) hI (by omega);exact⟨_,s',rfl,a,b⟩
 .obtain⟨s',a,b⟩:=afd hc H V (two rfl rfl) hI (by omega);exact⟨_,s',rfl,a,b⟩
 .obtain⟨s',a,b⟩:=afe hc H V (two rfl rfl) hI (by omega);exact⟨_,s',rfl,a,b⟩
 .obtain⟨s',a,b⟩:=ak9 hc H V (two rfl rfl) hI (by omega);exact⟨_,s',rfl,a,b⟩
 .obtain⟨s',a,b⟩:=aiY hc H V (two rfl rfl) hI (by omega);exact⟨_,s',rfl,a,b⟩
 .obtain⟨s',a,b⟩:=at3 hc H V (one rfl).1 (one rfl).2 hI (by omega);exact⟨_,s',rfl,a,b⟩
 .obtain⟨s',a,b⟩:=ap4 hc H V (one rfl).1 (one rfl).2 hI (by omega);exact⟨_,s',rfl,a,b⟩
 .obtain⟨s',a,b⟩:=afg hc H V r hI (by omega);exact⟨_,s',rfl,a,b⟩
 .obtain⟨s',a,b⟩:=aqa hc H V r hI (by omega);exact⟨_,s',rfl,a,b⟩
 .obtain⟨s',a,b⟩:=ani H hc V r hI (by omega);exact⟨_,s',rfl,a,b⟩
 .obtain⟨s',a,b⟩:=anj H hc V r hI (by omega);exact⟨_,s',rfl,a,b⟩
 .obtain⟨s',a,b⟩:=anh hc H V r hI (by omega);exact⟨_,s',rfl,a,b⟩
 .obtain⟨s',a,b⟩:=aiZ hc H V r hI (by omega);exact⟨_,s',rfl,a,b⟩
 .obtain⟨s',a,b⟩:=alb hc H V tF r hI (by omega);exact⟨_,s',rfl,a,b⟩
 .obtain⟨s',a,b⟩:=aqb hc H V r (hn (.inl rfl)).1 (hn (.inl rfl)).2 hI (by omega);exact⟨_,s',rfl,a,b⟩
 .obtain⟨s',a,b⟩:=ann hc H V r (hn (.inr rfl)).1 (hn (.inr rfl)).2 hI (by omega);exact⟨_,s',rfl,a,b⟩
 .obtain⟨s',a,b⟩:=ai0 H hc V r hI (by omega);exact⟨_,s',rfl,a,b⟩
 .obtain⟨s',a,b⟩:=asA hc H V r hI (by omega);exact⟨_,s',rfl,a,b⟩
end
end
end Go.Proofs.YtgihekklfnjkiaaGreatDoor
