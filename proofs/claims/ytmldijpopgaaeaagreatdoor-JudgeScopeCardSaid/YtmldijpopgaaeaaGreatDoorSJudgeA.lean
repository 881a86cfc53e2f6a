/- Faults of a rule. -/
import Derived.Test.YtmldijpopgaaeaaGreatDoorSMade
set_option linter.all false
set_option maxRecDepth 100000
namespace Go.Proofs.YtmldijpopgaaeaaGreatDoor
section
open Go Go.Ai Go.Proofs
variable{c:aj}
theorem He(q:List Int):q.map bC=(q.map (AV.int .i64)).map oQ:=by rw[Zi1];rfl
theorem ot{s:St}{v:AV}{q:List Int}(h:QS 1 s v (q.map bC)){i:Nat}{x:Int}(hx:q[i]? =some x):∃b o,Rd s 1 v i b o [.int .i64 x]:=by
 rw[He]at h;exact h.MB (by rw[Zb7,hx];rfl)
structure Jc where
 V1:AV
 V2:AV
 V3:AV
 V4:AV
 V5:AV
 M:Pos
 L0:AV
 L1:AV
 L2:AV
 L3:AV
 L4:AV
 L5:AV
 L6:AV
 L7:AV
def Jc.Vs(j:Jc):List AV:=[j.V1,j.V2,j.V3,j.V4,j.V5]
def Jc.cells(j:Jc):List AV:=[j.V1,j.V2,j.V3,j.V4,j.V5,.map j.M,j.L0,j.L1,j.L2,j.L3,j.L4,j.L5,j.L6,j.L7]
structure Jt where
 p:bS
 N:Nat
 jW:List (List Bool)
 iR:List (List Int)
section
variable(J:Jt)
def Jt.n:Nat:=J.p.gs.length
def Jt.steps(i:Nat):List (Int×Int):=ado (yH J.p.ts J.N) (yI J.p.ts J.N) J.N (i:Int)
end
structure JW(s:St)(jb:Pos)(j:Jc)(J:Jt):Prop where
 mz:s.heap.get jb=some (.cells j.cells 0)
 ps:∃s0 r1 r2,PS s0 s j.Vs J.p/\TS s0 s j.V1 J.p.ts r1/\GS s0 s j.V2 J.p.gs r2
 cls:QS 1 s j.V4 (J.p.cs.map bC)
 jf:QS 6 s j.V5 (J.p.rs.map Rl.cells)
 kin:s.heap.get j.M=some (.map FY 18)
 tab:QS 1 s j.L0 ((BU J.p.ts J.N).map oQ)
 lvl:QS 1 s j.L1 ((BV J.p.ts J.N).map oQ)
 kQ:QS 1 s j.L2 ((BW J.p.ts J.N).map oQ)
 bes:RQ s j.L3 ((yH J.p.ts J.N).map λr=>r.map (AV.int .i64))
 acr:RQ s j.L4 ((yI J.p.ts J.N).map λr=>r.map (AV.int .i64))
 aq:∃ms:List Pos,QS 1 s j.L5 ((ms.map AV.map).map oQ)/\ms.length=J.N/\∀(i:Nat)(m:Pos),ms[i]? =some m->s.heap.get m=some (im (J.steps i))
 com:RQ s j.L6 (J.jW.map λr=>r.map AV.bool)
 tie:RQ s j.L7 (J.iR.map λr=>r.map (AV.int .u8))
 sF:J.p.Dh
 n1:J.jW.length=J.n
 n2:J.iR.length=J.n
 n3:∀r∈J.jW,r.length=J.n
 n4:∀r∈J.iR,r.length=J.n
 nN:(J.N:Int)=bf J.p.ts
theorem TS.ai{s0 s s':St}{V:AV}{ts:List aE}{rows:List (List AV)}(h:TS s0 s V ts rows)(g:Grew s s'):TS s0 s' V ts rows:=
 ⟨h.out.grow g,h.len,λi t r a b=>by obtain⟨v,e1,e2,e3⟩:=h.ez i t r a b;exact⟨v,e1,e2.grow g,e3⟩⟩
theorem GS.ai{s0 s s':St}{V:AV}{ts:List aN}{rows:List (List AV)}(h:GS s0 s V ts rows)(g:Grew s s'):GS s0 s' V ts rows:=
 ⟨h.out.grow g,h.len,λi t r a b=>by obtain⟨v,e1,e2,e3⟩:=h.ez i t r a b;exact⟨v,e1,e2.grow g,e3⟩⟩
theorem PS.OI{s0 s s':St}{Vs:List AV}{p:bS}(h:PS s0 s Vs p)(g:Grew s s'):PS s0 s' Vs p:=by
 obtain⟨V1,V2,V3,V4,V5,r1,r2,rfl,h1,h2,h3,h4,h5⟩:=h.all;exact⟨h.ai.trans g,V1,V2,V3,V4,V5,r1,r2,rfl,h1.ai g,h2.ai g,h3.grow g,h4.grow g,h5.grow g⟩
theorem JW.ai{s s':St}{jb:Pos}{j:Jc}{J:Jt}(h:JW s jb j J)(g:Grew s s'):JW s' jb j J where
 mz:=g.get h.mz
 ps:=by obtain⟨s0,r1,r2,a,b,d⟩:=h.ps;exact⟨s0,r1,r2,a.OI g,b.ai g,d.ai g⟩
 cls:=h.cls.ai g
 jf:=h.jf.ai g
 kin:=g.get h.kin
 tab:=h.tab.ai g
 lvl:=h.lvl.ai g
 kQ:=h.kQ.ai g
 bes:=h.bes.ai g
 acr:=h.acr.ai g
 aq:=by obtain⟨ms,a,b,d⟩:=h.aq;exact⟨ms,a.ai g,b,λi m hm=>g.get (d i m hm)⟩
 com:=h.com.ai g
 tie:=h.tie.ai g
 sF:=h.sF
 n1:=h.n1
 n2:=h.n2
 n3:=h.n3
 n4:=h.n4
 nN:=h.nN
theorem JW.of{s0 s1 s:St}{jb:Pos}{Vs:List AV}{p:bS}{N:Nat}{jW:List (List Bool)}{iR:List (List Int)}(h:JD s1 s jb Vs p.ts N p.gs.length jW iR)(hp:PS s0 s Vs p)(hf:p.Dh)(hN:(N:Int)=bf p.ts):
   ∃j:Jc,JW s jb j ⟨p,N,jW,iR⟩/\j.Vs=Vs:=by
 obtain⟨V1,V2,V3,V4,V5,r1,r2,rfl,h1,h2,h3,h4,h5⟩:=hp.all;obtain⟨m,L0,L1,L2,L3,L4,L5,L6,L7,wB,wA,ms,r6,r7,k0,k1,k2,k3,k4,k5,k6,k7,k8,k9⟩:=h.all;have lb:=OJ p.ts N;refine⟨⟨V1,V2,V3,V4,V5,m,L0,L1,L2,L3,L4,L5,L6,L7⟩,⟨k0,⟨s0,r1,r2,hp,h1,h2⟩,h4.own,h5.own,k1.2,k2.1,k3.1,k4.1,⟨wB,k5.1.1,by rw[k5.2.1,Za4,lb.1],λi w r a b=> ?_⟩,⟨wA,k6.1.1,by rw[k6.2.1,Za4,lb.2],λi w r a b=> ?_⟩,
   ⟨ms,k7.1.1,k7.2.1,λi m hm=>(k7.2.2 i m hm).2⟩,⟨r6,k8.1.1,by rw[k8.2.1,Za4];exact h.n1.symm,λi w r a b=> ?_⟩,⟨r7,k9.1.1,by rw[k9.2.1,Za4];exact h.n2.symm,λi w r a b=> ?_⟩,hf,h.n1,h.n2,h.n3,h.n4,hN⟩,rfl⟩
 all_goals
   rw[Zb7]at b;obtain⟨r,hr,rfl⟩:=Zf6.1 b
 .rw[<-He];exact(k5.2.2 i w r a hr).1
 .rw[<-He];exact(k6.2.2 i w r a hr).1
 .exact(k8.2.2 i w r a hr).1
 .exact(k9.2.2 i w r a hr).1
theorem arb(hc:bw c){s0 s:St}{Vs:List AV}{p:bS}(P:PS s0 s Vs p)(hp:p.Dh)(nm:List Nat):c 124 [.agg Vs,.str nm] s=some (.int .i64 (gi p nm),s):=by
 obtain⟨p',e,S⟩:=P.fW 1;refine hc.at (s:=aeH 124) rfl (aq4 ?_ (bN.int _ _));rw[Zd1,Zd1,Zi5,e, <-S.gi nm];exact aov rfl p' (S.sF hp) nm (emptyAt s) (Tv s)
structure Vw(s:St)(vb jb:Pos)(j:Jc)(J:Jt)(P G:AV)(q g:List Int):Prop where
 jw:JW s jb j J
 vc:s.heap.get vb=some (.cells [.ptr jb 0,P,G] 0)
 wf:Wf s
 pq:QS 1 s P (q.map bC)
 gq:QS 1 s G (g.map bC)
 ql:q.length=J.n
 gl:g.length=J.N
 ok:∀x∈q,-1<=x/\x<(J.N:Int)
 og:∀x∈g,-1<=x/\x<(J.n:Int)
theorem Vw.ai{s s':St}{vb jb:Pos}{j:Jc}{J:Jt}{P G:AV}{q g:List Int}(h:Vw s vb jb j J P G q g)(k:Grew s s'):Vw s' vb jb j J P G q g:=
 ⟨h.jw.ai k,k.get h.vc,k.wf,h.pq.ai k,h.gq.ai k,h.ql,h.gl,h.ok,h.og⟩
@[simp] theorem Jc.c0(j:Jc):j.cells[0]? =some j.V1:=id rfl
@[simp] theorem Jc.c1(j:Jc):j.cells[1]? =some j.V2:=id rfl
@[simp] theorem Jc.c3(j:Jc):j.cells[3]? =some j.V4:=id rfl
@[simp] theorem Jc.c4(j:Jc):j.cells[4]? =some j.V5:=id rfl
@[simp] theorem Jc.c5(j:Jc):j.cells[5]? =some (.map j.M):=id rfl
@[simp] theorem Jc.c6(j:Jc):j.cells[6]? =some j.L0:=id rfl
@[simp] theorem Jc.c7(j:Jc):j.cells[7]? =some j.L1:=id rfl
@[simp] theorem Jc.c8(j:Jc):j.cells[8]? =some j.L2:=id rfl
@[simp] theorem Jc.c9(j:Jc):j.cells[9]? =some j.L3:=id rfl
@[simp] theorem Jc.c10(j:Jc):j.cells[10]? =some j.L4:=id rfl
@[simp] theorem Jc.c11(j:Jc):j.cells[11]? =some j.L5:=id rfl
@[simp] theorem Jc.c12(j:Jc):j.cells[12]? =some j.L6:=id rfl
@[simp] theorem Jc.c13(j:Jc):j.cells[13]? =some j.L7:=id rfl
@[simp] theorem Jc.cc(j:Jc):cut j.cells 0 5=some j.Vs:=id rfl
section
variable{s:St}{vb jb:Pos}{j:Jc}{J:Jt}{P G:AV}{q g:List Int}(V:Vw s vb jb j J P G q g)
include V
theorem Vw.kR{a:Nat}{x:Int}(ha:q[a]? =some x)(hx:0<=x):∃i:Nat,x=(i:Int)/\i<J.N:=by
 have:=V.ok x (Zc1 ha);exact⟨x.toNat,by omega,by omega⟩
theorem Vw.rT{i:Nat}(hi:i<J.N):∃b o,Rd s 1 j.L0 i b o [.int .i64 ((cM J.p.ts i:Nat):Int)]:=
 V.jw.tab.MB (by unfold BU;rw[Zb7,Zh8 hi];rfl)
theorem Vw.rL{i:Nat}(hi:i<J.N):∃b o,Rd s 1 j.L1 i b o [.int .i64 (JB J.p.ts ((i:Nat):Int))]:=
 V.jw.lvl.MB (by unfold BV;rw[Zb7,Zh8 hi];rfl)
theorem Vw.rO{i:Nat}(hi:i<J.N):∃b o,Rd s 1 j.L2 i b o [.bool (PN J.p.ts ((i:Nat):Int))]:=
 V.jw.kQ.MB (by unfold BW;rw[Zb7,Zh8 hi];rfl)
theorem Vw.rB{i:Nat}(hi:i<J.N):∃w b o,Rd s 1 j.L3 i b o [w]/\QS 1 s w ((rD J.p.ts i).map bC):=by
 obtain⟨w,b,o,h1,h2⟩:=V.jw.bes.rd (i:=i) (r:=(rD J.p.ts i).map (AV.int .i64)) (by unfold yH;rw[Zb7,Zb7,Zh8 hi];rfl);exact⟨w,b,o,h1,by rw[He];exact h2⟩
theorem Vw.rA{i:Nat}(hi:i<J.N):∃w b o,Rd s 1 j.L4 i b o [w]/\QS 1 s w ((AL J.p.ts i).map bC):=by
 obtain⟨w,b,o,h1,h2⟩:=V.jw.acr.rd (i:=i) (r:=(AL J.p.ts i).map (AV.int .i64)) (by unfold yI;rw[Zb7,Zb7,Zh8 hi];rfl);exact⟨w,b,o,h1,by rw[He];exact h2⟩
theorem Vw.rS{i:Nat}(hi:i<J.N):∃m b o,Rd s 1 j.L5 i b o [.map m]/\s.heap.get m=some (im (J.steps i)):=by
 obtain⟨ms,h1,h2,h3⟩:=V.jw.aq;have hl:i<ms.length:=by omega
 obtain⟨b,o,h4⟩:=h1.MB (i:=i) (x:= .map ms[i]) (by rw[Zb7,H0 hl];rfl);exact⟨_,b,o,h4,h3 i _ (H0 hl)⟩
theorem Vw.rTab{t:Nat}{T:aE}(ht:J.p.ts[t]? =some T):∃v b o,Rd s 7 j.V1 t b o (T.ay v):=by
 obtain⟨s0,r1,r2,_,h,_⟩:=V.jw.ps;have hl:t<r1.length:=by rw[h.len];exact(Za2.1 ht).1
 obtain⟨v,e,_⟩:=h.ez t T r1[t] ht (H0 hl);obtain⟨b,o,h4⟩:=h.out.own.rd h.out.row (H0 hl);exact⟨v,b,o,by rw[<-e];exact h4⟩
theorem Vw.rG{t:Nat}{T:aN}(ht:J.p.gs[t]? =some T):∃v b o,Rd s 9 j.V2 t b o (T.ay v):=by
 obtain⟨s0,r1,r2,_,_,h⟩:=V.jw.ps;have hl:t<r2.length:=by rw[h.len];exact(Za2.1 ht).1
 obtain⟨v,e,_⟩:=h.ez t T r2[t] ht (H0 hl);obtain⟨b,o,h4⟩:=h.out.own.rd h.out.row (H0 hl);exact⟨v,b,o,by rw[<-e];exact h4⟩
theorem Vw.rC{a b:Nat}{r:List Bool}{x:Bool}(ha:J.jW[a]? =some r)(hb:r[b]? =some x):∃w p o p2 o2,Rd s 1 j.L6 a p o [w]/\Rd s 1 w b p2 o2 [.bool x]:=by
 obtain⟨w,p,o,h1,h2⟩:=V.jw.com.rd (i:=a) (r:=r.map AV.bool) (by rw[Zb7,ha];rfl);obtain⟨p2,o2,h3⟩:=h2.MB (i:=b) (x:= .bool x) (by rw[Zb7,hb];rfl);exact⟨w,p,o,p2,o2,h1,h3⟩
theorem Vw.rK{a b:Nat}{r:List Int}{x:Int}(ha:J.iR[a]? =some r)(hb:r[b]? =some x):∃w p o p2 o2,Rd s 1 j.L7 a p o [w]/\Rd s 1 w b p2 o2 [.int .u8 x]:=by
 obtain⟨w,p,o,h1,h2⟩:=V.jw.tie.rd (i:=a) (r:=r.map (AV.int .u8)) (by rw[Zb7,ha];rfl);obtain⟨p2,o2,h3⟩:=h2.MB (i:=b) (x:= .int .u8 x) (by rw[Zb7,hb];rfl);exact⟨w,p,o,p2,o2,h1,h3⟩
end
end
section
open Go Go.Ai Go.Proofs
variable{c:aj}{s:St}{vb jb:Pos}{j:Jc}{J:Jt}{P G:AV}{q g:List Int}
theorem arc(V:Vw s vb jb j J P G q g){w:AV}{r:List Int}(hw:QS 1 s w (r.map bC))(hl:r.length<=1000000){b:Nat}{x:Int}(hb:q[b]? =some x)(F:Nat):
  ∀(m k:Nat),r.length<=k+m->k<=r.length->∀k1 k2,pn c F k1 k2 (m+1) [.ptr vb 0,.int .i64 (b:Int),w,.int .i64 (r.length:Int),.int .i64 (k:Int)] s=if(r.drop k).contains x then k1 [.bool true] s else k2 [] s:=by
 obtain⟨pb,po,p⟩:=ot V.pq hb;have p1:=λ{R}=>@p.st R
 have p3:=p.one;have vc:=V.vc;intro m;induction m with
 |zero=>
  intro k h1 h2 k1 k2;obtain rfl:k=r.length:=by omega
  rw[qG];simp
 |succ m ih=>
  intro k h1 h2 k1 k2;by_cases hk:k<r.length
  . obtain⟨wb,wo,w⟩:=ot hw (H0 hk);have w1:=λ{R}=>@w.st R
    have w3:=w.one;have wr:ax .i64 ((k:Int)+1)=((k+1:Nat):Int):=wrap64 (by omega) (by omega);rw[Zd8 hk,List.contains_cons];by_cases he:r[k]=x
    .   rw[qG];simp[hk,w1,w3,p1,p3,vc,he]
    .   have QX:(x==r[k])=false:=(by simpa using λe=>he e.symm);rw[QX,Zp4, <-ih (k+1) (by omega) (by omega) k1 k2,qG];simp[hk,w1,w3,p1,p3,vc,he,wr]
  .obtain rfl:k=r.length:=(by omega);rw[qG];simp
theorem Hf(hc:bw c)(V:Vw s vb jb j J P G q g){L:AV}{i:Nat}{lb:Pos}{lo:Nat}{w:AV}{r:List Int}(hL:Rd s 1 L i lb lo [w])(hw:QS 1 s w (r.map bC))(hlen:r.length<=1000){a b:Nat}{x:Int}(ha:q[a]? =some (i:Int))(hb:q[b]? =some x):
  c 140 [.ptr vb 0,L,.int .i64 (a:Int),.int .i64 (b:Int)] s=some (.bool (r.contains x),s):=by
 obtain⟨pb,po,p⟩:=ot V.pq ha;have p1:=λ{R}=>@p.st R
 have p3:=p.one;have l1:=λ{R}=>@hL.st R
 have l3:=hL.one;have vc:=V.vc;have ln:=λ(K:AV->St->Option (AV×St))=>hw.lenB (c:=c) K s
 rw[Za4]at ln;rw[VY hc (r.length+1) (r:=(.bool (r.contains x),s)),aB (Plain.bool _) (aX.refl s)];have lp:=arc (c:=c) V hw (by omega) hb (r.length+1) r.length 0 (by omega) (by omega);rw[Ze5]at lp;rw[aae];simp only[av,cw,aS,Zb8,aT,vc,aD,Za9,Za5,Zb4,aR,p1,p3,l1,l3,ln];rw[show(0:Int)=((0:Nat):Int)from rfl,lp];generalize r.contains x=e;cases e<;>simp
theorem LX(ts:List aE)(i:Nat):(rD ts i).length<=1000/\(AL ts i).length<=1000:=by
 have h:PO ts i<=24:=by
  unfold PO;split
  .rename_i t ht;have:=XP t;omega
  .omega
 exact⟨Zb2 (Lw _ _ _) (by omega),Zb2 (Lw _ _ _) (by omega)⟩
def ZS(ts:List aE)(i:Nat)(x:Int):Bool:=(rD ts i).contains x||(AL ts i).contains x
theorem afX(hc:bw c)(V:Vw s vb jb j J P G q g){a b i:Nat}{x:Int}(ha:q[a]? =some (i:Int))(hi:i<J.N)(hb:q[b]? =some x):
  c 147 [.ptr vb 0,.int .i64 (a:Int),.int .i64 (b:Int)] s=some (.bool (ZS J.p.ts i x),s):=by
 obtain⟨w,wb,wo,h1,h2⟩:=V.rB hi;obtain⟨w',wb',wo',h3,h4⟩:=V.rA hi;have c1:=Hf hc V h1 h2 (LX _ _).1 ha hb;have c2:=Hf hc V h3 h4 (LX _ _).2 ha hb;have vc:=V.vc;have jc:=V.jw.mz;rw[TE hc 1 (r:=(.bool (ZS J.p.ts i x),s)),aB (Plain.bool _) (aX.refl s)];rw[XQ];unfold ZS;cases h:(rD J.p.ts i).contains x<;>simp only[h]at c1<;>simp[vc,jc,c1,c2,-List.elem_eq_contains,-List.contains_eq_mem]
theorem ait:∀(ts:List aE)(i:Nat),(i:Int)<bf ts->cM ts i<ts.length
 |[],i,h=>by simp[bf]at h;omega
 |t ::ts,i,h=>by
  unfold cM;split
  .simp
  .rename_i hn;have n1:0<=bJ t:=XS t;have e:bf (t::ts)=bJ t+bf ts:=(by simp[bf]);have:=ait ts (i - (bJ t).toNat) (by omega);simpa using this
theorem Vw.awy(V:Vw s vb jb j J P G q g){i:Nat}(hi:i<J.N):cM J.p.ts i<J.p.ts.length:=ait _ _ (by have:=V.jw.nN;omega)
def XT(ts:List aE)(t:Nat):List Nat:=match ts[t]? with|some t=>t.name|none=>[]
def tQ(ts:List aE)(nm:List Nat)(i:Nat):Bool:=decide (nm=[])||decide (nm=XT ts (cM ts i))
theorem Vw.rN(V:Vw s vb jb j J P G q g){i:Nat}(hi:i<J.N):∃T v b o,J.p.ts[cM J.p.ts i]? =some T/\XT J.p.ts (cM J.p.ts i)=T.name/\Rd s 7 j.V1 (cM J.p.ts i) b o (T.ay v):=by
 have hT:=H0 (V.awy hi);obtain⟨v,b,o,h⟩:=V.rTab hT;exact⟨_,v,b,o,hT,by unfold XT;rw[hT],h⟩
theorem Ih(hc:bw c)(V:Vw s vb jb j J P G q g)(r:Rl){i:Nat}(hi:i<J.N):c 145 [.ptr vb 0,.agg r.cells,.int .i64 (i:Int)] s=some (.bool (tQ J.p.ts r.t i),s):=by
 rw[VZ hc 1 (r:=(.bool (tQ J.p.ts r.t i),ah s (.cells r.cells 0))),aB (Plain.bool _) (bY V.wf)];rw[aaf,cS];have V1:=V.ai (Grew.ah V.wf (.cells r.cells 0));have hb:=aA s (.cells r.cells 0);have e:AV.cells (.agg r.cells)=r.cells:=rfl;rw[e];generalize ah s (.cells r.cells 0)=s1 at*
 have vc:=V1.vc;have jc:=V1.jw.mz;obtain⟨b1,o1,t1⟩:=V1.rT hi;have t2:=λ{R}=>@t1.pr R
 have t3:=t1.one;obtain⟨T,v,b,o,_,hn,h⟩:=V1.rN hi;have h1:=λ{R}=>@h.pr R
 have h2:=h.at' 0 _ rfl;rw[Zf7]at h2;unfold tQ;rw[hn];by_cases h0:r.t=[]
 .simp[hb,h0]
 .have d0:decide (r.t=[])=false:=Za1 h0;simp[hb,vc,jc,t2,t3,h1,h2,d0]
theorem ard{R:Type}(K:AV->Option R){h:T AB}{m:Pos}{E:List (Int×Int)}(hm:h.get m=some (im E))(x:Int):
  jI (.lookup .i (.int .i64 0) true) [.map m,.int .i64 x] h (λ_=>true) K=K (.tuple [.int .i64 ((kq E x).getD 0),.bool (kq E x).isSome]):=by
 unfold jI;have e:aG.run (λ_=>none) .h (.lookup .i (.int .i64 0) true) [.map m,.int .i64 x]=none:=rfl;rw[e];simp only;have:aG.run (λb=>h.get b) .h (.lookup .i (.int .i64 0) true) [.map m,.int .i64 x]=some (.val (.tuple [.int .i64 ((kq E x).getD 0),.bool (kq E x).isSome])):=by
  unfold im at hm;cases hl:kq E x with
  |none=>simp only[aG.run,l9,hm,(CU x E 0 0).1 hl];rfl
  |some d=>obtain⟨n,e⟩:=(CU x E 0 0).2 d hl;simp only[aG.run,l9,hm,e];rfl
 rw[this]
theorem aow(hc:bw c)(V:Vw s vb jb j J P G q g){a b i:Nat}{x:Int}(ha:q[a]? =some (i:Int))(hi:i<J.N)(hb:q[b]? =some x):
  c 139 [.ptr vb 0,.int .i64 (a:Int),.int .i64 (b:Int)] s=some (.tuple [.int .i64 ((kq (J.steps i) x).getD 0),.bool (kq (J.steps i) x).isSome],s):=by
 obtain⟨pb,po,p⟩:=ot V.pq ha;obtain⟨qb,qo,p'⟩:=ot V.pq hb;have p1:=λ{R}=>@p.pr R
 have p3:=p.one;have p4:=λ{R}=>@p'.pr R
 have p6:=p'.one;obtain⟨m,b1,o1,t1,t0⟩:=V.rS hi;have t2:=λ{R}=>@t1.pr R
 have t3:=t1.one;have vc:=V.vc;have jc:=V.jw.mz;have lk:=λ(K:AV->Option (AV×St))=>ard K t0 x
 rw[aag hc 1 (r:=(.tuple [.int .i64 ((kq (J.steps i) x).getD 0),.bool (kq (J.steps i) x).isSome],s)),aB (Plain.tuple (by simp[Plain.int,Plain.bool])) (aX.refl s)];rw[adp];simp[vc,jc,p1,p3,p4,p6,t2,t3,lk]
theorem QS.XU{es:Nat}{v:AV}{rows:List (List AV)}(h:QS es s v rows):gD 3 v:=by
 rcases h with⟨rfl,_⟩|⟨b,off,cap,cs,rfl,_⟩|⟨b,off,rfl,_⟩
 .exact .flat rfl
 .refine .flat ?_;cases cap<;>simp[fY,Pos.beq_eq.2 rfl]
 .refine .flat ?_;simp[fY,Pos.beq_eq.2 rfl]
theorem JW.beq{s:St}(h:JW s jb j J):eZ (.agg j.Vs) (.agg j.Vs)=true:=by
 obtain⟨s0,r1,r2,_,h1,h2⟩:=h.ps;obtain⟨V1,V2,V3,V4,V5,_,_,e,_,_,h3,_⟩:=(show PS s0 s j.Vs J.p from by assumption).all;refine Va λv hv=> ?_
 simp only[Jc.Vs,Za8,Zc0,Ze9]at hv;simp only[Jc.Vs,Zf9]at e;rcases hv with rfl|rfl|rfl|rfl|rfl
 .exact QS.XU h1.out.own
 .exact QS.XU h2.out.own
 .rw[e.2.2.1];exact QS.XU h3.own
 .exact QS.XU h.cls
 .exact QS.XU h.jf
theorem Vw.who(hc:bw c)(V:Vw s vb jb j J P G q g)(nm:List Nat):c 124 [.agg j.Vs,.str nm] s=some (.int .i64 (gi J.p nm),s):=by obtain⟨s0,r1,r2,h,_,_⟩:=V.jw.ps;exact arb hc h V.jw.sF nm
theorem Rg(hc:bw c)(V:Vw s vb jb j J P G q g)(r:Rl){a b:Nat}{x y:Int}(ga:gi J.p r.a=(a:Int))(gb:gi J.p r.b=(b:Int))(ha:q[a]? =some x)(hb:q[b]? =some y):
   c 138 [.ptr vb 0,.agg r.cells] s=some (.tuple [.int .i64 (a:Int),.int .i64 (b:Int),.bool (decide (0<=x)&&decide (0<=y))],s):=by
 rw[XV hc 1 (r:=(.tuple [.int .i64 (a:Int),.int .i64 (b:Int),.bool (decide (0<=x)&&decide (0<=y))],ah s (.cells r.cells 0))),aB (Plain.tuple (by simp[Plain.int,Plain.bool])) (bY V.wf)];rw[ab1,cS];have V1:=V.ai (Grew.ah V.wf (.cells r.cells 0));have fk:=aA s (.cells r.cells 0);have e:AV.cells (.agg r.cells)=r.cells:=rfl;rw[e];generalize ah s (.cells r.cells 0)=s1 at*
 have vc:=V1.vc;have jc:=V1.jw.mz;obtain⟨pb,po,p⟩:=ot V1.pq ha;obtain⟨qb,qo,p'⟩:=ot V1.pq hb;have p1:=λ{R}=>@p.pr R
 have p3:=p.one;have p4:=λ{R}=>@p'.pr R
 have p6:=p'.one;have w1:=V1.who hc r.a;have w2:=V1.who hc r.b;rw[ga]at w1;rw[gb]at w2;have k1:=λ(K:AV->Option (AV×St))=>lQ K (p:=vb) (o:=0) (h:=s1.heap) (h2:=s1.heap) (v:= .ptr jb 0) (by rw[vc];rfl) (by rw[vc];rfl) (by simp[eZ,nK,fY,Pos.beq_eq.2 rfl])
 have k2:=λ(K:AV->Option (AV×St))=>aib K (m:=5) (p:=jb) (o:=0) (h:=s1.heap) (h2:=s1.heap) (l:=j.Vs) (by rw[jc];rfl) (by rw[jc];rfl) V1.jw.beq
 have k3:=λ(K:AV->Option (AV×St))=>lQ K (p:=s.next) (o:=3) (h:=s1.heap) (h2:=s1.heap) (v:= .str r.b) (by rw[fk];rfl) (by rw[fk];rfl) (by simp[eZ,nK,fY,kZ.2 rfl])
 by_cases hx:0<=x
 .have d:decide (0<=x)=true:=Za0 hx;simp[fk,vc,jc,p1,p3,p4,p6,w1,w2,k1,k2,k3,d,hx]
 .have d:decide (0<=x)=false:=Za1 hx;simp[fk,vc,jc,p1,p3,p4,p6,w1,w2,k1,k2,k3,d,hx]
end
section
open Go Go.Ai Go.Proofs
def gZ(M:St->Pos->Prop)(s s':St):Prop:=s.next.toNat<=s'.next.toNat/\Wf s'/\∀b x,¬M s b->s.heap.get b=some x->s'.heap.get b=some x/\¬M s' b
theorem gZ.refl{M:St->Pos->Prop}{s:St}(hw:Wf s):gZ M s s:=⟨Za3 _,hw,λ_ _ h1 h2=>⟨h2,h1⟩⟩
theorem gZ.trans{M:St->Pos->Prop}{a b d:St}(h:gZ M a b)(k:gZ M b d):gZ M a d:=⟨Zb2 h.1 k.1,k.2.1,λp x h1 h2=>by obtain⟨e1,e2⟩:=h.2.2 p x h1 h2;exact k.2.2 p x e2 e1⟩
structure kK(c:aj)(fv:AV)(s0:St)(I:St->List Ev->Prop)(M:St->Pos->Prop):Prop where
 ai:∀{s l},I s l->Grew s0 s
 grow:∀{s s' l},I s l->Grew s s'->I s' l
 mJ:∀{s s' l b},I s l->Grew s s'->M s' b->M s b
 mlt:∀{s l b},I s l->M s b->b.toNat<s.next.toNat
 back:∀{s s' l l'},I s l->I s' l'->aX s s'->I s l'
 call:∀{s l}{k:Nat}{W:AV}{who:List Int},I s l->QS 1 s W (who.map bC)->fK l+k+who.length<=1000000->
  ∃s' v,(∀(K:AV->St->Option (AV×St)),aq c .callV [fv,.int .i64 (k:Int),W] s K=K v s')/\I s' (l++[(k,who)])/\gZ M s s'
 one:fv.cells=[fv]/\fv.one=true
def qF(q:List Int)(g:Nat):Int:=q.getD g (-1)
theorem qH{q:List Int}{a:Nat}{x:Int}(h:q[a]? =some x):qF q a=x:=by unfold qF;rw[Zb3,h];rfl
section
variable{c:aj}{fv:AV}{s0:St}{I:St->List Ev->Prop}{M:St->Pos->Prop}{s:St}{l l':List Ev}
theorem kK.fin(H:kK c fv s0 I M)(hI:I s l){T:Option (AV×St)}{f:FuncId}{args:List AV}{v:AV}(hr:∀{r},T=some r->c f args s=some (tidy s r))(h:∃s',T=some (v,s')/\I s' l'):
   ∃s',c f args s=some (v,s')/\I s' l':=by
 obtain⟨s',h1,h2⟩:=h;have h3:=hr h1;unfold tidy at h3;split at h3
 .rename_i hk;exact⟨s,h3,H.back hI h2 hk.2⟩
 .exact⟨s',h3,h2⟩
theorem kK.fr(H:kK c fv s0 I M){s':St}(hI:I s l)(g:Grew s s'):gZ M s s':=⟨g.next,g.wf,λb x h1 h2=>⟨g.get h2,λh=>h1 (H.mJ hI g h)⟩⟩
theorem kK.TF(H:kK c fv s0 I M)(hI:I s l)(hB:fK l+3<=1000000)(a b:Nat):
  ∃s' v,(∀(K:AV->St->Option (AV×St)),aq c (.buildSlice 1 2 [.int .i64 0] [0,1]) [.int .i64 (a:Int),.int .i64 (b:Int)] s (λx s=>aq c .callV [fv,.int .i64 1,x] s K)=K v s')/\I s' (l++[(1,[(a:Int),(b:Int)])])/\gZ M s s':=by
 have hw:=(H.ai hI).wf;have e:cK (bW [AV.int .i64 0] 2) ([0,1].map λi=>(i*1,1)) [.int .i64 (a:Int),.int .i64 (b:Int)]=some [.int .i64 (a:Int),.int .i64 (b:Int)]:=by
  simp[cK,bW,cO,cU,aU,AV.cells]
 obtain⟨s',v,h1,h2,h3⟩:=H.call (k:=1) (W:= .slice s.next 0 2 (some 2) 1) (who:=[(a:Int),(b:Int)]) (H.grow hI (Grew.ah hw (.cells [.int .i64 (a:Int),.int .i64 (b:Int)] 0)))
  (.inr (.inl ⟨s.next,0,some 2,_,rfl,aA _ _,by simp,by simp,.inr rfl⟩)) (by simp;omega)
 exact⟨s',v,λK=>by rw[au,e,fu];exact h1 K,h2,(H.fr hI (Grew.ah hw _)).trans h3⟩
theorem kK.ZT(H:kK c fv s0 I M)(hI:I s l)(hB:fK l+2<=1000000)(a:Nat):
  ∃s' v,(∀(K:AV->St->Option (AV×St)),aq c (.buildSlice 1 1 [.int .i64 0] [0]) [.int .i64 (a:Int)] s (λx s=>aq c .callV [fv,.int .i64 1,x] s K)=K v s')/\I s' (l++[(1,[(a:Int)])])/\gZ M s s':=by
 have hw:=(H.ai hI).wf
 obtain⟨s',v,h1,h2,h3⟩:=H.call (k:=1) (W:= .slice s.next 0 1 (some 1) 1) (who:=[(a:Int)]) (H.grow hI (Grew.ah hw (.cells [.int .i64 (a:Int)] 0)))
  (.inr (.inl ⟨s.next,0,some 1,_,rfl,aA _ _,by simp,by simp,.inr rfl⟩)) (by simp;omega)
 exact⟨s',v,λK=>by rw[GW rfl rfl];exact h1 K,h2,(H.fr hI (Grew.ah hw _)).trans h3⟩
end
section
variable{c:aj}{fv:AV}{s0:St}{I:St->List Ev->Prop}{M:St->Pos->Prop}{s:St}{l:List Ev}{vb jb:Pos}{j:Jc}{J:Jt}{P G:AV}{q g:List Int}
def aeI(J:Jt)(x y:Int):Option Int:=kq (J.steps x.toNat) y
def zu(J:Jt)(x:Int):Nat:=cM J.p.ts x.toNat
def adq(J:Jt)(r:Rl)(x y:Int):Bool:=decide (zu J x=zu J y)&&(decide (r.n=0)||((aeI J x y).isSome&&decide ((aeI J x y).getD 0<r.n)))
def amq(J:Jt)(x y:Int):Bool:= !(rD J.p.ts x.toNat).contains y
def amr(J:Jt)(x y:Int):Bool:= !(AL J.p.ts x.toNat).contains y
def ahe(J:Jt)(r:Rl)(x y:Int):Bool:= !(aeI J x y).isSome||decide (r.n<(aeI J x y).getD 0)
def ams(J:Jt)(x y:Int):Bool:= !decide (zu J x=zu J y)
structure Two(J:Jt)(q:List Int)(r:Rl)(a b:Nat)(x y:Int):Prop where
 ga:gi J.p r.a=(a:Int)
 gb:gi J.p r.b=(b:Int)
 qa:q[a]? =some x
 qb:q[b]? =some y
theorem Two.two{r:Rl}{a b:Nat}{x y:Int}(h:Two J q r a b x y)(P:Int->Int->Bool):wC (qF q) a b P=uZ (decide (0<=x)&&decide (0<=y)&&P x y) 1 [(a:Int),(b:Int)]:=by
 unfold wC on;rw[qH h.qa,qH h.qb]
theorem arf (hc:bw c)(H:kK c fv s0 I M)(V:Vw s0 vb jb j J P G q g){r:Rl}{a b:Nat}{x y:Int}(hT:Two J q r a b x y)(hI:I s l)(hB:fK l+3<=1000000):
   ∃s',c 77 [.ptr vb 0,.agg r.cells,fv] s=some (.tuple [],s')/\I s' (l++wC (qF q) a b (adq J r)):=by
 refine H.fin hI (λh=>V8 hc 1 h) ?_;have hw:=(H.ai hI).wf;have dK:=H.grow hI (Grew.ah hw (.cells r.cells 0));have V1:=V.ai (H.ai dK);have fk:=aA s (.cells r.cells 0);rw[hT.two,aah,cS,show AV.cells (.agg r.cells)=r.cells from rfl];generalize ah s (.cells r.cells 0)=s1 at*
 have vc:=V1.vc;have jc:=V1.jw.mz;have bo:=Rg hc V1 r hT.ga hT.gb hT.qa hT.qb;obtain⟨pb,po,p⟩:=ot V1.pq hT.qa;obtain⟨qb,qo,p'⟩:=ot V1.pq hT.qb;have p1:=λ{R}=>@p.pr R
 have p3:=p.one;have p4:=λ{R}=>@p'.pr R
 have p6:=p'.one;obtain⟨s2,v2,e1,e2,_⟩:=H.TF dK hB a b;by_cases hx:0<=x
 . by_cases hy:0<=y
   . obtain ⟨ i,rfl,hi⟩:=V1.kR hT.qa hx;obtain⟨k,rfl,hk⟩:=V1.kR hT.qb hy;obtain⟨tb,to,t⟩:=V1.rT hi;obtain⟨ub,uo,u⟩:=V1.rT hk;have t1:=λ{R}=>@t.pr R
     have t3:=t.one;have u1:=λ{R}=>@u.pr R
     have u3:=u.one;have fa:=aow hc V1 hT.qa hi hT.qb;unfold adq zu aeI;simp only[Zd4];by_cases ht:cM J.p.ts i=cM J.p.ts k
     .  have d1:decide (((cM J.p.ts i:Nat):Int)=((cM J.p.ts k:Nat):Int))=true:=Za0 (by omega);by_cases hn:r.n=0
        .refine⟨s2,?_,by simpa [hx,hy,ht,hn,rY]using e2⟩;simp[-au,fk,bo,hx,hy,vc,jc,p1,p3,p4,p6,t1,t3,u1,u3,ht,fa,hn,e1]
        . by_cases hs:(kq (J.steps i) (k:Int)).isSome=true
          . by_cases hl:(kq (J.steps i) (k:Int)).getD 0<r.n
            .refine⟨s2,?_,by simpa [hx,hy,ht,hn,hs,hl,rY]using e2⟩;simp[-au,fk,bo,hx,hy,vc,jc,p1,p3,p4,p6,t1,t3,u1,u3,ht,fa,hn,hs,hl,e1]
            .refine⟨s1,?_,by simpa [hx,hy,ht,hn,hs,hl,eE]using dK⟩;simp[-au,fk,bo,hx,hy,vc,jc,p1,p3,p4,p6,t1,t3,u1,u3,ht,fa,hn,hs,hl,e1]
          .have hs:(kq (J.steps i) (k:Int)).isSome=false:=(by simpa using hs);refine⟨s1,?_,by simpa [hx,hy,ht,hn,hs,eE]using dK⟩;simp[-au,fk,bo,hx,hy,vc,jc,p1,p3,p4,p6,t1,t3,u1,u3,ht,fa,hn,hs,e1]
     .  have d1:decide (((cM J.p.ts i:Nat):Int)=((cM J.p.ts k:Nat):Int))=false:=Za1 (by omega);refine⟨s1,?_,by simpa [ht,eE]using dK⟩;simp[-au,fk,bo,hx,hy,vc,jc,p1,p3,p4,p6,t1,t3,u1,u3,d1]
   .refine⟨s1,?_,by simpa [hy,eE]using dK⟩;simp[-au,fk,bo,hy]
 .refine⟨s1,?_,by simpa [hx,eE]using dK⟩;simp[-au,fk,bo,hx]
theorem agx(hc:bw c)(H:kK c fv s0 I M)(V:Vw s0 vb jb j J P G q g){r:Rl}{a b:Nat}{x y:Int}(hT:Two J q r a b x y)(hI:I s l)(hB:fK l+3<=1000000):
   ∃s',c 78 [.ptr vb 0,.agg r.cells,fv] s=some (.tuple [],s')/\I s' (l++wC (qF q) a b (amq J)):=by
 refine H.fin hI (λh=>MC hc 1 h) ?_;have hw:=(H.ai hI).wf;have dK:=H.grow hI (Grew.ah hw (.cells r.cells 0));have V1:=V.ai (H.ai dK);have fk:=aA s (.cells r.cells 0);rw[hT.two,PR,cS,show AV.cells (.agg r.cells)=r.cells from rfl];generalize ah s (.cells r.cells 0)=s1 at*
 have vc:=V1.vc;have jc:=V1.jw.mz;have bo:=Rg hc V1 r hT.ga hT.gb hT.qa hT.qb;obtain⟨s2,v2,e1,e2,_⟩:=H.TF dK hB a b;by_cases hx:0<=x
 . by_cases hy:0<=y
   . obtain⟨i,rfl,hi⟩:=V1.kR hT.qa hx;obtain⟨w,wb,wo,h1,h2⟩:=V1.rB hi;have c1:=Hf hc V1 h1 h2 (LX _ _).1 hT.qa hT.qb;unfold amq;simp only[Zd4];generalize (rD J.p.ts i).contains y=e at*
     cases e
     .  refine⟨s2,?_,by simpa [hx,hy,rY]using e2⟩;simp[-au,fk,bo,hx,hy,vc,jc,c1,e1]
     .  refine⟨s1,?_,by simpa [hx,hy,eE]using dK⟩;simp[-au,fk,bo,hx,hy,vc,jc,c1]
   .refine⟨s1,?_,by simpa [hy,eE]using dK⟩;simp[-au,fk,bo,hy]
 .refine⟨s1,?_,by simpa [hx,eE]using dK⟩;simp[-au,fk,bo,hx]
theorem agy(hc:bw c)(H:kK c fv s0 I M)(V:Vw s0 vb jb j J P G q g){r:Rl}{a b:Nat}{x y:Int}(hT:Two J q r a b x y)(hI:I s l)(hB:fK l+3<=1000000):
   ∃s',c 79 [.ptr vb 0,.agg r.cells,fv] s=some (.tuple [],s')/\I s' (l++wC (qF q) a b (amr J)):=by
 refine H.fin hI (λh=>MD hc 1 h) ?_;have hw:=(H.ai hI).wf;have dK:=H.grow hI (Grew.ah hw (.cells r.cells 0));have V1:=V.ai (H.ai dK);have fk:=aA s (.cells r.cells 0);rw[hT.two,PT,cS,show AV.cells (.agg r.cells)=r.cells from rfl];generalize ah s (.cells r.cells 0)=s1 at*
 have vc:=V1.vc;have jc:=V1.jw.mz;have bo:=Rg hc V1 r hT.ga hT.gb hT.qa hT.qb;obtain⟨s2,v2,e1,e2,_⟩:=H.TF dK hB a b;by_cases hx:0<=x
 . by_cases hy:0<=y
   . obtain⟨i,rfl,hi⟩:=V1.kR hT.qa hx;obtain⟨w,wb,wo,h1,h2⟩:=V1.rA hi;have c1:=Hf hc V1 h1 h2 (LX _ _).2 hT.qa hT.qb;unfold amr;simp only[Zd4];generalize (AL J.p.ts i).contains y=e at*
     cases e
     .  refine⟨s2,?_,by simpa [hx,hy,rY]using e2⟩;simp[-au,fk,bo,hx,hy,vc,jc,c1,e1]
     .  refine⟨s1,?_,by simpa [hx,hy,eE]using dK⟩;simp[-au,fk,bo,hx,hy,vc,jc,c1]
   .refine⟨s1,?_,by simpa [hy,eE]using dK⟩;simp[-au,fk,bo,hy]
 .refine⟨s1,?_,by simpa [hx,eE]using dK⟩;simp[-au,fk,bo,hx]
theorem amt(hc:bw c)(H:kK c fv s0 I M)(V:Vw s0 vb jb j J P G q g){r:Rl}{a b:Nat}{x y:Int}(hT:Two J q r a b x y)(hI:I s l)(hB:fK l+3<=1000000):
   ∃s',c 80 [.ptr vb 0,.agg r.cells,fv] s=some (.tuple [],s')/\I s' (l++wC (qF q) a b (ahe J r)):=by
 refine H.fin hI (λh=>TG hc 1 h) ?_;have hw:=(H.ai hI).wf;have dK:=H.grow hI (Grew.ah hw (.cells r.cells 0));have V1:=V.ai (H.ai dK);have fk:=aA s (.cells r.cells 0);rw[hT.two,XW,cS,show AV.cells (.agg r.cells)=r.cells from rfl];generalize ah s (.cells r.cells 0)=s1 at*
 have vc:=V1.vc;have jc:=V1.jw.mz;have bo:=Rg hc V1 r hT.ga hT.gb hT.qa hT.qb;obtain⟨s2,v2,e1,e2,_⟩:=H.TF dK hB a b;by_cases hx:0<=x
 . by_cases hy:0<=y
   . obtain⟨i,rfl,hi⟩:=V1.kR hT.qa hx;have fa:=aow hc V1 hT.qa hi hT.qb;unfold ahe aeI;simp only[Zd4];by_cases hs:(kq (J.steps i) y).isSome=true
     .  by_cases hl:r.n<(kq (J.steps i) y).getD 0
        .refine⟨s2,?_,by simpa [hx,hy,hs,hl,rY]using e2⟩;simp[-au,fk,bo,hx,hy,vc,jc,fa,hs,hl,e1]
        .refine⟨s1,?_,by simpa [hx,hy,hs,hl,eE]using dK⟩;simp[-au,fk,bo,hx,hy,vc,jc,fa,hs,hl,e1]
     .  have hs:(kq (J.steps i) y).isSome=false:=(by simpa using hs);refine⟨s2,?_,by simpa [hx,hy,hs,rY]using e2⟩;simp[-au,fk,bo,hx,hy,vc,jc,fa,hs,e1]
   .refine⟨s1,?_,by simpa [hy,eE]using dK⟩;simp[-au,fk,bo,hy]
 .refine⟨s1,?_,by simpa [hx,eE]using dK⟩;simp[-au,fk,bo,hx]
theorem akf(hc:bw c)(H:kK c fv s0 I M)(V:Vw s0 vb jb j J P G q g){r:Rl}{a b:Nat}{x y:Int}(hT:Two J q r a b x y)(hI:I s l)(hB:fK l+3<=1000000):
   ∃s',c 81 [.ptr vb 0,.agg r.cells,fv] s=some (.tuple [],s')/\I s' (l++wC (qF q) a b (ams J)):=by
 refine H.fin hI (λh=>PW hc 1 h) ?_;have hw:=(H.ai hI).wf;have dK:=H.grow hI (Grew.ah hw (.cells r.cells 0));have V1:=V.ai (H.ai dK);have fk:=aA s (.cells r.cells 0);rw[hT.two,TH,cS,show AV.cells (.agg r.cells)=r.cells from rfl];generalize ah s (.cells r.cells 0)=s1 at*
 have vc:=V1.vc;have jc:=V1.jw.mz;have bo:=Rg hc V1 r hT.ga hT.gb hT.qa hT.qb;obtain⟨pb,po,p⟩:=ot V1.pq hT.qa;obtain⟨qb,qo,p'⟩:=ot V1.pq hT.qb;have p1:=λ{R}=>@p.pr R
 have p3:=p.one;have p4:=λ{R}=>@p'.pr R
 have p6:=p'.one;obtain⟨s2,v2,e1,e2,_⟩:=H.TF dK hB a b;by_cases hx:0<=x
 . by_cases hy:0<=y
   . obtain⟨i,rfl,hi⟩:=V1.kR hT.qa hx;obtain⟨k,rfl,hk⟩:=V1.kR hT.qb hy;obtain⟨tb,to,t⟩:=V1.rT hi;obtain⟨ub,uo,u⟩:=V1.rT hk;have t1:=λ{R}=>@t.pr R
     have t3:=t.one;have u1:=λ{R}=>@u.pr R
     have u3:=u.one;unfold ams zu;simp only[Zd4];by_cases ht:cM J.p.ts i=cM J.p.ts k
     .  refine⟨s1,?_,by simpa [ht,eE]using dK⟩;simp[-au,fk,bo,hx,hy,vc,jc,p1,p3,p4,p6,t1,t3,u1,u3,ht]
     .  have d1:decide (((cM J.p.ts i:Nat):Int)=((cM J.p.ts k:Nat):Int))=false:=Za1 (by omega);refine⟨s2,?_,by simpa [hx,hy,ht,rY]using e2⟩;simp[-au,fk,bo,hx,hy,vc,jc,p1,p3,p4,p6,t1,t3,u1,u3,d1,e1]
   .refine⟨s1,?_,by simpa [hy,eE]using dK⟩;simp[-au,fk,bo,hy]
 .refine⟨s1,?_,by simpa [hx,eE]using dK⟩;simp[-au,fk,bo,hx]
def atP(J:Jt)(r:Rl)(x:Int):Bool:= !decide (XT J.p.ts (zu J x)=r.t)
def ahf(J:Jt)(r:Rl)(x:Int):Bool:= !decide (XT J.p.ts (zu J x)=r.t)|| !decide (x - ((BT (cM J.p.ts) (zu J x) x.toNat:Nat):Int)=r.n)
theorem ale{a:Nat}{x:Int}(h:q[a]? =some x)(P:Int->Bool):Ed (qF q) a P=uZ (decide (0<=x)&&P x) 1 [(a:Int)]:=by
 unfold Ed on;rw[qH h]
theorem avr(hc:bw c)(H:kK c fv s0 I M)(V:Vw s0 vb jb j J P G q g){r:Rl}{a:Nat}{x:Int}(ga:gi J.p r.a=(a:Int))(ha:q[a]? =some x)(hI:I s l)(hB:fK l+2<=1000000):
   ∃s',c 82 [.ptr vb 0,.agg r.cells,fv] s=some (.tuple [],s')/\I s' (l++Ed (qF q) a (atP J r)):=by
 refine H.fin hI (λh=>ab2 hc 1 h) ?_;have hw:=(H.ai hI).wf;have dK:=H.grow hI (Grew.ah hw (.cells r.cells 0));have V1:=V.ai (H.ai dK);have fk:=aA s (.cells r.cells 0);rw[ale ha,aeJ,cS,show AV.cells (.agg r.cells)=r.cells from rfl];generalize ah s (.cells r.cells 0)=s1 at*
 have vc:=V1.vc;have jc:=V1.jw.mz;have wh:=V1.who hc r.a;rw[ga]at wh;obtain⟨pb,po,p⟩:=ot V1.pq ha;have p1:=λ{R}=>@p.st R
 have p3:=p.one;obtain⟨s2,v2,e1,e2,_⟩:=H.ZT dK hB a;by_cases hx:0<=x
 . obtain⟨i,rfl,hi⟩:=V1.kR ha hx;obtain⟨tb,to,t⟩:=V1.rT hi;have t1:=λ{R}=>@t.pr R
   have t3:=t.one;obtain⟨T,v,b,o,_,hn,h⟩:=V1.rN hi;have h1:=λ{R}=>@h.pr R
   have h2:=h.at' 0 _ rfl;rw[Zf7]at h2;unfold atP zu;simp only[Zd4,hn];by_cases hd:T.name=r.t
   .refine⟨s1,?_,by simpa [hd,eE]using dK⟩;simp[-au,fk,vc,jc,wh,p1,p3,hx,t1,t3,h1,h2,hd]
   .have d1:decide (T.name=r.t)=false:=Za1 hd;refine⟨s2,?_,by simpa [hd,rY]using e2⟩;simp[-au,fk,vc,jc,wh,p1,p3,hx,t1,t3,h1,h2,d1,e1]
 .refine⟨s1,?_,by simpa [hx,eE]using dK⟩;simp[-au,fk,vc,jc,wh,p1,p3,hx]
theorem atU(V:Vw s vb jb j J P G q g){i0:Nat}(tG:i0<J.N)(x2 x4 x6:AV)(F:Nat)(k2):∀(m i f:Nat),m<f->i<=m->i<J.N->
  qg c F k2 f [.ptr vb 0,x2,x4,x6,.int .i64 (i0:Int),.int .i64 (i:Int)] s=k2 [.ptr vb 0,x2,x4,x6,.int .i64 (i0:Int),.int .i64 ((BT (cM J.p.ts) (cM J.p.ts i0) i:Nat):Int)] s:=by
 have vc:=V.vc;have jc:=V.jw.mz;obtain⟨tb,to,t⟩:=V.rT tG;have t1:=λ{R}=>@t.pr R
 have t3:=t.one;intro m;induction m with
 |zero=>
  intro i f hf hi _;obtain⟨f,rfl⟩:∃g,f=g+1:=⟨f - 1,by omega⟩
  obtain rfl:i=0:=by omega
  rw[rZ];simp[BT]
 |succ m ih=>
  intro i f hf hi hN;obtain⟨f,rfl⟩:∃g,f=g+1:=⟨f - 1,by omega⟩
  cases i with
  |zero=>rw[rZ];simp[BT]
  |succ i=>
   have wr:ax .i64 (((i+1:Nat):Int) - 1)=(i:Int):=(by rw[wrap64 (by omega) (by have:=V.jw.nN;have:=V.jw.sF.ts;have:=(rE J.p.ts).2;omega)];omega);obtain⟨ub,uo,u⟩:=V.rT (i:=i) (by omega);have u1:=λ{R}=>@u.pr R
   have u3:=u.one;have hp:(0:Int)<((i+1:Nat):Int):=(by omega);unfold BT;by_cases ht:cM J.p.ts i=cM J.p.ts i0
   .    rw[Zb6 ht, <-ih i f (by omega) (by omega) (by omega),rZ];have d1:decide (((cM J.p.ts i:Nat):Int)=((cM J.p.ts i0:Nat):Int))=true:=Za0 (by omega);have HU:(0:Int)<(i:Int)+1:=(by omega);have wr2:ax .i64 ((i:Int)+1 - 1)=(i:Int):=(by rw[show((i:Int)+1)=((i+1:Nat):Int)by omega];exact wr);simp only[aH,bg,cX,akY,Za0 hp,aev,oO,bt,Zb8,akS,ju,vc,jc,aD,Za9,Za5,Jc.c6,aR,ak4,wr,u1,u3,t1,t3,aex,d1,Tm,dH,av,aey]
   .    rw[Za7 ht,rZ];have d1:decide (((cM J.p.ts i:Nat):Int)=((cM J.p.ts i0:Nat):Int))=false:=Za1 (by omega);simp only[aH,bg,cX,akY,Za0 hp,aev,oO,bt,Zb8,akS,ju,vc,jc,aD,Za9,Za5,Jc.c6,aR,ak4,wr,u1,u3,t1,t3,aex,d1,Tm,cV]
theorem Vw.Ef(V:Vw s vb jb j J P G q g):J.N<=100000/\J.n<=100:=by have:=V.jw.nN;have:=V.jw.sF.ts;have:=(rE J.p.ts).2;have:=V.jw.sF.gs;unfold Jt.n;omega
theorem aiu(tab:Nat->Nat)(t:Nat):∀i,BT tab t i<=i
 |0=>Za3 _
 |i+1=>by have:=aiu tab t i;unfold BT;split<;>omega
theorem arh(hc:bw c)(H:kK c fv s0 I M)(V:Vw s0 vb jb j J P G q g){r:Rl}{a:Nat}{x:Int}(ga:gi J.p r.a=(a:Int))(ha:q[a]? =some x)(hI:I s l)(hB:fK l+2<=1000000):
   ∃s',c 83 [.ptr vb 0,.agg r.cells,fv] s=some (.tuple [],s')/\I s' (l++Ed (qF q) a (ahf J r)):=by
 refine H.fin hI (λh=>XX hc (x.toNat+1) h) ?_;have hw:=(H.ai hI).wf;have dK:=H.grow hI (Grew.ah hw (.cells r.cells 0));have V1:=V.ai (H.ai dK);have fk:=aA s (.cells r.cells 0);rw[ale ha,ab3,cS,show AV.cells (.agg r.cells)=r.cells from rfl];generalize ah s (.cells r.cells 0)=s1 at*
 have vc:=V1.vc;have jc:=V1.jw.mz;have wh:=V1.who hc r.a;rw[ga]at wh;obtain⟨pb,po,p⟩:=ot V1.pq ha;have p1:=λ{R}=>@p.st R
 have p3:=p.one;obtain⟨s2,v2,e1,e2,_⟩:=H.ZT dK hB a;by_cases hx:0<=x
 . obtain⟨i,rfl,hi⟩:=V1.kR ha hx;have hN:=V1.Ef;obtain⟨tb,to,t⟩:=V1.rT hi;have t1:=λ{R}=>@t.pr R
   have t3:=t.one;obtain⟨T,v,b,o,_,hn,h⟩:=V1.rN hi;have h1:=λ{R}=>@h.pr R
   have h2:=h.at' 0 _ rfl;rw[Zf7]at h2;have lp:=λk2=>atU (c:=c) V1 hi fv (.ptr s.next 0) (.int .i64 (a:Int)) (i+1) k2 i i (i+1) (by omega) (by omega) hi
   have bl:=aiu (cM J.p.ts) (cM J.p.ts i) i;have ws:ax .i64 ((i:Int) - ((BT (cM J.p.ts) (cM J.p.ts i) i:Nat):Int))=(i:Int) - ((BT (cM J.p.ts) (cM J.p.ts i) i:Nat):Int):=wrap64 (by omega) (by omega);unfold ahf zu;simp only[Zd4,hn];have dx:decide ((i:Int)<0)=false:=Za1 (by omega);by_cases hd:T.name=r.t
   . by_cases hm:(i:Int) - ((BT (cM J.p.ts) (cM J.p.ts i) i:Nat):Int)=r.n
     .  refine⟨s1,?_,by simpa [hd,hm,eE]using dK⟩;have ws':ax .i64 r.n=r.n:=(by rw[<-hm];exact ws);simp[-au,fk,vc,jc,wh,p1,p3,dx,lp,t1,t3,h1,h2,hd,ws',hm]
     .  have d2:decide ((i:Int) - ((BT (cM J.p.ts) (cM J.p.ts i) i:Nat):Int)=r.n)=false:=Za1 hm;refine⟨s2,?_,by simpa [hd,hm,rY]using e2⟩;simp[-au,fk,vc,jc,wh,p1,p3,dx,lp,t1,t3,h1,h2,hd,ws,d2,e1]
   .have d1:decide (T.name=r.t)=false:=Za1 hd;refine⟨s2,?_,by simpa [hd,rY]using e2⟩;simp[-au,fk,vc,jc,wh,p1,p3,dx,lp,t1,t3,h1,h2,d1,e1]
 .have dx:decide (x<0)=true:=Za0 (by omega);refine⟨s1,?_,by simpa [hx,eE]using dK⟩;simp[-au,fk,vc,jc,wh,p1,p3,dx]
end
def SoC(c:aj)(sv:AV)(M:St->Pos->Prop)(s0 sB:St)(J:Jt)(q:List Int)(S:Nat->Nat->Int->Int->Bool):Prop:=
 ∀{s},Grew s0 s->gZ M sB s->∀{a b i k:Nat},q[a]? =some (i:Int)->q[b]? =some (k:Int)->i<J.N->k<J.N->∀(K:AV->St->Option (AV×St)),aq c .callV [sv,.int .i64 (a:Int),.int .i64 (b:Int)] s K=K (.bool (S a b (i:Int) (k:Int))) s
section
variable{c:aj}{fv:AV}{s0 sB:St}{I:St->List Ev->Prop}{M:St->Pos->Prop}{s:St}{l:List Ev}{vb jb:Pos}{j:Jc}{J:Jt}{P G:AV}{q g:List Int}
def prP(J:Jt)(S:Nat->Nat->Int->Int->Bool)(a b:Nat)(x y:Int):Bool:=decide (zu J y=zu J x)&&S a b x y
theorem aox{a b:Nat}{x y:Int}(ha:q[a]? =some x)(hb:q[b]? =some y)(P:Nat->Nat->Int->Int->Bool):u0 (qF q) P a b=uZ (decide (0<=x)&&decide (0<=y)&&P a b x y) 1 [(a:Int),(b:Int)]:=by
 unfold u0 on;rw[qH ha,qH hb]
theorem aiv(P:Nat->Nat->Int->Int->Bool)(a b:Nat):fK (u0 (qF q) P a b)<=3:=Ig _ _ _
theorem ari(H:kK c fv s0 I M)(V:Vw s0 vb jb j J P G q g){sv:AV}{S:Nat->Nat->Int->Int->Bool}(hS:SoC c sv M s0 sB J q S){a i:Nat}(ha:q[a]? =some (i:Int))(hi:i<J.N)(x5 Vf x16 x17:AV)(F:Nat):
  ∀(m b f:Nat)(s:St)(l:List Ev),b+m=q.length->m<f->I s l->gZ M sB s->fK l+3*m<=1000000->∃s',I s' (l++b9 (u0 (qF q) (prP J S) a) m b)/\gZ M sB s'/\
   ∀k4,iG c F k4 f [.ptr vb 0,sv,fv,x5,.int .i64 (a:Int),.int .i64 (i:Int),.int .i64 (b:Int),Vf,x16,x17] s=k4 [.ptr vb 0,sv,fv,x5,Vf,x16,x17] s':=by
 intro m;induction m with
 |zero=>
  intro b f s l hb hf hI hF hB;obtain⟨f,rfl⟩:∃g,f=g+1:=⟨f - 1,by omega⟩
  have V1:=V.ai (H.ai hI);have vc:=V1.vc;have ln:=λ(K:AV->St->Option (AV×St))=>V1.pq.lenB (c:=c) K s
  rw[Za4]at ln;refine⟨s,by simpa [b9]using hI,hF,λk4=> ?_⟩;obtain rfl:b=q.length:=by omega
  rw[ni];simp[vc,ln]
 |succ m ih=>
  intro b f s l hb hf hI hF hB;obtain⟨f,rfl⟩:∃g,f=g+1:=⟨f - 1,by omega⟩
  have V1:=V.ai (H.ai hI);have vc:=V1.vc;have jc:=V1.jw.mz;have ln:=λ(K:AV->St->Option (AV×St))=>V1.pq.lenB (c:=c) K s
  rw[Za4]at ln;have ze:b<q.length:=by omega
  obtain⟨y,hy⟩:∃y,q[b]? =some y:=⟨_,H0 ze⟩
  obtain⟨pb,po,p⟩:=ot V1.pq hy;have p1:=λ{R}=>@p.st R
  have p3:=p.one;have hN:=V1.Ef;have kL:=V.ql;have wr:ax .i64 ((b:Int)+1)=((b+1:Nat):Int):=wrap64 (by omega) (by omega)
  have step:∃s2,I s2 (l++u0 (qF q) (prP J S) a b)/\gZ M sB s2/\∀k4,iG c F k4 (f+1) [.ptr vb 0,sv,fv,x5,.int .i64 (a:Int),.int .i64 (i:Int),.int .i64 (b:Int),Vf,x16,x17] s=
        iG c F k4 f [.ptr vb 0,sv,fv,x5,.int .i64 (a:Int),.int .i64 (i:Int),.int .i64 ((b+1:Nat):Int),Vf,x16,x17] s2:=by
   rw[aox ha hy];by_cases h0:0<=y
   .    obtain⟨k,rfl,hk⟩:=V1.kR hy h0;obtain⟨tb,to,t⟩:=V1.rT hi;obtain⟨ub,uo,u⟩:=V1.rT hk;have t1:=λ{R}=>@t.pr R
        have t3:=t.one;have u1:=λ{R}=>@u.pr R
        have u3:=u.one;unfold prP zu;simp only[Zd4];by_cases ht:cM J.p.ts k=cM J.p.ts i
        . have so:=hS (H.ai hI) hF ha hy hi hk;generalize S a b (i:Int) (k:Int)=e at*
          cases e
          .refine⟨s,by simpa [ht,eE]using hI,hF,λk4=> ?_⟩;rw[ni];simp[-au,bR,ze,vc,ln,jc,p1,p3,t1,t3,u1,u3,ht,so,wr]
          .obtain⟨s2,v2,e1,e2,e3⟩:=H.TF hI (by omega) a b;refine⟨s2,by simpa [ht,rY]using e2,hF.trans e3,λk4=> ?_⟩;rw[ni];simp[-au,bR,ze,vc,ln,jc,p1,p3,t1,t3,u1,u3,ht,so,wr,e1]
        .have d1:decide (((cM J.p.ts k:Nat):Int)=((cM J.p.ts i:Nat):Int))=false:=Za1 (by omega);refine⟨s,by simpa [ht,eE]using hI,hF,λk4=> ?_⟩;rw[ni];simp[-au,bR,ze,vc,ln,jc,p1,p3,t1,t3,u1,u3,d1,wr]
   .    refine⟨s,by simpa [h0,eE]using hI,hF,λk4=> ?_⟩;rw[ni];simp[-au,bR,ze,vc,ln,jc,p1,p3,h0,wr]
  obtain⟨s2,a1,a2,a3⟩:=step;have sx:=aiv (q:=q) (prP J S) a b;obtain⟨s',z1,z2,z3⟩:=ih (b+1) f s2 _ (by omega) (by omega) a1 a2 (by rw[LW];omega);exact⟨s',by rw[b9, <-Zf5];exact z1,z2,λk4=>by rw[a3,z3]⟩
def mK(J:Jt)(r:Rl)(S:Nat->Nat->Int->Int->Bool)(a b:Nat)(x y:Int):Bool:=tQ J.p.ts r.t x.toNat&&prP J S a b x y
theorem XY(P:Nat->Nat->Int->Int->Bool)(a:Nat):∀m k,fK (b9 (u0 (qF q) P a) m k)<=3*m:=λm k=>by have:=Bm (f:=u0 (qF q) P a) (B:=3) (λk=>aiv P a k) m k;omega
theorem arj(hc:bw c)(H:kK c fv s0 I M)(V:Vw s0 vb jb j J P G q g){sv:AV}{S:Nat->Nat->Int->Int->Bool}(hS:SoC c sv M s0 sB J q S){r:Rl}{rb:Pos}(hr:sB.heap.get rb=some (.cells r.cells 0))(tR:¬M sB rb)(F:Nat)(hFu:q.length<F):
  ∀(m a f:Nat)(s:St)(l:List Ev),a+m=q.length->m<f->I s l->gZ M sB s->fK l+3*q.length*m<=1000000->∃s',I s' (l++b9 (λa=>b9 (u0 (qF q) (mK J r S) a) (q.length - (a+1)) (a+1)) m a)/\gZ M sB s'/\
   ∀k2,jM c F k2 f [.ptr vb 0,sv,fv,.ptr rb 0,P,.int .i64 (q.length:Int),.int .i64 (a:Int)] s=k2 [] s':=by
 intro m;induction m with
 |zero=>
  intro a f s l hb hf hI hF hB;obtain⟨f,rfl⟩:∃g,f=g+1:=⟨f - 1,by omega⟩
  refine⟨s,by simpa [b9]using hI,hF,λk2=> ?_⟩;obtain rfl:a=q.length:=by omega
  rw[qI];simp
 |succ m ih=>
  intro a f s l hb hf hI hF hB;obtain⟨f,rfl⟩:∃g,f=g+1:=⟨f - 1,by omega⟩
  have V1:=V.ai (H.ai hI);have vc:=V1.vc;have om:a<q.length:=by omega
  obtain⟨y,hy⟩:∃y,q[a]? =some y:=⟨_,H0 om⟩
  obtain⟨pb,po,p⟩:=ot V1.pq hy;have p1:=λ{R}=>@p.st R
  have p3:=p.one;have hN:=V1.Ef;have kL:=V.ql;have fk:=(hF.2.2 rb _ tR hr).1;have wr:ax .i64 ((a:Int)+1)=((a+1:Nat):Int):=wrap64 (by omega) (by omega);rw[Nat.mul_succ]at hB;have fp:=ald (qF q) (λx=>tQ J.p.ts r.t x.toNat) (prP J S) a (q.length - (a+1)) (a+1);have fp:b9 (u0 (qF q) (mK J r S) a) (q.length - (a+1)) (a+1)=_:=fp;have e0:on (qF q) a=decide (0<=y):=by unfold on;rw[qH hy]
  rw[e0,qH hy]at fp
  have step:∃s2,I s2 (l++b9 (u0 (qF q) (mK J r S) a) (q.length - (a+1)) (a+1))/\gZ M sB s2/\∀k2,jM c F k2 (f+1) [.ptr vb 0,sv,fv,.ptr rb 0,P,.int .i64 (q.length:Int),.int .i64 (a:Int)] s=
        jM c F k2 f [.ptr vb 0,sv,fv,.ptr rb 0,P,.int .i64 (q.length:Int),.int .i64 ((a+1:Nat):Int)] s2:=by
   rw[fp];by_cases h0:0<=y
   .    obtain⟨i,rfl,hi⟩:=V1.kR hy h0;have dn:decide ((i:Int)<0)=false:=Za1 (by omega);have ak:=Ih hc V1 r hi;simp only[Zd4,Za0 h0,Zg9];generalize tQ J.p.ts r.t i=e at*
        cases e
        .refine⟨s,by simpa using hI,hF,λk2=> ?_⟩;rw[qI];simp[-au,bR,om,p1,p3,dn,fk,ak,wr]
        .obtain⟨s2,z1,z2,z3⟩:=ari (c:=c) H V hS hy hi (.ptr rb 0) P (.int .i64 (q.length:Int)) (.int .i64 (a:Int)) F (q.length - (a+1)) (a+1) F s l (by omega) (by omega) hI hF (by have:=Zl7 3 (show q.length - (a+1)<=q.length by omega);omega);refine⟨s2,by simpa using z1,z2,λk2=> ?_⟩;simp only[show((a+1:Nat):Int)=(a:Int)+1 by omega]at z3 wr ⊢;rw[qI];simp[-au,bR,om,p1,p3,dn,fk,ak,wr,z3]
   .    have dn:decide (y<0)=true:=Za0 (by omega);refine⟨s,by simpa [h0]using hI,hF,λk2=> ?_⟩;rw[qI];simp[-au,bR,om,p1,p3,dn,wr]
  obtain⟨s2,a1,a2,a3⟩:=step;have sx:=XY (q:=q) (mK J r S) a (q.length - (a+1)) (a+1);obtain⟨s',z1,z2,z3⟩:=ih (a+1) f s2 _ (by omega) (by omega) a1 a2 (by rw[LW];have:=Zl7 3 (show q.length - (a+1)<=q.length by omega);omega);exact⟨s',by rw[b9, <-Zf5];exact z1,z2,λk2=>by rw[a3,z3]⟩
theorem TJ(hc:bw c)(H:kK c fv s0 I M)(V:Vw s0 vb jb j J P G q g){sv:AV}{S:Nat->Nat->Int->Int->Bool}(hS:SoC c sv M s0 s J q S)(r:Rl)(hI:I s l)(hB:fK l+3*q.length*q.length<=1000000):
  ∃s',c 141 [.ptr vb 0,.agg r.cells,sv,fv] s=some (.tuple [],s')/\I s' (l++u6 (qF q) q.length (mK J r S)):=by
 refine H.fin hI (λh=>V9 hc (q.length+1) h) ?_;have hw:=(H.ai hI).wf;have gr:=Grew.ah hw (.cells r.cells 0);have dK:=H.grow hI gr;have V1:=V.ai (H.ai dK);have hF:=H.fr hI gr;have Aq:SoC c sv M s0 (ah s (.cells r.cells 0)) J q S:=λ{s2} g1 g2=>hS g1 (hF.trans g2)
 have tR:¬M (ah s (.cells r.cells 0)) s.next:=λh=>by have:=H.mlt hI (H.mJ hI gr h);omega
 have vc:=V1.vc;have ln:=λ(K:AV->St->Option (AV×St))=>V1.pq.lenB (c:=c) K (ah s (.cells r.cells 0))
 rw[Za4]at ln;obtain⟨s',z1,z2,z3⟩:=arj (c:=c) hc H V Aq (aA s (.cells r.cells 0)) tR (q.length+1) (by omega) q.length 0 (q.length+1) _ l (by omega) (by omega) dK (gZ.refl V1.wf) hB;refine⟨s',?_,z1⟩;rw[aai,cS,show AV.cells (.agg r.cells)=r.cells from rfl];have z3:=z3 (λvs s=>mO vs (some (.tuple [],s)));simp only[av,cw,aS,Zb8,aT,vc,aD,Za9,Za5,Zb4,aR,ln];rw[show(0:Int)=((0:Nat):Int)from rfl,z3];rfl
end
def ZU(J:Jt)(a:Nat):Int:=match J.p.gs[a]? with|some g=>g.side|none=>0
def Rh(J:Jt)(a:Nat):List Nat:=match J.p.gs[a]? with|some g=>g.jv|none=>[]
def Eg(J:Jt)(a b:Nat):Int:=(J.iR.getD a []).getD b 0
def sO(J:Jt)(a:Nat):Int:=J.p.cs.getD a 0
def TM(J:Jt)(a b:Nat)(x y:Int):Bool:=decide (0<ZU J a)&&decide (ZU J a=ZU J b)&&(rD J.p.ts x.toNat).contains y
def TN(J:Jt)(a b:Nat)(x y:Int):Bool:= !decide (Rh J a=[])&&decide (Rh J a=Rh J b)&&(rD J.p.ts x.toNat).contains y
def Eh(J:Jt)(a b:Nat)(x y:Int):Bool:=decide (Eg J a b=2)&&ZS J.p.ts x.toNat y
def aiw(J:Jt)(x:Int):Int:=JB J.p.ts x
def XZ(J:Jt)(a b:Nat)(x y:Int):Bool:=if sO J b<sO J a then decide (sO J b<sO J a)&&decide (aiw J x<aiw J y)else decide (sO J a<sO J b)&&decide (aiw J y<aiw J x)
section
variable{c:aj}{fv:AV}{s0 sB:St}{I:St->List Ev->Prop}{M:St->Pos->Prop}{s:St}{l:List Ev}{vb jb:Pos}{j:Jc}{J:Jt}{P G:AV}{q g:List Int}
theorem Vw.qM(V:Vw s vb jb j J P G q g){a:Nat}{x:Int}(ha:q[a]? =some x):∃A v b o,J.p.gs[a]? =some A/\Rd s 9 j.V2 a b o (A.ay v):=by
 have h:a<J.p.gs.length:=by have:=V.ql;unfold Jt.n at this;rw[<-this];exact(Za2.1 ha).1
 obtain⟨v,b,o,h1⟩:=V.rG (H0 h);exact⟨_,v,b,o,H0 h,h1⟩
theorem agz(hc:bw c)(V:Vw s vb jb j J P G q g){vp:Pos}(hv:s.heap.get vp=some (.cells [.ptr vb 0] 0)){a b i:Nat}{y:Int}(ha:q[a]? =some (i:Int))(hb:q[b]? =some y)(hi:i<J.N):
   c 142 [.int .i64 (a:Int),.int .i64 (b:Int),.ptr vp 0] s=some (.bool (TM J a b (i:Int) y),s):=by
 rw[Lx hc 1 (r:=(.bool (TM J a b (i:Int) y),s)),aB (Plain.bool _) (aX.refl s)];rw[N4];have vc:=V.vc;have jc:=V.jw.mz;obtain⟨A,v,ab,ao,hA,h1⟩:=V.qM ha;obtain⟨B,v',bb,bo,hB,h2⟩:=V.qM hb;have r1:=λ{R}=>@h1.pr R
 have r2:=h1.at' 4 _ rfl;have r3:=λ{R}=>@h2.pr R
 have r4:=h2.at' 4 _ rfl;obtain⟨w,wb,wo,h3,h4⟩:=V.rB hi;have cl:=Hf hc V h3 h4 (LX _ _).1 ha hb;unfold TM ZU;rw[hA,hB];simp only[Zd4];generalize (rD J.p.ts i).contains y=e at*
 by_cases d1:0<A.side
 . by_cases d2:A.side=B.side
   .have Ii:0<B.side:=(by rw[<-d2];exact d1);simp[hv,vc,jc,r1,r2,r3,r4,d1,Ii,d2,cl]
   .have ME:decide (A.side=B.side)=false:=Za1 d2;simp[hv,vc,jc,r1,r2,r3,r4,d1,ME]
 .have Ii:decide (0<A.side)=false:=Za1 d1;simp[hv,vc,jc,r1,r2,r3,r4,Ii]
theorem atV(hc:bw c)(V:Vw s vb jb j J P G q g){vp:Pos}(hv:s.heap.get vp=some (.cells [.ptr vb 0] 0)){a b i:Nat}{y:Int}(ha:q[a]? =some (i:Int))(hb:q[b]? =some y)(hi:i<J.N):
   c 151 [.int .i64 (a:Int),.int .i64 (b:Int),.ptr vp 0] s=some (.bool (TN J a b (i:Int) y),s):=by
 rw[Wc hc 1 (r:=(.bool (TN J a b (i:Int) y),s)),aB (Plain.bool _) (aX.refl s)];rw[aaj];have vc:=V.vc;have jc:=V.jw.mz;obtain⟨A,v,ab,ao,hA,h1⟩:=V.qM ha;obtain⟨B,v',bb,bo,hB,h2⟩:=V.qM hb;have r1:=λ{R}=>@h1.pr R
 have r2:=h1.at' 2 _ rfl;have r3:=λ{R}=>@h2.pr R
 have r4:=h2.at' 2 _ rfl;obtain⟨w,wb,wo,h3,h4⟩:=V.rB hi;have cl:=Hf hc V h3 h4 (LX _ _).1 ha hb;unfold TN Rh;rw[hA,hB];simp only[Zd4];generalize (rD J.p.ts i).contains y=e at*
 by_cases d1:A.jv=[]
 .have Ii:decide (A.jv=[])=true:=Za0 d1;simp[hv,vc,jc,r1,r2,r3,r4,Ii]
 . have Ii:decide (A.jv=[])=false:=Za1 d1;by_cases d2:A.jv=B.jv
   .have ME:decide (A.jv=B.jv)=true:=Za0 d2;simp[hv,vc,jc,r1,r2,r3,r4,Ii,ME,cl]
   .have ME:decide (A.jv=B.jv)=false:=Za1 d2;simp[hv,vc,jc,r1,r2,r3,r4,Ii,ME]
theorem Vw.tie(V:Vw s vb jb j J P G q g){a b:Nat}{x y:Int}(ha:q[a]? =some x)(hb:q[b]? =some y):∃w p o p2 o2,Rd s 1 j.L7 a p o [w]/\Rd s 1 w b p2 o2 [.int .u8 (Eg J a b)]:=by
 have h1:a<J.iR.length:=by rw[V.jw.n2, <-V.ql];exact(Za2.1 ha).1
 have h2:b<J.iR[a].length:=by rw[V.jw.n4 _ (Zb9 h1), <-V.ql];exact(Za2.1 hb).1
 have e:Eg J a b=J.iR[a][b]:=by
  unfold Eg;rw[Zb3,Zb3,H0 h1,Ze8,H0 h2,Ze8]
 rw[e];exact V.rK (H0 h1) (H0 h2)
theorem aoy(hc:bw c)(V:Vw s vb jb j J P G q g){vp:Pos}(hv:s.heap.get vp=some (.cells [.ptr vb 0] 0)){a b i:Nat}{y:Int}(ha:q[a]? =some (i:Int))(hb:q[b]? =some y)(hi:i<J.N):
   c 146 [.int .i64 (a:Int),.int .i64 (b:Int),.ptr vp 0] s=some (.bool (Eh J a b (i:Int) y),s):=by
 rw[Ri hc 1 (r:=(.bool (Eh J a b (i:Int) y),s)),aB (Plain.bool _) (aX.refl s)];rw[Wd];have vc:=V.vc;have jc:=V.jw.mz;obtain⟨w,p,o,p2,o2,h1,h2⟩:=V.tie ha hb;have r1:=λ{R}=>@h1.st R
 have r2:=h1.one;have r3:=λ{R}=>@h2.st R
 have r4:=h2.one;have nr:=afX hc V ha hi hb;unfold Eh;simp only[Zd4];by_cases d1:Eg J a b=2
 .have Ii:decide (Eg J a b=2)=true:=Za0 d1;simp[hv,vc,jc,r1,r2,r3,r4,Ii,nr]
 .have Ii:decide (Eg J a b=2)=false:=Za1 d1;simp[hv,vc,jc,r1,r2,r3,r4,Ii]
theorem Vw.cls(V:Vw s vb jb j J P G q g)(eW:J.p.cs.length=q.length){a:Nat}{x:Int}(ha:q[a]? =some x):∃b o,Rd s 1 j.V4 a b o [.int .i64 (sO J a)]:=by
 have h1:a<J.p.cs.length:=by rw[eW];exact(Za2.1 ha).1
 refine ot V.jw.cls (i:=a) ?_;unfold sO;rw[Zb3,H0 h1];rfl
theorem amu(hc:bw c)(V:Vw s vb jb j J P G q g)(eW:J.p.cs.length=q.length){vp:Pos}(hv:s.heap.get vp=some (.cells [.ptr vb 0] 0)){a b i k:Nat}(ha:q[a]? =some (i:Int))(hb:q[b]? =some (k:Int))(hi:i<J.N)(hk:k<J.N):
   c 148 [.int .i64 (a:Int),.int .i64 (b:Int),.ptr vp 0] s=some (.bool (XZ J a b (i:Int) (k:Int)),s):=by
 rw[PY hc 1 (r:=(.bool (XZ J a b (i:Int) (k:Int)),s)),aB (Plain.bool _) (aX.refl s)];rw[TO];have vc:=V.vc;have jc:=V.jw.mz;obtain⟨ab,ao,h1⟩:=V.cls eW ha;obtain⟨bb,bo,h2⟩:=V.cls eW hb;have r1:=λ{R}=>@h1.pr R
 have r2:=h1.one;have r3:=λ{R}=>@h2.pr R
 have r4:=h2.one;obtain⟨pb,po,p⟩:=ot V.pq ha;obtain⟨qb,qo,p'⟩:=ot V.pq hb;have p1:=λ{R}=>@p.pr R
 have p3:=p.one;have p4:=λ{R}=>@p'.pr R
 have p6:=p'.one;obtain⟨tb,to,t⟩:=V.rL hi;obtain⟨ub,uo,u⟩:=V.rL hk;have t1:=λ{R}=>@t.pr R
 have t3:=t.one;have u1:=λ{R}=>@u.pr R
 have u3:=u.one;unfold XZ aiw;by_cases d1:sO J b<sO J a
 .rw[Zb6 d1];have Ii:decide (sO J b<sO J a)=true:=Za0 d1;simp[bR,hv,vc,jc,r1,r2,r3,r4,p1,p3,p4,p6,t1,t3,u1,u3,Ii]
 . rw[Za7 d1];have Ii:decide (sO J b<sO J a)=false:=Za1 d1;by_cases d2:sO J a<sO J b
   .have ME:decide (sO J a<sO J b)=true:=Za0 d2;simp[bR,hv,vc,jc,r1,r2,r3,r4,p1,p3,p4,p6,t1,t3,u1,u3,Ii,ME]
   .have ME:decide (sO J a<sO J b)=false:=Za1 d2;simp[bR,hv,vc,jc,r1,r2,r3,r4,p1,p3,p4,p6,t1,t3,u1,u3,Ii,ME]
theorem adr(V:Vw s0 vb jb j J P G q g){f:FuncId}{vp:Pos}{S:Nat->Nat->Int->Int->Bool}(hv:sB.heap.get vp=some (.cells [.ptr vb 0] 0))(hM:¬M sB vp)
  (dI:∀{s},Vw s vb jb j J P G q g->s.heap.get vp=some (.cells [.ptr vb 0] 0)->∀{a b i k:Nat},q[a]? =some (i:Int)->q[b]? =some (k:Int)->i<J.N->k<J.N->c f [.int .i64 (a:Int),.int .i64 (b:Int),.ptr vp 0] s=some (.bool (S a b (i:Int) (k:Int)),s)):
  SoC c (.func f [] [.ptr vp 0]) M s0 sB J q S:=λ{s} g1 hF {a b i k} ha hb hi hk K=>by
 rw[fP];simp only[Ze3,Zd5];rw[dI (V.ai g1) (hF.2.2 vp _ hM hv).1 ha hb hi hk];rfl
theorem atW{q:Nat->Int}{P:Nat->Nat->Int->Int->Bool}(h:∀a b x y,P a b x y=false)(n:Nat):u6 q n P=[]:=by
 have h1:∀a m k,b9 (u0 q P a) m k=[]:=λa m=>by
  induction m with
  |zero=>intro k;rfl
  |succ m ih=>intro k;rw[b9,ih (k+1)];unfold u0;rw[h];simp[uZ]
 have h2:∀m k,b9 (λa=>b9 (u0 q P a) (n - (a+1)) (a+1)) m k=[]:=λm=>by
  induction m with
  |zero=>intro k;rfl
  |succ m ih=>intro k;rw[b9,ih (k+1),h1];rfl
 exact h2 _ _
theorem agA(hc:bw c)(H:kK c fv s0 I M)(V:Vw s0 vb jb j J P G q g)(r:Rl)(hI:I s l)(hB:fK l+3*q.length*q.length<=1000000):
  ∃s',c 84 [.ptr vb 0,.agg r.cells,fv] s=some (.tuple [],s')/\I s' (l++u6 (qF q) q.length (mK J r (TM J))):=by
 refine H.fin hI (λh=>N6 hc 1 h) ?_;have hw:=(H.ai hI).wf;have g1:=Grew.ah hw (.cells [.ptr vb 0] 0);have dK:=H.grow hI g1;have g2:=Grew.ah g1.wf (.cells r.cells 0);have uF:=H.grow dK g2;have b1:=g2.get (aA s (.cells [.ptr vb 0] 0));have b2:=aA (ah s (.cells [.ptr vb 0] 0)) (.cells r.cells 0);have hM:¬M (ah (ah s (.cells [.ptr vb 0] 0)) (.cells r.cells 0)) s.next:=λh=>by have:=H.mlt hI (H.mJ hI g1 (H.mJ dK g2 h));omega
 obtain⟨s',z1,z2⟩:=TJ hc H V (adr (f:=142) (S:=TM J) V b1 hM λ{s} V hv {a b i k} ha hb hi hk=>agz hc V hv ha hb hi) r uF hB;refine⟨s',?_,z2⟩;rw[Rj];simp[show AV.cells (.agg r.cells)=r.cells from rfl,show AV.cells (.ptr vb 0)=[.ptr vb 0]from rfl,b1,b2,z1]
theorem atX(hc:bw c)(H:kK c fv s0 I M)(V:Vw s0 vb jb j J P G q g)(r:Rl)(hI:I s l)(hB:fK l+3*q.length*q.length<=1000000):
  ∃s',c 94 [.ptr vb 0,.agg r.cells,fv] s=some (.tuple [],s')/\I s' (l++u6 (qF q) q.length (mK J r (TN J))):=by
 refine H.fin hI (λh=>aak hc 1 h) ?_;have hw:=(H.ai hI).wf;have g1:=Grew.ah hw (.cells [.ptr vb 0] 0);have dK:=H.grow hI g1;have g2:=Grew.ah g1.wf (.cells r.cells 0);have uF:=H.grow dK g2;have b1:=g2.get (aA s (.cells [.ptr vb 0] 0));have b2:=aA (ah s (.cells [.ptr vb 0] 0)) (.cells r.cells 0);have hM:¬M (ah (ah s (.cells [.ptr vb 0] 0)) (.cells r.cells 0)) s.next:=λh=>by have:=H.mlt hI (H.mJ hI g1 (H.mJ dK g2 h));omega
 obtain⟨s',z1,z2⟩:=TJ hc H V (adr (f:=151) (S:=TN J) V b1 hM λ{s} V hv {a b i k} ha hb hi hk=>atV hc V hv ha hb hi) r uF hB;refine⟨s',?_,z2⟩;rw[ads];simp[show AV.cells (.agg r.cells)=r.cells from rfl,show AV.cells (.ptr vb 0)=[.ptr vb 0]from rfl,b1,b2,z1]
theorem aoz(hc:bw c)(H:kK c fv s0 I M)(V:Vw s0 vb jb j J P G q g)(r:Rl)(hI:I s l)(hB:fK l+3*q.length*q.length<=1000000):
  ∃s',c 88 [.ptr vb 0,.agg r.cells,fv] s=some (.tuple [],s')/\I s' (l++u6 (qF q) q.length (mK J r (Eh J))):=by
 refine H.fin hI (λh=>We hc 1 h) ?_;have hw:=(H.ai hI).wf;have g1:=Grew.ah hw (.cells [.ptr vb 0] 0);have dK:=H.grow hI g1;have g2:=Grew.ah g1.wf (.cells r.cells 0);have uF:=H.grow dK g2;have b1:=g2.get (aA s (.cells [.ptr vb 0] 0));have b2:=aA (ah s (.cells [.ptr vb 0] 0)) (.cells r.cells 0);have hM:¬M (ah (ah s (.cells [.ptr vb 0] 0)) (.cells r.cells 0)) s.next:=λh=>by have:=H.mlt hI (H.mJ hI g1 (H.mJ dK g2 h));omega
 obtain⟨s',z1,z2⟩:=TJ hc H V (adr (f:=146) (S:=Eh J) V b1 hM λ{s} V hv {a b i k} ha hb hi hk=>aoy hc V hv ha hb hi) r uF hB;refine⟨s',?_,z2⟩;rw[aal];simp[show AV.cells (.agg r.cells)=r.cells from rfl,show AV.cells (.ptr vb 0)=[.ptr vb 0]from rfl,b1,b2,z1]
theorem amv(hc:bw c)(H:kK c fv s0 I M)(V:Vw s0 vb jb j J P G q g)(eW:J.p.cs.length=q.length\/J.p.cs.length=0)(r:Rl)(hI:I s l)(hB:fK l+3*q.length*q.length<=1000000):
   ∃s',c 90 [.ptr vb 0,.agg r.cells,fv] s=some (.tuple [],s')/\I s' (l++u6 (qF q) q.length (mK J r (XZ J))):=by
 refine H.fin hI (λh=>TP hc 1 h) ?_;have hw:=(H.ai hI).wf;have g1:=Grew.ah hw (.cells [.ptr vb 0] 0);have dK:=H.grow hI g1;have g2:=Grew.ah g1.wf (.cells r.cells 0);have uF:=H.grow dK g2;have b1:=g2.get (aA s (.cells [.ptr vb 0] 0));have b2:=aA (ah s (.cells [.ptr vb 0] 0)) (.cells r.cells 0);have hM:¬M (ah (ah s (.cells [.ptr vb 0] 0)) (.cells r.cells 0)) s.next:=λh=>by have:=H.mlt hI (H.mJ hI g1 (H.mJ dK g2 h));omega
 have V2:=V.ai (H.ai uF);have vc:=V2.vc;have jc:=V2.jw.mz;have ln:=λ(K:AV->St->Option (AV×St))(s:St)=>V2.jw.cls.lenB (c:=c) K s
 rw[Za4]at ln;by_cases h0:J.p.cs.length=0
 . refine⟨_,?_,by
    rw[atW,Zd9];· exact uF
    .   (intro a b x y;have e:∀a,sO J a=0:=λa=>by unfold sO;rw[Zc2 h0];rfl);unfold mK prP XZ;rw[e,e];simp⟩
   rw[Ij];simp[show AV.cells (.agg r.cells)=r.cells from rfl,show AV.cells (.ptr vb 0)=[.ptr vb 0]from rfl,b1,b2,vc,jc,ln,h0]
 .have h1:J.p.cs.length=q.length:=(by omega);obtain⟨s',z1,z2⟩:=TJ hc H V (adr (f:=148) (S:=XZ J) V b1 hM λ{s} V hv {a b i k} ha hb hi hk=>amu hc V h1 hv ha hb hi hk) r uF hB;refine⟨s',?_,z2⟩;have d0:decide ((J.p.cs.length:Int)=0)=false:=Za1 (by omega);rw[Ij];simp only[cS,show AV.cells (.agg r.cells)=r.cells from rfl,show AV.cells (.ptr vb 0)=[.ptr vb 0]from rfl,aT,b1,b2,aD,Za9,Za5,aR,cw,aS,Zb8,vc,jc,Jc.c3,ln,eG,d0,cV,gR,Rl.cc,fu,xR,av,bX,z1,bM]
end
def amw(J:Jt)(a:Nat):List Nat:=match J.p.gs[a]? with|some g=>g.name|none=>[]
def amx(J:Jt)(a:Nat):List Nat:=match J.p.gs[a]? with|some g=>g.nk|none=>[]
def ark(J:Jt)(a:Nat):Bool:=match J.p.gs[a]? with|some g=>g.access|none=>false
def MF(J:Jt)(r:Rl)(a b:Nat)(x y:Int):Bool:=decide (Eg J a b=1)&&(tQ J.p.ts r.t x.toNat||tQ J.p.ts r.t y.toNat)&& !ZS J.p.ts x.toNat y
def X0(J:Jt)(r:Rl)(a:Nat)(x:Int):Bool:= !PN J.p.ts x&&(decide (r.a=amw J a)||(decide (r.a=[])&&ark J a))
def X4(J:Jt)(r:Rl)(a:Nat)(x:Int):Bool:=decide (amx J a=r.a)&& !tQ J.p.ts r.t x.toNat
section
variable{c:aj}{fv:AV}{s0 sB:St}{I:St->List Ev->Prop}{M:St->Pos->Prop}{s:St}{l:List Ev}{vb jb:Pos}{j:Jc}{J:Jt}{P G:AV}{q g:List Int}
theorem amy (hc:bw c)(H:kK c fv s0 I M)(V:Vw s0 vb jb j J P G q g){r:Rl}{rb:Pos}(hr:sB.heap.get rb=some (.cells r.cells 0))(tR:¬M sB rb){a:Nat}{x:Int}(ha:q[a]? =some x)(x13 x14 Vf:AV)(F:Nat):
  ∀(m b f:Nat)(s:St)(l:List Ev),b+m=q.length->m<f->I s l->gZ M sB s->fK l+3*m<=1000000->∃s',I s' (l++b9 (u0 (qF q) (MF J r) a) m b)/\gZ M sB s'/\
   ∀k4,gG c F k4 f [.ptr vb 0,fv,.ptr rb 0,.int .i64 (a:Int),.int .i64 x,.int .i64 (b:Int),x13,x14,Vf] s=k4 [.ptr vb 0,fv,.ptr rb 0,x13,x14,Vf] s':=by
 intro m;induction m with
 |zero=>
  intro b f s l hb hf hI hF hB;obtain⟨f,rfl⟩:∃g,f=g+1:=⟨f - 1,by omega⟩
  have V1:=V.ai (H.ai hI);have vc:=V1.vc;have ln:=λ(K:AV->St->Option (AV×St))=>V1.pq.lenB (c:=c) K s
  rw[Za4]at ln;refine⟨s,by simpa [b9]using hI,hF,λk4=> ?_⟩;obtain rfl:b=q.length:=by omega
  rw[iX];simp[vc,ln]
 |succ m ih  =>
  intro b f s l hb hf hI hF hB;obtain⟨f,rfl⟩:∃g,f=g+1:=⟨f - 1,by omega⟩
  have V1:=V.ai (H.ai hI);have vc:=V1.vc;have jc:=V1.jw.mz;have ln:=λ(K:AV->St->Option (AV×St))=>V1.pq.lenB (c:=c) K s
  rw[Za4]at ln;have ze:b<q.length:=by omega
  obtain⟨y,hy⟩:∃y,q[b]? =some y:=⟨_,H0 ze⟩
  obtain⟨pb,po,p⟩:=ot V1.pq hy;have p1:=λ{R}=>@p.st R
  have p3:=p.one;have hN:=V1.Ef;have kL:=V.ql;have fk:=(hF.2.2 rb _ tR hr).1;have wr:ax .i64 ((b:Int)+1)=((b+1:Nat):Int):=wrap64 (by omega) (by omega)
  have step  :∃s2,I s2 (l++u0 (qF q) (MF J r) a b)/\gZ M sB s2/\∀k4,gG c F k4 (f+1) [.ptr vb 0,fv,.ptr rb 0,.int .i64 (a:Int),.int .i64 x,.int .i64 (b:Int),x13,x14,Vf] s=
        gG c F k4 f [.ptr vb 0,fv,.ptr rb 0,.int .i64 (a:Int),.int .i64 x,.int .i64 ((b+1:Nat):Int),x13,x14,Vf] s2:=by
   rw[aox ha hy];by_cases hx:0<=x
   .    by_cases h0:0<=y
        . obtain⟨i,rfl,hi⟩:=V1.kR ha hx;obtain⟨k,rfl,hk⟩:=V1.kR hy h0;obtain⟨w,tp,to,tp2,to2,h1,h2⟩:=V1.tie ha hy;have r1:=λ{R}=>@h1.st R
          have r2:=h1.one;have r3:=λ{R}=>@h2.st R
          have r4:=h2.one;have nr:=afX hc V1 ha hi hy;have a1:=Ih hc V1 r hi;have a2:=Ih hc V1 r hk;unfold MF;simp only[Zd4];by_cases ht:Eg J a b=1
          . have dt:decide (Eg J a b=1)=true:=Za0 ht;generalize ZS J.p.ts i (k:Int)=e at*
            generalize tQ J.p.ts r.t i=e1 at*
            generalize tQ J.p.ts r.t k=e2 at*
            cases e1<;>cases e2<;>cases e
            case false.false.false|false.false.true|false.true.true|true.false.true|true.true.true=>
             refine⟨s,by simpa [eE]using hI,hF,λk4=> ?_⟩;rw[iX];simp[-au,bR,ze,vc,ln,jc,p1,p3,r1,r2,r3,r4,dt,a1,a2,nr,fk,wr]
            all_goals
             obtain⟨s2,v2,e1,e2,e3⟩:=H.TF hI (by omega) a b;refine⟨s2,by simpa [dt,rY]using e2,hF.trans e3,λk4=> ?_⟩;rw[iX];simp[-au,bR,ze,vc,ln,jc,p1,p3,r1,r2,r3,r4,dt,a1,a2,nr,fk,wr,e1]
          .have dt:decide (Eg J a b=1)=false:=Za1 ht;refine⟨s,by simpa [ht,eE]using hI,hF,λk4=> ?_⟩;rw[iX];simp[-au,bR,ze,vc,ln,jc,p1,p3,r1,r2,r3,r4,dt,wr]
        .refine⟨s,by simpa [h0,eE]using hI,hF,λk4=> ?_⟩;rw[iX];simp[-au,bR,ze,vc,ln,jc,p1,p3,h0,hx,wr]
   .    refine⟨s,by simpa [hx,eE]using hI,hF,λk4=> ?_⟩;rw[iX];simp[-au,bR,ze,vc,ln,jc,p1,p3,hx,wr]
  obtain⟨s2,a1,a2,a3⟩:=step;have sx:=aiv (q:=q) (MF J r) a b;obtain⟨s',z1,z2,z3⟩:=ih (b+1) f s2 _ (by omega) (by omega) a1 a2 (by rw[LW];omega);exact⟨s',by rw[b9, <-Zf5];exact z1,z2,λk4=>by rw[a3,z3]⟩
theorem amz(hc:bw c)(H:kK c fv s0 I M)(V:Vw s0 vb jb j J P G q g){r:Rl}{rb:Pos}(hr:sB.heap.get rb=some (.cells r.cells 0))(tR:¬M sB rb)(F:Nat)(hFu:q.length<F):
  ∀(m a f:Nat)(s:St)(l:List Ev),a+m=q.length->m<f->I s l->gZ M sB s->fK l+3*q.length*m<=1000000->∃s',I s' (l++b9 (λa=>b9 (u0 (qF q) (MF J r) a) (q.length - (a+1)) (a+1)) m a)/\gZ M sB s'/\
   ∀k2,nu c F k2 f [.ptr vb 0,fv,.ptr rb 0,P,.int .i64 (q.length:Int),.int .i64 (a:Int)] s=k2 [] s':=by
 intro m;induction m with
 |zero=>
  intro a f s l hb hf hI hF hB;obtain⟨f,rfl⟩:∃g,f=g+1:=⟨f - 1,by omega⟩
  refine⟨s,by simpa [b9]using hI,hF,λk2=> ?_⟩;obtain rfl:a=q.length:=by omega
  rw[Bn];simp
 |succ m ih=>
  intro a f s l hb hf hI hF hB;obtain⟨f,rfl⟩:∃g,f=g+1:=⟨f - 1,by omega⟩
  have V1:=V.ai (H.ai hI);have om:a<q.length:=by omega
  obtain⟨y,hy⟩:∃y,q[a]? =some y:=⟨_,H0 om⟩
  obtain⟨pb,po,p⟩:=ot V1.pq hy;have p1:=λ{R}=>@p.st R
  have p3:=p.one;have hN:=V1.Ef;have kL:=V.ql;have wr:ax .i64 ((a:Int)+1)=(a:Int)+1:=wrap64 (by omega) (by omega);rw[Nat.mul_succ]at hB;have b3:=Zl7 3 (show q.length - (a+1)<=q.length by omega);obtain⟨s2,z1,z2,z3⟩:=amy (c:=c) hc H V hr tR hy P (.int .i64 (q.length:Int)) (.int .i64 (a:Int)) F (q.length - (a+1)) (a+1) F s l (by omega) (by omega) hI hF (by omega);simp only[show((a+1:Nat):Int)=(a:Int)+1 by omega]at z3;have sx:=XY (q:=q) (MF J r) a (q.length - (a+1)) (a+1);obtain⟨s',y1,y2,y3⟩:=ih (a+1) f s2 _ (by omega) (by omega) z1 z2 (by rw[LW];omega);simp only[show((a+1:Nat):Int)=(a:Int)+1 by omega]at y3;refine⟨s',by rw[b9, <-Zf5];exact y1,y2,λk2=> ?_⟩;rw[<-y3 k2,Bn];simp[-au,om,p1,p3,wr,z3]
theorem akg(hc:bw c)(H:kK c fv s0 I M)(V:Vw s0 vb jb j J P G q g)(r:Rl)(hI:I s l)(hB:fK l+3*q.length*q.length<=1000000):
  ∃s',c 89 [.ptr vb 0,.agg r.cells,fv] s=some (.tuple [],s')/\I s' (l++u6 (qF q) q.length (MF J r)):=by
 refine H.fin hI (λh=>Rk hc (q.length+1) h) ?_;have hw:=(H.ai hI).wf;have gr:=Grew.ah hw (.cells r.cells 0);have dK:=H.grow hI gr;have V1:=V.ai (H.ai dK);have tR:¬M (ah s (.cells r.cells 0)) s.next:=λh=>by have:=H.mlt hI (H.mJ hI gr h);omega
 have vc:=V1.vc;have ln:=λ(K:AV->St->Option (AV×St))=>V1.pq.lenB (c:=c) K (ah s (.cells r.cells 0))
 rw[Za4]at ln;obtain⟨s',z1,z2,z3⟩:=amz (c:=c) hc H V (aA s (.cells r.cells 0)) tR (q.length+1) (by omega) q.length 0 (q.length+1) _ l (by omega) (by omega) dK (gZ.refl V1.wf) hB;refine⟨s',?_,z1⟩;rw[Wg,cS,show AV.cells (.agg r.cells)=r.cells from rfl];have z3:=z3 (λvs s=>mO vs (some (.tuple [],s)));simp only[av,cw,aS,Zb8,aT,vc,aD,Za9,Za5,Zb4,aR,ln];rw[show(0:Int)=((0:Nat):Int)from rfl,z3];rfl
theorem aix{a:Nat}{x:Int}(ha:q[a]? =some x)(P:Nat->Int->Bool):uZ (on (qF q) a&&P a (qF q a)) 1 [(a:Int)]=uZ (decide (0<=x)&&P a x) 1 [(a:Int)]:=by
 unfold on;rw[qH ha]
end
section
variable{c:aj}{fv:AV}{s0 sB:St}{I:St->List Ev->Prop}{M:St->Pos->Prop}{s:St}{l:List Ev}{vb jb:Pos}{j:Jc}{J:Jt}{P G:AV}{q g:List Int}
theorem ZV{E:Nat->List Ev}{B n:Nat}(hE:∀a,fK (E a)<=B)(L:Q2->Nat->List AV->St->Option (AV×St))(args:Nat->List AV)(hz:∀(k2:Q2)(f:Nat)(s:St),L k2 (f+1) (args n) s=k2 [] s)
  (hs:∀(a:Nat)(s:St)(l:List Ev),a<n->I s l->gZ M sB s->fK l+B<=1000000->∃s2,I s2 (l++E a)/\gZ M sB s2/\∀(k2:Q2)(f:Nat),L k2 (f+1) (args a) s=L k2 f (args (a+1)) s2):
  ∀(m a f:Nat)(s:St)(l:List Ev),a+m=n->m<f->I s l->gZ M sB s->fK l+B*m<=1000000->∃s',I s' (l++b9 E m a)/\gZ M sB s'/\∀k2,L k2 f (args a) s=k2 [] s':=by
 intro m;induction m with
 |zero=>
  intro a f s l hb hf hI hF hB;obtain⟨f,rfl⟩:∃g,f=g+1:=⟨f - 1,by omega⟩
  obtain rfl:a=n:=by omega
  exact⟨s,by simpa [b9]using hI,hF,λk2=>hz k2 f s⟩
 |succ m ih=>
  intro a f s l hb hf hI hF hB;obtain⟨f,rfl⟩:∃g,f=g+1:=⟨f - 1,by omega⟩
  rw[Nat.mul_succ]at hB;obtain⟨s2,a1,a2,a3⟩:=hs a s l (by omega) hI hF (by omega);have:=hE a;obtain⟨s',z1,z2,z3⟩:=ih (a+1) f s2 _ (by omega) (by omega) a1 a2 (by rw[LW];omega);exact⟨s',by rw[b9, <-Zf5];exact z1,z2,λk2=>by rw[a3,z3]⟩
def gsE(q:List Int)(P:Nat->Int->Bool)(a:Nat):List Ev:=uZ (on (qF q) a&&P a (qF q a)) 1 [(a:Int)]
theorem aiy(P:Nat->Int->Bool)(a:Nat):fK (gsE q P a)<=2:=Ig _ _ _
abbrev lq(vb rb:Pos)(fv P:AV)(n a:Nat):List AV:=[.ptr vb 0,fv,.ptr rb 0,P,.int .i64 (n:Int),.int .i64 (a:Int)]
theorem amA(H:kK c fv s0 I M)(V:Vw s0 vb jb j J P G q g){r:Rl}{rb:Pos}(hr:sB.heap.get rb=some (.cells r.cells 0))(tR:¬M sB rb)(F:Nat)(a:Nat)(s:St)(l:List Ev)(om:a<q.length)(hI:I s l)(hF:gZ M sB s)(hB:fK l+2<=1000000):
   ∃s2,I s2 (l++gsE q (X0 J r) a)/\gZ M sB s2/\∀(k2:Q2)(f:Nat),jN c F k2 (f+1) (lq vb rb fv P q.length a) s=jN c F k2 f (lq vb rb fv P q.length (a+1)) s2:=by
 have V1:=V.ai (H.ai hI);have vc:=V1.vc;have jc:=V1.jw.mz;obtain⟨y,hy⟩:∃y,q[a]? =some y:=⟨_,H0 om⟩
 obtain⟨pb,po,p⟩:=ot V1.pq hy;have p1:=λ{R}=>@p.st R
 have p3:=p.one;have hN:=V1.Ef;have kL:=V.ql;have fk:=(hF.2.2 rb _ tR hr).1;have wr:ax .i64 ((a:Int)+1)=(a:Int)+1:=wrap64 (by omega) (by omega);unfold gsE;rw[aix hy];by_cases h0:0<=y
 . obtain ⟨ k,rfl,hk⟩:=V1.kR hy h0;obtain⟨ub,uo,u⟩:=V1.rO hk;have u1:=λ{R}=>@u.pr R
   have u3:=u.one;obtain⟨A,v,ab,ao,hA,h1⟩:=V1.qM hy;have r1:=λ{R}=>@h1.pr R
   have r2:=h1.at' 0 _ rfl;rw[Zf7]at r2;have r3:=h1.at' 7 _ rfl;unfold X0 amw ark;rw[hA];simp only;generalize PN J.p.ts (k:Int)=o at*
   cases o
   . by_cases hn:r.a=A.name
     .  obtain⟨s2,v2,a1,a2,a3⟩:=H.ZT hI hB a;refine⟨s2,by simpa [hn,rY]using a2,hF.trans a3,λk2 f=> ?_⟩;simp only[lq,show((a+1:Nat):Int)=(a:Int)+1 by omega];rw[iM];simp[-au,bR,om,p1,p3,vc,jc,u1,u3,r1,r2,r3,fk,hn,a1,wr]
     .  have Ik:decide (r.a=A.name)=false:=Za1 hn;by_cases he:r.a=[]
        . have QX:decide (r.a=[])=true:=Za0 he;cases hac:A.access
          .refine⟨s,by simpa [hn,hac,eE]using hI,hF,λk2 f=> ?_⟩;rw[hac]at r3;simp only[lq,show((a+1:Nat):Int)=(a:Int)+1 by omega];rw[iM];simp[-au,bR,om,p1,p3,vc,jc,u1,u3,r1,r2,r3,fk,Ik,QX,wr]
          .obtain⟨s2,v2,a1,a2,a3⟩:=H.ZT hI hB a;rw[hac]at r3;refine⟨s2,by simpa [he,hac,rY]using a2,hF.trans a3,λk2 f=> ?_⟩;simp only[lq,show((a+1:Nat):Int)=(a:Int)+1 by omega];rw[iM];simp[-au,bR,om,p1,p3,vc,jc,u1,u3,r1,r2,r3,fk,Ik,QX,a1,wr]
        .have QX:decide (r.a=[])=false:=Za1 he;refine⟨s,by simpa [hn,he,eE]using hI,hF,λk2 f=> ?_⟩;simp only[lq,show((a+1:Nat):Int)=(a:Int)+1 by omega];rw[iM];simp[-au,bR,om,p1,p3,vc,jc,u1,u3,r1,r2,r3,fk,Ik,QX,wr]
   .refine⟨s,by simpa [eE]using hI,hF,λk2 f=> ?_⟩;simp only[lq,show((a+1:Nat):Int)=(a:Int)+1 by omega];rw[iM];simp[-au,bR,om,p1,p3,vc,jc,u1,u3,wr]
 .refine⟨s,by simpa [h0,eE]using hI,hF,λk2 f=> ?_⟩;simp only[lq,show((a+1:Nat):Int)=(a:Int)+1 by omega];rw[iM];simp[-au,bR,om,p1,p3,h0,wr]
theorem aiz(hc:bw c)(H:kK c fv s0 I M)(V:Vw s0 vb jb j J P G q g){r:Rl}{rb:Pos}(hr:sB.heap.get rb=some (.cells r.cells 0))(tR:¬M sB rb)(F:Nat)(a:Nat)(s:St)(l:List Ev)(om:a<q.length)(hI:I s l)(hF:gZ M sB s)(hB:fK l+2<=1000000):
   ∃s2,I s2 (l++gsE q (X4 J r) a)/\gZ M sB s2/\∀(k2:Q2)(f:Nat),iN c F k2 (f+1) (lq vb rb fv P q.length a) s=iN c F k2 f (lq vb rb fv P q.length (a+1)) s2:=by
 have V1:=V.ai (H.ai hI);have vc:=V1.vc;have jc:=V1.jw.mz;obtain⟨y,hy⟩:∃y,q[a]? =some y:=⟨_,H0 om⟩
 obtain⟨pb,po,p⟩:=ot V1.pq hy;have p1:=λ{R}=>@p.st R
 have p3:=p.one;have hN:=V1.Ef;have kL:=V.ql;have fk:=(hF.2.2 rb _ tR hr).1;have wr:ax .i64 ((a:Int)+1)=(a:Int)+1:=wrap64 (by omega) (by omega);unfold gsE;rw[aix hy];by_cases h0:0<=y
 . obtain⟨k,rfl,hk⟩:=V1.kR hy h0;have ak:=Ih hc V1 r hk;obtain⟨A,v,ab,ao,hA,h1⟩:=V1.qM hy;have r1:=λ{R}=>@h1.pr R
   have r2:=h1.at' 5 _ rfl;unfold X4 amx;rw[hA];simp only[Zd4];generalize tQ J.p.ts r.t k=e at*
   by_cases hn:A.nk=r.a
   . have Ik:decide (A.nk=r.a)=true:=Za0 hn;cases e
     .  obtain⟨s2,v2,a1,a2,a3⟩:=H.ZT hI hB a;refine⟨s2,by simpa [hn,rY]using a2,hF.trans a3,λk2 f=> ?_⟩;simp only[lq,show((a+1:Nat):Int)=(a:Int)+1 by omega];rw[kT];simp[-au,bR,om,p1,p3,vc,jc,r1,r2,fk,Ik,ak,a1,wr]
     .  refine⟨s,by simpa [eE]using hI,hF,λk2 f=> ?_⟩;simp only[lq,show((a+1:Nat):Int)=(a:Int)+1 by omega];rw[kT];simp[-au,bR,om,p1,p3,vc,jc,r1,r2,fk,Ik,ak,wr]
   .have Ik:decide (A.nk=r.a)=false:=Za1 hn;refine⟨s,by simpa [hn,eE]using hI,hF,λk2 f=> ?_⟩;simp only[lq,show((a+1:Nat):Int)=(a:Int)+1 by omega];rw[kT];simp[-au,bR,om,p1,p3,vc,jc,r1,r2,fk,Ik,wr]
 .refine⟨s,by simpa [h0,eE]using hI,hF,λk2 f=> ?_⟩;simp only[lq,show((a+1:Nat):Int)=(a:Int)+1 by omega];rw[kT];simp[-au,bR,om,p1,p3,h0,wr]
theorem aoA(H:kK c fv s0 I M)(hc:bw c)(V:Vw s0 vb jb j J P G q g)(r:Rl)(hI:I s l)(hB:fK l+2*q.length<=1000000):
  ∃s',c 86 [.ptr vb 0,.agg r.cells,fv] s=some (.tuple [],s')/\I s' (l++Ee (qF q) q.length (X0 J r)):=by
 refine H.fin hI (λh=>Wh hc (q.length+1) h) ?_;have hw:=(H.ai hI).wf;have gr:=Grew.ah hw (.cells r.cells 0);have dK:=H.grow hI gr;have V1:=V.ai (H.ai dK);have tR:¬M (ah s (.cells r.cells 0)) s.next:=λh=>by have:=H.mlt hI (H.mJ hI gr h);omega
 have vc:=V1.vc;have ln:=λ(K:AV->St->Option (AV×St))=>V1.pq.lenB (c:=c) K (ah s (.cells r.cells 0))
 rw[Za4]at ln
 obtain⟨s',z1,z2,z3⟩:=ZV (E:=gsE q (X0 J r)) (n:=q.length) (aiy _) (λk2=>jN c (q.length+1) k2) (lq vb s.next fv P q.length) (λk2 f s=>by rw[iM];simp)
  (amA (c:=c) H V (aA s (.cells r.cells 0)) tR (q.length+1)) q.length 0 (q.length+1) _ l (by omega) (by omega) dK (gZ.refl V1.wf) hB
 refine⟨s',?_,z1⟩;rw[aam,cS,show AV.cells (.agg r.cells)=r.cells from rfl];have z3:=z3 (λvs s=>mO vs (some (.tuple [],s)));simp only[av,cw,aS,Zb8,aT,vc,aD,Za9,Za5,Zb4,aR,ln];exact z3.trans rfl
theorem akh(H:kK c fv s0 I M)(hc:bw c)(V:Vw s0 vb jb j J P G q g)(r:Rl)(hI:I s l)(hB:fK l+2*q.length<=1000000):
  ∃s',c 93 [.ptr vb 0,.agg r.cells,fv] s=some (.tuple [],s')/\I s' (l++Ee (qF q) q.length (X4 J r)):=by
 refine H.fin hI (λh=>Rm hc (q.length+1) h) ?_;have hw:=(H.ai hI).wf;have gr:=Grew.ah hw (.cells r.cells 0);have dK:=H.grow hI gr;have V1:=V.ai (H.ai dK);have tR:¬M (ah s (.cells r.cells 0)) s.next:=λh=>by have:=H.mlt hI (H.mJ hI gr h);omega
 have vc:=V1.vc;have ln:=λ(K:AV->St->Option (AV×St))=>V1.pq.lenB (c:=c) K (ah s (.cells r.cells 0))
 rw[Za4]at ln
 obtain⟨s',z1,z2,z3⟩:=ZV (E:=gsE q (X4 J r)) (n:=q.length) (aiy _) (λk2=>iN c (q.length+1) k2) (lq vb s.next fv P q.length) (λk2 f s=>by rw[kT];simp)
  (aiz (c:=c) hc H V (aA s (.cells r.cells 0)) tR (q.length+1)) q.length 0 (q.length+1) _ l (by omega) (by omega) dK (gZ.refl V1.wf) hB
 refine⟨s',?_,z1⟩;rw[Wi,cS,show AV.cells (.agg r.cells)=r.cells from rfl];have z3:=z3 (λvs s=>mO vs (some (.tuple [],s)));simp only[av,cw,aS,Zb8,aT,vc,aD,Za9,Za5,Zb4,aR,ln];exact z3.trans rfl
end
def amB(J:Jt)(a:Nat)(h:Int):Bool:=(J.jW.getD a []).getD h.toNat false
def JC(J:Jt)(g:List Int)(a:Nat):List Int->Bool->Bool->Bool×Bool
 |[],so,si=>(so,si)
 |k::r,so,si=>if 0<=g.getD k.toNat (-1)then JC J g a r true (si&& !amB J a (g.getD k.toNat (-1)))else JC J g a r so si
def ab4(J:Jt)(g:List Int)(a:Nat)(x:Int):Bool×Bool:=JC J g a (AL J.p.ts x.toNat) (JC J g a (rD J.p.ts x.toNat) false true).1 (JC J g a (rD J.p.ts x.toNat) false true).2
def aeK(J:Jt)(r:Rl)(g:List Int)(a:Nat)(x:Int):Bool:=tQ J.p.ts r.t x.toNat&&((ab4 J g a x).1&&(ab4 J g a x).2)
section
variable{c:aj}{fv:AV}{s0 sB:St}{I:St->List Ev->Prop}{M:St->Pos->Prop}{s:St}{l:List Ev}{vb jb:Pos}{j:Jc}{J:Jt}{P G:AV}{q g:List Int}
theorem Vw.com(V:Vw s vb jb j J P G q g){a b:Nat}(ha:a<J.n)(hb:b<J.n):∃w p o p2 o2,Rd s 1 j.L6 a p o [w]/\Rd s 1 w b p2 o2 [.bool (amB J a (b:Int))]:=by
 have h1:a<J.jW.length:=by rw[V.jw.n1];exact ha
 have h2:b<J.jW[a].length:=by rw[V.jw.n3 _ (Zb9 h1)];exact hb
 have e:amB J a (b:Int)=J.jW[a][b]:=by
  unfold amB;rw[Zd4,Zb3,Zb3,H0 h1,Ze8,H0 h2,Ze8]
 rw[e];exact V.rC (H0 h1) (H0 h2)
theorem aiA(V:Vw s vb jb j J P G q g){w:AV}{r:List Int}(hw:QS 1 s w (r.map bC))(hr:∀k∈r,0<=k/\k<(J.N:Int))(hl:r.length<=1000){a:Nat}(ha:a<J.n)(x2 x4 x18 x19 x20 x54 x55 x56:AV)(F:Nat)(k6:Q2):
  ∀ (m k f:Nat)(so si:Bool),k+m=r.length->m<f->jO c F k6 f [.ptr vb 0,x2,x4,.int .i64 (a:Int),.bool so,.bool si,x18,x19,x20,x54,x55,x56,w,.int .i64 (r.length:Int),.int .i64 (k:Int)] s=
    k6 [.ptr vb 0,x2,x4,.int .i64 (a:Int),.bool (JC J g a (r.drop k) so si).1,.bool (JC J g a (r.drop k) so si).2,x18,x19,x20,x54,x55,x56] s:=by
 have vc:=V.vc;have jc:=V.jw.mz;intro m;induction m with
 |zero=>
  intro k f so si hk hf;obtain⟨f,rfl⟩:∃g,f=g+1:=⟨f - 1,by omega⟩
  obtain rfl:k=r.length:=by omega
  rw[wD];simp[JC]
 |succ m ih=>
  intro k f so si hk hf;obtain⟨f,rfl⟩:∃g,f=g+1:=⟨f - 1,by omega⟩
  have gX:k<r.length:=by omega
  obtain⟨wb,wo,w1⟩:=ot hw (H0 gX);have q1:=λ{R}=>@w1.st R
  have q3:=w1.one;have wr:ax .i64 ((k:Int)+1)=((k+1:Nat):Int):=wrap64 (by omega) (by omega);have bd:=hr _ (Zb9 gX);obtain⟨i,hi⟩:∃i:Nat,r[k]=(i:Int):=⟨r[k].toNat,by omega⟩
  have hiN:i<J.N:=by omega
  have Rn:i<g.length:=by rw[V.gl];exact hiN
  obtain⟨gb,go,g1⟩:=ot V.gq (H0 Rn);have g2:=λ{R}=>@g1.st R
  have g3:=g1.one;have eg:g.getD i (-1)=g[i]:=by rw[Zb3,H0 Rn];rfl
  rw[Zd8 gX,hi];rw[hi]at q3;unfold JC;rw[Zd4,eg];by_cases h0:0<=g[i]
  . obtain⟨h,hh⟩:∃h:Nat,g[i]=(h:Int):=⟨g[i].toNat,by omega⟩
    have hn:h<J.n:=(by have:=V.og _ (Zb9 Rn);omega);obtain⟨w',cp,co,JY,co2,h1,h2⟩:=V.com ha hn;have r1:=λ{R}=>@h1.st R
    have r2:=h1.one;have r3:=λ{R}=>@h2.st R
    have r4:=h2.one;rw[hh]at g3 h0 ⊢;rw[Zb6 h0, <-ih (k+1) f true _ (by omega) (by omega),wD];cases si<;>simp[bR,gX,q1,q3,vc,jc,g2,g3,r1,r2,r3,r4,wr]
  .have d0:decide (0<=g[i])=false:=Za1 h0;rw[Za7 h0, <-ih (k+1) f so si (by omega) (by omega),wD];simp[bR,gX,q1,q3,vc,jc,g2,g3,d0,wr]
theorem aiB{R:Type}(K:AV->Option R)(b:Pos)(off len es:Nat)(cap:Option Nat):eX (.lenB .l) [.slice b off len cap es] K=K (.int .i64 (len:Int)):=dD K (λH n=>rfl)
theorem amC(hc:bw c)(H:kK c fv s0 I M)(V:Vw s0 vb jb j J P G q g){r:Rl}{rb:Pos}(hr:sB.heap.get rb=some (.cells r.cells 0))(tR:¬M sB rb){F:Nat}(hFu:1001<=F)(a:Nat)(s:St)(l:List Ev)(om:a<q.length)(hI:I s l)(hF:gZ M sB s)(hB:fK l+2<=1000000):
   ∃s2,I s2 (l++gsE q (aeK J r g) a)/\gZ M sB s2/\∀(k2:Q2)(f:Nat),gH c F k2 (f+1) (lq vb rb fv P q.length a) s=gH c F k2 f (lq vb rb fv P q.length (a+1)) s2:=by
 have V1:=V.ai (H.ai hI);have vc:=V1.vc;have jc:=V1.jw.mz;obtain⟨y,hy⟩:∃y,q[a]? =some y:=⟨_,H0 om⟩
 obtain⟨pb,po,p⟩:=ot V1.pq hy;have p1:=λ{R}=>@p.st R
 have p3:=p.one;have p4:=λ{R}=>@p.pr R
 have hN:=V1.Ef;have kL:=V.ql;have fk:=(hF.2.2 rb _ tR hr).1;have wr:ax .i64 ((a:Int)+1)=(a:Int)+1:=wrap64 (by omega) (by omega);unfold gsE;rw[aix hy];by_cases h0:0<=y
 . obtain⟨k,rfl,hk⟩:=V1.kR hy h0;have dn:decide ((k:Int)<0)=false:=Za1 (by omega);have ak:=Ih hc V1 r hk;unfold aeK ab4;simp only[Zd4];generalize tQ J.p.ts r.t k=e at*
   cases e
   .refine⟨s,by simpa [eE]using hI,hF,λk2 f=> ?_⟩;simp only[lq,show((a+1:Nat):Int)=(a:Int)+1 by omega];rw[ny];simp[-au,bR,om,p1,p3,dn,fk,ak,wr]
   . obtain⟨w1,b1,o1,h1,h2⟩:=V1.rB hk;obtain⟨w2,b2,o2,h3,h4⟩:=V1.rA hk;have m1:=λ{R}=>@h1.pr R
     have m2:=h1.one;have m3:=λ{R}=>@h3.pr R
     have m4:=h3.one;have bdB:=(ab5 V.jw.nN).1 (rD J.p.ts k) (by unfold yH;exact Zc7.2 ⟨k,Zg5.2 hk,rfl⟩);have bdA:=(ab5 V.jw.nN).2 (AL J.p.ts k) (by unfold yI;exact Zc7.2 ⟨k,Zg5.2 hk,rfl⟩);obtain⟨wc1,_⟩:=QS.cells h2;obtain⟨wc2,_⟩:=QS.cells h4;have ef:cK (bW [AV.af] 2) ([0,1].map λi=>(i*1,1)) [w1,w2]=some [w1,w2]:=by
        simp[cK,bW,cU,cO,aU,wc1,wc2]
     have nw:=λ(K:AV->AB->Option (AV×St))=>(qE s 1 2 [.af] [0,1] [w1,w2] K).trans (by rw[ef])
     have gN:=Grew.ah V1.wf (.cells [w1,w2] 0);have uF:=H.grow hI gN;have hF2:=hF.trans (H.fr hI gN);have V2:=V.ai (H.ai uF);have hx:=aA s (.cells [w1,w2] 0);have hn1:a<J.n:=(by omega);have l1:=λ(so si:Bool)(x55 x56:AV)(k6:Q2)=>aiA (c:=c) V2 (h2.ai gN) bdB.2 bdB.1 hn1 fv (.ptr rb 0) P (.int .i64 (q.length:Int)) (.int .i64 (a:Int)) (.slice s.next 0 2 (some 2) 1) x55 x56 F k6 (rD J.p.ts k).length 0 F so si (by omega) (by omega)
     have l2:=λ(so si:Bool)(x55 x56:AV)(k6:Q2)=>aiA (c:=c) V2 (h4.ai gN) bdA.2 bdA.1 hn1 fv (.ptr rb 0) P (.int .i64 (q.length:Int)) (.int .i64 (a:Int)) (.slice s.next 0 2 (some 2) 1) x55 x56 F k6 (AL J.p.ts k).length 0 F so si (by omega) (by omega)
     (simp only[Ze5,show((0:Nat):Int)=0 from rfl]at l1 l2;have ln1:=λ(K:AV->St->Option (AV×St))=>(h2.ai gN).lenB (c:=c) K (ah s (.cells [w1,w2] 0)));have ln2:=λ(K:AV->St->Option (AV×St))=>(h4.ai gN).lenB (c:=c) K (ah s (.cells [w1,w2] 0))
     (rw[Za4]at ln1 ln2;have ix0:=λ(K:AV->St->Option (AV×St))(s1:St)=>ji c K s1 (b:=s.next) (off:=0) (len:=2) (es:=1) (es':=1) (cap:=some 2) (k:= .i64) (i:=0) (by omega));have ix1:=λ(K:AV->St->Option (AV×St))(s1:St)=>ji c K s1 (b:=s.next) (off:=0) (len:=2) (es:=1) (es':=1) (cap:=some 2) (k:= .i64) (i:=1) (by omega)
     simp only[show((0:Nat):Int)=0 from rfl,show((1:Nat):Int)=1 from rfl,Zo1,Zf7,Zn5,Zb8]at ix0 ix1;have w11:ax .i64 ((0:Int)+1)=1:=wrap64 (by omega) (by omega);have w12:ax .i64 ((1:Int)+1)=2:=wrap64 (by omega) (by omega);obtain⟨F',rfl⟩:∃n,F=n+3:=⟨F - 3,by omega⟩
     have L1:∀k4:Q2,mA c (F'+3) k4 (F'+3) [.ptr vb 0,fv,.ptr rb 0,.int .i64 (a:Int),.bool false,.bool true,P,.int .i64 (q.length:Int),.int .i64 (a:Int),.slice s.next 0 2 (some 2) 1,.int .i64 2,.int .i64 0] (ah s (.cells [w1,w2] 0))=
         k4 [.ptr vb 0,fv,.ptr rb 0,.int .i64 (a:Int),.bool (ab4 J g a (k:Int)).1,.bool (ab4 J g a (k:Int)).2,P,.int .i64 (q.length:Int),.int .i64 (a:Int)] (ah s (.cells [w1,w2] 0)):=λk4=>by
        unfold ab4;rw[Zd4,wE];simp only[aH,bg,cG,show decide ((0:Int)<2)=true from rfl,dH,ix0,aT,hx,aD,Za9,Za5,aR,av,ln1,l1,fD,w11];rw[wE];simp only[aH,bg,cG,show decide ((1:Int)<2)=true from rfl,dH,ix1,aT,hx,aD,Za9,Za5,Zb4,aR,av,ln2,l2,fD,w12];rw[wE];simp only[aH,bg,cG,show decide ((2:Int)<2)=false from rfl,cV]
     unfold ab4 at L1;rw[Zd4]at L1;generalize JC J g a (AL J.p.ts k) (JC J g a (rD J.p.ts k) false true).1 (JC J g a (rD J.p.ts k) false true).2=e at*
     obtain⟨so,si⟩:=e;have tail:∃s2,I s2 (l++uZ (so&&si) 1 [(a:Int)])/\gZ M sB s2/\∀(k2:Q2)(f:Nat),gH c (F'+3) k2 (f+1) (lq vb rb fv P q.length a) s=gH c (F'+3) k2 f (lq vb rb fv P q.length (a+1)) s2:=by
        obtain⟨s2,v2,a1,a2,a3⟩:=H.ZT uF hB a;cases so<;>cases si
        case true.true=>
         refine⟨s2,a2,hF2.trans a3,λk2 f=> ?_⟩;simp only[lq,show((a+1:Nat):Int)=(a:Int)+1 by omega];rw[ny];simp[-au,-qE,bR,om,p1,p3,p4,dn,fk,ak,vc,jc,m1,m2,m3,m4,nw,aiB,L1,a1,wr]
        all_goals
         refine⟨_,by simpa [eE]using uF,hF2,λk2 f=> ?_⟩;simp only[lq,show((a+1:Nat):Int)=(a:Int)+1 by omega];rw[ny];simp[-au,-qE,bR,om,p1,p3,p4,dn,fk,ak,vc,jc,m1,m2,m3,m4,nw,aiB,L1,wr]
     have e0:(decide (0<=(k:Int))&&(true&&(so&&si)))=(so&&si):=(by rw[Za0 h0];simp);rw[e0];exact tail
 .have dn:decide (y<0)=true:=Za0 (by omega);refine⟨s,by simpa [h0,eE]using hI,hF,λk2 f=> ?_⟩;simp only[lq,show((a+1:Nat):Int)=(a:Int)+1 by omega];rw[ny];simp[-au,bR,om,p1,p3,dn,wr]
theorem aoB(H:kK c fv s0 I M)(hc:bw c)(V:Vw s0 vb jb j J P G q g)(r:Rl)(hI:I s l)(hB:fK l+2*q.length<=1000000):
  ∃s',c 87 [.ptr vb 0,.agg r.cells,fv] s=some (.tuple [],s')/\I s' (l++Ee (qF q) q.length (aeK J r g)):=by
 refine H.fin hI (λh=>Wj hc (q.length+1001) h) ?_;have hw:=(H.ai hI).wf;have gr:=Grew.ah hw (.cells r.cells 0);have dK:=H.grow hI gr;have V1:=V.ai (H.ai dK);have tR:¬M (ah s (.cells r.cells 0)) s.next:=λh=>by have:=H.mlt hI (H.mJ hI gr h);omega
 have vc:=V1.vc;have ln:=λ(K:AV->St->Option (AV×St))=>V1.pq.lenB (c:=c) K (ah s (.cells r.cells 0))
 rw[Za4]at ln
 obtain⟨s',z1,z2,z3⟩:=ZV (E:=gsE q (aeK J r g)) (n:=q.length) (aiy _) (λk2=>gH c (q.length+1001) k2) (lq vb s.next fv P q.length) (λk2 f s=>by rw[ny];simp)
  (amC (c:=c) hc H V (aA s (.cells r.cells 0)) tR (F:=q.length+1001) (by omega)) q.length 0 (q.length+1001) _ l (by omega) (by omega) dK (gZ.refl V1.wf) hB
 refine⟨s',?_,z1⟩;rw[aan,cS,show AV.cells (.agg r.cells)=r.cells from rfl];have z3:=z3 (λvs s=>mO vs (some (.tuple [],s)));simp only[av,cw,aS,Zb8,aT,vc,aD,Za9,Za5,Zb4,aR,ln];exact z3.trans rfl
end
def Ah(J:Jt)(a:Nat):Bool:=match J.p.gs[a]? with|some g=>g.host|none=>false
def jT(J:Jt):JT:=⟨J.n,J.p.ts.length,zu J,Ah J⟩
def ab6(J:Jt)(r:Rl)(t:Nat):Bool:=decide (r.t=[])||decide (r.t=XT J.p.ts t)
section
variable{c:aj}{fv:AV}{s0 sB:St}{I:St->List Ev->Prop}{M:St->Pos->Prop}{s:St}{l l':List Ev}{vb jb:Pos}{j:Jc}{J:Jt}{P G:AV}{q g:List Int}
theorem kK.arl(H:kK c fv s0 I M)(hI:I s l){T:Option (AV×St)}{f:FuncId}{args:List AV}{v:AV}(hr:∀{r},T=some r->c f args s=some (tidy s r))(h:∃s',T=some (v,s')/\I s' l'/\gZ M s s'):
   ∃s',c f args s=some (v,s')/\I s' l'/\gZ M s s':=by
 obtain⟨s',h1,h2,h4⟩:=h;have h3:=hr h1;unfold tidy at h3;split at h3
 .rename_i hk;exact⟨s,h3,H.back hI h2 hk.2,gZ.refl (H.ai hI).wf⟩
 .exact⟨s',h3,h2,h4⟩
def DoC(c:aj)(dv:AV)(I:St->List Ev->Prop)(M:St->Pos->Prop)(n:Nat)(sB:St)(D:List Int->List Ev):Prop:=
 ∀  {s l}{W:AV}{who:List Int},I s l->gZ M sB s->QS 1 s W (who.map bC)->who.length<=n->(∀x∈who,0<=x/\x<(n:Int))->fK l+2000<=1000000->
    ∃s' v,(∀(K:AV->St->Option (AV×St)),aq c .callV [dv,W] s K=K v s')/\I s' (l++D who)/\gZ M s s'
theorem Vw.awz(V:Vw s vb jb j J P G q g){t:Nat}{T:aE}(ht:J.p.ts[t]? =some T):∃v b o,Rd s 7 j.V1 t b o (T.ay v)/\aQ (T.ay v)=true:=by
 obtain⟨s0,r1,r2,_,h,_⟩:=V.jw.ps;have hl:t<r1.length:=by rw[h.len];exact(Za2.1 ht).1
 obtain⟨v,e,hv,_⟩:=h.ez t T r1[t] ht (H0 hl);obtain⟨b,o,h4⟩:=h.out.own.rd h.out.row (H0 hl);exact⟨v,b,o,by rw[<-e];exact h4,T.MG (by simp[aQ,hv.own.cells.2])⟩
def Hg(J:Jt)(q:List Int)(t k:Nat):List Int:=((List.range k).filter ((jT J).at (qF q) t)).map λ(g:Nat)=>(g:Int)
theorem aoC(J:Jt)(q:List Int)(t k:Nat):Hg J q t (k+1)=Hg J q t k++(if(jT J).at (qF q) t k then [(k:Int)]else []):=by
 unfold Hg;rw[Zg4,Zk3,Zc8];cases h:(jT J).at (qF q) t k<;>simp[h]
theorem TQ(J:Jt)(q:List Int)(t k:Nat):(Hg J q t k).length<=k:=by unfold Hg;rw[Za4,XO];exact XM _ _
theorem atY(V:Vw s0 vb jb j J P G q g)(gs:Grew s0 sB){t:Nat}(ht:t<1000)(x2 x4 x18 x19 x20:AV)(F:Nat):
  ∀ (m k f:Nat)(s:St)(v:AV),k+m=q.length->m<f->Mk 1 sB s v ((Hg J q t k).map bC)->∃s' v',Mk 1 sB s' v' ((Hg J q t q.length).map bC)/\
    ∀k4,nO c F k4 f [.ptr vb 0,x2,x4,.int .i64 (t:Int),v,x18,x19,x20,P,.int .i64 (q.length:Int),.int .i64 (k:Int)] s=k4 [.ptr vb 0,x2,x4,v',x18,x19,x20] s':=by
 intro m;induction m with
 |zero=>
  intro k f s v hk hf hM;obtain⟨f,rfl⟩:∃g,f=g+1:=⟨f - 1,by omega⟩
  obtain rfl:k=q.length:=by omega
  exact⟨s,v,hM,λk4=>by rw[r9];simp⟩
 |succ m ih=>
  intro k f s v hk hf hM;obtain⟨f,rfl⟩:∃g,f=g+1:=⟨f - 1,by omega⟩
  have V1:=V.ai (gs.trans hM.ai);have vc:=V1.vc;have jc:=V1.jw.mz;have gX:k<q.length:=by omega
  obtain⟨y,hy⟩:∃y,q[k]? =some y:=⟨_,H0 gX⟩
  obtain⟨pb,po,p⟩:=ot V1.pq hy;have p1:=λ{R}=>@p.st R
  have p3:=p.one;have hN:=V1.Ef;have kL:=V.ql;have wr:ax .i64 ((k:Int)+1)=((k+1:Nat):Int):=wrap64 (by omega) (by omega);have wl:=TQ J q t k;have hs:=aoC J q t k;have ea:(jT J).at (qF q) t k=(decide (0<=y)&&zu J y==t):=by unfold JT.at on jT;rw[qH hy]
  rw[ea]at hs;by_cases h0:0<=y
  . obtain⟨i,rfl,hi⟩:=V1.kR hy h0;obtain⟨tb,to,u⟩:=V1.rT hi;have t1:=λ{R}=>@u.st R
    have t3:=u.one;unfold zu at hs;rw[Zd4,Za0 h0,Zg9]at hs;by_cases hT:cM J.p.ts i=t
    .   have d1:decide (((cM J.p.ts i:Nat):Int)=(t:Int))=true:=Za0 (by omega);rw[Zb6 (by simpa using hT)]at hs;obtain⟨s5,v5,a1,a2,_,_⟩:=hM.push (R:=AV×St) (c:=c) (bytes:=8) (z:=[.int .i64 0]) (x:= .int .i64 (k:Int)) rfl rfl rfl (by omega) (by rw[Za4];omega) (by rw[Za4];omega);obtain⟨s',v',z1,z2⟩:=ih (k+1) f s5 v5 (by omega) (by omega) (by rw[hs,Zc8];exact a2);refine⟨s',v',z1,λk4=> ?_⟩;rw[<-z2 k4,r9];simp[-au,bR,gX,p1,p3,vc,jc,t1,t3,d1,a1,wr]
    .   have d1:decide (((cM J.p.ts i:Nat):Int)=(t:Int))=false:=Za1 (by omega);rw[Za7 (by simpa using hT),Zd9]at hs;obtain⟨s',v',z1,z2⟩:=ih (k+1) f s v (by omega) (by omega) (by rw[hs];exact hM);refine⟨s',v',z1,λk4=> ?_⟩;rw[<-z2 k4,r9];simp[-au,bR,gX,p1,p3,vc,jc,t1,t3,d1,wr]
  .rw[Za1 h0,Bool.false_and,Za7 (by simp),Zd9]at hs;obtain⟨s',v',z1,z2⟩:=ih (k+1) f s v (by omega) (by omega) (by rw[hs];exact hM);refine⟨s',v',z1,λk4=> ?_⟩;rw[<-z2 k4,r9];simp[-au,bR,gX,p1,p3,h0,wr]
abbrev TR(vb rb:Pos)(dv V1:AV)(n a:Nat):List AV:=[.ptr vb 0,dv,.ptr rb 0,V1,.int .i64 (n:Int),.int .i64 (a:Int)]
def Ei(J:Jt)(q:List Int)(r:Rl)(D:List Int->List Ev)(t:Nat):List Ev:=if ab6 J r t then D (Hg J q t q.length)else []
theorem aoD (H:kK c fv s0 I M) (V:Vw s0 vb jb j J P G q g){dv:AV}{D:List Int->List Ev}(hD:DoC c dv I M J.n sB D){r:Rl}{rb:Pos}(hr:sB.heap.get rb=some (.cells r.cells 0))(tR:¬M sB rb)(F:Nat)(hFu:q.length<F)(t:Nat)(s:St)(l:List Ev)(om:t<J.p.ts.length)(hI:I s l)(hF:gZ M sB s)(hB:fK l+2000<=1000000):
   ∃s2,I s2 (l++Ei J q r D t)/\gZ M sB s2/\∀(k2:Q2)(f:Nat),ig c F k2 (f+1) (TR vb rb dv j.V1 J.p.ts.length t) s=ig c F k2 f (TR vb rb dv j.V1 J.p.ts.length (t+1)) s2:=by
 have V1:=V.ai (H.ai hI);have vc:=V1.vc;have uT:=V1.jw.sF.ts;obtain⟨T,hT⟩:∃T,J.p.ts[t]? =some T:=⟨_,H0 om⟩
 obtain⟨v,b,o,h1,h2⟩:=V1.awz hT;have r1:=λ{R}=>@h1.st R
 have r2:=h1.all;have fk:=(hF.2.2 rb _ tR hr).1;have wr:ax .i64 ((t:Int)+1)=(t:Int)+1:=wrap64 (by omega) (by omega);have gN:=Grew.ah V1.wf (.cells (T.ay v) 0);have uF:=H.grow hI gN;have hF2:=hF.trans (H.fr hI gN);have V2:=V.ai (H.ai uF);have vc2:=V2.vc;have hx:=aA s (.cells (T.ay v) 0);have arn:=gN.get fk;have st7:∀(K:AV->St->Option (AV×St)),aq c (.store 7) [.ptr s.next 0,.agg (T.ay v)] (ah s (.cells [.str [],.int .u8 0,.int .i64 0,.int .i64 0,.af,.int .i64 0,.int .i64 0] 0)) K=K .undef (ah s (.cells (T.ay v) 0)):=λK=>
   cr c K s 7 (.agg (T.ay v)) [.str [],.int .u8 0,.int .i64 0,.int .i64 0,.af,.int .i64 0,.int .i64 0] rfl rfl h2
 have ln:=λ(K:AV->St->Option (AV×St))=>V2.pq.lenB (c:=c) K (ah s (.cells (T.ay v) 0))
 rw[Za4]at ln;have aW:decide ((t:Int)<(J.p.ts.length:Int))=true:=Za0 (by omega);have c0:(T.ay v)[0]? =some (.str T.name):=rfl;have en:XT J.p.ts t=T.name:=by unfold XT;rw[hT]
 obtain⟨s',v',z1,z2⟩:=atY (c:=c) V (H.ai uF) (t:=t) (by omega) dv (.ptr rb 0) j.V1 (.int .i64 (J.p.ts.length:Int)) (.int .i64 (t:Int)) F q.length 0 F _ .af (by omega) hFu (Mk.start V2.wf (Grew.refl V2.wf));simp only[show((0:Nat):Int)=0 from rfl]at z2;have kL:=V.ql;have hwl:=TQ J q t q.length;have DW:∀x∈Hg J q t q.length,0<=x/\x<(J.n:Int):=λx hx=>by unfold Hg at hx;obtain⟨i,hi,rfl⟩:=Zc7.1 hx;have:=Zg5.1 (Zk9.1 hi).1;omega
 obtain ⟨s3,v3,y1,y2,y3⟩:=hD (H.grow uF z1.ai) (hF2.trans (H.fr uF z1.ai)) z1.own (by omega) DW hB;have atb:∀(k2:Q2)(f:Nat),decide (r.t=[ ])=true\/decide (r.t=T.name)=true->ig c F k2 (f+1) (TR vb rb dv j.V1 J.p.ts.length t) s=ig c F k2 f (TR vb rb dv j.V1 J.p.ts.length (t+1)) s3:=λk2 f hor=>by
   simp only[TR,show((t+1:Nat):Int)=(t:Int)+1 by omega];rw[xY];by_cases he:r.t=[]
   .have d1:decide (r.t=[])=true:=Za0 he;simp only[aH,bg,cG,aW,dH,bR,av,r1,gR,r2,fu,cL,st7,aS,aT,arn,aD,Za9,Zb8,Rl.c4,aR,abR,d1,Zh0,adb,gC,cV,cw,vc2,Zb4,Za5,ln,z2,y1,fD,wr]
   . have d1:decide (r.t=[])=false:=Za1 he
     have d2:decide (r.t=T.name)=true:=by rcases hor with h|h
                                          .rw[d1]at h;cases h
                                          .exact h
     simp only[aH,bg,cG,aW,dH,bR,av,r1,gR,r2,fu,cL,st7,aS,aT,arn,hx,c0,aD,Za9,Zb8,Rl.c4,aR,abR,d1,d2,Zh0,Zk6,fO,tL,cV,cw,vc2,Zb4,Za5,ln,z2,y1,fD,wr]
 unfold Ei ab6;rw[en];by_cases he:r.t=[]
 .refine⟨s3,by simpa [he]using y2,(hF2.trans (H.fr uF z1.ai)).trans y3,λk2 f=>atb k2 f (.inl (Za0 he))⟩
 . by_cases hn:r.t=T.name
   .refine⟨s3,by simpa [hn]using y2,(hF2.trans (H.fr uF z1.ai)).trans y3,λk2 f=>atb k2 f (.inr (Za0 hn))⟩
   .refine⟨_,by simpa [he,hn]using uF,hF2,λk2 f=> ?_⟩;have d1:decide (r.t=[])=false:=Za1 he;have d2:decide (r.t=T.name)=false:=Za1 hn;simp only[TR,show((t+1:Nat):Int)=(t:Int)+1 by omega];rw[xY];simp only[aH,bg,cG,aW,dH,bR,av,r1,gR,r2,fu,cL,st7,aS,aT,arn,hx,c0,aD,Za9,Zb8,Rl.c4,aR,abR,d1,d2,Zk6,fO,tL,fD,wr]
theorem aeL(H:kK c fv s0 I M)(hc:bw c)(V:Vw s0 vb jb j J P G q g){dv:AV}{D:List Int->List Ev}(hD:DoC c dv I M J.n s D)(hDW:∀who:List Int,who.length<=J.n->fK (D who)<=2000)(r:Rl)(hI:I s l)(hB:fK l+2000*J.p.ts.length<=1000000):
  ∃s',c 143 [.ptr vb 0,.agg r.cells,dv] s=some (.tuple [],s')/\I s' (l++b9 (Ei J q r D) J.p.ts.length 0):=by
 refine H.fin hI (λh=>X5 hc (q.length+J.p.ts.length+1) h) ?_;have hw:=(H.ai hI).wf;have gr:=Grew.ah hw (.cells r.cells 0);have dK:=H.grow hI gr;have V1:=V.ai (H.ai dK);have tR:¬M (ah s (.cells r.cells 0)) s.next:=λh=>by have:=H.mlt hI (H.mJ hI gr h);omega
 have vc:=V1.vc;have jc:=V1.jw.mz;obtain⟨s0',r1',r2',_,tsq,_⟩:=V1.jw.ps;have ln:=λ(K:AV->St->Option (AV×St))=>tsq.out.own.lenB (c:=c) K (ah s (.cells r.cells 0))
 rw[tsq.len]at ln;have hF:=H.fr hI gr;have kL:=V.ql;obtain⟨s',z1,z2,z3⟩:=ZV (E:=Ei J q r D) (n:=J.p.ts.length) (B:=2000) (λt=>by
   unfold Ei;split
   .exact hDW _ (by have:=TQ J q t q.length;omega)
   .exact Zi0 _) (λk2=>ig c (q.length+J.p.ts.length+1) k2) (TR vb s.next dv j.V1 J.p.ts.length) (λk2 f s=>by rw[xY];simp)
  (aoD (c:=c) (sB:=ah s (.cells r.cells 0)) H V (λ{s2 l2 W who} h1 h2=>hD h1 (hF.trans h2)) (aA s (.cells r.cells 0)) tR (q.length+J.p.ts.length+1) (by omega)) J.p.ts.length 0 (q.length+J.p.ts.length+1) _ l (by omega) (by omega) dK (gZ.refl V1.wf) hB
 refine⟨s',?_,z1⟩;rw[ab7,cS,show AV.cells (.agg r.cells)=r.cells from rfl];have z3:=z3 (λvs s=>mO vs (some (.tuple [],s)));simp only[av,cw,aS,Zb8,aT,vc,jc,Jc.c0,aD,Za9,Za5,Zb4,aR,ln];exact z3.trans rfl
theorem atZ(hc:bw c)(H:kK c fv s0 I M){n m:Nat}{r:Rl}(hn:r.n=(m:Int))(hm:m<=1000)(hn1:n<=100){rb fb:Pos}(hr:sB.heap.get rb=some (.cells r.cells 0))(tR:¬M sB rb)(hf:sB.heap.get fb=some (.cells [fv] 0))(hfM:¬M sB fb):
  DoC c (.func 149 [] [.ptr rb 0,.ptr fb 0]) I M n sB (PM m):=λ{s l W who} hI hF hW hl _ hB=>by
 have b1:=(hF.2.2 rb _ tR hr).1;have b2:=(hF.2.2 fb _ hfM hf).1;have ln:=λ(K:AV->St->Option (AV×St))=>hW.lenB (c:=c) K s
 rw[Za4]at ln;have key:∃s',c 149 [W,.ptr rb 0,.ptr fb 0] s=some (.tuple [],s')/\I s' (l++PM m who)/\gZ M s s':=by
  refine H.arl hI (λh=>TU hc 1 h) ?_;unfold PM;by_cases h:who.length<m
  .obtain⟨s',v,h1,h2,h3⟩:=H.call (k:=m - who.length) hI hW (by omega);refine⟨s',?_,by simpa [h,rY]using h2,h3⟩;have d:decide ((who.length:Int)<r.n)=true:=Za0 (by omega);have w:ax .i64 (r.n - (who.length:Int))=((m - who.length:Nat):Int):=(by rw[wrap64 (by omega) (by omega)];omega);rw[Il];simp only[av,ln,aS,Zb8,aT,b1,b2,aD,Za9,Rl.c5,aR,cG,d,dH,Za5,aey,w,h1]
  .refine⟨s,?_,by simpa [h,eE]using hI,gZ.refl (H.ai hI).wf⟩;have d:decide ((who.length:Int)<r.n)=false:=Za1 (by omega);rw[Il];simp only[av,ln,aS,Zb8,aT,b1,b2,aD,Za9,Rl.c5,aR,cG,d,cV]
 obtain⟨s',h1,h2,h3⟩:=key;exact⟨s',.tuple [],λK=>by rw[fP];simp only[Ze3,Zd5];rw[h1];rfl,h2,h3⟩
theorem aro(hc:bw c)(H:kK c fv s0 I M){n m:Nat}{r:Rl}(hn:r.n=(m:Int))(hm:m<=1000)(hn1:n<=100){rb fb:Pos}(hr:sB.heap.get rb=some (.cells r.cells 0))(tR:¬M sB rb)(hf:sB.heap.get fb=some (.cells [fv] 0))(hfM:¬M sB fb):
  DoC c (.func 150 [] [.ptr rb 0,.ptr fb 0]) I M n sB (MA m):=λ{s l W who} hI hF hW hl _ hB=>by
 have b1:=(hF.2.2 rb _ tR hr).1;have b2:=(hF.2.2 fb _ hfM hf).1;have ln:=λ(K:AV->St->Option (AV×St))=>hW.lenB (c:=c) K s
 rw[Za4]at ln;have key:∃s',c 150 [W,.ptr rb 0,.ptr fb 0] s=some (.tuple [],s')/\I s' (l++MA m who)/\gZ M s s':=by
  refine H.arl hI (λh=>Ro hc 1 h) ?_;unfold MA;by_cases h:m<who.length
  .obtain⟨s',v,h1,h2,h3⟩:=H.call (k:=who.length - m) hI hW (by omega);refine⟨s',?_,by simpa [h,rY]using h2,h3⟩;have d:decide (r.n<(who.length:Int))=true:=Za0 (by omega);have w:ax .i64 ((who.length:Int) - r.n)=((who.length - m:Nat):Int):=(by rw[wrap64 (by omega) (by omega)];omega);rw[FZ];simp only[av,ln,aS,Zb8,aT,b1,b2,aD,Za9,Rl.c5,aR,CR,d,dH,Za5,aey,w,h1]
  .refine⟨s,?_,by simpa [h,eE]using hI,gZ.refl (H.ai hI).wf⟩;have d:decide (r.n<(who.length:Int))=false:=Za1 (by omega);rw[FZ];simp only[av,ln,aS,Zb8,aT,b1,b2,aD,Za9,Rl.c5,aR,CR,d,cV]
 obtain⟨s',h1,h2,h3⟩:=key;exact⟨s',.tuple [],λK=>by rw[fP];simp only[Ze3,Zd5];rw[h1];rfl,h2,h3⟩
theorem at1(V:Vw s vb jb j J P G q g){vp:Pos}(hv:s.heap.get vp=some (.cells [.ptr vb 0] 0)){W:AV}{who:List Int}(hW:QS 1 s W (who.map bC))(hl:who.length<=1000)(hm:∀x∈who,0<=x/\x<(J.n:Int))(x2:AV)(F:Nat)(k1 k2:Q2):
  ∀(m k f:Nat),k+m=who.length->m<f->ov c F k1 k2 f [W,.ptr vp 0,x2,W,.int .i64 (who.length:Int),.int .i64 (k:Int)] s=if(who.drop k).any (λg=>Ah J g.toNat)then k1 [] s else k2 [W,x2] s:=by
 have vc:=V.vc;have jc:=V.jw.mz;intro m;induction m with
 |zero=>
  intro k f hk hf;obtain⟨f,rfl⟩:∃g,f=g+1:=⟨f - 1,by omega⟩
  obtain rfl:k=who.length:=by omega
  rw[u7];simp
 |succ m ih=>
  intro k f hk hf;obtain⟨f,rfl⟩:∃g,f=g+1:=⟨f - 1,by omega⟩
  have gX:k<who.length:=by omega
  obtain⟨wb,wo,w1⟩:=ot hW (H0 gX);have q1:=λ{R}=>@w1.st R
  have q3:=w1.one;have wr:ax .i64 ((k:Int)+1)=((k+1:Nat):Int):=wrap64 (by omega) (by omega);have bd:=hm _ (Zb9 gX);obtain⟨i,hi⟩:∃i:Nat,who[k]=(i:Int):=⟨who[k].toNat,by omega⟩
  have Rn:i<J.p.gs.length:=by have:J.n=J.p.gs.length:=rfl;omega
  obtain⟨v,ab,ao,h1⟩:=V.rG (H0 Rn);have r1:=λ{R}=>@h1.st R
  have r2:=h1.at' 6 _ rfl;have eh:Ah J i=(J.p.gs[i]).host:=by unfold Ah;rw[H0 Rn]
  rw[Zd8 gX,List.any_cons,hi,Zd4,eh];rw[hi]at q3;generalize (J.p.gs[i]).host=e at*
  cases e
  .rw[Zp4, <-ih (k+1) f (by omega) (by omega),u7];simp[gX,q1,q3,hv,vc,jc,r1,r2,wr]
  .rw[u7];simp[gX,q1,q3,hv,vc,jc,r1,r2]
theorem at2(hc:bw c)(H:kK c fv s0 I M)(V:Vw s0 vb jb j J P G q g){vp fb:Pos}(hv:sB.heap.get vp=some (.cells [.ptr vb 0] 0))(hvM:¬M sB vp)(hf:sB.heap.get fb=some (.cells [fv] 0))(hfM:¬M sB fb):
  DoC c (.func 144 [] [.ptr vp 0,.ptr fb 0]) I M J.n sB (Mz (Ah J)):=λ{s l W who} hI hF hW hl DW hB=>by
 have b1:=(hF.2.2 vp _ hvM hv).1;have b2:=(hF.2.2 fb _ hfM hf).1;have V1:=V.ai (H.ai hI);have hN:=V1.Ef;have ln:=λ(K:AV->St->Option (AV×St))=>hW.lenB (c:=c) K s
 rw[Za4]at ln;have lp:=λ(k1 k2:Q2)=>at1 (c:=c) V1 b1 hW (by omega) DW (.ptr fb 0) (who.length+1) k1 k2 who.length 0 (who.length+1) (by omega) (by omega)
 simp only[Ze5,show((0:Nat):Int)=0 from rfl]at lp;have key:∃s',c 144 [W,.ptr vp 0,.ptr fb 0] s=some (.tuple [],s')/\I s' (l++Mz (Ah J) who)/\gZ M s s':=by
  refine H.arl hI (λh=>TV hc (who.length+1) h) ?_;unfold Mz;generalize who.any (λg=>Ah J g.toNat)=e at*
  cases e
  . by_cases h:0<who.length
    .   obtain⟨s',v,h1,h2,h3⟩:=H.call (k:=1) hI hW (by omega);refine⟨s',?_,by simpa [h,rY]using h2,h3⟩;have d:decide ((0:Int)<(who.length:Int))=true:=Za0 (by omega);simp only[show((1:Nat):Int)=1 from rfl]at h1;rw[zw];simp only[av,ln,lp,Zf0,Zg7,aH,bg,CR,d,dH,aT,b2,aD,Za9,Za5,aR,h1]
    .   refine⟨s,?_,by simpa [h,eE]using hI,gZ.refl (H.ai hI).wf⟩;have d:decide ((0:Int)<(who.length:Int))=false:=Za1 (by omega);rw[zw];simp only[av,ln,lp,Zf0,Zg7,aH,bg,CR,d,cV]
  .refine⟨s,?_,by simpa [eE]using hI,gZ.refl (H.ai hI).wf⟩;rw[zw];simp only[av,ln,lp,Zh1,bg]
 obtain⟨s',h1,h2,h3⟩:=key;exact⟨s',.tuple [],λK=>by rw[fP];simp only[Ze3,Zd5];rw[h1];rfl,h2,h3⟩
end
theorem aiC(h:Nat->Bool){n:Nat}(hn:n<=100)(who:List Int)(hw:who.length<=n):fK (Mz h who)<=2000:=by unfold Mz;have:=Ig (!who.any (λg=>h g.toNat)&&decide (0<who.length)) 1 who;omega
theorem aiD(m:Nat)(hm:m<=1000){n:Nat}(hn:n<=100)(who:List Int)(hw:who.length<=n):fK (PM m who)<=2000:=by unfold PM;have:=Ig (decide (who.length<m)) (m - who.length) who;omega
theorem aiE(m:Nat){n:Nat}(hn:n<=100)(who:List Int)(hw:who.length<=n):fK (MA m who)<=2000:=by unfold MA;have:=Ig (decide (m<who.length)) (who.length - m) who;omega
theorem adt:∀l:List Ev,kJ l<=fK l
 |[]=>Za3 _
 |e::l=>by have:=adt l;show(List.map _ (e::l)).sum<=(List.map _ (e::l)).sum;rw[Zd1,Zd1,Zn2,Zn2];unfold kJ fK at this;omega
section
variable{c:aj}{fv:AV}{s0 sB:St}{I:St->List Ev->Prop}{M:St->Pos->Prop}{s:St}{l l':List Ev}{vb jb:Pos}{j:Jc}{J:Jt}{P G:AV}{q g:List Int}
theorem arp(hc:bw c)(H:kK c fv s0 I M)(V:Vw s0 vb jb j J P G q g)(r:Rl)(hI:I s l)(hB:fK l+2000*J.p.ts.length<=1000000):
  ∃s',c 85 [.ptr vb 0,.agg r.cells,fv] s=some (.tuple [],s')/\I s' (l++b9 (Ei J q r (Mz (Ah J))) J.p.ts.length 0):=by
 refine H.fin hI (λh=>X6 hc 1 h) ?_;have hw:=(H.ai hI).wf;have hN:=(V.ai (H.ai hI)).Ef;have g1:=Grew.ah hw (.cells [.ptr vb 0] 0);have dK:=H.grow hI g1;have g2:=Grew.ah g1.wf (.cells r.cells 0);have uF:=H.grow dK g2;have g3:=Grew.ah g2.wf (.cells [fv] 0);have hI3:=H.grow uF g3;have m1:∀b,M (ah (ah (ah s (.cells [.ptr vb 0] 0)) (.cells r.cells 0)) (.cells [fv] 0)) b->b.toNat<s.next.toNat:=λb h=>H.mlt hI (H.mJ hI g1 (H.mJ dK g2 (H.mJ uF g3 h)))
 have n1:(ah s (.cells [.ptr vb 0] 0)).next.toNat=s.next.toNat+1:=by rw[bP,Pos.aF]
 have n2:(ah (ah s (.cells [.ptr vb 0] 0)) (.cells r.cells 0)).next.toNat=s.next.toNat+2:=by rw[bP,Pos.aF,n1]
 have b1:=g3.get (g2.get (aA s (.cells [.ptr vb 0] 0)));have b2:=g3.get (aA (ah s (.cells [.ptr vb 0] 0)) (.cells r.cells 0));have b3:=aA (ah (ah s (.cells [.ptr vb 0] 0)) (.cells r.cells 0)) (.cells [fv] 0);obtain⟨s',z1,z2⟩:=aeL H hc V (at2 hc H V b1 (λh=>by have:=m1 _ h;omega) b3 (λh=>by have:=m1 _ h;omega)) (aiC _ hN.2) r hI3 hB;refine⟨s',?_,z2⟩;rw[ab8];simp only[cS,show AV.cells (.agg r.cells)=r.cells from rfl,show AV.cells (.ptr vb 0)=[.ptr vb 0]from rfl,H.one.1,aT,b1,aD,Za9,Za5,aR,gR,b2,Rl.cc,fu,xR,bX,z1,bM]
theorem arq(hc:bw c)(H:kK c fv s0 I M)(V:Vw s0 vb jb j J P G q g)(r:Rl){m:Nat}(hn:r.n=(m:Int))(hm:m<=1000)(hI:I s l)(hB:fK l+2000*J.p.ts.length<=1000000):
  ∃s',c 91 [.ptr vb 0,.agg r.cells,fv] s=some (.tuple [],s')/\I s' (l++b9 (Ei J q r (PM m)) J.p.ts.length 0):=by
 refine H.fin hI (λh=>X7 hc 1 h) ?_;have hw:=(H.ai hI).wf;have hN:=(V.ai (H.ai hI)).Ef;have g1:=Grew.ah hw (.cells r.cells 0);have dK:=H.grow hI g1;have g2:=Grew.ah g1.wf (.cells [fv] 0);have uF:=H.grow dK g2;have m1:∀b,M (ah (ah s (.cells r.cells 0)) (.cells [fv] 0)) b->b.toNat<s.next.toNat:=λb h=>H.mlt hI (H.mJ hI g1 (H.mJ dK g2 h))
 have n1:(ah s (.cells r.cells 0)).next.toNat=s.next.toNat+1:=by rw[bP,Pos.aF]
 have b1:=g2.get (aA s (.cells r.cells 0));have b2:=aA (ah s (.cells r.cells 0)) (.cells [fv] 0);obtain⟨s',z1,z2⟩:=aeL H hc V (atZ hc H hn hm hN.2 b1 (λh=>by have:=m1 _ h;omega) b2 (λh=>by have:=m1 _ h;omega)) (aiD m hm hN.2) r uF hB;refine⟨s',?_,z2⟩;rw[ab9];simp only[cS,av,show AV.cells (.agg r.cells)=r.cells from rfl,H.one.1,gR,b1,aD,Za9,Rl.cc,fu,xR,bX,z1,bM]
theorem aoE(hc:bw c)(H:kK c fv s0 I M)(V:Vw s0 vb jb j J P G q g)(r:Rl){m:Nat}(hn:r.n=(m:Int))(hm:m<=1000)(hI:I s l)(hB:fK l+2000*J.p.ts.length<=1000000):
  ∃s',c 92 [.ptr vb 0,.agg r.cells,fv] s=some (.tuple [],s')/\I s' (l++b9 (Ei J q r (MA m)) J.p.ts.length 0):=by
 refine H.fin hI (λh=>Wk hc 1 h) ?_;have hw:=(H.ai hI).wf;have hN:=(V.ai (H.ai hI)).Ef;have g1:=Grew.ah hw (.cells r.cells 0);have dK:=H.grow hI g1;have g2:=Grew.ah g1.wf (.cells [fv] 0);have uF:=H.grow dK g2;have m1:∀b,M (ah (ah s (.cells r.cells 0)) (.cells [fv] 0)) b->b.toNat<s.next.toNat:=λb h=>H.mlt hI (H.mJ hI g1 (H.mJ dK g2 h))
 have n1:(ah s (.cells r.cells 0)).next.toNat=s.next.toNat+1:=by rw[bP,Pos.aF]
 have b1:=g2.get (aA s (.cells r.cells 0));have b2:=aA (ah s (.cells r.cells 0)) (.cells [fv] 0);obtain⟨s',z1,z2⟩:=aeL H hc V (aro hc H hn hm hN.2 b1 (λh=>by have:=m1 _ h;omega) b2 (λh=>by have:=m1 _ h;omega)) (aiE m hN.2) r uF hB;refine⟨s',?_,z2⟩;rw[aao];simp only[cS,av,show AV.cells (.agg r.cells)=r.cells from rfl,H.one.1,gR,b1,aD,Za9,Rl.cc,fu,xR,bX,z1,bM]
def rA(J:Jt)(r:Rl):Nat:=(gi J.p r.a).toNat
def rB(J:Jt)(r:Rl):Nat:=(gi J.p r.b).toNat
def gI(J:Jt)(q g:List Int)(r:Rl):List Ev:=match r.k.toNat with
 |1=>wC (qF q) (rA J r) (rB J r) (adq J r)
 |2=>wC (qF q) (rA J r) (rB J r) (amq J)
 |3=>wC (qF q) (rA J r) (rB J r) (amr J)
 |4=>wC (qF q) (rA J r) (rB J r) (ahe J r)
 |5=>wC (qF q) (rA J r) (rB J r) (ams J)
 |6=>Ed (qF q) (rA J r) (atP J r)
 |7=>Ed (qF q) (rA J r) (ahf J r)
 |8=>u6 (qF q) q.length (mK J r (TM J))
 |9=>b9 (Ei J q r (Mz (Ah J))) J.p.ts.length 0
 |10=>Ee (qF q) q.length (X0 J r)
 |11=>Ee (qF q) q.length (aeK J r g)
 |12=>u6 (qF q) q.length (mK J r (Eh J))
 |13=>u6 (qF q) q.length (MF J r)
 |14=>u6 (qF q) q.length (mK J r (XZ J))
 |15=>b9 (Ei J q r (PM r.n.toNat)) J.p.ts.length 0
 |16=>b9 (Ei J q r (MA r.n.toNat)) J.p.ts.length 0
 |17=>Ee (qF q) q.length (X4 J r)
 |18=>u6 (qF q) q.length (mK J r (TN J))
 |_=>[]
structure zx(p:bS)(r:Rl)(m:Nat):Prop where
 k:r.k=(m:Int)
 m1:1<=m
 m2:m<=18
 a:(kd m).a=103->0<=gi p r.a
 b:(kd m).b=true->0<=gi p r.b
 n:m=15\/m=16->0<=r.n/\r.n<=24
 w:0<=r.wt/\r.wt<=1000
theorem avs{p:bS}{r:Rl}(hr:r.Ok)(h:uL p r=0):∃m,zx p r m:=by
 have hk:∃m:Nat,r.k=(m:Int):=⟨r.k.toNat,by have:=hr.1;omega⟩
 obtain⟨m,hk⟩:=hk;unfold uL at h;rw[hk,Zd4]at h;by_cases hm:1<=m/\m<=18
 . have h2:=h;unfold TW at h;by_cases e1:(kd m).w=[]
   .rw[Zb6 e1]at h;cases h
   rw[Za7 e1]at h;by_cases e2:r.wt<0\/1000<r.wt
   .rw[Zb6 e2]at h;cases h
   rw[Za7 e2]at h;by_cases e3:MH (kd m) r=false
   .rw[Zb6 e3]at h;cases h
   rw[Za7 e3]at h;by_cases e4:((kd m).a=103/\gi p r.a<0)\/((kd m).a=101/\r.a≠[]/\gi p r.a<0)\/((kd m).b=true/\gi p r.b<0)
   .rw[Zb6 e4]at h;cases h
   rw[Za7 e4]at h;refine⟨m,hk,hm.1,hm.2,λha=> ?_,λhb=> ?_,λhm=> ?_,by omega⟩
   .exact Int.not_lt.1 λaW=>e4 (.inl ⟨ha,aW⟩)
   .exact Int.not_lt.1 λaW=>e4 (.inr (.inr ⟨hb,aW⟩))
   . unfold aeM at h;have ka:(kd m).a=0:=(by rcases hm with rfl|rfl<;>rfl);have kb:(kd m).b=false:=(by rcases hm with rfl|rfl<;>rfl);have kn:(kd m).n=true:=(by rcases hm with rfl|rfl<;>rfl);have ks:(kd m).kR=false:=(by rcases hm with rfl|rfl<;>rfl);have kl:(kd m).lo=0:=(by rcases hm with rfl|rfl<;>rfl);rw[Za7 (by rw[ka];simp),Za7 (by rw[kb];simp)]at h;unfold ZW at h;split at h
     .  cases h
     .  unfold Cf at h;simp only[ks,kn,kl,Zf0,Zg7,Zr4]at h;split at h
        .cases h
        .omega
 . exfalso;have e:kd m=⟨[],0,false,0,false,0,false,.jX⟩:=by
     unfold kd;split<;>first|rfl|(exfalso;omega)
   rw[e]at h;unfold TW at h;simp at h
theorem amD(p:bS)(s:List Nat)(h:0<=gi p s):(gi p s).toNat<p.gs.length:=by have:=(zz (P:=mB p.gs s) p.gs.length 0 h).2.1;unfold gi;omega
theorem alf(hc:bw c)(H:kK c fv s0 I M)(V:Vw s0 vb jb j J P G q g)(eW:J.p.cs.length=J.n\/J.p.cs.length=0){r:Rl}{m:Nat}(R:zx J.p r m)(hI:I s []):
   ∃f s',(kd m).f= .func f [] []/\c f [.ptr vb 0,.agg r.cells,fv] s=some (.tuple [],s')/\I s' (gI J q g r):=by
 have hN:=V.Ef;have kL:=V.ql;have uT:=V.jw.sF.ts;have e0:fK []=0:=rfl;have Vc:3*q.length*q.length<=30000:=by have:q.length<=100:=(by omega);have:=Nat.mul_le_mul this this;have e:3*q.length*q.length=3*(q.length*q.length):=Nat.mul_assoc _ _ _;omega
 have nil:∀E:List Ev,[]++E=E:=λE=>rfl
 have two:(kd m).a=103->(kd m).b=true->Two J q r (rA J r) (rB J r) (qF q (rA J r)) (qF q (rB J r)):=λha hb=>by
   have h1:=R.a ha;have h2:=R.b hb;have l1:=amD _ _ h1;have l2:=amD _ _ h2;have l1:rA J r<q.length:=(by rw[kL];exact l1);have l2:rB J r<q.length:=(by rw[kL];exact l2);refine⟨by unfold rA;omega,by unfold rB;omega,?_,?_⟩
   .rw[H0 l1,qH (H0 l1)]
   .rw[H0 l2,qH (H0 l2)]
 have one:(kd m).a=103->gi J.p r.a=((rA J r:Nat):Int)/\q[rA J r]? =some (qF q (rA J r)):=λha=>by
   have h1:=R.a ha;have l1:=amD _ _ h1;have l1:rA J r<q.length:=(by rw[kL];exact l1);exact⟨by unfold rA;omega,by rw[H0 l1,qH (H0 l1)]⟩
 have hn:m=15\/m=16->r.n=((r.n.toNat:Nat):Int)/\r.n.toNat<=1000:=λh=>by have:=R.n h;omega
 have uk:J.p.cs.length=q.length\/J.p.cs.length=0:=by rw[kL];exact eW
 unfold gI;rw[R.k,Zd4];have m1:=R.m1;have m2:=R.m2;rcases uX m1 m2 with rfl|rfl|rfl|rfl|rfl|rfl|rfl|rfl|rfl|rfl|rfl|rfl|rfl|rfl|rfl|rfl|rfl|rfl
 .obtain⟨s',a,b⟩:=arf hc H V (two rfl rfl) hI (by omega);exact⟨_,s',rfl,a,b⟩
 .obtain⟨s',a,b⟩:=agx hc H V (two rfl rfl) hI (by omega);exact⟨_,s',rfl,a,b⟩
 .obtain⟨s',a,b⟩:=agy hc H V (two rfl rfl) hI (by omega);exact⟨_,s',rfl,a,b⟩
 .obtain⟨s',a,b⟩:=amt hc H V (two rfl rfl) hI (by omega);exact⟨_,s',rfl,a,b⟩
 .obtain⟨s',a,b⟩:=akf hc H V (two rfl rfl) hI (by omega);exact⟨_,s',rfl,a,b⟩
 .obtain⟨s',a,b⟩:=avr hc H V (one rfl).1 (one rfl).2 hI (by omega);exact⟨_,s',rfl,a,b⟩
 .obtain⟨s',a,b⟩:=arh hc H V (one rfl).1 (one rfl).2 hI (by omega);exact⟨_,s',rfl,a,b⟩
 .obtain⟨s',a,b⟩:=agA hc H V r hI (by omega);exact⟨_,s',rfl,a,b⟩
 .obtain⟨s',a,b⟩:=arp hc H V r hI (by omega);exact⟨_,s',rfl,a,b⟩
 .obtain⟨s',a,b⟩:=aoA H hc V r hI (by omega);exact⟨_,s',rfl,a,b⟩
 .obtain⟨s',a,b⟩:=aoB H hc V r hI (by omega);exact⟨_,s',rfl,a,b⟩
 .obtain⟨s',a,b⟩:=aoz hc H V r hI (by omega);exact⟨_,s',rfl,a,b⟩
 .obtain⟨s',a,b⟩:=akg hc H V r hI (by omega);exact⟨_,s',rfl,a,b⟩
 .obtain⟨s',a,b⟩:=amv hc H V uk r hI (by omega);exact⟨_,s',rfl,a,b⟩
 .obtain⟨s',a,b⟩:=arq hc H V r (hn (.inl rfl)).1 (hn (.inl rfl)).2 hI (by omega);exact⟨_,s',rfl,a,b⟩
 .obtain⟨s',a,b⟩:=aoE hc H V r (hn (.inr rfl)).1 (hn (.inr rfl)).2 hI (by omega);exact⟨_,s',rfl,a,b⟩
 .obtain⟨s',a,b⟩:=akh H hc V r hI (by omega);exact⟨_,s',rfl,a,b⟩
 .obtain⟨s',a,b⟩:=atX hc H V r hI (by omega);exact⟨_,s',rfl,a,b⟩
end
variable{c:aj}
theorem art(hc:bw c){n:Int}(h0:0<=n)(h1:n<4294967296)(s:St):c 163 [.int .u64 1,.int .u64 n] s=some (.tuple [.int .u64 0,.int .u64 n],s):=by
 rw[Wl hc 1 (r:=(.tuple [.int .u64 0,.int .u64 n],s)),aB (Plain.tuple (by simp[Plain.int])) (aX.refl s)];rw[aap];have w0:ax .u64 0=0:=ZR (by omega) (by omega);have w1:ax .u64 n=n:=ZR (by omega) (by omega);simp[abW h0 h1,abY h0 h1,abW (n:=1) (by omega) (by omega),abY (a:=1) (by omega) (by omega),abW (n:=0) (by omega) (by omega),abY (a:=0) (by omega) (by omega),w0,w1]
theorem avt(hc:bw c){n:Int}(h0:0<=n)(h1:n<4294967296)(s:St):c 113 [.int .u64 1,.int .u64 n] s=some (.tuple [.int .u64 0,.int .u64 n],s):=by
 rw[aaq hc 1 (r:=(.tuple [.int .u64 0,.int .u64 n],s)),aB (Plain.tuple (by simp[Plain.int])) (aX.refl s)];rw[adu];simp[art hc h0 h1]
theorem aoF(N:Nat)(hN:N<=1000000)(b:Pos)(v:AV)(hv:v.one=true)(F:Nat):∀(m n f:Nat)(s:St),1<=n->n<=N->N - n<=m->m<f->s.heap.get b=some (.cells (List.replicate n v++List.replicate (N - n) (.int .i64 0)) 0)->
  ∀k2:Q2,jP c F k2 f [.slice b 0 N (some N) 1,.int .i64 (n:Int)] s=k2 [.slice b 0 N (some N) 1] (bh s b (.cells (List.replicate N v) 0)):=by
 intro m;induction m with
 |zero=>
  intro n f s h1 h2 h3 h4 h5 k2;obtain⟨f,rfl⟩:∃g,f=g+1:=⟨f - 1,by omega⟩
  obtain rfl:n=N:=by omega
  rw[lu];have e:bh s b (.cells (List.replicate n v) 0)=bh s b (.cells (List.replicate n v++List.replicate (n - n) (.int .i64 0)) 0):=by simp
  rw[e];have e2:bh s b (.cells (List.replicate n v++List.replicate (n - n) (.int .i64 0)) 0)=s:=ais h5;rw[e2];simp[lR]
 |succ m ih=>
  intro n f s h1 h2 h3 h4 h5 k2;obtain⟨f,rfl⟩:∃g,f=g+1:=⟨f - 1,by omega⟩
  by_cases hn:n=N
  .subst hn;rw[lu];have e:bh s b (.cells (List.replicate n v) 0)=bh s b (.cells (List.replicate n v++List.replicate (n - n) (.int .i64 0)) 0):=(by simp);rw[e];have e2:bh s b (.cells (List.replicate n v++List.replicate (n - n) (.int .i64 0)) 0)=s:=ais h5;rw[e2];simp[lR]
  . have aW:decide ((n:Int)<(N:Int))=true:=Za0 (by omega);have cp:=λ(K:AV->St->Option (AV×St))=>aip (c:=c) (b:=b) (n:=n) (m:=N - n) (cp:=some (N - n)) (JY:=some N) (by omega) (by omega) hv h5 K
    have w:ax .i64 ((n:Int)+((min n (N - n):Nat):Int))=((n+min n (N - n):Nat):Int):=(by rw[wrap64 (by omega) (by omega)];omega);have ih2:=ih (n+min n (N - n)) f (bh s b (.cells (List.replicate (n+min n (N - n)) v++List.replicate (N - n - min n (N - n)) (.int .i64 0)) 0)) (by omega) (by omega) (by omega) (by omega) (by rw[bH,show N - (n+min n (N - n))=N - n - min n (N - n)by omega]) k2;rw[Ra]at ih2;rw[<-ih2,lu];simp only[aH,bg,av,lR,cG,aW,dH,cX,aot h2,aou h2,cp,atD,w]
theorem aoG(hc:bw c){N:Nat}(hN:N<=1000000){p:Pos}{v:AV}(hv:v.one=true)(s:St)(hw:Wf s)(hp:s.heap.get p=some (.cells [v] 0)):
   ∃s' gb,c 57 [.slice p 0 1 (some 1) 1,.int .i64 (N:Int)] s=some (.slice gb 0 N (some N) 1,s')/\Grew s s'/\s.next.toNat<=gb.toNat/\(N=0\/s'.heap.get gb=some (.cells (List.replicate N v) 0)):=by
 have g1:=Grew.ah hw (.cells (List.replicate N (.int .i64 0)) 0);have w1:ax .u64 (N:Int)=(N:Int):=ZR (by omega) (by omega);have w2:ax .i64 (N:Int)=(N:Int):=wrap64 (by omega) (by omega);have w3:ax .u64 1=1:=ZR (by omega) (by omega);have d1:decide ((N:Int)<0)=false:=Za1 (by omega);have d2:decide ((9223372036854775807:Int)<(N:Int))=false:=Za1 (by omega);have mk:=λ(K:AV->St->Option (AV×St))=>aeB c K s (es:=1) (bytes:=8) (z:=[.int .i64 0]) (k:= .i64) (k':= .i64) (n:=N) (by omega) (by omega)
 rw[D7]at mk;have kH:=g1.get hp;have mu:=avt hc (n:=(N:Int)) (by omega) (by omega) s;by_cases h0:N=0
 . subst h0;have run:=yJ hc (x0:= .slice p 0 1 (some 1) 1) (x1:= .int .i64 ((0:Nat):Int)) (s:=s) (F:=1) (r:=(.slice s.next 0 0 (some 0) 1,ah s (.cells [] 0))) (by
    rw[Au];simp only[av,cG,d1,bR,cV,aH,bg,lR,Mw,w1,show((1:Nat):Int)=1 from rfl,w3,bX,mu,bM,fS,Za5,Zb4,aR,CR,show decide ((0:Int)<0)=false from rfl,fO,d2,gC,w2,mk,List.replicate_zero,agw];rw[lu];simp[lR])
   rw[run];obtain⟨s',h1,h2⟩:=aoi (v:= .slice s.next 0 0 (some 0) 1) (Grew.ah hw (.cells [] 0)) hw;exact⟨s',s.next,by rw[h1],h2,Za3 _,.inl rfl⟩
 . have cp:=λ(K:AV->St->Option (AV×St))=>air (c:=c) (b:=s.next) (b2:=p) (v:=v) (z:= .int .i64 0) (m:=N) (cp:=some N) (JY:=some 1) (by omega) hv (aA s _) kH K
   have lp:=aoF (c:=c) N hN s.next v hv (N+1) N 1 (N+1) (bh (ah s (.cells (List.replicate N (.int .i64 0)) 0)) s.next (.cells (List.replicate 1 v++List.replicate (N - 1) (.int .i64 0)) 0)) (by omega) (by omega) (by omega) (by omega) (bH _ _ _);simp only[Ra,ZN]at lp cp;simp only[show((1:Nat):Int)=1 from rfl]at lp;have run:=yJ hc (x0:= .slice p 0 1 (some 1) 1) (x1:= .int .i64 (N:Int)) (s:=s) (F:=N+1) (r:=(.slice s.next 0 N (some N) 1,ah s (.cells (List.replicate N v) 0))) (by
    rw[Au];simp only[av,cG,d1,bR,cV,aH,bg,lR,Mw,w1,show((1:Nat):Int)=1 from rfl,w3,bX,mu,bM,fS,Za5,Zb4,aR,CR,show decide ((0:Int)<0)=false from rfl,fO,d2,gC,w2,mk,cp,lp])
   (rw[run];have np:¬(Plain (AV.slice s.next 0 N (some N) 1)):=λh=>ab0 h0 h);refine⟨ah s (.cells (List.replicate N v) 0),s.next,?_,Grew.ah hw _,Za3 _,.inr (aA _ _)⟩;unfold tidy;rw[Za7 (λh=>np h.1)]
def OK(N:Nat):List Int->Nat->List Int->Option (List Int)
 |[],_,g=>some g
 |x::q,i,g=>if x< -1\/(N:Int)<=x\/(0<=x/\0<=g.getD x.toNat (-1))then none else OK N q (i+1) (if 0<=x then g.set x.toNat (i:Int)else g)
def BX(N:Nat)(q:List Int):Option (List Int):=OK N q 0 (List.replicate N (-1))
theorem aiF{N:Nat}:∀{q:List Int}{i:Nat}{g g':List Int},OK N q i g=some g'->(∀x∈q,-1<=x/\x<(N:Int))/\g'.length=g.length
 |[],i,g,g',h=>by cases h;exact⟨λx hx=>(nomatch hx),rfl⟩
 |x ::q,i,g,g',h=>by
  unfold OK at h;by_cases hc:x< -1\/(N:Int)<=x\/(0<=x/\0<=g.getD x.toNat (-1))
  .rw[Zb6 hc]at h;cases h
  . rw[Za7 hc]at h;obtain⟨h1,h2⟩:=aiF h;refine⟨λy hy=> ?_,by rw[h2];split<;>simp⟩;rcases Za8.1 hy with rfl|hy
    .omega
    .exact h1 y hy
theorem aoH{N n:Nat}:∀{q:List Int}{i:Nat}{g g':List Int},OK N q i g=some g'->i+q.length<=n->(∀x∈g,-1<=x/\x<(n:Int))->∀x∈g',-1<=x/\x<(n:Int)
 |[],i,g,g',h,_,hg=>by cases h;exact hg
 |x ::q,i,g,g',h,hn,hg=>by
  unfold OK at h;simp only[Zc6]at hn;split at h
  .cases h
  . (refine aoH h (by omega) λy hy=> ?_);split at hy
    .   rcases Zh2 hy with hy|rfl
        .exact hg y hy
        .omega
    .   exact hg y hy
structure LI(sA s:St)(vb gb jb:Pos)(P:AV)(N:Nat)(g:List Int):Prop where
 gr:Grew sA s
 vc:s.heap.get vb=some (.cells [.ptr jb 0,P,.slice gb 0 N (some N) 1] 0)
 gc:N=0\/s.heap.get gb=some (.cells (g.map (AV.int .i64)) 0)
 gl:g.length=N
section
variable{sA:St}{vb gb jb:Pos}{j:Jc}{J:Jt}{P:AV}{q:List Int}
theorem at3 (jw:JW sA jb j J)(pq:QS 1 sA P (q.map bC))(kL:q.length<=1000000)(hN:J.N<=100000)(hg:sA.next.toNat<=gb.toNat)(hvg:0<J.N->vb≠gb)(w0:Wf sA)(F:Nat):∀(m k f:Nat)(s:St)(g:List Int),k+m=q.length->m<f->LI sA s vb gb jb P J.N g->
  (OK J.N (q.drop k) k g=none/\∃s',Grew sA s'/\∀k1 k2:Q2,mC c F k1 k2 f [.ptr jb 0,.ptr vb 0,P,.int .i64 (q.length:Int),.int .i64 (k:Int)] s=k1 [.jg] s')\/
    ∃g' s',OK J.N (q.drop k) k g=some g'/\LI sA s' vb gb jb P J.N g'/\∀k1 k2:Q2,mC c F k1 k2 f [.ptr jb 0,.ptr vb 0,P,.int .i64 (q.length:Int),.int .i64 (k:Int)] s=k2 [.ptr vb 0] s':=by
 intro m;induction m with
 |zero=>
  intro k f s g hk hf hL;obtain⟨f,rfl⟩:∃g,f=g+1:=⟨f - 1,by omega⟩
  obtain rfl:k=q.length:=by omega
  refine .inr ⟨g,s,by simp[OK],hL,λk1 k2=> ?_⟩;rw[gJ];simp
 |succ m ih   =>
  intro k f s g hk hf hL;obtain⟨f,rfl⟩:∃g,f=g+1:=⟨f - 1,by omega⟩
  have jw1:=jw.ai hL.gr;have jc:=jw1.mz;have vc:=hL.vc;have gX:k<q.length:=by omega
  obtain⟨pb,po,p⟩:=ot (pq.ai hL.gr) (H0 gX);have p1:=λ{R}=>@p.st R
  have p3:=p.one;have wr:ax .i64 ((k:Int)+1)=((k+1:Nat):Int):=wrap64 (by omega) (by omega);have ln:=λ(K:AV->St->Option (AV×St))=>jw1.tab.lenB (c:=c) K s
  rw[Za4,(TX _ _).1]at ln;rw[Zd8 gX];generalize q[k]=x at*
  unfold OK;by_cases h1:x< -1
  .rw[Zb6 (.inl h1)];refine .inl ⟨rfl,s,hL.gr,λk1 k2=> ?_⟩;have d1:decide (x< -1)=true:=Za0 h1;rw[gJ];simp[bR,gX,p1,p3,d1]
  . have d1   :decide (x< -1)=false:=Za1 h1;by_cases h2:(J.N:Int)<=x
    .   rw[Zb6 (.inr (.inl h2))];refine .inl ⟨rfl,s,hL.gr,λk1 k2=> ?_⟩;rw[gJ];simp[bR,gX,p1,p3,d1,jc,ln,h2]
    .   have d2:decide ((J.N:Int)<=x)=false:=Za1 h2;by_cases h3:0<=x
        . obtain⟨i,rfl⟩:∃i:Nat,x=(i:Int):=⟨x.toNat,by omega⟩
          have hi:i<J.N:=(by omega);have ME:decide (J.N<=i)=false:=Za1 (by omega);have gc:s.heap.get gb=some (.cells (g.map (AV.int .i64)) 0):=by
            rcases hL.gc with h|h
            .omega
            .exact h
          have Rn:i<g.length:=(by rw[hL.gl];exact hi);have eg:g.getD i (-1)=g[i]:=(by rw[Zb3,H0 Rn];rfl);have ix:=λ(K:AV->St->Option (AV×St))(s1:St)=>ji c K s1 (b:=gb) (off:=0) (len:=J.N) (es:=1) (es':=1) (cap:=some J.N) (k:= .i64) (i:=i) hi
          have ec:(g.map (AV.int .i64))[i]? =some (.int .i64 g[i]):=(by rw[Zb7,H0 Rn];rfl);rw[Zd4,eg,Zb6 h3];by_cases h4:0<=g[i]
          .rw[Zb6 (.inr (.inr ⟨h3,h4⟩))];refine .inl ⟨rfl,s,hL.gr,λk1 k2=> ?_⟩;rw[gJ];simp[bR,gX,p1,p3,d1,jc,ln,ME,vc,ix,gc,Rn,h4]
          . (rw[Za7 (by omega)];have d4:decide (0<=g[i])=false:=Za1 h4;have aW:=hL.gr.wf _ _ gc;have pt:=λ(K:AV->St->Option (AV×St))=>LV (c:=c) K gc (o:=i) (by rw[Za4];exact Rn) (v:= .int .i64 (k:Int)) rfl rfl);have em:(g.map (AV.int .i64)).set i (.int .i64 (k:Int))=(g.set i (k:Int)).map (AV.int .i64):=(by rw[Zq3]);rw[em]at pt;have LI2:LI sA (bh s gb (.cells ((g.set i (k:Int)).map (AV.int .i64)) 0)) vb gb jb P J.N (g.set i (k:Int)):=by
              refine⟨wF w0 hL.gr hg aW _,by rw[aJ (λe=>hvg (by omega) e.symm)];exact vc,.inr (bH _ _ _),by rw[Zj3];exact hL.gl⟩
            rcases ih (k+1) f _ _ (by omega) (by omega) LI2 with⟨z1,s',z2,z3⟩|⟨g',s',z1,z2,z3⟩
            .refine .inl ⟨z1,s',z2,λk1 k2=> ?_⟩;rw[<-z3 k1 k2,gJ];simp[bR,gX,p1,p3,d1,jc,ln,ME,vc,ix,gc,Rn,d4,pt,wr]
            .refine .inr ⟨g',s',z1,z2,λk1 k2=> ?_⟩;rw[<-z3 k1 k2,gJ];simp[bR,gX,p1,p3,d1,jc,ln,ME,vc,ix,gc,Rn,d4,pt,wr]
        . rw[Za7 (by omega),Za7 h3];have d3:decide (0<=x)=false:=Za1 h3;rcases ih (k+1) f s g (by omega) (by omega) hL with⟨z1,s',z2,z3⟩|⟨g',s',z1,z2,z3⟩
          .refine .inl ⟨z1,s',z2,λk1 k2=> ?_⟩;rw[<-z3 k1 k2,gJ];simp[bR,gX,p1,p3,d1,jc,ln,d2,d3,wr]
          .refine .inr ⟨g',s',z1,z2,λk1 k2=> ?_⟩;rw[<-z3 k1 k2,gJ];simp[bR,gX,p1,p3,d1,jc,ln,d2,d3,wr]
theorem aru(hc:bw c){s:St}(jw:JW s jb j J):c 56 [.ptr jb 0] s=some (.bool false,s):=by
 have jc:=jw.mz;have e1:∀(K:AV->St->Option (AV×St))(s:St),aq c (.bin .eql .ptr) [.ptr jb 0,.jg] s K=K (.bool false) s:=λK s=>aV c K (λH n=>rfl) s
 have e2:∀(K:AV->St->Option (AV×St))(s:St),aq c (.bin .eql .map) [.map j.M,.qX] s K=K (.bool false) s:=λK s=>aV c K (λH n=>rfl) s
 rw[TY hc 1 (r:=(.bool false,s)),aB (Plain.bool _) (aX.refl s)];rw[aar];simp[e1,e2,jc]
theorem at4(hc:bw c)(jw:JW sA jb j J)(w0:Wf sA)(pq:QS 1 sA P (q.map bC))(kL:q.length<=1000000):
   ((q.length≠J.n\/BX J.N q=none)/\c 19 [.ptr jb 0,P] sA=some (.jg,sA))\/
     ∃g vb G s',q.length=J.n/\BX J.N q=some g/\c 19 [.ptr jb 0,P] sA=some (.ptr vb 0,s')/\Grew sA s'/\Vw s' vb jb j J P G q g:=by
 have jc:=jw.mz;have nn:=aru hc jw;have lp:=λ(K:AV->St->Option (AV×St))(s:St)=>pq.lenB (c:=c) K s
 rw[Za4]at lp;obtain⟨s0',r1',r2',_,_,gsq⟩:=jw.ps;have lg:=λ(K:AV->St->Option (AV×St))(s:St)=>gsq.out.own.lenB (c:=c) K s
 rw[gsq.len]at lg;have en:J.p.gs.length=J.n:=rfl;by_cases hl:q.length=J.n
 . have hN  :J.N<=100000:=(by have:=jw.nN;have:=jw.sF.ts;have:=(rE J.p.ts).2;omega);have dl:decide ((q.length:Int)=(J.p.gs.length:Int))=true:=Za0 (by omega);have lt:=λ(K:AV->St->Option (AV×St))(s:St)=>jw.tab.lenB (c:=c) K s
   rw[Za4,(TX _ _).1]at lt;have g1:=Grew.ah w0 (.cells [AV.int .i64 (-1)] 0);obtain⟨s2,gb,e1,e2,e3,e4⟩:=aoG hc (N:=J.N) (by omega) (v:= .int .i64 (-1)) rfl _ g1.wf (aA sA (.cells [.int .i64 (-1)] 0));have g12:=g1.trans e2;have w2:=e2.wf;have g3:=Grew.ah w2 (.cells [.ptr jb 0,P,.slice gb 0 J.N (some J.N) 1] 0);have g13:=g12.trans g3;have bl:∀(K:AV->St->Option (AV×St))(s:St),aq c (.build [.jg,.af,.af] [(0,1),(1,1),(2,1)]) [.ptr jb 0,P,.slice gb 0 J.N (some J.N) 1] s K=K (.agg [.ptr jb 0,P,.slice gb 0 J.N (some J.N) 1]) s:=λK s=>
     dZ c K s _ _ _ _ (by rcases pq with⟨rfl,_⟩|⟨b,off,cap,cs,rfl,_⟩|⟨b,off,rfl,_⟩<;>rfl)
   have r1:=λ(K:AV->St->Option (AV×St))=>GW (c:=c) (z:=[.int .i64 0]) (x:= .int .i64 (-1)) rfl rfl sA K
   have hvg:0<J.N->s2.next≠gb:=λh e=>by
     rcases e4 with e4|e4
     .  omega
     .  have:=w2 _ _ e4;rw[e]at this;omega
   have LI0:LI sA (ah s2 (.cells [.ptr jb 0,P,.slice gb 0 J.N (some J.N) 1] 0)) s2.next gb jb P J.N (List.replicate J.N (-1)):=by
     refine⟨g13,aA _ _,?_,by simp⟩;rcases e4 with e4|e4
     .  exact .inl e4
     .  right;rw[List.map_replicate];exact g3.get e4
   have e3':sA.next.toNat<=gb.toNat:=Zb2 g1.next e3;rcases at3 (c:=c) jw pq kL hN e3' hvg w0 (q.length+1) q.length 0 (q.length+1) _ _ (by omega) (by omega) LI0 with⟨z1,s',z2,z3⟩|⟨g,s',z1,z2,z3⟩
   .rw[Ze5]at z1;refine .inl ⟨.inr z1,?_⟩;rw[xZ hc (q.length+1) (r:=(.jg,s')),aB Plain.jg z2.keeps];simp only[show((0:Nat):Int)=0 from rfl]at z3;rw[AM];simp only[av,bX,nn,bM,fO,lp,cw,aS,Zb8,aT,jc,Jc.c1,aD,Za9,aR,lg,LS,dl,Zh0,gC,cV,r1,g1.get jc,Jc.c6,lt,e1,bl,cS,show ∀l,AV.cells (.agg l)=l from λl=>rfl,z3,aH,bg]
   . rw[  Ze5]at z1;have ok:=aiF z1;refine .inr ⟨g,s2.next,.slice gb 0 J.N (some J.N) 1,s',hl,z1,?_,z2.gr,⟨jw.ai z2.gr,z2.vc,z2.gr.wf,pq.ai z2.gr,?_,hl,z2.gl,ok.1,aoH (n:=J.n) z1 (by omega) λx hx=>by have:=List.eq_of_mem_replicate hx;omega⟩⟩
     .  rw[xZ hc (q.length+1) (r:=(.ptr s2.next 0,s'))]
        .unfold tidy;rw[Za7 (λh=>Vg _ _ h.1)]
        .simp only[show((0:Nat):Int)=0 from rfl]at z3;rw[AM];simp only[av,bX,nn,bM,fO,lp,cw,aS,Zb8,aT,jc,Jc.c1,aD,Za9,aR,lg,LS,dl,Zh0,gC,cV,r1,g1.get jc,Jc.c6,lt,e1,bl,cS,show ∀l,AV.cells (.agg l)=l from λl=>rfl,z3,aH,bg]
     .  rcases Zn4 J.N with h0|h0
        .have:g=[]:=Zc2 (by rw[z2.gl,h0]);rw[h0,this];exact .inr (.inr ⟨gb,0,rfl,rfl⟩)
        . rcases z2.gc with h|h
          .omega
          .refine .inr (.inl ⟨gb,0,some J.N,_,by rw[Za4,z2.gl],h,by simp,?_,.inr (by rw[Za4,z2.gl])⟩);rw[He,ahc];simp only[Ze5,Za4,Zn5];exact Zf1 (by simp)
 .refine .inl ⟨.inl hl,?_⟩;have dl:decide ((q.length:Int)=(J.p.gs.length:Int))=false:=Za1 (by omega);rw[xZ hc 1 (r:=(.jg,sA)),aB Plain.jg (aX.refl sA)];rw[AM];simp only[av,bX,nn,bM,fO,lp,cw,aS,Zb8,aT,jc,Jc.c1,aD,Za9,aR,lg,LS,dl,Zk6,gC,dH]
end
def FI(s0:St)(nb:Pos)(s:St)(l:List Ev):Prop:=Grew s0 s/\s.heap.get nb=some (.cells [.int .i64 ((kJ l:Nat):Int)] 0)
theorem amE(hc:bw c){s:St}{nb:Pos}{n k:Nat}{W:AV}(hn:s.heap.get nb=some (.cells [.int .i64 (n:Int)] 0))(hB:n+k<=1000000):
  c 65 [.int .i64 (k:Int),W,.ptr nb 0] s=some (tidy s (.tuple [],bh s nb (.cells [.int .i64 ((n+k:Nat):Int)] 0))):=by
 have w:ax .i64 ((n:Int)+(k:Int))=((n+k:Nat):Int):=by rw[wrap64 (by omega) (by omega)];omega
 have pt:=λ(K:AV->St->Option (AV×St))=>LV (c:=c) K hn (o:=0) (by simp) (v:= .int .i64 ((n+k:Nat):Int)) rfl rfl
 refine PZ hc 1 ?_;rw[TZ];simp only[aT,hn,aD,Za9,Za5,aR,av,fD,w,pt];rfl
theorem amF(hc:bw c){s0:St}(w0:Wf s0){nb:Pos}(hnb:s0.next.toNat<=nb.toNat):kK c (.func 65 [] [.ptr nb 0]) s0 (FI s0 nb) (λ_ b=>b=nb) where
 ai h:=h.1
 grow h g:=⟨h.1.trans g,g.get h.2⟩
 mJ _ _ h:=h
 mlt h e:=by subst e;exact h.1.wf _ _ h.2
 back {s s' l l'} h h' hk:=by
  have e1:=hk nb _ h.2;have e2:=h'.2;rw[e1]at e2;simp only[H5,AB.cells.injEq,Zf9,AV.int.injEq,Zr4,Zm5]at e2;exact⟨h.1,by rw[<-e2];exact h.2⟩
 call {s l k W who} h hW hB:=by
  have hn:=adt l;have f1:=amE hc (W:=W) (k:=k) h.2 (by omega);have aW:=h.1.wf _ _ h.2;have e:kJ (l++[(k,who)])=kJ l+k:=by rw[aeE,atN]
  unfold tidy at f1;split at f1
  .rename_i hk;refine⟨s,.tuple [],λK=>by rw[fP];simp only[Ze3,Zd5];rw[f1];rfl,⟨h.1,?_⟩,gZ.refl h.1.wf⟩;have e1:=hk.2 nb _ h.2;rw[bH]at e1;rw[e,e1];exact h.2
  .refine⟨_,.tuple [],λK=>by rw[fP];simp only[Ze3,Zd5];rw[f1];rfl,⟨wF w0 h.1 hnb aW _,by rw[bH,e]⟩,Za3 _,iU h.1.wf aW,λb x hb hx=>⟨by rw[aJ (λe=>hb e.symm)];exact hx,hb⟩⟩
 one:=⟨rfl,rfl⟩
theorem aoI{m:Nat}(h1:1<=m)(h2:m<=18):ic .i (.int .u8 (m:Int)) FY 0=some (some (m - 1,.agg (kd m).cells)):=by rcases uX h1 h2 with rfl|rfl|rfl|rfl|rfl|rfl|rfl|rfl|rfl|rfl|rfl|rfl|rfl|rfl|rfl|rfl|rfl|rfl<;>rfl
theorem aiG{R:Type}{h:T AB}{mp:Pos}(hm:h.get mp=some (.map FY 18)){m:Nat}(h1:1<=m)(h2:m<=18)(z:AV)(K:AV->Option R):jI (.lookup .i z false) [.map mp,.int .u8 (m:Int)] h (λ_=>true) K=K (.agg (kd m).cells):=by
 unfold jI;have e:aG.run (λ_=>none) .h (.lookup .i z false) [.map mp,.int .u8 (m:Int)]=none:=rfl;rw[e];simp only;have:aG.run (λb=>h.get b) .h (.lookup .i z false) [.map mp,.int .u8 (m:Int)]=some (.val (.agg (kd m).cells)):=by
  simp only[aG.run,l9,hm,aoI h1 h2]
 rw[this]
section
variable{s:St}{vb jb:Pos}{j:Jc}{J:Jt}{P G:AV}{q g:List Int}
theorem Vw.rR(V:Vw s vb jb j J P G q g){i:Nat}{r:Rl}(hi:J.p.rs[i]? =some r):∃b o,Rd s 6 j.V5 i b o r.cells:=
 V.jw.jf.rd (λr hr=>by obtain⟨x,_,rfl⟩:=Zc7.1 hr;rfl) (by rw[Zb7,hi];rfl)
theorem afY(hc:bw c)(V:Vw s vb jb j J P G q g)(eW:J.p.cs.length=J.n\/J.p.cs.length=0){i:Nat}{r:Rl}(hi:J.p.rs[i]? =some r){m:Nat}(R:zx J.p r m):
  c 32 [.ptr vb 0,.int .i64 (i:Int)] s=some (.int .i64 ((kJ (gI J q g r):Nat):Int),s):=by
 have g1:=Grew.ah V.wf (.cells [.int .i64 0] 0);have H:=amF hc V.wf (Za3 s.next.toNat);have I1:FI s s.next (ah s (.cells [.int .i64 0] 0)) []:=⟨g1,aA _ _⟩
 obtain⟨f,s',e1,e2,e3⟩:=alf hc H V eW R I1;rw[T4 hc 1 (r:=(.int .i64 ((kJ (gI J q g r):Nat):Int),s')),aB (Plain.int _ _) e3.1.keeps];have V1:=V.ai g1;have bE:∀(K:AV->St->Option (AV×St)),aq c (.store 1) [.ptr s.next 0,.int .i64 0] (ah s (.cells [.int .i64 0] 0)) K=K .undef (ah s (.cells [.int .i64 0] 0)):=λK=>cr c K s 1 (.int .i64 0) [.int .i64 0] rfl rfl rfl
 rw[X9];simp only[av,cL,bE];generalize ah s (.cells [.int .i64 0] 0)=s1 at*
 have vc:=V1.vc;have jc:=V1.jw.mz;obtain⟨rb,ro,h1⟩:=V1.rR hi;have r1:=λ{R}=>@h1.pr R
 have r2:=h1.at' 0 _ rfl;rw[Zf7,R.k]at r2;have r3:=h1.all;have kk:=λ(z:AV)(K:AV->Option (AV×St))=>aiG V1.jw.kin R.m1 R.m2 z K
 have kf:(kd m).cells[7]? =some (.func f [] []):=by rw[<-e1];rfl
 simp only[cX,oO,bt,Zb8,Zf7,ju,vc,jc,aD,Za9,Za5,Jc.c4,Jc.c5,aR,r1,r2,kk,afK,kf,xS,r3,fu,PG,fP,Ze3,Zd9,Zd5,e2,bM,aT,e3.2,av]
def pR(q:List Int)(k:Nat):Nat:=Go.Ai.cnt k λg=> !on (qF q) g
def pz(J:Jt)(q:List Int)(k:Nat):Nat:=Go.Ai.cnt k λg=> !on (qF q) g&&Ah J g
def Rp(J:Jt)(q g:List Int)(r:Rl):Nat:=
 if r.k=9 then kJ (gI J q g r) - pz J q q.length else if r.k=15 then kJ (gI J q g r) - pR q q.length else if r.k=11 then(if 0<pR q q.length then 0 else kJ (gI J q g r))else kJ (gI J q g r)
theorem arv(V:Vw s vb jb j J P G q g)(x1 x5:AV)(F:Nat):∀(m k f:Nat),k+m=q.length->m<f->∀k2:Q2,
  pE c F k2 f [.ptr vb 0,x1,x5,.int .i64 ((pR q k:Nat):Int),.int .i64 ((pz J q k:Nat):Int),P,.int .i64 (q.length:Int),.int .i64 (k:Int)] s=
    k2 [.ptr vb 0,x1,x5,.int .i64 ((pR q q.length:Nat):Int),.int .i64 ((pz J q q.length:Nat):Int)] s:=by
 have vc:=V.vc;have jc:=V.jw.mz;intro m;induction m with
 |zero=>
  intro k f hk hf k2;obtain⟨f,rfl⟩:∃g,f=g+1:=⟨f - 1,by omega⟩
  obtain rfl:k=q.length:=by omega
  rw[Ej];simp
 |succ m ih=>
  intro k f hk hf k2;obtain⟨f,rfl⟩:∃g,f=g+1:=⟨f - 1,by omega⟩
  have gX:k<q.length:=by omega
  obtain⟨y,hy⟩:∃y,q[k]? =some y:=⟨_,H0 gX⟩
  obtain⟨pb,po,p⟩:=ot V.pq hy;have p1:=λ{R}=>@p.st R
  have p3:=p.one;have hN:=V.Ef;have kL:=V.ql;have wr:ax .i64 ((k:Int)+1)=((k+1:Nat):Int):=wrap64 (by omega) (by omega);have l1:pR q k<=k:=XM _ _;have l2:pz J q k<=k:=XM _ _;have w1:ax .i64 (((pR q k:Nat):Int)+1)=((pR q k+1:Nat):Int):=by rw[wrap64 (by omega) (by omega)];omega
  have w2:ax .i64 (((pz J q k:Nat):Int)+1)=((pz J q k+1:Nat):Int):=by rw[wrap64 (by omega) (by omega)];omega
  have eo:on (qF q) k=decide (0<=y):=by unfold on;rw[qH hy]
  have s1:pR q (k+1)=pR q k+if !decide (0<=y)then 1 else 0:=by unfold pR;rw[TA,eo]
  have s2:pz J q (k+1)=pz J q k+if !decide (0<=y)&&Ah J k then 1 else 0:=by unfold pz;rw[TA,eo]
  obtain⟨A,v,ab,ao,hA,h1⟩:=V.qM hy;have r1:=λ{R}=>@h1.st R
  have r2:=h1.at' 6 _ rfl;have eh:Ah J k=A.host:=by unfold Ah;rw[hA]
  rw[<-ih (k+1) f (by omega) (by omega) k2,Ej,s1,s2,eh];by_cases h0:0<=y
  .have d0:decide (y<0)=false:=Za1 (by omega);simp[bR,gX,p1,p3,d0,h0,wr]
  . have d0:decide (y<0)=true:=Za0 (by omega);generalize A.host=e at*
    cases e<;>simp[bR,gX,p1,p3,d0,h0,wr,w1,w2,vc,jc,r1,r2]
theorem arw(hc:bw c)(V:Vw s vb jb j J P G q g)(eW:J.p.cs.length=J.n\/J.p.cs.length=0){i:Nat}{r:Rl}(hi:J.p.rs[i]? =some r){m:Nat}(R:zx J.p r m)(hE:kJ (gI J q g r)<=1000000):
   c 33 [.ptr vb 0,.int .i64 (i:Int)] s=some (.int .i64 ((Rp J q g r:Nat):Int),s):=by
 have fa:=afY hc V eW hi R;have vc:=V.vc;have jc:=V.jw.mz;have hN:=V.Ef;have kL:=V.ql;obtain⟨rb,ro,h1⟩:=V.rR hi;have r1:=λ{R}=>@h1.st R
 have r2:=h1.at' 0 _ rfl;rw[Zf7,R.k]at r2;have ln:=λ(K:AV->St->Option (AV×St))=>V.pq.lenB (c:=c) K s
 rw[Za4]at ln;have lp:=λ(k2:Q2)=>arv (c:=c) V (.int .i64 (i:Int)) (.int .i64 ((kJ (gI J q g r):Nat):Int)) (q.length+1) q.length 0 (q.length+1) (by omega) (by omega) k2
 simp only[show pR q 0=0 from rfl,show pz J q 0=0 from rfl,show((0:Nat):Int)=0 from rfl]at lp;have l1:pR q q.length<=q.length:=XM _ _;have l2:pz J q q.length<=q.length:=XM _ _;have w1:ax .i64 (((kJ (gI J q g r):Nat):Int) - ((pz J q q.length:Nat):Int))=((kJ (gI J q g r):Nat):Int) - ((pz J q q.length:Nat):Int):=wrap64 (by omega) (by omega);have w2:ax .i64 (((kJ (gI J q g r):Nat):Int) - ((pR q q.length:Nat):Int))=((kJ (gI J q g r):Nat):Int) - ((pR q q.length:Nat):Int):=wrap64 (by omega) (by omega);have mx:∀n:Nat,max ((n:Nat):Int) 0=(n:Int):=λn=>by omega
 rw[Wm hc (q.length+1) (r:=(.int .i64 ((Rp J q g r:Nat):Int),s)),aB (Plain.int _ _) (aX.refl s)];rw[aas];unfold Rp;rw[R.k];generalize kJ (gI J q g r)=E at*
 by_cases k9:m=9
 .subst k9;have e:max (((E:Nat):Int) - ((pz J q q.length:Nat):Int)) 0=((E - pz J q q.length:Nat):Int):=(by omega);simp[bR,fa,vc,jc,ln,lp,r1,r2,w1,e]
 . have d9:decide ((m:Int)=9)=false:=Za1 (by omega);by_cases k15:m=15
   .subst k15;have e:max (((E:Nat):Int) - ((pR q q.length:Nat):Int)) 0=((E - pR q q.length:Nat):Int):=(by omega);simp[bR,fa,vc,jc,ln,lp,r1,r2,w2,e]
   . have d15:decide ((m:Int)=15)=false:=Za1 (by omega);by_cases k11:m=11
     .  subst k11;by_cases h0:0<pR q q.length
        .simp[bR,fa,vc,jc,ln,lp,r1,r2,h0]
        .have d0:decide ((0:Int)<((pR q q.length:Nat):Int))=false:=Za1 (by omega);simp[bR,fa,vc,jc,ln,lp,r1,r2,h0,d0,mx]
     .  have d11:decide ((m:Int)=11)=false:=Za1 (by omega);have e9:¬(m:Int)=9:=(by omega);have e15:¬(m:Int)=15:=(by omega);have e11:¬(m:Int)=11:=(by omega);rw[Za7 e9,Za7 e15,Za7 e11];simp[bR,fa,vc,jc,ln,lp,r1,r2,d9,d15,d11,mx]
end
def gOf(J:Jt)(p:Nat->Int):List Int:=(BX J.N ((List.range J.n).map p)).getD []
def ZX(J:Jt)(r:Rl):RM:=match r.k.toNat with
 |1=>.two (rA J r) (rB J r) (adq J r)
 |2=>.two (rA J r) (rB J r) (amq J)
 |3=>.two (rA J r) (rB J r) (amr J)
 |4=>.two (rA J r) (rB J r) (ahe J r)
 |5=>.two (rA J r) (rB J r) (ams J)
 |6=>.one (rA J r) (atP J r)
 |7=>.one (rA J r) (ahf J r)
 |8=> .Rc (mK J r (TM J))
 |9=>.iQ (ab6 J r)
 |10=>.qM (X0 J r)
 |11=>.spk λp=>Go.Ai.cnt J.n λa=>on p a&&aeK J r (gOf J p) a (p a)
 |12=> .Rc (mK J r (Eh J))
 |13=> .Rc (MF J r)
 |14=> .Rc (mK J r (XZ J))
 |15=>.fil (ab6 J r) r.n.toNat
 |16=>.lim (ab6 J r) r.n.toNat
 |17=>.qM (X4 J r)
 |18=> .Rc (mK J r (TN J))
 |_=>.qM λ_ _=>false
section
variable{J:Jt}{q g:List Int}{r:Rl}{m:Nat}
theorem at5(kL:q.length=J.n):(List.range J.n).map (qF q)=q:=by
 apply Zi6;intro i;rw[Zb7];by_cases hi:i<J.n
 .rw[Zh8 hi,Ze0];have h2:i<q.length:=(by omega);rw[H0 h2,qH (H0 h2)]
 .rw[Zc3 (by simpa using hi),Zc3 (by omega)];rfl
theorem avu(kL:q.length=J.n)(hg:BX J.N q=some g):gOf J (qF q)=g:=by unfold gOf;rw[at5 kL,hg];rfl
theorem amG(kL:q.length=J.n)(r:Rl)(D:List Int->List Ev):b9 (Ei J q r D) J.p.ts.length 0=abX (jT J) (qF q) (jT J).T (ab6 J r) D:=by
 have e:Ei J q r D=λt=>if ab6 J r t then D ((jT J).who (qF q) t)else []:=by funext t;unfold Ei Hg JT.who;rw[kL];rfl
 rw[e];rfl
theorem MI(kL:q.length=J.n)(hg:BX J.N q=some g)(R:zx J.p r m):kJ (gI J q g r)=(jT J).uY (qF q) (ZX J r):=by
 have hn:(jT J).n=q.length:=kL.symm;unfold gI ZX;rw[R.k,Zd4];rcases uX R.m1 R.m2 with rfl|rfl|rfl|rfl|rfl|rfl|rfl|rfl|rfl|rfl|rfl|rfl|rfl|rfl|rfl|rfl|rfl|rfl<;>simp only
 .exact Re _ _ _
 .exact Re _ _ _
 .exact Re _ _ _
 .exact Re _ _ _
 .exact Re _ _ _
 .exact aiq _ _
 .exact aiq _ _
 .rw[<-hn];exact Rf _
 .rw[amG kL];exact atQ _
 .rw[<-hn];exact aeG _
 .rw[<-hn,aeG];show Go.Ai.cnt _ _=Go.Ai.cnt _ _;rw[avu kL hg];rfl
 .rw[<-hn];exact Rf _
 .rw[<-hn];exact Rf _
 .rw[<-hn];exact Rf _
 .rw[amG kL];exact atS _ _
 .rw[amG kL];exact atT _ _
 .rw[<-hn];exact aeG _
 .rw[<-hn];exact Rf _
theorem T6(kL:q.length=J.n)(hg:BX J.N q=some g)(R:zx J.p r m):Rp J q g r=(jT J).least (qF q) (ZX J r):=by
 have e:=MI kL hg R;have l1:pR q q.length=(jT J).left (qF q):=by unfold pR JT.left;rw[kL];rfl
 have l2:pz J q q.length=(jT J).amn (qF q):=by unfold pz JT.amn;rw[kL];rfl
 unfold Rp;rw[e,l1,l2,R.k];unfold ZX;rw[R.k,Zd4];rcases uX R.m1 R.m2 with rfl|rfl|rfl|rfl|rfl|rfl|rfl|rfl|rfl|rfl|rfl|rfl|rfl|rfl|rfl|rfl|rfl|rfl<;>first|rfl|simp[JT.least]
theorem arx(P:Nat->Nat->Int->Int->Bool)(n:Nat):fK (u6 (qF q) n P)<=n*(3*n):=
 Bm (λa=>Zb2 (XY P a _ _) (Zl7 3 (by omega))) n 0
theorem acd(hq:q.length<=100)(hn:J.n<=100)(hT:J.p.ts.length<=100)(R:zx J.p r m)(kL:q.length=J.n):fK (gI J q g r)<=200000:=by
 have two:∀a b P,fK (wC (qF q) a b P)<=200000:=λa b P=>Zb2 (Ig _ _ _) (by simp)
 have one:∀a P,fK (Ed (qF q) a P)<=200000:=λa P=>Zb2 (Ig _ _ _) (by simp)
 have Rc:∀P,fK (u6 (qF q) q.length P)<=200000:=λP=>by have h1:=arx (q:=q) P q.length;have h2:=Nat.mul_le_mul hq (Zl7 3 hq);omega
 have qM:∀P,fK (Ee (qF q) q.length P)<=200000:=λP=>by have h1:=Bm (f:=λg=>uZ (on (qF q) g&&P g (qF q g)) 1 [(g:Int)]) (B:=2) (λa=>Zb2 (Ig _ _ _) (by simp)) q.length 0;unfold Ee;omega
 have tab:∀D:List Int->List Ev,(∀who:List Int,who.length<=J.n->fK (D who)<=2000)->fK (b9 (Ei J q r D) J.p.ts.length 0)<=200000:=λD hD=>by
   have h1:=Bm (f:=Ei J q r D) (B:=2000) (λt=>by
    unfold Ei;split
    .exact hD _ (by have:=TQ J q t q.length;omega)
    .exact Zi0 _) J.p.ts.length 0
   omega
 unfold gI;rw[R.k,Zd4];rcases uX R.m1 R.m2 with rfl|rfl|rfl|rfl|rfl|rfl|rfl|rfl|rfl|rfl|rfl|rfl|rfl|rfl|rfl|rfl|rfl|rfl<;>simp only
 .exact two _ _ _
 .exact two _ _ _
 .exact two _ _ _
 .exact two _ _ _
 .exact two _ _ _
 .exact one _ _
 .exact one _ _
 .exact Rc _
 .exact tab _ (aiC _ hn)
 .exact qM _
 .exact qM _
 .exact Rc _
 .exact Rc _
 .exact Rc _
 .exact tab _ (aiD _ (by have:=R.n (.inl rfl);omega) hn)
 .exact tab _ (aiE _ hn)
 .exact qM _
 .exact Rc _
end
structure OkJ(J:Jt):Prop where
 rul:∀r∈J.p.rs,∃m,zx J.p r m
 cls:J.p.cs.length=J.n\/J.p.cs.length=0
structure F0(J:Jt)(q:List Int):Prop where
 len:q.length=J.n
 see:∃g,BX J.N q=some g
def fJ(J:Jt)(q:List Int)(r:Rl):Nat:=(jT J).uY (qF q) (ZX J r)
def lJ(J:Jt)(q:List Int)(r:Rl):Nat:=(jT J).least (qF q) (ZX J r)
section
variable{s:St}{vb jb:Pos}{j:Jc}{J:Jt}{P G:AV}{q g:List Int}
theorem at7(hc:bw c)(O:OkJ J)(V:Vw s vb jb j J P G q g)(hg:BX J.N q=some g){i:Nat}{r:Rl}(hi:J.p.rs[i]? =some r):c 32 [.ptr vb 0,.int .i64 (i:Int)] s=some (.int .i64 ((fJ J q r:Nat):Int),s):=by obtain⟨m,R⟩:=O.rul r (Zc1 hi);unfold fJ;rw[<-MI V.ql hg R];exact afY hc V O.cls hi R
theorem avv(hc:bw c)(O:OkJ J)(V:Vw s vb jb j J P G q g)(hg:BX J.N q=some g){i:Nat}{r:Rl}(hi:J.p.rs[i]? =some r):c 33 [.ptr vb 0,.int .i64 (i:Int)] s=some (.int .i64 ((lJ J q r:Nat):Int),s):=by
 obtain⟨m,R⟩:=O.rul r (Zc1 hi);have hN:=V.Ef;have kL:=V.ql;have h1:=acd (g:=g) (by omega) hN.2 V.jw.sF.ts R kL;have h2:=adt (gI J q g r);unfold lJ;rw[<-T6 V.ql hg R];exact arw hc V O.cls hi R (by omega)
theorem look_ok(hc:bw c)(jw:JW s jb j J)(w0:Wf s)(pq:QS 1 s P (q.map bC))(hq:F0 J q):
   ∃g vb G s',BX J.N q=some g/\c 19 [.ptr jb 0,P] s=some (.ptr vb 0,s')/\Grew s s'/\Vw s' vb jb j J P G q g:=by
 obtain⟨g,hg⟩:=hq.see;have hn:J.n<=100:=jw.sF.gs;rcases at4 hc jw w0 pq (by have:=hq.len;omega)with⟨h,_⟩|⟨g',vb,G,s',h1,h2,h3,h4,h5⟩
 . rcases h with h|h
   .exact absurd hq.len h
   .rw[hg]at h;cases h
 .exact⟨g',vb,G,s',h2,h3,h4,h5⟩
theorem aiH(a:Pos)(o:Nat)(K:AV->St->Option (AV×St))(s:St):aq c (.bin .eql .ptr) [.ptr a o,.jg] s K=K (.bool false) s:=aV c K (λH n=>rfl) s
theorem avw(a:Pos)(o:Nat)(K:AV->St->Option (AV×St))(s:St):aq c (.bin .neq .ptr) [.ptr a o,.jg] s K=K (.bool true) s:=aV c K (λH n=>rfl) s
theorem ary(hc:bw c)(jw:JW s jb j J)(w0:Wf s)(pq:QS 1 s P (q.map bC))(hq:F0 J q):c 6 [.ptr jb 0,P] s=some (.bool true,s):=by
 obtain⟨g,vb,G,s',hg,lk,gr,V⟩:=look_ok hc jw w0 pq hq;rw[T7 hc 1 (r:=(.bool true,s')),aB (Plain.bool _) gr.keeps];rw[Ya];simp[lk,avw]
theorem afZ(hc:bw c)(O:OkJ J)(jw:JW s jb j J)(w0:Wf s)(pq:QS 1 s P (q.map bC))(hq:F0 J q){i:Nat}{r:Rl}(hi:J.p.rs[i]? =some r):
  c 11 [.ptr jb 0,P,.int .i64 (i:Int)] s=some (.int .i64 ((fJ J q r:Nat):Int),s):=by
 obtain⟨g,vb,G,s',hg,lk,gr,V⟩:=look_ok hc jw w0 pq hq;have f:=at7 hc O V hg hi;have vc:=V.vc;have jc:=V.jw.mz;have ln:=λ(K:AV->St->Option (AV×St))=>V.jw.jf.lenB (c:=c) K s'
 rw[Za4]at ln;have fH:=(Za2.1 hi).1;have d1:decide ((i:Int)<0)=false:=Za1 (by omega);have d2:decide ((J.p.rs.length:Int)<=(i:Int))=false:=Za1 (by omega);rw[Rq hc 1 (r:=(.int .i64 ((fJ J q r:Nat):Int),s')),aB (Plain.int _ _) gr.keeps];rw[Wn];simp only[av,bX,lk,bM,aiH,fO,cG,d1,gC,cw,aS,Zb8,aT,vc,jc,aD,Za9,Za5,Jc.c4,aR,ln,ZM,d2,cV,f]
theorem aiI(hc:bw c)(O:OkJ J)(jw:JW s jb j J)(w0:Wf s)(pq:QS 1 s P (q.map bC))(hq:F0 J q){i:Nat}{r:Rl}(hi:J.p.rs[i]? =some r):
  c 12 [.ptr jb 0,P,.int .i64 (i:Int)] s=some (.int .i64 ((lJ J q r:Nat):Int),s):=by
 obtain⟨g,vb,G,s',hg,lk,gr,V⟩:=look_ok hc jw w0 pq hq;have f:=avv hc O V hg hi;have vc:=V.vc;have jc:=V.jw.mz;have ln:=λ(K:AV->St->Option (AV×St))=>V.jw.jf.lenB (c:=c) K s'
 rw[Za4]at ln;have fH:=(Za2.1 hi).1;have d1:decide ((i:Int)<0)=false:=Za1 (by omega);have d2:decide ((J.p.rs.length:Int)<=(i:Int))=false:=Za1 (by omega);rw[T8 hc 1 (r:=(.int .i64 ((lJ J q r:Nat):Int),s')),aB (Plain.int _ _) gr.keeps];rw[Yb];simp only[av,bX,lk,bM,aiH,fO,cG,d1,gC,cw,aS,Zb8,aT,vc,jc,aD,Za9,Za5,Jc.c4,aR,ln,ZM,d2,cV,f]
end
section
variable{s:St}{vb jb:Pos}{j:Jc}{J:Jt}{P G:AV}{q g:List Int}
end
def BZ(x:Int)(n:Nat):Nat:=(x % (n:Int)).toNat
theorem arz(x:Int){n:Nat}(h:0<n):BZ x n<n:=by have h1:=Zs4 x (show(n:Int)≠0 by omega);have h2:=Zr1 x (show(0:Int)<(n:Int)by omega);unfold BZ;omega
theorem aua(hc:bw c)(x:Int){n:Nat}(h:0<n)(hn:n<=1000000)(s:St):c 17 [.int .i64 x,.int .i64 (n:Int)] s=some (.int .i64 ((BZ x n:Nat):Int),s):=by
 have h1:=Zs4 x (show(n:Int)≠0 by omega);have h2:=Zr1 x (show(0:Int)<(n:Int)by omega);have e:((BZ x n:Nat):Int)=x % (n:Int):=by unfold BZ;omega
 have rm:=λ(K:AV->St->Option (AV×St))(s:St)=>aeA c K s .num .i64 x (n:Int) (by omega)
 have t:=Int.tmod_eq_emod (a:=x) (b:=(n:Int));rw[Wo hc 1 (r:=(.int .i64 ((BZ x n:Nat):Int),s)),aB (Plain.int _ _) (aX.refl s)];rw[aat,e];by_cases hd:0<=x\/(n:Int) ∣ x
 .rw[Zb6 hd]at t;have t:x.tmod (n:Int)=x % (n:Int):=(by rw[t];exact Int.sub_zero _);have d:decide (x % (n:Int)<0)=false:=Za1 (by omega);simp[-iq,rm,t,bR,d]
 .rw[Za7 hd]at t;have t:x.tmod (n:Int)=x % (n:Int) - (n:Int):=(by rw[t,Int.natAbs_natCast]);have d:decide (x % (n:Int) - (n:Int)<0)=true:=Za0 (by omega);have w:ax .i64 (x % (n:Int))=x % (n:Int):=wrap64 (by omega) (by omega);simp[-iq,rm,t,bR,d,w]
abbrev uM(tk:List Bool):List AV:=tk.map AV.bool
theorem arA{tb:Pos}{tk:List Bool}(hl:tk.length<=1000000){fr:Nat}(hf:fr<=1000000){s:St}(ht:s.heap.get tb=some (.cells (uM tk) 0))(F:Nat):∀(m k f:Nat),k+m=tk.length->m<f->∀k1 k2:Q2,
  mD c F k1 k2 f [.slice tb 0 tk.length (some tk.length) 1,.int .i64 (fr:Int),.int .i64 (k:Int)] s=
    match ru tk fr m k with
    |some i=>k1 [.int .i64 (i:Int)] (bh s tb (.cells (uM (tk.set i true)) 0))
    |none=>k2 [] s:=by
 intro m;induction m with
 |zero=>
  intro k f hk hf k1 k2;obtain⟨f,rfl⟩:∃g,f=g+1:=⟨f - 1,by omega⟩
  obtain rfl:k=tk.length:=by omega
  rw[sP];simp[lR,ru]
 |succ m ih=>
  intro k f hk hf k1 k2;obtain⟨f,rfl⟩:∃g,f=g+1:=⟨f - 1,by omega⟩
  have gX:k<tk.length:=by omega
  have aW:decide ((k:Int)<(tk.length:Int))=true:=Za0 (by omega);have w1:ax .i64 ((fr:Int)+(k:Int))=((fr+k:Nat):Int):=by rw[wrap64 (by omega) (by omega)];omega
  have wr:ax .i64 ((k:Int)+1)=((k+1:Nat):Int):=by rw[wrap64 (by omega) (by omega)];omega
  have hi:(fr+k) % tk.length<tk.length:=Zj5 _ (by omega);have rm:∀(K:AV->St->Option (AV×St))(s:St),aq c (.bin .rem .num) [.int .i64 ((fr+k:Nat):Int),.int .i64 (tk.length:Int)] s K=K (.int .i64 (((fr+k) % tk.length:Nat):Int)) s:=λK s=>by
    rw[di (by omega) (by omega),Zl9]
  generalize hm:(fr+k) % tk.length=i at*
  have ix:=λ(K:AV->St->Option (AV×St))(s1:St)=>ji c K s1 (b:=tb) (off:=0) (len:=tk.length) (es:=1) (es':=1) (cap:=some tk.length) (k:= .i64) (i:=i) hi
  simp only[Zb8,Zn5]at ix;have ec:(uM tk)[i]? =some (.bool tk[i]):=by rw[Zb7,H0 hi];rfl
  have eg:tk.getD i true=tk[i]:=by rw[Zb3,H0 hi];rfl
  unfold ru;rw[hm,eg];cases hb:tk[i]
  . (rw[hb]at ec;have pt:=λ(K:AV->St->Option (AV×St))=>LV (c:=c) K ht (o:=i) (by rw[Za4];exact hi) (v:= .bool true) rfl rfl);rw[show(uM tk).set i (.bool true)=uM (tk.set i true)from(Zq3).symm]at pt;rw[Zb6 rfl,sP];simp only[aH,bg,av,lR,cG,aW,dH,fD,w1,rm,ix,aT,ht,aD,Za9,ec,aR,pP,Zk6,pt]
  .rw[hb]at ec;rw[Za7 (by simp), <-ih (k+1) f (by omega) (by omega) k1 k2,sP];simp only[aH,bg,av,lR,cG,aW,dH,cV,fD,w1,rm,ix,aT,ht,aD,Za9,ec,aR,pP,Zh0,wr]
theorem aoJ{a b:List Bool}(h:uM a=uM b):a=b:=by
 induction a generalizing b with
 |nil=>cases b with|nil=>rfl|cons y b=>simp at h
 |cons x a ih=>
  cases b with
  |nil=>simp at h
  |cons y b=>
   simp only[Zd1,Zf9,AV.bool.injEq]at h;rw[h.1,ih h.2]
theorem aoK(hc:bw c){tb:Pos}{tk:List Bool}(hl:tk.length<=1000000){fr:Nat}(hf:fr<=1000000){s:St}(ht:s.heap.get tb=some (.cells (uM tk) 0)):
  c 18 [.slice tb 0 tk.length (some tk.length) 1,.int .i64 (fr:Int)] s=some (.int .i64 (ry tk fr).2,bh s tb (.cells (uM (ry tk fr).1) 0)):=by
 have lp:=λ(k1 k2:Q2)=>arA (c:=c) hl hf ht (tk.length+1) tk.length 0 (tk.length+1) (by omega) (by omega) k1 k2
 simp only[show((0:Nat):Int)=0 from rfl]at lp;unfold ry;cases FT:ru tk fr tk.length 0 with
 |none=>
  simp only[FT]at lp ⊢;rw[ais ht];rw[Bo hc (tk.length+1) (r:=(.int .i64 (-1),s)),aB (Plain.int _ _) (aX.refl s)];rw[Ek];simp[lp]
 |some i=>
  simp only[FT]at lp ⊢;have hb:=JA FT;have ne:tk.set i true≠tk:=λe=>by have h2:(tk.set i true)[i]? =some true:=(by rw[Zf4 (Za2.1 hb).1]);rw[e,hb]at h2;cases h2
  rw[Bo hc (tk.length+1) (r:=(.int .i64 (i:Int),bh s tb (.cells (uM (tk.set i true)) 0))),aez ht (by rw[bH];intro e;simp only[H5,AB.cells.injEq,Zm5]at e;exact ne (aoJ e))];rw[Ek];simp[lp]
def amH(p:bS):Prop:=∀t∈p.ts,n7 t.sh t.a t.b=bJ t/\(0<=t.a/\t.a<=1000000)/\0<=t.b/\t.b<=1000000
section
variable{st sB s:St}{Vs:List AV}{p:bS}
theorem PS.rT(h:PS st s Vs p):∃V1 V2 r1 r2,Vs[0]? =some V1/\Vs[1]? =some V2/\TS st s V1 p.ts r1/\GS st s V2 p.gs r2/\Vs.length=5:=by
 obtain⟨V1,V2,V3,V4,V5,r1,r2,rfl,h1,h2,_⟩:=h.all;exact⟨V1,V2,r1,r2,rfl,rfl,h1,h2,rfl⟩
theorem TS.MB{V:AV}{ts:List aE}{rows:List (List AV)}(h:TS st s V ts rows){t:Nat}{T:aE}(ht:ts[t]? =some T):∃v b o,Rd s 7 V t b o (T.ay v):=by
 have hl:t<rows.length:=by rw[h.len];exact(Za2.1 ht).1
 obtain⟨v,e,_⟩:=h.ez t T rows[t] ht (H0 hl);obtain⟨b,o,h4⟩:=h.out.own.rd h.out.row (H0 hl);exact⟨v,b,o,by rw[<-e];exact h4⟩
theorem amI(hc:bw c)(hz:amH p)(uT:p.ts.length<=100){pb:Pos}{V1:AV}{cs:List AV}{r1:List (List AV)}(hw:Wf s)(hp:s.heap.get pb=some (.cells cs 0))(h0:cs[0]? =some V1)(T:TS st s V1 p.ts r1)(F:Nat):∀(m k f:Nat),k+m=p.ts.length->m<f->∀k2:Q2,
  ku c F k2 f [.ptr pb 0,.int .i64 (bf (p.ts.take k)),.int .i64 (k:Int)] s=k2 [.int .i64 (bf p.ts)] s:=by
 have ln:=λ(K:AV->St->Option (AV×St))=>T.out.own.lenB (c:=c) K s
 rw[T.len]at ln;intro m;induction m with
 |zero=>
  intro k f hk hf k2;obtain⟨f,rfl⟩:∃g,f=g+1:=⟨f - 1,by omega⟩
  obtain rfl:k=p.ts.length:=by omega
  rw[yK,Zh9];simp[hp,h0,ln]
 |succ m ih=>
  intro k f hk hf k2;obtain⟨f,rfl⟩:∃g,f=g+1:=⟨f - 1,by omega⟩
  have gX:k<p.ts.length:=by omega
  have hi:=H0 gX;obtain⟨v,b,o,h1⟩:=T.MB hi;have z:=hz _ (Zb9 gX);have sz:=XP p.ts[k];have sn:=XS p.ts[k];have et:bf (p.ts.take (k+1))=bf (p.ts.take k)+bJ p.ts[k]:=(T9 gX).1;generalize p.ts[k]=t at*
  have r1:=λ{R}=>@h1.st R
  have r2:=h1.all;have sl:=MJ hc (l:=t.ay v) (sh:=t.sh) (a:=t.a) (b:=t.b) rfl rfl rfl z.2.1 z.2.2 s hw;rw[z.1]at sl;have n1:=rE (p.ts.take k);rw[Zg3]at n1;have aW:decide ((k:Int)<(p.ts.length:Int))=true:=Za0 (by omega);have w1:ax .i64 (bf (p.ts.take k)+bJ t)=bf (p.ts.take k)+bJ t:=wrap64 (by omega) (by omega);have wr:ax .i64 ((k:Int)+1)=((k+1:Nat):Int):=by rw[wrap64 (by omega) (by omega)];omega
  rw[<-ih (k+1) f (by omega) (by omega) k2,yK,et];simp only[aH,bg,av,aS,Zb8,aT,hp,aD,Za9,h0,aR,ln,cG,aW,dH,r1,gR,r2,fu,bX,sl,bM,fD,w1,wr]
theorem amJ(hc:bw c)(h:PS st s Vs p)(hz:amH p)(uT:p.ts.length<=100):c 16 [.agg Vs] s=some (.int .i64 (bf p.ts),s):=by
 have hw:=h.ai.wf;have gN:=Grew.ah hw (.cells Vs 0);obtain⟨V1,V2,r1,r2,e1,_,T,_,_⟩:=(h.OI gN).rT;have lp:=λ(k2:Q2)=>amI (c:=c) hc hz uT gN.wf (aA s (.cells Vs 0)) e1 T (p.ts.length+1) p.ts.length 0 (p.ts.length+1) (by omega) (by omega) k2
 simp only[Zq9,show bf ([]:List aE)=0 from rfl,show((0:Nat):Int)=0 from rfl]at lp;rw[MK hc (p.ts.length+1) (r:=(.int .i64 (bf p.ts),ah s (.cells Vs 0))),aB (Plain.int _ _) gN.keeps];rw[P0];simp only[cS,show ∀l,AV.cells (.agg l)=l from λl=>rfl,av,lp,aH,bg]
def JZ(ch:Nat->Ch):Nat->Nat->List Ch
 |0,_=>[]
 |m+1,k=>ch k::JZ ch m (k+1)
structure SeI(sB s:St)(tb:Pos)(tk:List Bool)(v:AV)(R:List Int):Prop where
 Yc:Mk 1 sB s v (R.map bC)
 tkn:s.heap.get tb=some (.cells (uM tk) 0)
 ge:sB.next.toNat<=tb.toNat
 ap:∀b,aL v=some b->tb.toNat+1<=b.toNat
theorem SeI.set{tb:Pos}{tk u9:List Bool}{v:AV}{R:List Int}(h:SeI sB s tb tk v R):SeI sB (bh s tb (.cells (uM u9) 0)) tb u9 v R:=by
 have aW:=h.Yc.ai.wf _ _ h.tkn;have g:=wF h.Yc.jE h.Yc.ai h.ge aW (.cells (uM u9) 0);exact⟨h.Yc.rW g λb x hb hx=>by rw[aJ (λe=>by have:=h.ap b hb;rw[<-e]at this;omega)];exact hx,bH _ _ _,h.ge,h.ap⟩
theorem SeI.push{tb:Pos}{tk:List Bool}{v:AV}{R:List Int}(h:SeI sB s tb tk v R)(hR:R.length<=1000)(x:Int):∃s5 v',(∀(K:AV->St->Option (AV×St)),aq c (.buildSlice 1 1 [.int .i64 0] [0]) [.int .i64 x] s (λy t=>aq c (.append 1 8) [v,y] t K)=K v' s5)/\SeI sB s5 tb tk v' (R++[x]):=by have aW:=h.Yc.ai.wf _ _ h.tkn;obtain⟨s5,v5,a1,a2,a3,a4⟩:=h.Yc.push (R:=AV×St) (c:=c) (bytes:=8) (z:=[.int .i64 0]) (x:= .int .i64 x) rfl rfl rfl (by omega) (by rw[Za4];omega) (by rw[Za4];omega);refine⟨s5,v5,a1,⟨by rw[Zc8];exact a2,a3 tb _ (λe=>by have:=h.ap tb e;omega) h.tkn,h.ge,λb hb=> ?_⟩⟩;have:=a4 b hb;omega
def Yd(N:Nat)(xs:List Int)(g:Nat):Ch:=match xs[g]? with
 |some x=>if BZ x (N+1)=N then .no else .fr (BZ x (N+1))
 |none=>.no
theorem aoL(hc:bw c){pb tb:Pos}{cs:List AV}{V2:AV}{r2:List (List AV)}(hp:sB.heap.get pb=some (.cells cs 0))(h1:cs[1]? =some V2)(T:GS st sB V2 p.gs r2){N:Nat}(hN:N<=100000)(hgs:p.gs.length<=100)(z:Bool)(xs:List Int)(hx:xs.length<=9223372036854775807)(F:Nat):
  ∀ (m k f:Nat)(s:St)(tk:List Bool)(v:AV)(R:List Int),k+m=p.gs.length->m<f->SeI sB s tb tk v R->tk.length=N->R.length=k->∃s' v' u9,SeI sB s' tb u9 v' (R++iz tk (JZ (Yd N xs) m k))/\
    ∀k2:Q2,fy c F k2 f [ints z xs,.ptr pb 0,.int .i64 (N:Int),.slice tb 0 N (some N) 1,v,.int .i64 (k:Int)] s=k2 [v'] s':=by
 intro m;induction m with
 |zero=>
  intro k f s tk v R hk hf hS hl hR;obtain⟨f,rfl⟩:∃g,f=g+1:=⟨f - 1,by omega⟩
  obtain rfl:k=p.gs.length:=by omega
  have kH:=hS.Yc.ai.get hp;have T1:=T.ai hS.Yc.ai;have ln:=λ(K:AV->St->Option (AV×St))=>T1.out.own.lenB (c:=c) K s
  rw[T1.len]at ln;refine⟨s,v,tk,by simpa [JZ,iz]using hS,λk2=> ?_⟩;rw[nD];simp[kH,h1,ln]
 |succ m ih=>
  intro k f s tk v R hk hf hS hl hR;obtain⟨f,rfl⟩:∃g,f=g+1:=⟨f - 1,by omega⟩
  have gX:k<p.gs.length:=by omega
  have kH:=hS.Yc.ai.get hp;have T1:=T.ai hS.Yc.ai;have ln:=λ(K:AV->St->Option (AV×St))=>T1.out.own.lenB (c:=c) K s
  rw[T1.len]at ln;have aW:decide ((k:Int)<(p.gs.length:Int))=true:=Za0 (by omega);have wr:ax .i64 ((k:Int)+1)=((k+1:Nat):Int):=by rw[wrap64 (by omega) (by omega)];omega
  have wN:ax .i64 ((N:Int)+1)=((N+1:Nat):Int):=by rw[wrap64 (by omega) (by omega)];omega
  obtain⟨s5,v5,a1,a2⟩:=hS.push (c:=c) (by omega) (-1)
  have no:Yd N xs k= .no->(∀k2:Q2,fy c F k2 (f+1) [ints z xs,.ptr pb 0,.int .i64 (N:Int),.slice tb 0 N (some N) 1,v,.int .i64 (k:Int)] s=fy c F k2 f [ints z xs,.ptr pb 0,.int .i64 (N:Int),.slice tb 0 N (some N) 1,v5,.int .i64 ((k+1:Nat):Int)] s5)->
        ∃s' v' u9,SeI sB s' tb u9 v' (R++iz tk (JZ (Yd N xs) (m+1) k))/\∀k2:Q2,fy c F k2 (f+1) [ints z xs,.ptr pb 0,.int .i64 (N:Int),.slice tb 0 N (some N) 1,v,.int .i64 (k:Int)] s=k2 [v'] s':=λhch iQ=>by
    obtain⟨s',v',u9,z1,z2⟩:=ih (k+1) f s5 tk v5 (R++[-1]) (by omega) (by omega) a2 hl (by simp[hR]);refine⟨s',v',u9,?_,λk2=>by rw[iQ,z2]⟩;rw[JZ,hch,iz];simpa using z1
  by_cases ML:k<xs.length
  . have hlx:decide ((k:Int)<(xs.length:Int))=true:=Za0 (by omega);have pk:=aua hc xs[k] (n:=N+1) (by omega) (by omega) s;have plt:=arz xs[k] (n:=N+1) (by omega);simp only[show((N+1:Nat):Int)=(N:Int)+1 by omega]at pk wN;have ech:Yd N xs k=if BZ xs[k] (N+1)=N then .no else .fr (BZ xs[k] (N+1)):=by unfold Yd;rw[H0 ML]
    have at':=aiJ xs k ML;by_cases hpn:BZ xs[k] (N+1)=N
    .   rw[Zb6 hpn]at ech;(refine no ech λk2=> ?_);rw[hpn]at pk;rw[nD];unfold ints at*
        simp[-au,bR,kH,h1,ln,aW,gX,ML,at',wN,pk,a1,wr]
    .   rw[Za7 hpn]at ech;generalize BZ xs[k] (N+1)=fr at*
        have dn:decide ((fr:Int)=(N:Int))=false:=Za1 (by omega);have pl:=aoK hc (tk:=tk) (tb:=tb) (by omega) (fr:=fr) (by omega) hS.tkn;rw[hl]at pl;obtain⟨s6,v6,b1,b2⟩:=(hS.set (u9:=(ry tk fr).1)).push (c:=c) (by omega) (ry tk fr).2;obtain⟨s',v',u9,z1,z2⟩:=ih (k+1) f s6 _ v6 _ (by omega) (by omega) b2 (by rw[aor];exact hl) (by simp[hR]);refine⟨s',v',u9,?_,λk2=> ?_⟩
        .rw[JZ,ech,iz];simpa using z1
        . rw[<-z2 k2,nD];unfold ints at*
          simp[-au,bR,kH,h1,ln,aW,gX,ML,at',wN,pk,dn,pl,b1,wr]
  . have hlx:decide ((k:Int)<(xs.length:Int))=false:=Za1 (by omega);(refine no (by unfold Yd;rw[Zc3 (by omega)]) λk2=> ?_);rw[nD];unfold ints at*
    simp[-au,bR,kH,h1,ln,aW,gX,ML,a1,wr]
theorem aoM(N:Nat):List.replicate N (AV.bool false)=uM (List.replicate N false):=List.map_replicate.symm
theorem aoN(hc:bw c)(h:PS st s Vs p)(hz:amH p)(uT:p.ts.length<=100)(hgs:p.gs.length<=100){N:Nat}(hN:(N:Int)=bf p.ts)(z:Bool)(xs:List Int)(hx:xs.length<=9223372036854775807):
  ∃s' v,c 5 [.agg Vs,ints z xs] s=some (v,s')/\Mk 1 s s' v ((iz (List.replicate N false) (JZ (Yd N xs) p.gs.length 0)).map bC):=by
 have hw:=h.ai.wf;have gN:=Grew.ah hw (.cells Vs 0);have h1:=h.OI gN;obtain⟨V1,V2,r1,r2,e1,e2,T,T2,e5⟩:=h1.rT;have so:=amJ hc h1 hz uT;rw[<-hN]at so;have hN1:N<=100000:=by have:=(rE p.ts).2;omega
 have hcut:cut Vs 0 5=some Vs:=cQ e5;have mk:=λ(K:AV->St->Option (AV×St))=>aeB c K (ah s (.cells Vs 0)) (es:=1) (bytes:=1) (z:=[.bool false]) (k:= .i64) (k':= .i64) (n:=N) (by omega) (by omega)
 rw[D7,aoM]at mk;have gT:=Grew.ah gN.wf (.cells (uM (List.replicate N false)) 0);have S0:SeI (ah s (.cells Vs 0)) (ah (ah s (.cells Vs 0)) (.cells (uM (List.replicate N false)) 0)) (ah s (.cells Vs 0)).next (List.replicate N false) .af []:=
  ⟨Mk.start gN.wf gT,aA _ _,Za3 _,λb e=>(nomatch e)⟩
 obtain⟨s',v',u9,z1,z2⟩:=aoL (c:=c) hc (aA s (.cells Vs 0)) e2 T2 hN1 hgs z xs hx (p.gs.length+1) p.gs.length 0 (p.gs.length+1) _ _ _ [] (by omega) (by omega) S0 (by simp) rfl;have M:=z1.Yc.back hw gN;rw[Ze3]at M;obtain⟨s3,t1,t2⟩:=M.tidy;refine⟨s3,v',?_,t2⟩;simp only[show((0:Nat):Int)=0 from rfl]at z2;rw[N7 hc (p.gs.length+1) (r:=(v',s')),t1];rw[Rr];simp only[cS,show ∀l,AV.cells (.agg l)=l from λl=>rfl,av,gR,aA,aD,Za9,hcut,fu,bX,so,bM,mk,z2,aH,bg]
end
theorem alg(ch:Nat->Ch):∀(m k i:Nat),(JZ ch m k)[i]? =if i<m then some (ch (k+i))else none
 |0,k,i=>by simp[JZ]
 |m+1,k,0=>by simp[JZ]
 |m+1,k,i+1=>by
  rw[JZ,Zb4,alg ch m (k+1) i];by_cases h:i<m
  .rw[Zb6 h,Zb6 (by omega)];congr 2;omega
  .rw[Za7 h,Za7 (by omega)]
theorem alh(ch:Nat->Ch):∀(m k:Nat),(JZ ch m k).length=m
 |0,k=>rfl
 |m+1,k=>by rw[JZ,Zc6,alh ch m (k+1)]
theorem aiK{N:Nat}:∀(q:List Int)(i:Nat)(g:List Int),(∀x∈q,-1<=x/\x<(N:Int))->(∀x∈q,0<=x->g.getD x.toNat (-1)<0)->(∀(a b:Nat)(x:Int),a<b->q[a]? =some x->q[b]? =some x->x<0)->∃g',OK N q i g=some g'
 |[],i,g,_,_,_=>⟨g,rfl⟩
 |x ::q,i,g,h1,h2,h3=>by
  have a1:=h1 x (Ze2);have a2:=h2 x (Ze2);unfold OK;rw[Za7 (by omega)];refine aiK q (i+1) _ (λy hy=>h1 y (Zb0 _ hy)) (λy hy h0=> ?_) (λa b y hab ha hb=>h3 (a+1) (b+1) y (by omega) (by simpa using ha) (by simpa using hb));have b1:=h2 y (Zb0 _ hy) h0;split
  . rename_i hx;by_cases e:x.toNat=y.toNat
    .   obtain⟨b,hb⟩:=Zf2.1 hy;have:=h3 0 (b+1) x (by omega) rfl (by rw[Zb4,hb];congr 1;omega);omega
    .   rw[Zb3,Ze6 e, <-Zb3];exact b1
  .exact b1
theorem aoO{J:Jt}{q:List Int}(hl:q.length=J.n)(h1:∀x∈q,-1<=x/\x<(J.N:Int))(h3:∀(a b:Nat)(x:Int),a<b->q[a]? =some x->q[b]? =some x->x<0):F0 J q:=
 ⟨hl,aiK q 0 _ h1 (λx hx h0=>by
  have:=h1 x hx;rw[Zb3];by_cases h:x.toNat<J.N
  .rw[Zn6,Zb6 h];decide
  .omega) h3⟩
theorem aub{J:Jt}{tk:List Bool}{l:List Ch}(hs:Sat tk l)(hl:l.length=J.n)(ht:tk.length=J.N):F0 J (iz tk l):=by
 refine aoO (by rw[Tw];exact hl) (λx hx=> ?_) (λa b x hab ha hb=> ?_)
 . obtain⟨i,hi⟩:=Zf2.1 hx;rcases Dg l tk hs i x hi with rfl|⟨s,rfl,h|h⟩
   .omega
   .have:=(Za2.1 h).1;omega
   .have:=(Za2.1 h.1).1;omega
 .have:=Lv l tk hs a b x hab ha hb;omega
theorem aoP{J:Jt}{n:Nat}(hn:n=J.n)(xs:List Int):F0 J (iz (List.replicate J.N false) (JZ (Yd J.N xs) n 0)):=by
 have no:∀s,Ch.XN s∉JZ (Yd J.N xs) n 0:=λs h=>by
  obtain⟨i,hi⟩:=Zf2.1 h;rw[alg]at hi;split at hi
  . simp only[H5]at hi;unfold Yd at hi;split at hi
    .split at hi<;>cases hi
    .cases hi
  .cases hi
 exact aub ⟨λs h=>absurd h (no s),λi j s h _=>absurd (Zc1 h) (no s)⟩ (by rw[alh];exact hn) (by simp)
theorem F0.ok{J:Jt}{q:List Int}(h:F0 J q):∀x∈q,-1<=x/\x<(J.N:Int):=by obtain⟨g,hg⟩:=h.see;exact(aiF hg).1
theorem af0{N:Nat}:∀(q:List Int)(i:Nat)(g g':List Int),OK N q i g=some g'->g.length=N->(∀x∈q,0<=x->g.getD x.toNat (-1)<0)/\∀(a b:Nat)(x:Int),a<b->q[a]? =some x->q[b]? =some x->x<0
 |[],i,g,g',_,_=>⟨λx hx=>(nomatch hx),λa b x _ ha _=>by simp at ha⟩
 |x ::q   ,i,g,g',h,hl=>by
  unfold OK at h;by_cases hc:x< -1\/(N:Int)<=x\/(0<=x/\0<=g.getD x.toNat (-1))
  .rw[Zb6 hc]at h;cases h
  rw[Za7 hc]at h;obtain⟨h1,h2⟩:=af0 q (i+1) _ g' h (by split<;>simp[hl]);have key:∀y∈q,0<=y->g.getD y.toNat (-1)<0/\(0<=x->y≠x):=λy hy h0=>by
    have k1:=h1 y hy h0;by_cases hx:0<=x
    .   rw[Zb6 hx]at k1;by_cases e:x.toNat=y.toNat
        .rw[<-e,Zb3,Zf4 (by omega)]at k1;simp at k1;omega
        .rw[Zb3,Ze6 e, <-Zb3]at k1;exact⟨k1,λ_ h=>e (by rw[h])⟩
    .   rw[Za7 hx]at k1;exact⟨k1,λh=>absurd h hx⟩
  refine⟨λy hy h0=> ?_,λa b y hab ha hb=> ?_⟩
  . rcases Za8.1 hy with rfl|hy
    .   omega
    .   exact(key y hy h0).1
  . cases a with
    |   zero=>
        obtain⟨b,rfl⟩:∃b',b=b'+1:=⟨b - 1,by omega⟩
        simp at ha hb;subst ha;by_cases h0:0<=x
        .exact absurd rfl ((key x (Zc1 hb) h0).2 h0)
        .omega
    |   succ a=>
        obtain⟨b,rfl⟩:∃b',b=b'+1:=⟨b - 1,by omega⟩
        exact h2 a b y (by omega) (by simpa using ha) (by simpa using hb)
theorem F0.apart{J:Jt}{q:List Int}(h:F0 J q):∀(a b:Nat)(x:Int),a<b->q[a]? =some x->q[b]? =some x->x<0:=by obtain⟨g,hg⟩:=h.see;exact(af0 q 0 _ g hg (by simp)).2
theorem adv(i:Nat):∀x∈bQ i,x<256:=λx hx=>by simp only[bQ,Za8,Zc0,Ze9]at hx;omega
theorem ace(p:Prop)[Decidable p](i:Nat):∀x∈(if p then bQ i else []),x<256:=by
 split
 .exact adv i
 .intro x hx;cases hx
theorem arB(i x:Nat):(zA i x).Real where
 name:=adv _
 AN:=ace (x % 2=1) _
 jv:=ace (4<x % 8) _
 nk:=ace (x % 3=2) _
 tg:=Zb2 (atc x).2 (by decide)
theorem Ye(i x:Nat):(kC i x).kQ.length<=16:=by have h1:=aiL x (tN x);have h2:=adw x;show((El x (tN x)).map λ(k:Nat)=>(k:Int)).length<=16;rw[Za4];omega
theorem zB(xt xg xy xr:List Nat):(nE xt xg xy xr).Dh where
 ts:=by show(sQ xt _).length<=100;rw[Ua];omega
 gs:=by have:=Im (ve xt xg);show(gK _).length<=100;omega
 ys:=by have:=(af1 (ve xt xg) xy).1;show(Em _ _).length<=100;omega
 cs:=by
  have:=Im (ve xt xg);show(oC xt xg xy).length<=100;unfold oC;split
  .rw[MM];show(gK _).length<=100;omega
  .exact Zi0 _
 rs:=by have:=Ub (oD xt) (oE xt xg) xr (min xr.length 12);show(Cg _ _ _ _).length<=100;omega
 ok t ht:=by
  obtain⟨i,x,rfl⟩:=Uc ht;have:=Ye i x;exact⟨by show(fL i).length<sH;unfold fL sH;simp,by unfold sH;omega⟩
theorem aoQ(xt xg xy xr:List Nat):(nE xt xg xy xr).Real where
 ts:=by have:=(zB xt xg xy xr).ts;omega
 tab t ht:=by obtain⟨i,x,rfl⟩:=Uc ht;have:=Ye i x;refine⟨λy hy=> ?_,Zb2 this (by decide)⟩;have hy:y∈fL i:=hy;simp only[fL,Za8,Zc0,Ze9]at hy;omega
 gs:=by have:=(zB xt xg xy xr).gs;omega
 qM g hg:=by obtain⟨i,hi⟩:=Zf2.1 hg;obtain⟨_,rfl⟩:=OL (xs:=ve xt xg) hi;exact arB _ _
 ys:=Zb2 (zB xt xg xy xr).ys (by decide)
 cs:=Zb2 (zB xt xg xy xr).cs (by decide)
 rs:=Zb2 (zB xt xg xy xr).rs (by decide)
theorem avx(ts:List aE)(gs:List aN)(x:Nat):(iC ts gs x).1.k=((1+x % 18:Nat):Int):=by
 unfold iC Ud
 repeat' split
 all_goals rfl
theorem adx{xt xg xy xr:List Nat}(hx:∀x∈xt,x<256):∀r∈(nE xt xg xy xr).rs,r.Ok/\uL (nE xt xg xy xr) r=0:=λr hr=>by obtain⟨x,h1,rfl⟩:=acf hr;refine⟨?_,aoR (p:=nE xt xg xy xr) af2 Yf Yg (P6 hx) x h1⟩;have:=avx (oD xt) (oE xt xg) x;unfold Rl.Ok;omega
theorem aoS{xt xg xy xr:List Nat}(hx:∀x∈xt,x<256):amH (nE xt xg xy xr):=λt ht=>by
 have h1:=P6 hx t ht;have h2:=aiM t ht;exact⟨h1.1.symm,h2.1,h2.2.1,h2.2.2⟩
theorem aoT{xt xg xy xr:List Nat}(hx:∀x∈xt,x<256):((nE xt xg xy xr).gs.length:Int)<=bf (nE xt xg xy xr).ts:=by show((gK (ve xt xg)).length:Int)<=bf (sQ xt (min xt.length 3));unfold gK;rw[MN,Yh hx _ (by omega)];unfold ve;rw[Zg3];omega
structure Jg(s:St)(jb:Pos)(j:Jc)(J:Jt)(p:bS):Prop where
 jw:JW s jb j J
 ok:OkJ J
 sim:p.fX J.p
 fit:J.n<=J.N
 bc:J.jW=arC J.p.gs
 kc:J.iR=P8 J.p.gs J.p.ys
theorem Jg.n{s:St}{jb:Pos}{j:Jc}{J:Jt}{p:bS}(h:Jg s jb j J p):J.n=p.gs.length:=h.sim.gl
theorem Jg.sum{s:St}{jb:Pos}{j:Jc}{J:Jt}{p:bS}(h:Jg s jb j J p):(J.N:Int)=bf p.ts:=by rw[h.jw.nN];exact h.sim.sum
theorem Jg.ai{s s':St}{jb:Pos}{j:Jc}{J:Jt}{p:bS}(h:Jg s jb j J p)(g:Grew s s'):Jg s' jb j J p:=⟨h.jw.ai g,h.ok,h.sim,h.fit,h.bc,h.kc⟩
theorem Di{R:Type}{s:St}{b:Pos}{Vs:List AV}(h:s.heap.get b=some (.cells Vs 0))(hl:Vs.length=5)(K:AV->St->Option R):aq c (.load (some 5)) [.ptr b 0] s K=K (.agg Vs) s:=by rw[gR,h];simp only[aD,Za9];rw[cQ hl];rfl
theorem Dh.avy{p p':bS}(S:p.fX p')(hr:∀r∈p.rs,r.Ok/\uL p r=0):∀r∈p'.rs,∃m,zx p' r m:=λr h=>by
 rw[S.rs]at h;obtain⟨a,b⟩:=hr r h;exact avs a (by rw[S.rule];exact b)
theorem agB{b:Pos}{o:Nat}{l:List AV}{t:Bool}(hi:∀u∈l,dU u):¬Plain (.tuple [.ptr b o,.agg l,.bool t]):=λh=>by
 obtain⟨N0,K0,h1⟩:=inst_list hi;obtain⟨xs,hx⟩:=h1 (max N0 (b.toNat+1)) K0 (by omega) (Za3 _);have e1:aC (λ_=>⟨0,0,K0⟩) (max N0 (b.toNat+1)) (λ_=>none) (.agg l) (.agg xs.toArray):= .agg l _ (by rw[hx.1];simp) λi v x hv xB=>hx.2 i v x hv (by simpa using xB)
 obtain⟨x0,e0⟩:∃x,aC (λ_=>⟨0,0,K0⟩) (max N0 (b.toNat+1)) (λ_=>none) (.ptr b o) x:=⟨_,.ptr b o (by omega)⟩
 obtain⟨x2,e2⟩:∃x,aC (λ_=>⟨0,0,K0⟩) (max N0 (b.toNat+1)) (λ_=>none) (.bool t) x:=⟨_,.bool t⟩
 have:=h _ (λ_=>⟨0,0,0⟩) _ 0 (λ_=>none) _ (.tuple _ #[x0,.agg xs.toArray,x2] rfl (λi v v' hv hx=>by
  match i with
  |0=>simp at hv hx;subst hv hx;exact e0
  |1=>simp at hv hx;subst hv hx;exact e1
  |2=>simp at hv hx;subst hv hx;exact e2
  |i+3=>simp at hv))
 cases this with
 |tuple _ _ _ h=>
  have:=h 0 _ x0 rfl rfl;cases this with
  |ptr _ _ h=>omega
theorem PS.inst{s0 s:St}{Vs:List AV}{p:bS}(h:PS s0 s Vs p):∀u∈Vs,dU u:=λu hu=>by
 obtain⟨V1,V2,V3,V4,V5,r1,r2,rfl,h1,h2,h3,h4,h5⟩:=h.all;simp only[Za8,Zc0,Ze9]at hu;rcases hu with rfl|rfl|rfl|rfl|rfl
 .exact h1.out.inst
 .exact h2.out.inst
 .exact h3.inst
 .exact h4.inst
 .exact h5.inst
theorem arD(hc:bw c){xt xg xy xr:List Nat}(ht:∀x∈xt,x<256)(hg:∀x∈xg,x<65536)(hy:∀x∈xy,x<256)(hr:∀x∈xr,x<4294967296)(lt:xt.length<=9223372036854775807)(lg:xg.length<=9223372036854775807)(lr:xr.length<=9223372036854775807)(ly:xy.length<=9223372036854775807)
   (zt zg zy zr:Bool) (st:St) (hw:Wf st):∃Vs s' jb j J s0,c 4 [.agg (jC zt zg zy zr xt xg xy xr)] st=some (.tuple [.ptr jb 0,.agg Vs,.bool true],s')/\Grew st s'/\PS s0 s' Vs (nE xt xg xy xr)/\Jg s' jb j J (nE xt xg xy xr):=by
 have g1:=Grew.ah hw (.cells (jC zt zg zy zr xt xg xy xr) 0);have w1:=g1.wf;have gA:=Grew.ah w1 (.cells [.af,.af,.af,.af,.af] 0);have ld4:∀(K:AV->St->Option (AV×St)),aq c (.load (some 4)) [.ptr st.next 0] (ah (ah st (.cells (jC zt zg zy zr xt xg xy xr) 0)) (.cells [.af,.af,.af,.af,.af] 0)) K=K (.agg (jC zt zg zy zr xt xg xy xr)) (ah (ah st (.cells (jC zt zg zy zr xt xg xy xr) 0)) (.cells [.af,.af,.af,.af,.af] 0)):=λK=>by rw[gR,gA.get (aA st _)];rfl
 obtain⟨s2,uD⟩:∃s2,s2=ah (ah st (.cells (jC zt zg zy zr xt xg xy xr) 0)) (.cells [.af,.af,.af,.af,.af] 0):=⟨_,rfl⟩
 obtain⟨b3,Vc⟩:∃b3,b3=(ah st (.cells (jC zt zg zy zr xt xg xy xr) 0)).next:=⟨_,rfl⟩
 have h3:s2.heap.get b3=some (.cells [.af,.af,.af,.af,.af] 0):=by rw[uD,Vc];exact aA _ _
 have g2:Grew st s2:=by rw[uD];exact g1.trans gA
 have hb3n:st.next.toNat<=b3.toNat:=by rw[Vc];exact g1.next
 obtain⟨Vs,s3,M,P⟩:=auc hc ht hg hy hr lt lg lr ly zt zg zy zr s2 g2.wf;obtain⟨vl,vo⟩:=P.cells;have w3:=P.ai.wf;have gB:=Grew.ah w3 (.cells Vs 0);have st5:∀(K:AV->St->Option (AV×St)),aq c (.store 5) [.ptr s3.next 0,.agg Vs] (ah s3 (.cells [.af,.af,.af,.af,.af] 0)) K=K .undef (ah s3 (.cells Vs 0)):=λK=>cr c K s3 5 (.agg Vs) _ vl rfl vo
 have x5:=aA s3 (.cells Vs 0);obtain⟨s4,hs4⟩:∃s4,s4=ah s3 (.cells Vs 0):=⟨_,rfl⟩
 obtain⟨b5,hb5⟩:∃b5,b5=s3.next:=⟨_,rfl⟩
 rw[<-hs4]at st5 gB x5;rw[<-hb5]at st5 x5;have P4:=P.OI gB;have mr:=adx (xg:=xg) (xy:=xy) (xr:=xr) ht;obtain⟨jb,s5,Us,p',N,jW,iR,e5,P5,S,hN,JDd,h5,hjb,eB,eK⟩:=arE hc P4 (zB xt xg xy xr) (aoQ xt xg xy xr) (λr h=>(mr r h).1) (ady ht);have g5:=P5.ai;have x5':=g5.get x5;have gall:=(g2.trans P.ai).trans (gB.trans g5);have y3:=(P.ai.trans (gB.trans g5)).get h3;have amK:=g2.wf _ _ h3;have aiN:=gall.wf _ _ y3;have n24:s2.next.toNat<=s4.next.toNat:=Zb2 P.ai.next gB.next;have gF:=wF hw gall hb3n aiN (.cells Vs 0);have keep:∀(q:Pos)(b:AB),s2.next.toNat<=q.toNat->s5.heap.get q=some b->(bh s5 b3 (.cells Vs 0)).heap.get q=some b:=λq b hq hb=>by rw[aJ (λe=>by rw[<-e]at hq;omega)];exact hb
 have PU:=P5.rX hw ((g2.trans P.ai).trans gB) gF λq b hq hb=>keep q b (by omega) hb
 have PV:=P.rX hw g2 gF λq b hq hb=>keep q b hq ((gB.trans g5).get hb)
 have JDs:=JDd.mono hjb (s':=bh s5 b3 (.cells Vs 0)) λq b hq hb=>keep q b (by omega) hb
 obtain⟨j,jw,hj⟩:=JW.of JDs PU (S.sF (zB xt xg xy xr)) hN;have stF:∀(K:AV->St->Option (AV×St)),aq c (.store 5) [.ptr b3 0,.agg Vs] s5 K=K .undef (bh s5 b3 (.cells Vs 0)):=λK=>by
   (rw[cm c K s5 5 b3 0 (.agg Vs) _ y3 vl (by simp) vo];have:aU [AV.af,.af,.af,.af,.af] 0 (AV.agg Vs).cells=Vs:=by unfold aU;rw[show(AV.agg Vs).cells=Vs from rfl,vl];simp);rw[this]
 have hcut:cut Vs 0 5=some Vs:=cQ vl;have ep:∀(K:AV->Option (AV×St)),eX (.bin .neq .ptr) [.ptr jb 0,.jg] K=K (.bool true):=λK=>dD K (λH n=>rfl)
 have nt:¬Plain (.tuple [.ptr jb 0,.agg Vs,.bool true]):=agB PV.inst;rw[<-uD]at ld4;have run:tS c 1 (.agg (jC zt zg zy zr xt xg xy xr)) st=some (.tuple [.ptr jb 0,.agg Vs,.bool true],bh s5 b3 (.cells Vs 0)):=by
   rw[Ue];simp only[cS,show ∀l,AV.cells (.agg l)=l from λl=>rfl,av,cL,ld4, <-uD, <-Vc,bX,M,bM, <-hs4, <-hb5,st5,Di x5 vl,e5,fS,Za5,Zb4,aR,cX,xS,x5',aD,Za9,hcut,fu,ep,aev,aex,Zg6,Tm,stF,abT,bH]
 refine⟨Vs,bh s5 b3 (.cells Vs 0),jb,j,⟨p',N,jW,iR⟩,st,?_,gF,PV,⟨jw,⟨Dh.avy S mr,?_⟩,S,?_,eB,eK⟩⟩
 .rw[P9 hc 1 run];unfold tidy;rw[Za7 (λh=>nt h.1)]
 . show p'.cs.length=p'.gs.length\/p'.cs.length=0;rw[S.cs,S.gl];show(oC xt xg xy).length=(oE xt xg).length\/(oC xt xg xy).length=0;unfold oC;split
   .rw[MM];exact .inl rfl
   .exact .inr rfl
 .have h1:=aoT (xg:=xg) (xy:=xy) (xr:=xr) ht;have h2:(N:Int)=bf (nE xt xg xy xr).ts:=(by rw[hN];exact S.sum);have h3:p'.gs.length=(nE xt xg xy xr).gs.length:=S.gl;show p'.gs.length<=N;omega
theorem atd(hc:bw c)(s:St):c 7 [] s=some (.bool true,s):=hc.at (s:=ZQ) rfl rfl
end
end Go.Proofs.YtmldijpopgaaeaaGreatDoor
