/- Faults of a rule. -/
import Derived.Test.YtgihekklfnjkiaaGreatDoorDPlainC
set_option linter.all false
set_option linter.unusedSectionVars false
set_option linter.deprecated false
namespace Go.Proofs.YtgihekklfnjkiaaGreatDoor
section
set_option maxRecDepth 100000
open Go Go.Ai Go.Proofs
variable{c : aj}
theorem FW(q:List Int):q.map bU=(q.map (AV.int .i64)).map ov:=by rw[Zh7];rfl
theorem pW{s:St}{v:AV}{q:List Int}(h:QS 1 s v (q.map bU)){i:Nat}{x:Int}(hx:q[i]? =some x):∃b o,Rd s 1 v i b o [.int .i64 x]:=by
 rw[FW]at h;exact h.Lx (by rw[Zb8,hx];rfl)
structure Jc where
 V1:AV
 V2:AV
 V3:AV
 V4:AV
 V5:AV
 M:Pos
 L0:AV
 L1:AV
 L2:AV
 L3:AV
 L4:AV
 L5:AV
 L6:AV
 L7:AV
def Jc.Vs(j:Jc):List AV:=[j.V1,j.V2,j.V3,j.V4,j.V5]
def Jc.cells(j:Jc):List AV:=[j.V1,j.V2,j.V3,j.V4,j.V5,.map j.M,j.L0,j.L1,j.L2,j.L3,j.L4,j.L5,j.L6,j.L7]
structure Jt where
 p:cw
 N:Nat
 kP:List (List Bool)
 kQ:List (List Int)
section
variable(J : Jt)
def Jt.n:Nat:=J.p.gs.length
def Jt.steps(i:Nat):List (Int×Int):=acs (xV J.p.ts J.N) (xW J.p.ts J.N) J.N (i:Int)
end
structure JW(s:St)(jb:Pos)(j:Jc)(J:Jt):Prop where
 lU:s.heap.get jb=some (.cells j.cells 0)
 ps:∃s0 r1 r2,PS s0 s j.Vs J.p/\TS s0 s j.V1 J.p.ts r1/\GS s0 s j.V2 J.p.gs r2
 cls:QS 1 s j.V4 (J.p.cs.map bU)
 iY:QS 6 s j.V5 (J.p.rs.map Rl.cells)
 kin:s.heap.get j.M=some (.map E7 18)
 tab:QS 1 s j.L0 ((Bn J.p.ts J.N).map ov)
 lvl:QS 1 s j.L1 ((Bo J.p.ts J.N).map ov)
 ku:QS 1 s j.L2 ((Bp J.p.ts J.N).map ov)
 bes:RQ s j.L3 ((xV J.p.ts J.N).map λr=>r.map (AV.int .i64))
 acr:RQ s j.L4 ((xW J.p.ts J.N).map λr=>r.map (AV.int .i64))
 aq:∃ms:List Pos,QS 1 s j.L5 ((ms.map AV.map).map ov)/\ms.length=J.N/\∀(i:Nat)(m:Pos),ms[i]? =some m->s.heap.get m=some (im (J.steps i))
 com:RQ s j.L6 (J.kP.map λr=>r.map AV.bool)
 tie:RQ s j.L7 (J.kQ.map λr=>r.map (AV.int .u8))
 uv:J.p.GY
 n1:J.kP.length=J.n
 n2:J.kQ.length=J.n
 n3:∀r∈J.kP,r.length=J.n
 n4:∀r∈J.kQ,r.length=J.n
 nN:(J.N:Int)=aZ J.p.ts
theorem TS.ai{s0 s s':St}{V:AV}{ts:List aE}{rows:List (List AV)}(h:TS s0 s V ts rows)(g:Grew s s'):TS s0 s' V ts rows:=
 ⟨h.out.grow g,h.len,λi t r a b=>by obtain⟨v,e1,e2,e3⟩:=h.eF i t r a b;exact⟨v,e1,e2.grow g,e3⟩⟩
theorem GS.ai{s0 s s':St}{V:AV}{ts:List aV}{rows:List (List AV)}(h:GS s0 s V ts rows)(g:Grew s s'):GS s0 s' V ts rows:=
 ⟨h.out.grow g,h.len,λi t r a b=>by obtain⟨v,e1,e2,e3⟩:=h.eF i t r a b;exact⟨v,e1,e2.grow g,e3⟩⟩
theorem PS.KD{s0 s s':St}{Vs:List AV}{p:cw}(h:PS s0 s Vs p)(g:Grew s s'):PS s0 s' Vs p:=by
 obtain⟨V1,V2,V3,V4,V5,r1,r2,rfl,h1,h2,h3,h4,h5⟩:=h.all;exact⟨h.ai.trans g,V1,V2,V3,V4,V5,r1,r2,rfl,h1.ai g,h2.ai g,h3.grow g,h4.grow g,h5.grow g⟩
theorem JW.ai{s s':St}{jb:Pos}{j:Jc}{J:Jt}(h:JW s jb j J)(g:Grew s s'):JW s' jb j J where
 lU:=g.get h.lU
 ps:=by obtain⟨s0,r1,r2,a,b,d⟩:=h.ps;exact⟨s0,r1,r2,a.KD g,b.ai g,d.ai g⟩
 cls:=h.cls.ai g
 iY:=h.iY.ai g
 kin:=g.get h.kin
 tab:=h.tab.ai g
 lvl:=h.lvl.ai g
 ku:=h.ku.ai g
 bes:=h.bes.ai g
 acr:=h.acr.ai g
 aq:=by obtain⟨ms,a,b,d⟩:=h.aq;exact⟨ms,a.ai g,b,λi m hm=>g.get (d i m hm)⟩
 com:=h.com.ai g
 tie:=h.tie.ai g
 uv:=h.uv
 n1:=h.n1
 n2:=h.n2
 n3:=h.n3
 n4:=h.n4
 nN:=h.nN
theorem JW.of{s0 s1 s:St}{jb:Pos}{Vs:List AV}{p:cw}{N:Nat}{kP:List (List Bool)}{kQ:List (List Int)}(h:JD s1 s jb Vs p.ts N p.gs.length kP kQ)(hp:PS s0 s Vs p)(hf:p.GY)(hN:(N:Int)=aZ p.ts):
   ∃j:Jc,JW s jb j ⟨p,N,kP,kQ⟩/\j.Vs=Vs:=by
 obtain⟨V1,V2,V3,V4,V5,r1,r2,rfl,h1,h2,h3,h4,h5⟩:=hp.all;obtain⟨m,L0,L1,L2,L3,L4,L5,L6,L7,wB,wA,ms,r6,r7,k0,k1,k2,k3,k4,k5,k6,k7,k8,k9⟩:=h.all;have lb:=Nx p.ts N;refine⟨⟨V1,V2,V3,V4,V5,m,L0,L1,L2,L3,L4,L5,L6,L7⟩,⟨k0,⟨s0,r1,r2,hp,h1,h2⟩,h4.own,h5.own,k1.2,k2.1,k3.1,k4.1,⟨wB,k5.1.1,by rw[k5.2.1,Za5,lb.1],λi w r a b=> ?_⟩,⟨wA,k6.1.1,by rw[k6.2.1,Za5,lb.2],λi w r a b=> ?_⟩,
   ⟨ms,k7.1.1,k7.2.1,λi m hm=>(k7.2.2 i m hm).2⟩,⟨r6,k8.1.1,by rw[k8.2.1,Za5];exact h.n1.symm,λi w r a b=> ?_⟩,⟨r7,k9.1.1,by rw[k9.2.1,Za5];exact h.n2.symm,λi w r a b=> ?_⟩,hf,h.n1,h.n2,h.n3,h.n4,hN⟩,rfl⟩
 all_goals
   rw[Zb8]at b;obtain⟨r,hr,rfl⟩:=Zf4.1 b
 . rw[<-FW];exact(k5.2.2 i w r a hr).1
 . rw[<-FW];exact(k6.2.2 i w r a hr).1
 . exact(k8.2.2 i w r a hr).1
 . exact(k9.2.2 i w r a hr).1
theorem apI(hc:bw c){s0 s:St}{Vs:List AV}{p:cw}(P:PS s0 s Vs p)(hp:p.GY)(nm:List Nat):c 109 [.agg Vs,.str nm] s=some (.int .i64 (gi p nm),s):=by
 obtain⟨p',e,S⟩:=P.fW 1;refine hc.at (s:=Ol 109) rfl (apz ?_ (bM.int _ _));rw[Zd6,Zd6,Zi1,e, <-S.gi nm];exact anh rfl p' (S.uv hp) nm (emptyAt s) (acj s)
structure Vw(s:St)(vb jb:Pos)(j:Jc)(J:Jt)(P G:AV)(q g:List Int):Prop where
 jw:JW s jb j J
 vc:s.heap.get vb=some (.cells [.ptr jb 0,P,G] 0)
 wf:Wf s
 pq:QS 1 s P (q.map bU)
 gq:QS 1 s G (g.map bU)
 ql:q.length=J.n
 gl:g.length=J.N
 ok:∀x∈q,-1<=x/\x<(J.N:Int)
 og:∀x∈g,-1<=x/\x<(J.n:Int)
theorem Vw.ai{s s':St}{vb jb:Pos}{j:Jc}{J:Jt}{P G:AV}{q g:List Int}(h:Vw s vb jb j J P G q g)(k:Grew s s'):Vw s' vb jb j J P G q g:=
 ⟨h.jw.ai k,k.get h.vc,k.wf,h.pq.ai k,h.gq.ai k,h.ql,h.gl,h.ok,h.og⟩
@[simp] theorem Jc.c0(j:Jc):j.cells[0]? =some j.V1:=id rfl
@[simp] theorem Jc.c1(j:Jc):j.cells[1]? =some j.V2:=id rfl
@[simp] theorem Jc.c3(j:Jc):j.cells[3]? =some j.V4:=id rfl
@[simp] theorem Jc.c4(j:Jc):j.cells[4]? =some j.V5:=id rfl
@[simp] theorem Jc.c5(j:Jc):j.cells[5]? =some (.map j.M):=id rfl
@[simp] theorem Jc.c6(j:Jc):j.cells[6]? =some j.L0:=id rfl
@[simp] theorem Jc.c7(j:Jc):j.cells[7]? =some j.L1:=id rfl
@[simp] theorem Jc.c8(j:Jc):j.cells[8]? =some j.L2:=id rfl
@[simp] theorem Jc.c9(j:Jc):j.cells[9]? =some j.L3:=id rfl
@[simp] theorem Jc.c10(j:Jc):j.cells[10]? =some j.L4:=id rfl
@[simp] theorem Jc.c11(j:Jc):j.cells[11]? =some j.L5:=id rfl
@[simp] theorem Jc.c12(j:Jc):j.cells[12]? =some j.L6:=id rfl
@[simp] theorem Jc.c13(j:Jc):j.cells[13]? =some j.L7:=id rfl
@[simp] theorem Jc.cc(j:Jc):cut j.cells 0 5=some j.Vs:=id rfl
section
variable{s : St}{vb jb : Pos}{j : Jc}{J : Jt}{P G : AV}{q g : List Int}(V : Vw s vb jb j J P G q g)
include V
theorem Vw.kz{a:Nat}{x:Int}(ha:q[a]? =some x)(hx:0<=x):∃i:Nat,x=(i:Int)/\i<J.N:=by
 have:=V.ok x (Zc0 ha);exact⟨x.toNat,by omega,by omega⟩
theorem Vw.rT{i:Nat}(hi:i<J.N):∃b o,Rd s 1 j.L0 i b o [.int .i64 ((cM J.p.ts i:Nat):Int)]:=
 V.jw.tab.Lx (by unfold Bn;rw[Zb8,Zh4 hi];rfl)
theorem Vw.rL{i:Nat}(hi:i<J.N):∃b o,Rd s 1 j.L1 i b o [.int .i64 (ID J.p.ts ((i:Nat):Int))]:=
 V.jw.lvl.Lx (by unfold Bo;rw[Zb8,Zh4 hi];rfl)
theorem Vw.rO{i:Nat}(hi:i<J.N):∃b o,Rd s 1 j.L2 i b o [.bool (Om J.p.ts ((i:Nat):Int))]:=
 V.jw.ku.Lx (by unfold Bp;rw[Zb8,Zh4 hi];rfl)
theorem Vw.rB{i:Nat}(hi:i<J.N):∃w b o,Rd s 1 j.L3 i b o [w]/\QS 1 s w ((rj J.p.ts i).map bU):=by
 obtain⟨w,b,o,h1,h2⟩:=V.jw.bes.rd (i:=i) (r:=(rj J.p.ts i).map (AV.int .i64)) (by unfold xV;rw[Zb8,Zb8,Zh4 hi];rfl);exact⟨w,b,o,h1,by rw[FW];exact h2⟩
theorem Vw.rA{i:Nat}(hi:i<J.N):∃w b o,Rd s 1 j.L4 i b o [w]/\QS 1 s w ((z8 J.p.ts i).map bU):=by
 obtain⟨w,b,o,h1,h2⟩:=V.jw.acr.rd (i:=i) (r:=(z8 J.p.ts i).map (AV.int .i64)) (by unfold xW;rw[Zb8,Zb8,Zh4 hi];rfl);exact⟨w,b,o,h1,by rw[FW];exact h2⟩
theorem Vw.rS{i:Nat}(hi:i<J.N):∃m b o,Rd s 1 j.L5 i b o [.map m]/\s.heap.get m=some (im (J.steps i)):=by
 obtain⟨ms,h1,h2,h3⟩:=V.jw.aq;have hl:i<ms.length:=by omega
 obtain⟨b,o,h4⟩:=h1.Lx (i:=i) (x:= .map ms[i]) (by rw[Zb8,H0 hl];rfl);exact⟨_,b,o,h4,h3 i _ (H0 hl)⟩
theorem Vw.rTab{t:Nat}{T:aE}(ht:J.p.ts[t]? =some T):∃v b o,Rd s 7 j.V1 t b o (T.ax v):=by
 obtain⟨s0,r1,r2,_,h,_⟩:=V.jw.ps;have hl:t<r1.length:=by rw[h.len];exact(Za2.1 ht).1
 obtain⟨v,e,_⟩:=h.eF t T r1[t] ht (H0 hl);obtain⟨b,o,h4⟩:=h.out.own.rd h.out.row (H0 hl);exact⟨v,b,o,by rw[<-e];exact h4⟩
theorem Vw.rG{t:Nat}{T:aV}(ht:J.p.gs[t]? =some T):∃v b o,Rd s 9 j.V2 t b o (T.ax v):=by
 obtain⟨s0,r1,r2,_,_,h⟩:=V.jw.ps;have hl:t<r2.length:=by rw[h.len];exact(Za2.1 ht).1
 obtain⟨v,e,_⟩:=h.eF t T r2[t] ht (H0 hl);obtain⟨b,o,h4⟩:=h.out.own.rd h.out.row (H0 hl);exact⟨v,b,o,by rw[<-e];exact h4⟩
theorem Vw.rC{a b:Nat}{r:List Bool}{x:Bool}(ha:J.kP[a]? =some r)(hb:r[b]? =some x):∃w p o p2 o2,Rd s 1 j.L6 a p o [w]/\Rd s 1 w b p2 o2 [.bool x]:=by
 obtain⟨w,p,o,h1,h2⟩:=V.jw.com.rd (i:=a) (r:=r.map AV.bool) (by rw[Zb8,ha];rfl);obtain⟨p2,o2,h3⟩:=h2.Lx (i:=b) (x:= .bool x) (by rw[Zb8,hb];rfl);exact⟨w,p,o,p2,o2,h1,h3⟩
theorem Vw.rK{a b:Nat}{r:List Int}{x:Int}(ha:J.kQ[a]? =some r)(hb:r[b]? =some x):∃w p o p2 o2,Rd s 1 j.L7 a p o [w]/\Rd s 1 w b p2 o2 [.int .u8 x]:=by
 obtain⟨w,p,o,h1,h2⟩:=V.jw.tie.rd (i:=a) (r:=r.map (AV.int .u8)) (by rw[Zb8,ha];rfl);obtain⟨p2,o2,h3⟩:=h2.Lx (i:=b) (x:= .int .u8 x) (by rw[Zb8,hb];rfl);exact⟨w,p,o,p2,o2,h1,h3⟩
end
end
section
set_option maxRecDepth 100000
open Go Go.Ai Go.Proofs
variable{c : aj}{s : St}{vb jb : Pos}{j : Jc}{J : Jt}{P G : AV}{q g : List Int}
theorem apJ(V:Vw s vb jb j J P G q g){w:AV}{r:List Int}(hw:QS 1 s w (r.map bU))(hl:r.length<=1000000){b:Nat}{x:Int}(hb:q[b]? =some x)(F:Nat):
  ∀(m k:Nat),r.length<=k+m->k<=r.length->∀k1 k2,oV c F k1 k2 (m+1) [.ptr vb 0,.int .i64 (b:Int),w,.int .i64 (r.length:Int),.int .i64 (k:Int)] s=if(r.drop k).contains x then k1 [.bool true] s else k2 [] s:=by
 obtain⟨pb,po,p⟩:=pW V.pq hb;have p1:=λ{R}=>@p.st R
 have p3:=p.one;have vc:=V.vc;intro m;induction m with
 |zero=>
  intro k h1 h2 k1 k2;obtain rfl:k=r.length:=by omega
  rw[qx];simp
 |succ m ih=>
  intro k h1 h2 k1 k2;by_cases hk:k<r.length
  . obtain⟨wb,wo,w⟩:=pW hw (H0 hk);have w1:=λ{R}=>@w.st R
    have w3:=w.one;have wr:av .i64 ((k:Int)+1)=((k+1:Nat):Int):=wrap64 (by omega) (by omega);rw[Zd1 hk,Zq2];by_cases he:r[k]=x
    .   rw[qx];simp[hk,w1,w3,p1,p3,vc,he]
    .   have Li:(x==r[k])=false:=(by simpa using λe=>he e.symm);rw[Li,Zl7, <-ih (k+1) (by omega) (by omega) k1 k2,qx];simp[hk,w1,w3,p1,p3,vc,he,wr]
  . obtain rfl:k=r.length:=(by omega);rw[qx];simp
theorem FX(hc:bw c)(V:Vw s vb jb j J P G q g){L:AV}{i:Nat}{lb:Pos}{lo:Nat}{w:AV}{r:List Int}(hL:Rd s 1 L i lb lo [w])(hw:QS 1 s w (r.map bU))(hlen:r.length<=1000){a b:Nat}{x:Int}(ha:q[a]? =some (i:Int))(hb:q[b]? =some x):
  c 163 [.ptr vb 0,L,.int .i64 (a:Int),.int .i64 (b:Int)] s=some (.bool (r.contains x),s):=by
 obtain⟨pb,po,p⟩:=pW V.pq ha;have p1:=λ{R}=>@p.st R
 have p3:=p.one;have l1:=λ{R}=>@hL.st R
 have l3:=hL.one;have vc:=V.vc;have ln:=λ(K:AV->St->Option (AV×St))=>hw.lenB (c:=c) K s
 rw[Za5]at ln;rw[UK hc (r.length+1) (r:=(.bool (r.contains x),s)),aC (Plain.bool _) (aW.refl s)];have lp:=apJ (c:=c) V hw (by omega) hb (r.length+1) r.length 0 (by omega) (by omega);rw[Ze2]at lp;rw[Y0];simp only[ay,bY,aK,Zb4,aR,vc,aB,Za8,Za4,Zb7,aQ,p1,p3,l1,l3,ln];rw[show(0:Int)=((0:Nat):Int)from rfl,lp];generalize r.contains x=e;cases e<;>simp
theorem KW(ts:List aE)(i:Nat):(rj ts i).length<=1000/\(z8 ts i).length<=1000:=by
 have h:On ts i<=24:=by
  unfold On;split
  . rename_i t ht;have:=Wz t;omega
  . omega
 exact⟨Zb1 (KE _ _ _) (by omega),Zb1 (KE _ _ _) (by omega)⟩
def YJ(ts:List aE)(i:Nat)(x:Int):Bool:=(rj ts i).contains x||(z8 ts i).contains x
theorem aeW(hc:bw c)(V:Vw s vb jb j J P G q g){a b i:Nat}{x:Int}(ha:q[a]? =some (i:Int))(hi:i<J.N)(hb:q[b]? =some x):
  c 170 [.ptr vb 0,.int .i64 (a:Int),.int .i64 (b:Int)] s=some (.bool (YJ J.p.ts i x),s):=by
 obtain⟨w,wb,wo,h1,h2⟩:=V.rB hi;obtain⟨w',wb',wo',h3,h4⟩:=V.rA hi;have c1:=FX hc V h1 h2 (KW _ _).1 ha hb;have c2:=FX hc V h3 h4 (KW _ _).2 ha hb;have vc:=V.vc;have jc:=V.jw.lU;rw[Sf hc 1 (r:=(.bool (YJ J.p.ts i x),s)),aC (Plain.bool _) (aW.refl s)];rw[WA];unfold YJ;cases h:(rj J.p.ts i).contains x<;>simp only[h]at c1<;>simp[vc,jc,c1,c2,-List.elem_eq_contains,-List.contains_eq_mem]
theorem ahx:∀(ts:List aE)(i:Nat),(i:Int)<aZ ts->cM ts i<ts.length
 |[],i,h=>by simp[aZ]at h;omega
 |t ::ts,i,h=>by
  unfold cM;split
  . simp
  . rename_i hn;have n1:0<=bJ t:=WE t;have e:aZ (t::ts)=bJ t+aZ ts:=(by simp[aZ]);have:=ahx ts (i - (bJ t).toNat) (by omega);simpa using this
theorem Vw.auQ(V:Vw s vb jb j J P G q g){i:Nat}(hi:i<J.N):cM J.p.ts i<J.p.ts.length:=ahx _ _ (by have:=V.jw.nN;omega)
def WG(ts:List aE)(t:Nat):List Nat:=match ts[t]? with|some t=>t.name|none=>[]
def tG(ts:List aE)(nm:List Nat)(i:Nat):Bool:=decide (nm=[])||decide (nm=WG ts (cM ts i))
theorem Vw.rN(V:Vw s vb jb j J P G q g){i:Nat}(hi:i<J.N):∃T v b o,J.p.ts[cM J.p.ts i]? =some T/\WG J.p.ts (cM J.p.ts i)=T.name/\Rd s 7 j.V1 (cM J.p.ts i) b o (T.ax v):=by
 have hT:=H0 (V.auQ hi);obtain⟨v,b,o,h⟩:=V.rTab hT;exact⟨_,v,b,o,hT,by unfold WG;rw[hT],h⟩
theorem GZ(hc:bw c)(V:Vw s vb jb j J P G q g)(r:Rl){i:Nat}(hi:i<J.N):c 168 [.ptr vb 0,.agg r.cells,.int .i64 (i:Int)] s=some (.bool (tG J.p.ts r.t i),s):=by
 rw[UL hc 1 (r:=(.bool (tG J.p.ts r.t i),ah s (.cells r.cells 0))),aC (Plain.bool _) (cq V.wf)];rw[Y3,dy];have V1:=V.ai (Grew.ah V.wf (.cells r.cells 0));have hb:=aA s (.cells r.cells 0);have e:AV.cells (.agg r.cells)=r.cells:=rfl;rw[e];generalize ah s (.cells r.cells 0)=s1 at*
 have vc:=V1.vc;have jc:=V1.jw.lU;obtain⟨b1,o1,t1⟩:=V1.rT hi;have t2:=λ{R}=>@t1.pr R
 have t3:=t1.one;obtain⟨T,v,b,o,_,hn,h⟩:=V1.rN hi;have h1:=λ{R}=>@h.pr R
 have h2:=h.at' 0 _ rfl;rw[Zg0]at h2;unfold tG;rw[hn];by_cases h0:r.t=[]
 . simp[hb,h0]
 . have d0:decide (r.t=[])=false:=Za1 h0;simp[hb,vc,jc,t2,t3,h1,h2,d0]
theorem apK{R:Type}(K:AV->Option R){h:T AB}{m:Pos}{E:List (Int×Int)}(hm:h.get m=some (im E))(x:Int):
  jt (.lookup .i (.int .i64 0) true) [.map m,.int .i64 x] h (λ_=>true) K=K (.tuple [.int .i64 ((jW E x).getD 0),.bool (jW E x).isSome]):=by
 unfold jt;have e:aH.run (λ_=>none) .h (.lookup .i (.int .i64 0) true) [.map m,.int .i64 x]=none:=rfl;rw[e];simp only;have:aH.run (λb=>h.get b) .h (.lookup .i (.int .i64 0) true) [.map m,.int .i64 x]=some (.val (.tuple [.int .i64 ((jW E x).getD 0),.bool (jW E x).isSome])):=by
  unfold im at hm;cases hl:jW E x with
  |none=>simp only[aH.run,lC,hm,(Cg x E 0 0).1 hl];rfl
  |some d=>obtain⟨n,e⟩:=(Cg x E 0 0).2 d hl;simp only[aH.run,lC,hm,e];rfl
 rw[this]
theorem ani(hc:bw c)(V:Vw s vb jb j J P G q g){a b i:Nat}{x:Int}(ha:q[a]? =some (i:Int))(hi:i<J.N)(hb:q[b]? =some x):
  c 162 [.ptr vb 0,.int .i64 (a:Int),.int .i64 (b:Int)] s=some (.tuple [.int .i64 ((jW (J.steps i) x).getD 0),.bool (jW (J.steps i) x).isSome],s):=by
 obtain⟨pb,po,p⟩:=pW V.pq ha;obtain⟨qb,qo,p'⟩:=pW V.pq hb;have p1:=λ{R}=>@p.pr R
 have p3:=p.one;have p4:=λ{R}=>@p'.pr R
 have p6:=p'.one;obtain⟨m,b1,o1,t1,t0⟩:=V.rS hi;have t2:=λ{R}=>@t1.pr R
 have t3:=t1.one;have vc:=V.vc;have jc:=V.jw.lU;have lk:=λ(K:AV->Option (AV×St))=>apK K t0 x
 rw[Y4 hc 1 (r:=(.tuple [.int .i64 ((jW (J.steps i) x).getD 0),.bool (jW (J.steps i) x).isSome],s)),aC (Plain.tuple (by simp[Plain.int,Plain.bool])) (aW.refl s)];rw[acu];simp[vc,jc,p1,p3,p4,p6,t2,t3,lk]
theorem QS.WH{es:Nat}{v:AV}{rows:List (List AV)}(h:QS es s v rows):fV 3 v:=by
 rcases h with⟨rfl,_⟩|⟨b,off,cap,cs,rfl,_⟩|⟨b,off,rfl,_⟩
 . exact .flat rfl
 . refine .flat ?_;cases cap<;>simp[fI,Pos.beq_eq.2 rfl]
 . refine .flat ?_;simp[fI,Pos.beq_eq.2 rfl]
theorem JW.beq{s:St}(h:JW s jb j J):eM (.agg j.Vs) (.agg j.Vs)=true:=by
 obtain⟨s0,r1,r2,_,h1,h2⟩:=h.ps;obtain⟨V1,V2,V3,V4,V5,_,_,e,_,_,h3,_⟩:=(show PS s0 s j.Vs J.p from by assumption).all;refine TW λv hv=> ?_
 simp only[Jc.Vs,Zb0,Zc5,Zf3]at hv;simp only[Jc.Vs,Zg3]at e;rcases hv with rfl|rfl|rfl|rfl|rfl
 . exact QS.WH h1.out.own
 . exact QS.WH h2.out.own
 . rw[e.2.2.1];exact QS.WH h3.own
 . exact QS.WH h.cls
 . exact QS.WH h.iY
theorem Vw.who(hc:bw c)(V:Vw s vb jb j J P G q g)(nm:List Nat):c 109 [.agg j.Vs,.str nm] s=some (.int .i64 (gi J.p nm),s):=by obtain⟨s0,r1,r2,h,_,_⟩:=V.jw.ps;exact apI hc h V.jw.uv nm
theorem P8(hc:bw c)(V:Vw s vb jb j J P G q g)(r:Rl){a b:Nat}{x y:Int}(ga:gi J.p r.a=(a:Int))(gb:gi J.p r.b=(b:Int))(ha:q[a]? =some x)(hb:q[b]? =some y):
   c 161 [.ptr vb 0,.agg r.cells] s=some (.tuple [.int .i64 (a:Int),.int .i64 (b:Int),.bool (decide (0<=x)&&decide (0<=y))],s):=by
 rw[WJ hc 1 (r:=(.tuple [.int .i64 (a:Int),.int .i64 (b:Int),.bool (decide (0<=x)&&decide (0<=y))],ah s (.cells r.cells 0))),aC (Plain.tuple (by simp[Plain.int,Plain.bool])) (cq V.wf)];rw[aa3,dy];have V1:=V.ai (Grew.ah V.wf (.cells r.cells 0));have fk:=aA s (.cells r.cells 0);have e:AV.cells (.agg r.cells)=r.cells:=rfl;rw[e];generalize ah s (.cells r.cells 0)=s1 at*
 have vc:=V1.vc;have jc:=V1.jw.lU;obtain⟨pb,po,p⟩:=pW V1.pq ha;obtain⟨qb,qo,p'⟩:=pW V1.pq hb;have p1:=λ{R}=>@p.pr R
 have p3:=p.one;have p4:=λ{R}=>@p'.pr R
 have p6:=p'.one;have w1:=V1.who hc r.a;have w2:=V1.who hc r.b;rw[ga]at w1;rw[gb]at w2;have k1:=λ(K:AV->Option (AV×St))=>kX K (p:=vb) (o:=0) (h:=s1.heap) (h2:=s1.heap) (v:= .ptr jb 0) (by rw[vc];rfl) (by rw[vc];rfl) (by simp[eM,lH,fI,Pos.beq_eq.2 rfl])
 have k2:=λ(K:AV->Option (AV×St))=>ahg K (m:=5) (p:=jb) (o:=0) (h:=s1.heap) (h2:=s1.heap) (l:=j.Vs) (by rw[jc];rfl) (by rw[jc];rfl) V1.jw.beq
 have k3:=λ(K:AV->Option (AV×St))=>kX K (p:=s.next) (o:=3) (h:=s1.heap) (h2:=s1.heap) (v:= .str r.b) (by rw[fk];rfl) (by rw[fk];rfl) (by simp[eM,lH,fI,mI.2 rfl])
 by_cases hx:0<=x
 . have d:decide (0<=x)=true:=Za0 hx;simp[fk,vc,jc,p1,p3,p4,p6,w1,w2,k1,k2,k3,d,hx]
 . have d:decide (0<=x)=false:=Za1 hx;simp[fk,vc,jc,p1,p3,p4,p6,w1,w2,k1,k2,k3,d,hx]
end
section
set_option maxRecDepth 100000
open Go Go.Ai Go.Proofs
def gY(M:St->Pos->Prop)(s s':St):Prop:=s.next.toNat<=s'.next.toNat/\Wf s'/\∀b x,¬M s b->s.heap.get b=some x->s'.heap.get b=some x/\¬M s' b
theorem gY.refl{M:St->Pos->Prop}{s:St}(hw:Wf s):gY M s s:=⟨Za3 _,hw,λ_ _ h1 h2=>⟨h2,h1⟩⟩
theorem gY.trans{M:St->Pos->Prop}{a b d:St}(h:gY M a b)(k:gY M b d):gY M a d:=⟨Zb1 h.1 k.1,k.2.1,λp x h1 h2=>by obtain⟨e1,e2⟩:=h.2.2 p x h1 h2;exact k.2.2 p x e2 e1⟩
structure kA(c:aj)(fv:AV)(s0:St)(I:St->List Ev->Prop)(M:St->Pos->Prop):Prop where
 ai:∀{s l},I s l->Grew s0 s
 grow:∀{s s' l},I s l->Grew s s'->I s' l
 mL:∀{s s' l b},I s l->Grew s s'->M s' b->M s b
 mlt:∀{s l b},I s l->M s b->b.toNat<s.next.toNat
 back:∀{s s' l l'},I s l->I s' l'->aW s s'->I s l'
 call:∀{s l}{k:Nat}{W:AV}{who:List Int},I s l->QS 1 s W (who.map bU)->fM l+k+who.length<=1000000->
  ∃s' v,(∀(K:AV->St->Option (AV×St)),aq c .callV [fv,.int .i64 (k:Int),W] s K=K v s')/\I s' (l++[(k,who)])/\gY M s s'
 one:fv.cells=[fv]/\fv.one=true
def qF(q:List Int)(g:Nat):Int:=q.getD g (-1)
theorem mM{q:List Int}{a:Nat}{x:Int}(h:q[a]? =some x):qF q a=x:=by unfold qF;rw[Zb6,h];rfl
section
variable{c : aj}{fv : AV}{s0 : St}{I : St -> List Ev -> Prop}{M : St -> Pos -> Prop}{s : St}{l l' : List Ev}
theorem kA.fin(H:kA c fv s0 I M)(hI:I s l){T:Option (AV×St)}{f:FuncId}{args:List AV}{v:AV}(hr:∀{r},T=some r->c f args s=some (tidy s r))(h:∃s',T=some (v,s')/\I s' l'):
   ∃s',c f args s=some (v,s')/\I s' l':=by
 obtain⟨s',h1,h2⟩:=h;have h3:=hr h1;unfold tidy at h3;split at h3
 . rename_i hk;exact⟨s,h3,H.back hI h2 hk.2⟩
 . exact⟨s',h3,h2⟩
theorem kA.fr(H:kA c fv s0 I M){s':St}(hI:I s l)(g:Grew s s'):gY M s s':=⟨g.next,g.wf,λb x h1 h2=>⟨g.get h2,λh=>h1 (H.mL hI g h)⟩⟩
theorem kA.Sg(H:kA c fv s0 I M)(hI:I s l)(hB:fM l+3<=1000000)(a b:Nat):
  ∃s' v,(∀(K:AV->St->Option (AV×St)),aq c (.buildSlice 1 2 [.int .i64 0] [0,1]) [.int .i64 (a:Int),.int .i64 (b:Int)] s (λx s=>aq c .callV [fv,.int .i64 1,x] s K)=K v s')/\I s' (l++[(1,[(a:Int),(b:Int)])])/\gY M s s':=by
 have hw:=(H.ai hI).wf;have e:cF (bX [AV.int .i64 0] 2) ([0,1].map λi=>(i*1,1)) [.int .i64 (a:Int),.int .i64 (b:Int)]=some [.int .i64 (a:Int),.int .i64 (b:Int)]:=by
  simp[cF,bX,dB,dz,aX,AV.cells]
 obtain⟨s',v,h1,h2,h3⟩:=H.call (k:=1) (W:= .slice s.next 0 2 (some 2) 1) (who:=[(a:Int),(b:Int)]) (H.grow hI (Grew.ah hw (.cells [.int .i64 (a:Int),.int .i64 (b:Int)] 0)))
  (.inr (.inl ⟨s.next,0,some 2,_,rfl,aA _ _,by simp,by simp,.inr rfl⟩)) (by simp;omega)
 exact⟨s',v,λK=>by rw[au,e,cO];exact h1 K,h2,(H.fr hI (Grew.ah hw _)).trans h3⟩
theorem kA.YK(H:kA c fv s0 I M)(hI:I s l)(hB:fM l+2<=1000000)(a:Nat):
  ∃s' v,(∀(K:AV->St->Option (AV×St)),aq c (.buildSlice 1 1 [.int .i64 0] [0]) [.int .i64 (a:Int)] s (λx s=>aq c .callV [fv,.int .i64 1,x] s K)=K v s')/\I s' (l++[(1,[(a:Int)])])/\gY M s s':=by
 have hw:=(H.ai hI).wf
 obtain⟨s',v,h1,h2,h3⟩:=H.call (k:=1) (W:= .slice s.next 0 1 (some 1) 1) (who:=[(a:Int)]) (H.grow hI (Grew.ah hw (.cells [.int .i64 (a:Int)] 0)))
  (.inr (.inl ⟨s.next,0,some 1,_,rfl,aA _ _,by simp,by simp,.inr rfl⟩)) (by simp;omega)
 exact⟨s',v,λK=>by rw[FU rfl rfl];exact h1 K,h2,(H.fr hI (Grew.ah hw _)).trans h3⟩
end
section
variable{c : aj}{fv : AV}{s0 : St}{I : St -> List Ev -> Prop}{M : St -> Pos -> Prop}{s : St}{l : List Ev}{vb jb : Pos}{j : Jc}{J : Jt}{P G : AV}{q g : List Int}
def adN(J:Jt)(x y:Int):Option Int:=jW (J.steps x.toNat) y
def yK(J:Jt)(x:Int):Nat:=cM J.p.ts x.toNat
def acv(J:Jt)(r:Rl)(x y:Int):Bool:=decide (yK J x=yK J y)&&(decide (r.n=0)||((adN J x y).isSome&&decide ((adN J x y).getD 0<r.n)))
def ale(J:Jt)(x y:Int):Bool:= !(rj J.p.ts x.toNat).contains y
def alf(J:Jt)(x y:Int):Bool:= !(z8 J.p.ts x.toNat).contains y
def agh(J:Jt)(r:Rl)(x y:Int):Bool:= !(adN J x y).isSome||decide (r.n<(adN J x y).getD 0)
def alg(J:Jt)(x y:Int):Bool:= !decide (yK J x=yK J y)
structure Two(J:Jt)(q:List Int)(r:Rl)(a b:Nat)(x y:Int):Prop where
 ga:gi J.p r.a=(a:Int)
 gb:gi J.p r.b=(b:Int)
 qa:q[a]? =some x
 qb:q[b]? =some y
theorem Two.two{r:Rl}{a b:Nat}{x y:Int}(h:Two J q r a b x y)(P:Int->Int->Bool):Dj (qF q) a b P=yJ (decide (0<=x)&&decide (0<=y)&&P x y) 1 [(a:Int),(b:Int)]:=by
 unfold Dj on;rw[mM h.qa,mM h.qb]
theorem apL (hc:bw c)(H:kA c fv s0 I M)(V:Vw s0 vb jb j J P G q g){r:Rl}{a b:Nat}{x y:Int}(hT:Two J q r a b x y)(hI:I s l)(hB:fM l+3<=1000000):
   ∃s',c 90 [.ptr vb 0,.agg r.cells,fv] s=some (.tuple [],s')/\I s' (l++Dj (qF q) a b (acv J r)):=by
 refine H.fin hI (λh=>UM hc 1 h) ?_;have hw:=(H.ai hI).wf;have dO:=H.grow hI (Grew.ah hw (.cells r.cells 0));have V1:=V.ai (H.ai dO);have fk:=aA s (.cells r.cells 0);rw[hT.two,Y5,dy,show AV.cells (.agg r.cells)=r.cells from rfl];generalize ah s (.cells r.cells 0)=s1 at*
 have vc:=V1.vc;have jc:=V1.jw.lU;have bo:=P8 hc V1 r hT.ga hT.gb hT.qa hT.qb;obtain⟨pb,po,p⟩:=pW V1.pq hT.qa;obtain⟨qb,qo,p'⟩:=pW V1.pq hT.qb;have p1:=λ{R}=>@p.pr R
 have p3:=p.one;have p4:=λ{R}=>@p'.pr R
 have p6:=p'.one;obtain⟨s2,v2,e1,e2,_⟩:=H.Sg dO hB a b;by_cases hx:0<=x
 . by_cases hy:0<=y
   . obtain ⟨ i,rfl,hi⟩:=V1.kz hT.qa hx;obtain⟨k,rfl,hk⟩:=V1.kz hT.qb hy;obtain⟨tb,to,t⟩:=V1.rT hi;obtain⟨ub,uo,u⟩:=V1.rT hk;have t1:=λ{R}=>@t.pr R
     have t3:=t.one;have u1:=λ{R}=>@u.pr R
     have u3:=u.one;have fa:=ani hc V1 hT.qa hi hT.qb;unfold acv yK adN;simp only[Zc8];by_cases ht:cM J.p.ts i=cM J.p.ts k
     .  have d1:decide (((cM J.p.ts i:Nat):Int)=((cM J.p.ts k:Nat):Int))=true:=Za0 (by omega);by_cases hn:r.n=0
        . refine⟨s2,?_,by simpa [hx,hy,ht,hn,rV]using e2⟩;simp[-au,fk,bo,hx,hy,vc,jc,p1,p3,p4,p6,t1,t3,u1,u3,ht,fa,hn,e1]
        . by_cases hs:(jW (J.steps i) (k:Int)).isSome=true
          . by_cases hl:(jW (J.steps i) (k:Int)).getD 0<r.n
            . refine⟨s2,?_,by simpa [hx,hy,ht,hn,hs,hl,rV]using e2⟩;simp[-au,fk,bo,hx,hy,vc,jc,p1,p3,p4,p6,t1,t3,u1,u3,ht,fa,hn,hs,hl,e1]
            . refine⟨s1,?_,by simpa [hx,hy,ht,hn,hs,hl,eH]using dO⟩;simp[-au,fk,bo,hx,hy,vc,jc,p1,p3,p4,p6,t1,t3,u1,u3,ht,fa,hn,hs,hl,e1]
          . have hs:(jW (J.steps i) (k:Int)).isSome=false:=(by simpa using hs);refine⟨s1,?_,by simpa [hx,hy,ht,hn,hs,eH]using dO⟩;simp[-au,fk,bo,hx,hy,vc,jc,p1,p3,p4,p6,t1,t3,u1,u3,ht,fa,hn,hs,e1]
     .  have d1:decide (((cM J.p.ts i:Nat):Int)=((cM J.p.ts k:Nat):Int))=false:=Za1 (by omega);refine⟨s1,?_,by simpa [ht,eH]using dO⟩;simp[-au,fk,bo,hx,hy,vc,jc,p1,p3,p4,p6,t1,t3,u1,u3,d1]
   . refine⟨s1,?_,by simpa [hy,eH]using dO⟩;simp[-au,fk,bo,hy]
 . refine⟨s1,?_,by simpa [hx,eH]using dO⟩;simp[-au,fk,bo,hx]
theorem afz(hc:bw c)(H:kA c fv s0 I M)(V:Vw s0 vb jb j J P G q g){r:Rl}{a b:Nat}{x y:Int}(hT:Two J q r a b x y)(hI:I s l)(hB:fM l+3<=1000000):
   ∃s',c 91 [.ptr vb 0,.agg r.cells,fv] s=some (.tuple [],s')/\I s' (l++Dj (qF q) a b (ale J)):=by
 refine H.fin hI (λh=>Ly hc 1 h) ?_;have hw:=(H.ai hI).wf;have dO:=H.grow hI (Grew.ah hw (.cells r.cells 0));have V1:=V.ai (H.ai dO);have fk:=aA s (.cells r.cells 0);rw[hT.two,Oo,dy,show AV.cells (.agg r.cells)=r.cells from rfl];generalize ah s (.cells r.cells 0)=s1 at*
 have vc:=V1.vc;have jc:=V1.jw.lU;have bo:=P8 hc V1 r hT.ga hT.gb hT.qa hT.qb;obtain⟨s2,v2,e1,e2,_⟩:=H.Sg dO hB a b;by_cases hx:0<=x
 . by_cases hy:0<=y
   . obtain⟨i,rfl,hi⟩:=V1.kz hT.qa hx;obtain⟨w,wb,wo,h1,h2⟩:=V1.rB hi;have c1:=FX hc V1 h1 h2 (KW _ _).1 hT.qa hT.qb;unfold ale;simp only[Zc8];generalize (rj J.p.ts i).contains y=e at*
     cases e
     .  refine⟨s2,?_,by simpa [hx,hy,rV]using e2⟩;simp[-au,fk,bo,hx,hy,vc,jc,c1,e1]
     .  refine⟨s1,?_,by simpa [hx,hy,eH]using dO⟩;simp[-au,fk,bo,hx,hy,vc,jc,c1]
   . refine⟨s1,?_,by simpa [hy,eH]using dO⟩;simp[-au,fk,bo,hy]
 . refine⟨s1,?_,by simpa [hx,eH]using dO⟩;simp[-au,fk,bo,hx]
theorem afA(hc:bw c)(H:kA c fv s0 I M)(V:Vw s0 vb jb j J P G q g){r:Rl}{a b:Nat}{x y:Int}(hT:Two J q r a b x y)(hI:I s l)(hB:fM l+3<=1000000):
   ∃s',c 92 [.ptr vb 0,.agg r.cells,fv] s=some (.tuple [],s')/\I s' (l++Dj (qF q) a b (alf J)):=by
 refine H.fin hI (λh=>Lz hc 1 h) ?_;have hw:=(H.ai hI).wf;have dO:=H.grow hI (Grew.ah hw (.cells r.cells 0));have V1:=V.ai (H.ai dO);have fk:=aA s (.cells r.cells 0);rw[hT.two,Oq,dy,show AV.cells (.agg r.cells)=r.cells from rfl];generalize ah s (.cells r.cells 0)=s1 at*
 have vc:=V1.vc;have jc:=V1.jw.lU;have bo:=P8 hc V1 r hT.ga hT.gb hT.qa hT.qb;obtain⟨s2,v2,e1,e2,_⟩:=H.Sg dO hB a b;by_cases hx:0<=x
 . by_cases hy:0<=y
   . obtain⟨i,rfl,hi⟩:=V1.kz hT.qa hx;obtain⟨w,wb,wo,h1,h2⟩:=V1.rA hi;have c1:=FX hc V1 h1 h2 (KW _ _).2 hT.qa hT.qb;unfold alf;simp only[Zc8];generalize (z8 J.p.ts i).contains y=e at*
     cases e
     .  refine⟨s2,?_,by simpa [hx,hy,rV]using e2⟩;simp[-au,fk,bo,hx,hy,vc,jc,c1,e1]
     .  refine⟨s1,?_,by simpa [hx,hy,eH]using dO⟩;simp[-au,fk,bo,hx,hy,vc,jc,c1]
   . refine⟨s1,?_,by simpa [hy,eH]using dO⟩;simp[-au,fk,bo,hy]
 . refine⟨s1,?_,by simpa [hx,eH]using dO⟩;simp[-au,fk,bo,hx]
theorem alh(hc:bw c)(H:kA c fv s0 I M)(V:Vw s0 vb jb j J P G q g){r:Rl}{a b:Nat}{x y:Int}(hT:Two J q r a b x y)(hI:I s l)(hB:fM l+3<=1000000):
   ∃s',c 93 [.ptr vb 0,.agg r.cells,fv] s=some (.tuple [],s')/\I s' (l++Dj (qF q) a b (agh J r)):=by
 refine H.fin hI (λh=>Si hc 1 h) ?_;have hw:=(H.ai hI).wf;have dO:=H.grow hI (Grew.ah hw (.cells r.cells 0));have V1:=V.ai (H.ai dO);have fk:=aA s (.cells r.cells 0);rw[hT.two,WM,dy,show AV.cells (.agg r.cells)=r.cells from rfl];generalize ah s (.cells r.cells 0)=s1 at*
 have vc:=V1.vc;have jc:=V1.jw.lU;have bo:=P8 hc V1 r hT.ga hT.gb hT.qa hT.qb;obtain⟨s2,v2,e1,e2,_⟩:=H.Sg dO hB a b;by_cases hx:0<=x
 . by_cases hy:0<=y
   . obtain⟨i,rfl,hi⟩:=V1.kz hT.qa hx;have fa:=ani hc V1 hT.qa hi hT.qb;unfold agh adN;simp only[Zc8];by_cases hs:(jW (J.steps i) y).isSome=true
     .  by_cases hl:r.n<(jW (J.steps i) y).getD 0
        . refine⟨s2,?_,by simpa [hx,hy,hs,hl,rV]using e2⟩;simp[-au,fk,bo,hx,hy,vc,jc,fa,hs,hl,e1]
        . refine⟨s1,?_,by simpa [hx,hy,hs,hl,eH]using dO⟩;simp[-au,fk,bo,hx,hy,vc,jc,fa,hs,hl,e1]
     .  have hs:(jW (J.steps i) y).isSome=false:=(by simpa using hs);refine⟨s2,?_,by simpa [hx,hy,hs,rV]using e2⟩;simp[-au,fk,bo,hx,hy,vc,jc,fa,hs,e1]
   . refine⟨s1,?_,by simpa [hy,eH]using dO⟩;simp[-au,fk,bo,hy]
 . refine⟨s1,?_,by simpa [hx,eH]using dO⟩;simp[-au,fk,bo,hx]
theorem ajg(hc:bw c)(H:kA c fv s0 I M)(V:Vw s0 vb jb j J P G q g){r:Rl}{a b:Nat}{x y:Int}(hT:Two J q r a b x y)(hI:I s l)(hB:fM l+3<=1000000):
   ∃s',c 94 [.ptr vb 0,.agg r.cells,fv] s=some (.tuple [],s')/\I s' (l++Dj (qF q) a b (alg J)):=by
 refine H.fin hI (λh=>Ot hc 1 h) ?_;have hw:=(H.ai hI).wf;have dO:=H.grow hI (Grew.ah hw (.cells r.cells 0));have V1:=V.ai (H.ai dO);have fk:=aA s (.cells r.cells 0);rw[hT.two,Sj,dy,show AV.cells (.agg r.cells)=r.cells from rfl];generalize ah s (.cells r.cells 0)=s1 at*
 have vc:=V1.vc;have jc:=V1.jw.lU;have bo:=P8 hc V1 r hT.ga hT.gb hT.qa hT.qb;obtain⟨pb,po,p⟩:=pW V1.pq hT.qa;obtain⟨qb,qo,p'⟩:=pW V1.pq hT.qb;have p1:=λ{R}=>@p.pr R
 have p3:=p.one;have p4:=λ{R}=>@p'.pr R
 have p6:=p'.one;obtain⟨s2,v2,e1,e2,_⟩:=H.Sg dO hB a b;by_cases hx:0<=x
 . by_cases hy:0<=y
   . obtain⟨i,rfl,hi⟩:=V1.kz hT.qa hx;obtain⟨k,rfl,hk⟩:=V1.kz hT.qb hy;obtain⟨tb,to,t⟩:=V1.rT hi;obtain⟨ub,uo,u⟩:=V1.rT hk;have t1:=λ{R}=>@t.pr R
     have t3:=t.one;have u1:=λ{R}=>@u.pr R
     have u3:=u.one;unfold alg yK;simp only[Zc8];by_cases ht:cM J.p.ts i=cM J.p.ts k
     .  refine⟨s1,?_,by simpa [ht,eH]using dO⟩;simp[-au,fk,bo,hx,hy,vc,jc,p1,p3,p4,p6,t1,t3,u1,u3,ht]
     .  have d1:decide (((cM J.p.ts i:Nat):Int)=((cM J.p.ts k:Nat):Int))=false:=Za1 (by omega);refine⟨s2,?_,by simpa [hx,hy,ht,rV]using e2⟩;simp[-au,fk,bo,hx,hy,vc,jc,p1,p3,p4,p6,t1,t3,u1,u3,d1,e1]
   . refine⟨s1,?_,by simpa [hy,eH]using dO⟩;simp[-au,fk,bo,hy]
 . refine⟨s1,?_,by simpa [hx,eH]using dO⟩;simp[-au,fk,bo,hx]
def atP(J:Jt)(r:Rl)(x:Int):Bool:= !decide (WG J.p.ts (yK J x)=r.t)
def agi(J:Jt)(r:Rl)(x:Int):Bool:= !decide (WG J.p.ts (yK J x)=r.t)|| !decide (x - ((Bm (cM J.p.ts) (yK J x) x.toNat:Nat):Int)=r.n)
theorem ake{a:Nat}{x:Int}(h:q[a]? =some x)(P:Int->Bool):Wy (qF q) a P=yJ (decide (0<=x)&&P x) 1 [(a:Int)]:=by
 unfold Wy on;rw[mM h]
theorem atH(hc:bw c)(H:kA c fv s0 I M)(V:Vw s0 vb jb j J P G q g){r:Rl}{a:Nat}{x:Int}(ga:gi J.p r.a=(a:Int))(ha:q[a]? =some x)(hI:I s l)(hB:fM l+2<=1000000):
   ∃s',c 95 [.ptr vb 0,.agg r.cells,fv] s=some (.tuple [],s')/\I s' (l++Wy (qF q) a (atP J r)):=by
 refine H.fin hI (λh=>aa4 hc 1 h) ?_;have hw:=(H.ai hI).wf;have dO:=H.grow hI (Grew.ah hw (.cells r.cells 0));have V1:=V.ai (H.ai dO);have fk:=aA s (.cells r.cells 0);rw[ake ha,adO,dy,show AV.cells (.agg r.cells)=r.cells from rfl];generalize ah s (.cells r.cells 0)=s1 at*
 have vc:=V1.vc;have jc:=V1.jw.lU;have wh:=V1.who hc r.a;rw[ga]at wh;obtain⟨pb,po,p⟩:=pW V1.pq ha;have p1:=λ{R}=>@p.st R
 have p3:=p.one;obtain⟨s2,v2,e1,e2,_⟩:=H.YK dO hB a;by_cases hx:0<=x
 . obtain⟨i,rfl,hi⟩:=V1.kz ha hx;obtain⟨tb,to,t⟩:=V1.rT hi;have t1:=λ{R}=>@t.pr R
   have t3:=t.one;obtain⟨T,v,b,o,_,hn,h⟩:=V1.rN hi;have h1:=λ{R}=>@h.pr R
   have h2:=h.at' 0 _ rfl;rw[Zg0]at h2;unfold atP yK;simp only[Zc8,hn];by_cases hd:T.name=r.t
   . refine⟨s1,?_,by simpa [hd,eH]using dO⟩;simp[-au,fk,vc,jc,wh,p1,p3,hx,t1,t3,h1,h2,hd]
   . have d1:decide (T.name=r.t)=false:=Za1 hd;refine⟨s2,?_,by simpa [hd,rV]using e2⟩;simp[-au,fk,vc,jc,wh,p1,p3,hx,t1,t3,h1,h2,d1,e1]
 . refine⟨s1,?_,by simpa [hx,eH]using dO⟩;simp[-au,fk,vc,jc,wh,p1,p3,hx]
theorem asb(V:Vw s vb jb j J P G q g){i0:Nat}(tj:i0<J.N)(x2 x4 x6:AV)(F:Nat)(k2):∀(m i f:Nat),m<f->i<=m->i<J.N->
  pX c F k2 f [.ptr vb 0,x2,x4,x6,.int .i64 (i0:Int),.int .i64 (i:Int)] s=k2 [.ptr vb 0,x2,x4,x6,.int .i64 (i0:Int),.int .i64 ((Bm (cM J.p.ts) (cM J.p.ts i0) i:Nat):Int)] s:=by
 have vc:=V.vc;have jc:=V.jw.lU;obtain⟨tb,to,t⟩:=V.rT tj;have t1:=λ{R}=>@t.pr R
 have t3:=t.one;intro m;induction m with
 |zero=>
  intro i f hf hi _;obtain⟨f,rfl⟩:∃g,f=g+1:=⟨f - 1,by omega⟩
  obtain rfl:i=0:=by omega
  rw[rW];simp[Bm]
 |succ m ih=>
  intro i f hf hi hN;obtain⟨f,rfl⟩:∃g,f=g+1:=⟨f - 1,by omega⟩
  cases i with
  |zero=>rw[rW];simp[Bm]
  |succ i=>
   have wr:av .i64 (((i+1:Nat):Int) - 1)=(i:Int):=(by rw[wrap64 (by omega) (by have:=V.jw.nN;have:=V.jw.uv.ts;have:=(pP J.p.ts).2;omega)];omega);obtain⟨ub,uo,u⟩:=V.rT (i:=i) (by omega);have u1:=λ{R}=>@u.pr R
   have u3:=u.one;have hp:(0:Int)<((i+1:Nat):Int):=(by omega);unfold Bm;by_cases ht:cM J.p.ts i=cM J.p.ts i0
   .    rw[Zb2 ht, <-ih i f (by omega) (by omega) (by omega),rW];have d1:decide (((cM J.p.ts i:Nat):Int)=((cM J.p.ts i0:Nat):Int))=true:=Za0 (by omega);have GH:(0:Int)<(i:Int)+1:=(by omega);have wr2:av .i64 ((i:Int)+1 - 1)=(i:Int):=(by rw[show((i:Int)+1)=((i+1:Nat):Int)by omega];exact wr);simp only[aG,bg,dI,ajV,Za0 hp,adC,qQ,bt,Zb4,ajP,kJ,vc,jc,aB,Za8,Za4,Jc.c6,aQ,aj2,wr,u1,u3,t1,t3,adE,d1,RY,dh,ay,adF]
   .    rw[Za7 ht,rW];have d1:decide (((cM J.p.ts i:Nat):Int)=((cM J.p.ts i0:Nat):Int))=false:=Za1 (by omega);simp only[aG,bg,dI,ajV,Za0 hp,adC,qQ,bt,Zb4,ajP,kJ,vc,jc,aB,Za8,Za4,Jc.c6,aQ,aj2,wr,u1,u3,t1,t3,adE,d1,RY,dD]
theorem Vw.E8(V:Vw s vb jb j J P G q g):J.N<=100000/\J.n<=100:=by have:=V.jw.nN;have:=V.jw.uv.ts;have:=(pP J.p.ts).2;have:=V.jw.uv.gs;unfold Jt.n;omega
theorem ahy(tab:Nat->Nat)(t:Nat):∀i,Bm tab t i<=i
 |0=>Za3 _
 |i+1=>by have:=ahy tab t i;unfold Bm;split<;>omega
theorem apM(hc:bw c)(H:kA c fv s0 I M)(V:Vw s0 vb jb j J P G q g){r:Rl}{a:Nat}{x:Int}(ga:gi J.p r.a=(a:Int))(ha:q[a]? =some x)(hI:I s l)(hB:fM l+2<=1000000):
   ∃s',c 96 [.ptr vb 0,.agg r.cells,fv] s=some (.tuple [],s')/\I s' (l++Wy (qF q) a (agi J r)):=by
 refine H.fin hI (λh=>WN hc (x.toNat+1) h) ?_;have hw:=(H.ai hI).wf;have dO:=H.grow hI (Grew.ah hw (.cells r.cells 0));have V1:=V.ai (H.ai dO);have fk:=aA s (.cells r.cells 0);rw[ake ha,aa5,dy,show AV.cells (.agg r.cells)=r.cells from rfl];generalize ah s (.cells r.cells 0)=s1 at*
 have vc:=V1.vc;have jc:=V1.jw.lU;have wh:=V1.who hc r.a;rw[ga]at wh;obtain⟨pb,po,p⟩:=pW V1.pq ha;have p1:=λ{R}=>@p.st R
 have p3:=p.one;obtain⟨s2,v2,e1,e2,_⟩:=H.YK dO hB a;by_cases hx:0<=x
 . obtain⟨i,rfl,hi⟩:=V1.kz ha hx;have hN:=V1.E8;obtain⟨tb,to,t⟩:=V1.rT hi;have t1:=λ{R}=>@t.pr R
   have t3:=t.one;obtain⟨T,v,b,o,_,hn,h⟩:=V1.rN hi;have h1:=λ{R}=>@h.pr R
   have h2:=h.at' 0 _ rfl;rw[Zg0]at h2;have lp:=λk2=>asb (c:=c) V1 hi fv (.ptr s.next 0) (.int .i64 (a:Int)) (i+1) k2 i i (i+1) (by omega) (by omega) hi
   have bl:=ahy (cM J.p.ts) (cM J.p.ts i) i;have ws:av .i64 ((i:Int) - ((Bm (cM J.p.ts) (cM J.p.ts i) i:Nat):Int))=(i:Int) - ((Bm (cM J.p.ts) (cM J.p.ts i) i:Nat):Int):=wrap64 (by omega) (by omega);unfold agi yK;simp only[Zc8,hn];have dx:decide ((i:Int)<0)=false:=Za1 (by omega);by_cases hd:T.name=r.t
   . by_cases hm:(i:Int) - ((Bm (cM J.p.ts) (cM J.p.ts i) i:Nat):Int)=r.n
     .  refine⟨s1,?_,by simpa [hd,hm,eH]using dO⟩;have ws':av .i64 r.n=r.n:=(by rw[<-hm];exact ws);simp[-au,fk,vc,jc,wh,p1,p3,dx,lp,t1,t3,h1,h2,hd,ws',hm]
     .  have d2:decide ((i:Int) - ((Bm (cM J.p.ts) (cM J.p.ts i) i:Nat):Int)=r.n)=false:=Za1 hm;refine⟨s2,?_,by simpa [hd,hm,rV]using e2⟩;simp[-au,fk,vc,jc,wh,p1,p3,dx,lp,t1,t3,h1,h2,hd,ws,d2,e1]
   . have d1:decide (T.name=r.t)=false:=Za1 hd;refine⟨s2,?_,by simpa [hd,rV]using e2⟩;simp[-au,fk,vc,jc,wh,p1,p3,dx,lp,t1,t3,h1,h2,d1,e1]
 . have dx:decide (x<0)=true:=Za0 (by omega);refine⟨s1,?_,by simpa [hx,eH]using dO⟩;simp[-au,fk,vc,jc,wh,p1,p3,dx]
end
def SoC(c:aj)(sv:AV)(M:St->Pos->Prop)(s0 sB:St)(J:Jt)(q:List Int)(S:Nat->Nat->Int->Int->Bool):Prop:=
 ∀{s},Grew s0 s->gY M sB s->∀{a b i k:Nat},q[a]? =some (i:Int)->q[b]? =some (k:Int)->i<J.N->k<J.N->∀(K:AV->St->Option (AV×St)),aq c .callV [sv,.int .i64 (a:Int),.int .i64 (b:Int)] s K=K (.bool (S a b (i:Int) (k:Int))) s
section
variable{c : aj}{fv : AV}{s0 sB : St}{I : St -> List Ev -> Prop}{M : St -> Pos -> Prop}{s : St}{l : List Ev}{vb jb : Pos}{j : Jc}{J : Jt}{P G : AV}{q g : List Int}
def prP(J:Jt)(S:Nat->Nat->Int->Int->Bool)(a b:Nat)(x y:Int):Bool:=decide (yK J y=yK J x)&&S a b x y
theorem anj{a b:Nat}{x y:Int}(ha:q[a]? =some x)(hb:q[b]? =some y)(P:Nat->Nat->Int->Int->Bool):vz (qF q) P a b=yJ (decide (0<=x)&&decide (0<=y)&&P a b x y) 1 [(a:Int),(b:Int)]:=by
 unfold vz on;rw[mM ha,mM hb]
theorem ahz(P:Nat->Nat->Int->Int->Bool)(a b:Nat):fM (vz (qF q) P a b)<=3:=GW _ _ _
theorem apN(H:kA c fv s0 I M)(V:Vw s0 vb jb j J P G q g){sv:AV}{S:Nat->Nat->Int->Int->Bool}(hS:SoC c sv M s0 sB J q S){a i:Nat}(ha:q[a]? =some (i:Int))(hi:i<J.N)(x5 x15 x16 x17:AV)(F:Nat):
  ∀(m b f:Nat)(s:St)(l:List Ev),b+m=q.length->m<f->I s l->gY M sB s->fM l+3*m<=1000000->∃s',I s' (l++cG (vz (qF q) (prP J S) a) m b)/\gY M sB s'/\
   ∀k4,ij c F k4 f [.ptr vb 0,sv,fv,x5,.int .i64 (a:Int),.int .i64 (i:Int),.int .i64 (b:Int),x15,x16,x17] s=k4 [.ptr vb 0,sv,fv,x5,x15,x16,x17] s':=by
 intro m;induction m with
 |zero=>
  intro b f s l hb hf hI hF hB;obtain⟨f,rfl⟩:∃g,f=g+1:=⟨f - 1,by omega⟩
  have V1:=V.ai (H.ai hI);have vc:=V1.vc;have ln:=λ(K:AV->St->Option (AV×St))=>V1.pq.lenB (c:=c) K s
  rw[Za5]at ln;refine⟨s,by simpa [cG]using hI,hF,λk4=> ?_⟩;obtain rfl:b=q.length:=by omega
  rw[mN];simp[vc,ln]
 |succ m ih=>
  intro b f s l hb hf hI hF hB;obtain⟨f,rfl⟩:∃g,f=g+1:=⟨f - 1,by omega⟩
  have V1:=V.ai (H.ai hI);have vc:=V1.vc;have jc:=V1.jw.lU;have ln:=λ(K:AV->St->Option (AV×St))=>V1.pq.lenB (c:=c) K s
  rw[Za5]at ln;have zK:b<q.length:=by omega
  obtain⟨y,hy⟩:∃y,q[b]? =some y:=⟨_,H0 zK⟩
  obtain⟨pb,po,p⟩:=pW V1.pq hy;have p1:=λ{R}=>@p.st R
  have p3:=p.one;have hN:=V1.E8;have jx:=V.ql;have wr:av .i64 ((b:Int)+1)=((b+1:Nat):Int):=wrap64 (by omega) (by omega)
  have step:∃s2,I s2 (l++vz (qF q) (prP J S) a b)/\gY M sB s2/\∀k4,ij c F k4 (f+1) [.ptr vb 0,sv,fv,x5,.int .i64 (a:Int),.int .i64 (i:Int),.int .i64 (b:Int),x15,x16,x17] s=
        ij c F k4 f [.ptr vb 0,sv,fv,x5,.int .i64 (a:Int),.int .i64 (i:Int),.int .i64 ((b+1:Nat):Int),x15,x16,x17] s2:=by
   rw[anj ha hy];by_cases h0:0<=y
   .    obtain⟨k,rfl,hk⟩:=V1.kz hy h0;obtain⟨tb,to,t⟩:=V1.rT hi;obtain⟨ub,uo,u⟩:=V1.rT hk;have t1:=λ{R}=>@t.pr R
        have t3:=t.one;have u1:=λ{R}=>@u.pr R
        have u3:=u.one;unfold prP yK;simp only[Zc8];by_cases ht:cM J.p.ts k=cM J.p.ts i
        . have so:=hS (H.ai hI) hF ha hy hi hk;generalize S a b (i:Int) (k:Int)=e at*
          cases e
          . refine⟨s,by simpa [ht,eH]using hI,hF,λk4=> ?_⟩;rw[mN];simp[-au,cH,zK,vc,ln,jc,p1,p3,t1,t3,u1,u3,ht,so,wr]
          . obtain⟨s2,v2,e1,e2,e3⟩:=H.Sg hI (by omega) a b;refine⟨s2,by simpa [ht,rV]using e2,hF.trans e3,λk4=> ?_⟩;rw[mN];simp[-au,cH,zK,vc,ln,jc,p1,p3,t1,t3,u1,u3,ht,so,wr,e1]
        . have d1:decide (((cM J.p.ts k:Nat):Int)=((cM J.p.ts i:Nat):Int))=false:=Za1 (by omega);refine⟨s,by simpa [ht,eH]using hI,hF,λk4=> ?_⟩;rw[mN];simp[-au,cH,zK,vc,ln,jc,p1,p3,t1,t3,u1,u3,d1,wr]
   .    refine⟨s,by simpa [h0,eH]using hI,hF,λk4=> ?_⟩;rw[mN];simp[-au,cH,zK,vc,ln,jc,p1,p3,h0,wr]
  obtain⟨s2,a1,a2,a3⟩:=step;have vr:=ahz (q:=q) (prP J S) a b;obtain⟨s',z1,z2,z3⟩:=ih (b+1) f s2 _ (by omega) (by omega) a1 a2 (by rw[KV];omega);exact⟨s',by rw[cG, <-Zf1];exact z1,z2,λk4=>by rw[a3,z3]⟩
def rX(J:Jt)(r:Rl)(S:Nat->Nat->Int->Int->Bool)(a b:Nat)(x y:Int):Bool:=tG J.p.ts r.t x.toNat&&prP J S a b x y
theorem WO(P:Nat->Nat->Int->Int->Bool)(a:Nat):∀m k,fM (cG (vz (qF q) P a) m k)<=3*m:=λm k=>by have:=AM (f:=vz (qF q) P a) (B:=3) (λk=>ahz P a k) m k;omega
theorem apO(hc:bw c)(H:kA c fv s0 I M)(V:Vw s0 vb jb j J P G q g){sv:AV}{S:Nat->Nat->Int->Int->Bool}(hS:SoC c sv M s0 sB J q S){r:Rl}{rb:Pos}(hr:sB.heap.get rb=some (.cells r.cells 0))(tH:¬M sB rb)(F:Nat)(hFu:q.length<F):
  ∀(m a f:Nat)(s:St)(l:List Ev),a+m=q.length->m<f->I s l->gY M sB s->fM l+3*q.length*m<=1000000->∃s',I s' (l++cG (λa=>cG (vz (qF q) (rX J r S) a) (q.length - (a+1)) (a+1)) m a)/\gY M sB s'/\
   ∀k2,jy c F k2 f [.ptr vb 0,sv,fv,.ptr rb 0,P,.int .i64 (q.length:Int),.int .i64 (a:Int)] s=k2 [] s':=by
 intro m;induction m with
 |zero=>
  intro a f s l hb hf hI hF hB;obtain⟨f,rfl⟩:∃g,f=g+1:=⟨f - 1,by omega⟩
  refine⟨s,by simpa [cG]using hI,hF,λk2=> ?_⟩;obtain rfl:a=q.length:=by omega
  rw[qy];simp
 |succ m ih=>
  intro a f s l hb hf hI hF hB;obtain⟨f,rfl⟩:∃g,f=g+1:=⟨f - 1,by omega⟩
  have V1:=V.ai (H.ai hI);have vc:=V1.vc;have oG:a<q.length:=by omega
  obtain⟨y,hy⟩:∃y,q[a]? =some y:=⟨_,H0 oG⟩
  obtain⟨pb,po,p⟩:=pW V1.pq hy;have p1:=λ{R}=>@p.st R
  have p3:=p.one;have hN:=V1.E8;have jx:=V.ql;have fk:=(hF.2.2 rb _ tH hr).1;have wr:av .i64 ((a:Int)+1)=((a+1:Nat):Int):=wrap64 (by omega) (by omega);rw[Nat.mul_succ]at hB;have fp:=akd (qF q) (λx=>tG J.p.ts r.t x.toNat) (prP J S) a (q.length - (a+1)) (a+1);have fp:cG (vz (qF q) (rX J r S) a) (q.length - (a+1)) (a+1)=_:=fp;have e0:on (qF q) a=decide (0<=y):=by unfold on;rw[mM hy]
  rw[e0,mM hy]at fp
  have step:∃s2,I s2 (l++cG (vz (qF q) (rX J r S) a) (q.length - (a+1)) (a+1))/\gY M sB s2/\∀k2,jy c F k2 (f+1) [.ptr vb 0,sv,fv,.ptr rb 0,P,.int .i64 (q.length:Int),.int .i64 (a:Int)] s=
        jy c F k2 f [.ptr vb 0,sv,fv,.ptr rb 0,P,.int .i64 (q.length:Int),.int .i64 ((a+1:Nat):Int)] s2:=by
   rw[fp];by_cases h0:0<=y
   .    obtain⟨i,rfl,hi⟩:=V1.kz hy h0;have dn:decide ((i:Int)<0)=false:=Za1 (by omega);have ak:=GZ hc V1 r hi;simp only[Zc8,Za0 h0,Zg1];generalize tG J.p.ts r.t i=e at*
        cases e
        . refine⟨s,by simpa using hI,hF,λk2=> ?_⟩;rw[qy];simp[-au,cH,oG,p1,p3,dn,fk,ak,wr]
        . obtain⟨s2,z1,z2,z3⟩:=apN (c:=c) H V hS hy hi (.ptr rb 0) P (.int .i64 (q.length:Int)) (.int .i64 (a:Int)) F (q.length - (a+1)) (a+1) F s l (by omega) (by omega) hI hF (by have:=Zk5 3 (show q.length - (a+1)<=q.length by omega);omega);refine⟨s2,by simpa using z1,z2,λk2=> ?_⟩;simp only[show((a+1:Nat):Int)=(a:Int)+1 by omega]at z3 wr ⊢;rw[qy];simp[-au,cH,oG,p1,p3,dn,fk,ak,wr,z3]
   .    have dn:decide (y<0)=true:=Za0 (by omega);refine⟨s,by simpa [h0]using hI,hF,λk2=> ?_⟩;rw[qy];simp[-au,cH,oG,p1,p3,dn,wr]
  obtain⟨s2,a1,a2,a3⟩:=step;have vr:=WO (q:=q) (rX J r S) a (q.length - (a+1)) (a+1);obtain⟨s',z1,z2,z3⟩:=ih (a+1) f s2 _ (by omega) (by omega) a1 a2 (by rw[KV];have:=Zk5 3 (show q.length - (a+1)<=q.length by omega);omega);exact⟨s',by rw[cG, <-Zf1];exact z1,z2,λk2=>by rw[a3,z3]⟩
theorem Sk(hc:bw c)(H:kA c fv s0 I M)(V:Vw s0 vb jb j J P G q g){sv:AV}{S:Nat->Nat->Int->Int->Bool}(hS:SoC c sv M s0 s J q S)(r:Rl)(hI:I s l)(hB:fM l+3*q.length*q.length<=1000000):
  ∃s',c 164 [.ptr vb 0,.agg r.cells,sv,fv] s=some (.tuple [],s')/\I s' (l++zZ (qF q) q.length (rX J r S)):=by
 refine H.fin hI (λh=>UN hc (q.length+1) h) ?_;have hw:=(H.ai hI).wf;have gr:=Grew.ah hw (.cells r.cells 0);have dO:=H.grow hI gr;have V1:=V.ai (H.ai dO);have hF:=H.fr hI gr;have zL:SoC c sv M s0 (ah s (.cells r.cells 0)) J q S:=λ{s2} g1 g2=>hS g1 (hF.trans g2)
 have tH:¬M (ah s (.cells r.cells 0)) s.next:=λh=>by have:=H.mlt hI (H.mL hI gr h);omega
 have vc:=V1.vc;have ln:=λ(K:AV->St->Option (AV×St))=>V1.pq.lenB (c:=c) K (ah s (.cells r.cells 0))
 rw[Za5]at ln;obtain⟨s',z1,z2,z3⟩:=apO (c:=c) hc H V zL (aA s (.cells r.cells 0)) tH (q.length+1) (by omega) q.length 0 (q.length+1) _ l (by omega) (by omega) dO (gY.refl V1.wf) hB;refine⟨s',?_,z1⟩;rw[Y6,dy,show AV.cells (.agg r.cells)=r.cells from rfl];have z3:=z3 (λvs s=>mo vs (some (.tuple [],s)));simp only[ay,bY,aK,Zb4,aR,vc,aB,Za8,Za4,Zb7,aQ,ln];rw[show(0:Int)=((0:Nat):Int)from rfl,z3];rfl
end
def agj(J:Jt)(a:Nat):Int:=match J.p.gs[a]? with|some g=>g.side|none=>0
def acw(J:Jt)(a:Nat):List Nat:=match J.p.gs[a]? with|some g=>g.ke|none=>[]
def LA(J:Jt)(a b:Nat):Int:=(J.kQ.getD a []).getD b 0
def sH(J:Jt)(a:Nat):Int:=J.p.cs.getD a 0
def aa6(J:Jt)(a b:Nat)(x y:Int):Bool:=decide (0<agj J a)&&decide (agj J a=agj J b)&&(rj J.p.ts x.toNat).contains y
def aa7(J:Jt)(a b:Nat)(x y:Int):Bool:= !decide (acw J a=[])&&decide (acw J a=acw J b)&&(rj J.p.ts x.toNat).contains y
def LB(J:Jt)(a b:Nat)(x y:Int):Bool:=decide (LA J a b=2)&&YJ J.p.ts x.toNat y
def ahA(J:Jt)(x:Int):Int:=ID J.p.ts x
def WQ(J:Jt)(a b:Nat)(x y:Int):Bool:=if sH J b<sH J a then decide (sH J b<sH J a)&&decide (ahA J x<ahA J y)else decide (sH J a<sH J b)&&decide (ahA J y<ahA J x)
section
variable{c : aj}{fv : AV}{s0 sB : St}{I : St -> List Ev -> Prop}{M : St -> Pos -> Prop}{s : St}{l : List Ev}{vb jb : Pos}{j : Jc}{J : Jt}{P G : AV}{q g : List Int}
theorem Vw.pV(V:Vw s vb jb j J P G q g){a:Nat}{x:Int}(ha:q[a]? =some x):∃A v b o,J.p.gs[a]? =some A/\Rd s 9 j.V2 a b o (A.ax v):=by
 have h:a<J.p.gs.length:=by have:=V.ql;unfold Jt.n at this;rw[<-this];exact(Za2.1 ha).1
 obtain⟨v,b,o,h1⟩:=V.rG (H0 h);exact⟨_,v,b,o,H0 h,h1⟩
theorem afB(hc:bw c)(V:Vw s vb jb j J P G q g){vp:Pos}(hv:s.heap.get vp=some (.cells [.ptr vb 0] 0)){a b i:Nat}{y:Int}(ha:q[a]? =some (i:Int))(hb:q[b]? =some y)(hi:i<J.N):
   c 165 [.int .i64 (a:Int),.int .i64 (b:Int),.ptr vp 0] s=some (.bool (aa6 J a b (i:Int) y),s):=by
 rw[KF hc 1 (r:=(.bool (aa6 J a b (i:Int) y),s)),aC (Plain.bool _) (aW.refl s)];rw[MQ];have vc:=V.vc;have jc:=V.jw.lU;obtain⟨A,v,ab,ao,hA,h1⟩:=V.pV ha;obtain⟨B,v',bb,bo,hB,h2⟩:=V.pV hb;have r1:=λ{R}=>@h1.pr R
 have r2:=h1.at' 4 _ rfl;have r3:=λ{R}=>@h2.pr R
 have r4:=h2.at' 4 _ rfl;obtain⟨w,wb,wo,h3,h4⟩:=V.rB hi;have cl:=FX hc V h3 h4 (KW _ _).1 ha hb;unfold aa6 agj;rw[hA,hB];simp only[Zc8];generalize (rj J.p.ts i).contains y=e at*
 by_cases d1:0<A.side
 . by_cases d2:A.side=B.side
   . have G8:0<B.side:=(by rw[<-d2];exact d1);simp[hv,vc,jc,r1,r2,r3,r4,d1,G8,d2,cl]
   . have LC:decide (A.side=B.side)=false:=Za1 d2;simp[hv,vc,jc,r1,r2,r3,r4,d1,LC]
 . have G8:decide (0<A.side)=false:=Za1 d1;simp[hv,vc,jc,r1,r2,r3,r4,G8]
theorem asc(hc:bw c)(V:Vw s vb jb j J P G q g){vp:Pos}(hv:s.heap.get vp=some (.cells [.ptr vb 0] 0)){a b i:Nat}{y:Int}(ha:q[a]? =some (i:Int))(hb:q[b]? =some y)(hi:i<J.N):
   c 174 [.int .i64 (a:Int),.int .i64 (b:Int),.ptr vp 0] s=some (.bool (aa7 J a b (i:Int) y),s):=by
 rw[UO hc 1 (r:=(.bool (aa7 J a b (i:Int) y),s)),aC (Plain.bool _) (aW.refl s)];rw[Y7];have vc:=V.vc;have jc:=V.jw.lU;obtain⟨A,v,ab,ao,hA,h1⟩:=V.pV ha;obtain⟨B,v',bb,bo,hB,h2⟩:=V.pV hb;have r1:=λ{R}=>@h1.pr R
 have r2:=h1.at' 2 _ rfl;have r3:=λ{R}=>@h2.pr R
 have r4:=h2.at' 2 _ rfl;obtain⟨w,wb,wo,h3,h4⟩:=V.rB hi;have cl:=FX hc V h3 h4 (KW _ _).1 ha hb;unfold aa7 acw;rw[hA,hB];simp only[Zc8];generalize (rj J.p.ts i).contains y=e at*
 by_cases d1:A.ke=[]
 . have G8:decide (A.ke=[])=true:=Za0 d1;simp[hv,vc,jc,r1,r2,r3,r4,G8]
 . have G8:decide (A.ke=[])=false:=Za1 d1;by_cases d2:A.ke=B.ke
   . have LC:decide (A.ke=B.ke)=true:=Za0 d2;simp[hv,vc,jc,r1,r2,r3,r4,G8,LC,cl]
   . have LC:decide (A.ke=B.ke)=false:=Za1 d2;simp[hv,vc,jc,r1,r2,r3,r4,G8,LC]
theorem Vw.tie(V:Vw s vb jb j J P G q g){a b:Nat}{x y:Int}(ha:q[a]? =some x)(hb:q[b]? =some y):∃w p o p2 o2,Rd s 1 j.L7 a p o [w]/\Rd s 1 w b p2 o2 [.int .u8 (LA J a b)]:=by
 have h1:a<J.kQ.length:=by rw[V.jw.n2, <-V.ql];exact(Za2.1 ha).1
 have h2:b<J.kQ[a].length:=by rw[V.jw.n4 _ (Zb9 h1), <-V.ql];exact(Za2.1 hb).1
 have e:LA J a b=J.kQ[a][b]:=by
  unfold LA;rw[Zb6,Zb6,H0 h1,Zf2,H0 h2,Zf2]
 rw[e];exact V.rK (H0 h1) (H0 h2)
theorem ank(hc:bw c)(V:Vw s vb jb j J P G q g){vp:Pos}(hv:s.heap.get vp=some (.cells [.ptr vb 0] 0)){a b i:Nat}{y:Int}(ha:q[a]? =some (i:Int))(hb:q[b]? =some y)(hi:i<J.N):
   c 169 [.int .i64 (a:Int),.int .i64 (b:Int),.ptr vp 0] s=some (.bool (LB J a b (i:Int) y),s):=by
 rw[P9 hc 1 (r:=(.bool (LB J a b (i:Int) y),s)),aC (Plain.bool _) (aW.refl s)];rw[UP];have vc:=V.vc;have jc:=V.jw.lU;obtain⟨w,p,o,p2,o2,h1,h2⟩:=V.tie ha hb;have r1:=λ{R}=>@h1.st R
 have r2:=h1.one;have r3:=λ{R}=>@h2.st R
 have r4:=h2.one;have nr:=aeW hc V ha hi hb;unfold LB;simp only[Zc8];by_cases d1:LA J a b=2
 . have G8:decide (LA J a b=2)=true:=Za0 d1;simp[hv,vc,jc,r1,r2,r3,r4,G8,nr]
 . have G8:decide (LA J a b=2)=false:=Za1 d1;simp[hv,vc,jc,r1,r2,r3,r4,G8]
theorem Vw.cls(V:Vw s vb jb j J P G q g)(fh:J.p.cs.length=q.length){a:Nat}{x:Int}(ha:q[a]? =some x):∃b o,Rd s 1 j.V4 a b o [.int .i64 (sH J a)]:=by
 have h1:a<J.p.cs.length:=by rw[fh];exact(Za2.1 ha).1
 refine pW V.jw.cls (i:=a) ?_;unfold sH;rw[Zb6,H0 h1];rfl
theorem ali(hc:bw c)(V:Vw s vb jb j J P G q g)(fh:J.p.cs.length=q.length){vp:Pos}(hv:s.heap.get vp=some (.cells [.ptr vb 0] 0)){a b i k:Nat}(ha:q[a]? =some (i:Int))(hb:q[b]? =some (k:Int))(hi:i<J.N)(hk:k<J.N):
   c 171 [.int .i64 (a:Int),.int .i64 (b:Int),.ptr vp 0] s=some (.bool (WQ J a b (i:Int) (k:Int)),s):=by
 rw[Ou hc 1 (r:=(.bool (WQ J a b (i:Int) (k:Int)),s)),aC (Plain.bool _) (aW.refl s)];rw[Sl];have vc:=V.vc;have jc:=V.jw.lU;obtain⟨ab,ao,h1⟩:=V.cls fh ha;obtain⟨bb,bo,h2⟩:=V.cls fh hb;have r1:=λ{R}=>@h1.pr R
 have r2:=h1.one;have r3:=λ{R}=>@h2.pr R
 have r4:=h2.one;obtain⟨pb,po,p⟩:=pW V.pq ha;obtain⟨qb,qo,p'⟩:=pW V.pq hb;have p1:=λ{R}=>@p.pr R
 have p3:=p.one;have p4:=λ{R}=>@p'.pr R
 have p6:=p'.one;obtain⟨tb,to,t⟩:=V.rL hi;obtain⟨ub,uo,u⟩:=V.rL hk;have t1:=λ{R}=>@t.pr R
 have t3:=t.one;have u1:=λ{R}=>@u.pr R
 have u3:=u.one;unfold WQ ahA;by_cases d1:sH J b<sH J a
 . rw[Zb2 d1];have G8:decide (sH J b<sH J a)=true:=Za0 d1;simp[cH,hv,vc,jc,r1,r2,r3,r4,p1,p3,p4,p6,t1,t3,u1,u3,G8]
 . rw[Za7 d1];have G8:decide (sH J b<sH J a)=false:=Za1 d1;by_cases d2:sH J a<sH J b
   . have LC:decide (sH J a<sH J b)=true:=Za0 d2;simp[cH,hv,vc,jc,r1,r2,r3,r4,p1,p3,p4,p6,t1,t3,u1,u3,G8,LC]
   . have LC:decide (sH J a<sH J b)=false:=Za1 d2;simp[cH,hv,vc,jc,r1,r2,r3,r4,p1,p3,p4,p6,t1,t3,u1,u3,G8,LC]
theorem acy(V:Vw s0 vb jb j J P G q g){f:FuncId}{vp:Pos}{S:Nat->Nat->Int->Int->Bool}(hv:sB.heap.get vp=some (.cells [.ptr vb 0] 0))(hM:¬M sB vp)
  (dc:∀{s},Vw s vb jb j J P G q g->s.heap.get vp=some (.cells [.ptr vb 0] 0)->∀{a b i k:Nat},q[a]? =some (i:Int)->q[b]? =some (k:Int)->i<J.N->k<J.N->c f [.int .i64 (a:Int),.int .i64 (b:Int),.ptr vp 0] s=some (.bool (S a b (i:Int) (k:Int)),s)):
  SoC c (.func f [] [.ptr vp 0]) M s0 sB J q S:=λ{s} g1 hF {a b i k} ha hb hi hk K=>by
 rw[iQ];simp only[Ze1,Zd7];rw[dc (V.ai g1) (hF.2.2 vp _ hM hv).1 ha hb hi hk];rfl
theorem ase{q:Nat->Int}{P:Nat->Nat->Int->Int->Bool}(h:∀a b x y,P a b x y=false)(n:Nat):zZ q n P=[]:=by
 have h1:∀a m k,cG (vz q P a) m k=[]:=λa m=>by
  induction m with
  |zero=>intro k;rfl
  |succ m ih=>intro k;rw[cG,ih (k+1)];unfold vz;rw[h];simp[yJ]
 have h2:∀m k,cG (λa=>cG (vz q P a) (n - (a+1)) (a+1)) m k=[]:=λm=>by
  induction m with
  |zero=>intro k;rfl
  |succ m ih=>intro k;rw[cG,ih (k+1),h1];rfl
 exact h2 _ _
theorem afC(hc:bw c)(H:kA c fv s0 I M)(V:Vw s0 vb jb j J P G q g)(r:Rl)(hI:I s l)(hB:fM l+3*q.length*q.length<=1000000):
  ∃s',c 97 [.ptr vb 0,.agg r.cells,fv] s=some (.tuple [],s')/\I s' (l++zZ (qF q) q.length (rX J r (aa6 J))):=by
 refine H.fin hI (λh=>MR hc 1 h) ?_;have hw:=(H.ai hI).wf;have g1:=Grew.ah hw (.cells [.ptr vb 0] 0);have dO:=H.grow hI g1;have g2:=Grew.ah g1.wf (.cells r.cells 0);have uw:=H.grow dO g2;have b1:=g2.get (aA s (.cells [.ptr vb 0] 0));have b2:=aA (ah s (.cells [.ptr vb 0] 0)) (.cells r.cells 0);have hM:¬M (ah (ah s (.cells [.ptr vb 0] 0)) (.cells r.cells 0)) s.next:=λh=>by have:=H.mlt hI (H.mL hI g1 (H.mL dO g2 h));omega
 obtain⟨s',z1,z2⟩:=Sk hc H V (acy (f:=165) (S:=aa6 J) V b1 hM λ{s} V hv {a b i k} ha hb hi hk=>afB hc V hv ha hb hi) r uw hB;refine⟨s',?_,z2⟩;rw[Qa];simp[show AV.cells (.agg r.cells)=r.cells from rfl,show AV.cells (.ptr vb 0)=[.ptr vb 0]from rfl,b1,b2,z1]
theorem asf(hc:bw c)(H:kA c fv s0 I M)(V:Vw s0 vb jb j J P G q g)(r:Rl)(hI:I s l)(hB:fM l+3*q.length*q.length<=1000000):
  ∃s',c 107 [.ptr vb 0,.agg r.cells,fv] s=some (.tuple [],s')/\I s' (l++zZ (qF q) q.length (rX J r (aa7 J))):=by
 refine H.fin hI (λh=>Y8 hc 1 h) ?_;have hw:=(H.ai hI).wf;have g1:=Grew.ah hw (.cells [.ptr vb 0] 0);have dO:=H.grow hI g1;have g2:=Grew.ah g1.wf (.cells r.cells 0);have uw:=H.grow dO g2;have b1:=g2.get (aA s (.cells [.ptr vb 0] 0));have b2:=aA (ah s (.cells [.ptr vb 0] 0)) (.cells r.cells 0);have hM:¬M (ah (ah s (.cells [.ptr vb 0] 0)) (.cells r.cells 0)) s.next:=λh=>by have:=H.mlt hI (H.mL hI g1 (H.mL dO g2 h));omega
 obtain⟨s',z1,z2⟩:=Sk hc H V (acy (f:=174) (S:=aa7 J) V b1 hM λ{s} V hv {a b i k} ha hb hi hk=>asc hc V hv ha hb hi) r uw hB;refine⟨s',?_,z2⟩;rw[acz];simp[show AV.cells (.agg r.cells)=r.cells from rfl,show AV.cells (.ptr vb 0)=[.ptr vb 0]from rfl,b1,b2,z1]
theorem anl(hc:bw c)(H:kA c fv s0 I M)(V:Vw s0 vb jb j J P G q g)(r:Rl)(hI:I s l)(hB:fM l+3*q.length*q.length<=1000000):
  ∃s',c 101 [.ptr vb 0,.agg r.cells,fv] s=some (.tuple [],s')/\I s' (l++zZ (qF q) q.length (rX J r (LB J))):=by
 refine H.fin hI (λh=>UQ hc 1 h) ?_;have hw:=(H.ai hI).wf;have g1:=Grew.ah hw (.cells [.ptr vb 0] 0);have dO:=H.grow hI g1;have g2:=Grew.ah g1.wf (.cells r.cells 0);have uw:=H.grow dO g2;have b1:=g2.get (aA s (.cells [.ptr vb 0] 0));have b2:=aA (ah s (.cells [.ptr vb 0] 0)) (.cells r.cells 0);have hM:¬M (ah (ah s (.cells [.ptr vb 0] 0)) (.cells r.cells 0)) s.next:=λh=>by have:=H.mlt hI (H.mL hI g1 (H.mL dO g2 h));omega
 obtain⟨s',z1,z2⟩:=Sk hc H V (acy (f:=169) (S:=LB J) V b1 hM λ{s} V hv {a b i k} ha hb hi hk=>ank hc V hv ha hb hi) r uw hB;refine⟨s',?_,z2⟩;rw[Y9];simp[show AV.cells (.agg r.cells)=r.cells from rfl,show AV.cells (.ptr vb 0)=[.ptr vb 0]from rfl,b1,b2,z1]
theorem alj(hc:bw c)(H:kA c fv s0 I M)(V:Vw s0 vb jb j J P G q g)(fh:J.p.cs.length=q.length\/J.p.cs.length=0)(r:Rl)(hI:I s l)(hB:fM l+3*q.length*q.length<=1000000):
   ∃s',c 103 [.ptr vb 0,.agg r.cells,fv] s=some (.tuple [],s')/\I s' (l++zZ (qF q) q.length (rX J r (WQ J))):=by
 refine H.fin hI (λh=>Sn hc 1 h) ?_;have hw:=(H.ai hI).wf;have g1:=Grew.ah hw (.cells [.ptr vb 0] 0);have dO:=H.grow hI g1;have g2:=Grew.ah g1.wf (.cells r.cells 0);have uw:=H.grow dO g2;have b1:=g2.get (aA s (.cells [.ptr vb 0] 0));have b2:=aA (ah s (.cells [.ptr vb 0] 0)) (.cells r.cells 0);have hM:¬M (ah (ah s (.cells [.ptr vb 0] 0)) (.cells r.cells 0)) s.next:=λh=>by have:=H.mlt hI (H.mL hI g1 (H.mL dO g2 h));omega
 have V2:=V.ai (H.ai uw);have vc:=V2.vc;have jc:=V2.jw.lU;have ln:=λ(K:AV->St->Option (AV×St))(s:St)=>V2.jw.cls.lenB (c:=c) K s
 rw[Za5]at ln;by_cases h0:J.p.cs.length=0
 . refine⟨_,?_,by
    rw[ase,Zd9];· exact uw
    .   (intro a b x y;have e:∀a,sH J a=0:=λa=>by unfold sH;rw[Zc4 h0];rfl);unfold rX prP WQ;rw[e,e];simp⟩
   rw[He];simp[show AV.cells (.agg r.cells)=r.cells from rfl,show AV.cells (.ptr vb 0)=[.ptr vb 0]from rfl,b1,b2,vc,jc,ln,h0]
 . have h1:J.p.cs.length=q.length:=(by omega);obtain⟨s',z1,z2⟩:=Sk hc H V (acy (f:=171) (S:=WQ J) V b1 hM λ{s} V hv {a b i k} ha hb hi hk=>ali hc V h1 hv ha hb hi hk) r uw hB;refine⟨s',?_,z2⟩;have d0:decide ((J.p.cs.length:Int)=0)=false:=Za1 (by omega);rw[He];simp only[dy,show AV.cells (.agg r.cells)=r.cells from rfl,show AV.cells (.ptr vb 0)=[.ptr vb 0]from rfl,aR,b1,b2,aB,Za8,Za4,aQ,bY,aK,Zb4,vc,jc,Jc.c3,ln,dM,d0,dD,cK,Rl.cc,cO,Gt,ay,bR,z1,bH]
end
def art(J:Jt)(a:Nat):List Nat:=match J.p.gs[a]? with|some g=>g.name|none=>[]
def aru(J:Jt)(a:Nat):List Nat:=match J.p.gs[a]? with|some g=>g.nG|none=>[]
def gAcc(J:Jt)(a:Nat):Bool:=match J.p.gs[a]? with|some g=>g.access|none=>false
def So(J:Jt)(r:Rl)(a b:Nat)(x y:Int):Bool:=decide (LA J a b=1)&&(tG J.p.ts r.t x.toNat||tG J.p.ts r.t y.toNat)&& !YJ J.p.ts x.toNat y
def adP(J:Jt)(r:Rl)(a:Nat)(x:Int):Bool:= !Om J.p.ts x&&(decide (r.a=art J a)||(decide (r.a=[])&&gAcc J a))
def adQ(J:Jt)(r:Rl)(a:Nat)(x:Int):Bool:=decide (aru J a=r.a)&& !tG J.p.ts r.t x.toNat
section
variable{c : aj}{fv : AV}{s0 sB : St}{I : St -> List Ev -> Prop}{M : St -> Pos -> Prop}{s : St}{l : List Ev}{vb jb : Pos}{j : Jc}{J : Jt}{P G : AV}{q g : List Int}
theorem alk (hc:bw c)(H:kA c fv s0 I M)(V:Vw s0 vb jb j J P G q g){r:Rl}{rb:Pos}(hr:sB.heap.get rb=some (.cells r.cells 0))(tH:¬M sB rb){a:Nat}{x:Int}(ha:q[a]? =some x)(x13 x14 x15:AV)(F:Nat):
  ∀(m b f:Nat)(s:St)(l:List Ev),b+m=q.length->m<f->I s l->gY M sB s->fM l+3*m<=1000000->∃s',I s' (l++cG (vz (qF q) (So J r) a) m b)/\gY M sB s'/\
   ∀k4,fX c F k4 f [.ptr vb 0,fv,.ptr rb 0,.int .i64 (a:Int),.int .i64 x,.int .i64 (b:Int),x13,x14,x15] s=k4 [.ptr vb 0,fv,.ptr rb 0,x13,x14,x15] s':=by
 intro m;induction m with
 |zero=>
  intro b f s l hb hf hI hF hB;obtain⟨f,rfl⟩:∃g,f=g+1:=⟨f - 1,by omega⟩
  have V1:=V.ai (H.ai hI);have vc:=V1.vc;have ln:=λ(K:AV->St->Option (AV×St))=>V1.pq.lenB (c:=c) K s
  rw[Za5]at ln;refine⟨s,by simpa [cG]using hI,hF,λk4=> ?_⟩;obtain rfl:b=q.length:=by omega
  rw[iK];simp[vc,ln]
 |succ m ih  =>
  intro b f s l hb hf hI hF hB;obtain⟨f,rfl⟩:∃g,f=g+1:=⟨f - 1,by omega⟩
  have V1:=V.ai (H.ai hI);have vc:=V1.vc;have jc:=V1.jw.lU;have ln:=λ(K:AV->St->Option (AV×St))=>V1.pq.lenB (c:=c) K s
  rw[Za5]at ln;have zK:b<q.length:=by omega
  obtain⟨y,hy⟩:∃y,q[b]? =some y:=⟨_,H0 zK⟩
  obtain⟨pb,po,p⟩:=pW V1.pq hy;have p1:=λ{R}=>@p.st R
  have p3:=p.one;have hN:=V1.E8;have jx:=V.ql;have fk:=(hF.2.2 rb _ tH hr).1;have wr:av .i64 ((b:Int)+1)=((b+1:Nat):Int):=wrap64 (by omega) (by omega)
  have step  :∃s2,I s2 (l++vz (qF q) (So J r) a b)/\gY M sB s2/\∀k4,fX c F k4 (f+1) [.ptr vb 0,fv,.ptr rb 0,.int .i64 (a:Int),.int .i64 x,.int .i64 (b:Int),x13,x14,x15] s=
        fX c F k4 f [.ptr vb 0,fv,.ptr rb 0,.int .i64 (a:Int),.int .i64 x,.int .i64 ((b+1:Nat):Int),x13,x14,x15] s2:=by
   rw[anj ha hy];by_cases hx:0<=x
   .    by_cases h0:0<=y
        . obtain⟨i,rfl,hi⟩:=V1.kz ha hx;obtain⟨k,rfl,hk⟩:=V1.kz hy h0;obtain⟨w,tp,to,tp2,to2,h1,h2⟩:=V1.tie ha hy;have r1:=λ{R}=>@h1.st R
          have r2:=h1.one;have r3:=λ{R}=>@h2.st R
          have r4:=h2.one;have nr:=aeW hc V1 ha hi hy;have a1:=GZ hc V1 r hi;have a2:=GZ hc V1 r hk;unfold So;simp only[Zc8];by_cases ht:LA J a b=1
          . have dt:decide (LA J a b=1)=true:=Za0 ht;generalize YJ J.p.ts i (k:Int)=e at*
            generalize tG J.p.ts r.t i=e1 at*
            generalize tG J.p.ts r.t k=e2 at*
            cases e1<;>cases e2<;>cases e
            case false.false.false|false.false.true|false.true.true|true.false.true|true.true.true=>
             refine⟨s,by simpa [eH]using hI,hF,λk4=> ?_⟩;rw[iK];simp[-au,cH,zK,vc,ln,jc,p1,p3,r1,r2,r3,r4,dt,a1,a2,nr,fk,wr]
            all_goals
             obtain⟨s2,v2,e1,e2,e3⟩:=H.Sg hI (by omega) a b;refine⟨s2,by simpa [dt,rV]using e2,hF.trans e3,λk4=> ?_⟩;rw[iK];simp[-au,cH,zK,vc,ln,jc,p1,p3,r1,r2,r3,r4,dt,a1,a2,nr,fk,wr,e1]
          . have dt:decide (LA J a b=1)=false:=Za1 ht;refine⟨s,by simpa [ht,eH]using hI,hF,λk4=> ?_⟩;rw[iK];simp[-au,cH,zK,vc,ln,jc,p1,p3,r1,r2,r3,r4,dt,wr]
        . refine⟨s,by simpa [h0,eH]using hI,hF,λk4=> ?_⟩;rw[iK];simp[-au,cH,zK,vc,ln,jc,p1,p3,h0,hx,wr]
   .    refine⟨s,by simpa [hx,eH]using hI,hF,λk4=> ?_⟩;rw[iK];simp[-au,cH,zK,vc,ln,jc,p1,p3,hx,wr]
  obtain⟨s2,a1,a2,a3⟩:=step;have vr:=ahz (q:=q) (So J r) a b;obtain⟨s',z1,z2,z3⟩:=ih (b+1) f s2 _ (by omega) (by omega) a1 a2 (by rw[KV];omega);exact⟨s',by rw[cG, <-Zf1];exact z1,z2,λk4=>by rw[a3,z3]⟩
theorem alm(hc:bw c)(H:kA c fv s0 I M)(V:Vw s0 vb jb j J P G q g){r:Rl}{rb:Pos}(hr:sB.heap.get rb=some (.cells r.cells 0))(tH:¬M sB rb)(F:Nat)(hFu:q.length<F):
  ∀(m a f:Nat)(s:St)(l:List Ev),a+m=q.length->m<f->I s l->gY M sB s->fM l+3*q.length*m<=1000000->∃s',I s' (l++cG (λa=>cG (vz (qF q) (So J r) a) (q.length - (a+1)) (a+1)) m a)/\gY M sB s'/\
   ∀k2,mO c F k2 f [.ptr vb 0,fv,.ptr rb 0,P,.int .i64 (q.length:Int),.int .i64 (a:Int)] s=k2 [] s':=by
 intro m;induction m with
 |zero=>
  intro a f s l hb hf hI hF hB;obtain⟨f,rfl⟩:∃g,f=g+1:=⟨f - 1,by omega⟩
  refine⟨s,by simpa [cG]using hI,hF,λk2=> ?_⟩;obtain rfl:a=q.length:=by omega
  rw[AN];simp
 |succ m ih=>
  intro a f s l hb hf hI hF hB;obtain⟨f,rfl⟩:∃g,f=g+1:=⟨f - 1,by omega⟩
  have V1:=V.ai (H.ai hI);have oG:a<q.length:=by omega
  obtain⟨y,hy⟩:∃y,q[a]? =some y:=⟨_,H0 oG⟩
  obtain⟨pb,po,p⟩:=pW V1.pq hy;have p1:=λ{R}=>@p.st R
  have p3:=p.one;have hN:=V1.E8;have jx:=V.ql;have wr:av .i64 ((a:Int)+1)=(a:Int)+1:=wrap64 (by omega) (by omega);rw[Nat.mul_succ]at hB;have b3:=Zk5 3 (show q.length - (a+1)<=q.length by omega);obtain⟨s2,z1,z2,z3⟩:=alk (c:=c) hc H V hr tH hy P (.int .i64 (q.length:Int)) (.int .i64 (a:Int)) F (q.length - (a+1)) (a+1) F s l (by omega) (by omega) hI hF (by omega);simp only[show((a+1:Nat):Int)=(a:Int)+1 by omega]at z3;have vr:=WO (q:=q) (So J r) a (q.length - (a+1)) (a+1);obtain⟨s',y1,y2,y3⟩:=ih (a+1) f s2 _ (by omega) (by omega) z1 z2 (by rw[KV];omega);simp only[show((a+1:Nat):Int)=(a:Int)+1 by omega]at y3;refine⟨s',by rw[cG, <-Zf1];exact y1,y2,λk2=> ?_⟩;rw[<-y3 k2,AN];simp[-au,oG,p1,p3,wr,z3]
theorem ajh(hc:bw c)(H:kA c fv s0 I M)(V:Vw s0 vb jb j J P G q g)(r:Rl)(hI:I s l)(hB:fM l+3*q.length*q.length<=1000000):
  ∃s',c 102 [.ptr vb 0,.agg r.cells,fv] s=some (.tuple [],s')/\I s' (l++zZ (qF q) q.length (So J r)):=by
 refine H.fin hI (λh=>Qb hc (q.length+1) h) ?_;have hw:=(H.ai hI).wf;have gr:=Grew.ah hw (.cells r.cells 0);have dO:=H.grow hI gr;have V1:=V.ai (H.ai dO);have tH:¬M (ah s (.cells r.cells 0)) s.next:=λh=>by have:=H.mlt hI (H.mL hI gr h);omega
 have vc:=V1.vc;have ln:=λ(K:AV->St->Option (AV×St))=>V1.pq.lenB (c:=c) K (ah s (.cells r.cells 0))
 rw[Za5]at ln;obtain⟨s',z1,z2,z3⟩:=alm (c:=c) hc H V (aA s (.cells r.cells 0)) tH (q.length+1) (by omega) q.length 0 (q.length+1) _ l (by omega) (by omega) dO (gY.refl V1.wf) hB;refine⟨s',?_,z1⟩;rw[UR,dy,show AV.cells (.agg r.cells)=r.cells from rfl];have z3:=z3 (λvs s=>mo vs (some (.tuple [],s)));simp only[ay,bY,aK,Zb4,aR,vc,aB,Za8,Za4,Zb7,aQ,ln];rw[show(0:Int)=((0:Nat):Int)from rfl,z3];rfl
theorem ahB{a:Nat}{x:Int}(ha:q[a]? =some x)(P:Nat->Int->Bool):yJ (on (qF q) a&&P a (qF q a)) 1 [(a:Int)]=yJ (decide (0<=x)&&P a x) 1 [(a:Int)]:=by
 unfold on;rw[mM ha]
end
section
variable{c : aj}{fv : AV}{s0 sB : St}{I : St -> List Ev -> Prop}{M : St -> Pos -> Prop}{s : St}{l : List Ev}{vb jb : Pos}{j : Jc}{J : Jt}{P G : AV}{q g : List Int}
theorem YM{E:Nat->List Ev}{B n:Nat}(hE:∀a,fM (E a)<=B)(L:Q2->Nat->List AV->St->Option (AV×St))(args:Nat->List AV)(hz:∀(k2:Q2)(f:Nat)(s:St),L k2 (f+1) (args n) s=k2 [] s)
  (hs:∀(a:Nat)(s:St)(l:List Ev),a<n->I s l->gY M sB s->fM l+B<=1000000->∃s2,I s2 (l++E a)/\gY M sB s2/\∀(k2:Q2)(f:Nat),L k2 (f+1) (args a) s=L k2 f (args (a+1)) s2):
  ∀(m a f:Nat)(s:St)(l:List Ev),a+m=n->m<f->I s l->gY M sB s->fM l+B*m<=1000000->∃s',I s' (l++cG E m a)/\gY M sB s'/\∀k2,L k2 f (args a) s=k2 [] s':=by
 intro m;induction m with
 |zero=>
  intro a f s l hb hf hI hF hB;obtain⟨f,rfl⟩:∃g,f=g+1:=⟨f - 1,by omega⟩
  obtain rfl:a=n:=by omega
  exact⟨s,by simpa [cG]using hI,hF,λk2=>hz k2 f s⟩
 |succ m ih=>
  intro a f s l hb hf hI hF hB;obtain⟨f,rfl⟩:∃g,f=g+1:=⟨f - 1,by omega⟩
  rw[Nat.mul_succ]at hB;obtain⟨s2,a1,a2,a3⟩:=hs a s l (by omega) hI hF (by omega);have:=hE a;obtain⟨s',z1,z2,z3⟩:=ih (a+1) f s2 _ (by omega) (by omega) a1 a2 (by rw[KV];omega);exact⟨s',by rw[cG, <-Zf1];exact z1,z2,λk2=>by rw[a3,z3]⟩
def Z6(q:List Int)(P:Nat->Int->Bool)(a:Nat):List Ev:=yJ (on (qF q) a&&P a (qF q a)) 1 [(a:Int)]
theorem ahC(P:Nat->Int->Bool)(a:Nat):fM (Z6 q P a)<=2:=GW _ _ _
abbrev kK(vb rb:Pos)(fv P:AV)(n a:Nat):List AV:=[.ptr vb 0,fv,.ptr rb 0,P,.int .i64 (n:Int),.int .i64 (a:Int)]
theorem aln(H:kA c fv s0 I M)(V:Vw s0 vb jb j J P G q g){r:Rl}{rb:Pos}(hr:sB.heap.get rb=some (.cells r.cells 0))(tH:¬M sB rb)(F:Nat)(a:Nat)(s:St)(l:List Ev)(oG:a<q.length)(hI:I s l)(hF:gY M sB s)(hB:fM l+2<=1000000):
   ∃s2,I s2 (l++Z6 q (adP J r) a)/\gY M sB s2/\∀(k2:Q2)(f:Nat),jz c F k2 (f+1) (kK vb rb fv P q.length a) s=jz c F k2 f (kK vb rb fv P q.length (a+1)) s2:=by
 have V1:=V.ai (H.ai hI);have vc:=V1.vc;have jc:=V1.jw.lU;obtain⟨y,hy⟩:∃y,q[a]? =some y:=⟨_,H0 oG⟩
 obtain⟨pb,po,p⟩:=pW V1.pq hy;have p1:=λ{R}=>@p.st R
 have p3:=p.one;have hN:=V1.E8;have jx:=V.ql;have fk:=(hF.2.2 rb _ tH hr).1;have wr:av .i64 ((a:Int)+1)=(a:Int)+1:=wrap64 (by omega) (by omega);unfold Z6;rw[ahB hy];by_cases h0:0<=y
 . obtain ⟨ k,rfl,hk⟩:=V1.kz hy h0;obtain⟨ub,uo,u⟩:=V1.rO hk;have u1:=λ{R}=>@u.pr R
   have u3:=u.one;obtain⟨A,v,ab,ao,hA,h1⟩:=V1.pV hy;have r1:=λ{R}=>@h1.pr R
   have r2:=h1.at' 0 _ rfl;rw[Zg0]at r2;have r3:=h1.at' 7 _ rfl;unfold adP art gAcc;rw[hA];simp only;generalize Om J.p.ts (k:Int)=o at*
   cases o
   . by_cases hn:r.a=A.name
     .  obtain⟨s2,v2,a1,a2,a3⟩:=H.YK hI hB a;refine⟨s2,by simpa [hn,rV]using a2,hF.trans a3,λk2 f=> ?_⟩;simp only[kK,show((a+1:Nat):Int)=(a:Int)+1 by omega];rw[iC];simp[-au,cH,oG,p1,p3,vc,jc,u1,u3,r1,r2,r3,fk,hn,a1,wr]
     .  have Hf:decide (r.a=A.name)=false:=Za1 hn;by_cases he:r.a=[]
        . have Li:decide (r.a=[])=true:=Za0 he;cases hac:A.access
          . refine⟨s,by simpa [hn,hac,eH]using hI,hF,λk2 f=> ?_⟩;rw[hac]at r3;simp only[kK,show((a+1:Nat):Int)=(a:Int)+1 by omega];rw[iC];simp[-au,cH,oG,p1,p3,vc,jc,u1,u3,r1,r2,r3,fk,Hf,Li,wr]
          . obtain⟨s2,v2,a1,a2,a3⟩:=H.YK hI hB a;rw[hac]at r3;refine⟨s2,by simpa [he,hac,rV]using a2,hF.trans a3,λk2 f=> ?_⟩;simp only[kK,show((a+1:Nat):Int)=(a:Int)+1 by omega];rw[iC];simp[-au,cH,oG,p1,p3,vc,jc,u1,u3,r1,r2,r3,fk,Hf,Li,a1,wr]
        . have Li:decide (r.a=[])=false:=Za1 he;refine⟨s,by simpa [hn,he,eH]using hI,hF,λk2 f=> ?_⟩;simp only[kK,show((a+1:Nat):Int)=(a:Int)+1 by omega];rw[iC];simp[-au,cH,oG,p1,p3,vc,jc,u1,u3,r1,r2,r3,fk,Hf,Li,wr]
   . refine⟨s,by simpa [eH]using hI,hF,λk2 f=> ?_⟩;simp only[kK,show((a+1:Nat):Int)=(a:Int)+1 by omega];rw[iC];simp[-au,cH,oG,p1,p3,vc,jc,u1,u3,wr]
 . refine⟨s,by simpa [h0,eH]using hI,hF,λk2 f=> ?_⟩;simp only[kK,show((a+1:Nat):Int)=(a:Int)+1 by omega];rw[iC];simp[-au,cH,oG,p1,p3,h0,wr]
theorem ahD(hc:bw c)(H:kA c fv s0 I M)(V:Vw s0 vb jb j J P G q g){r:Rl}{rb:Pos}(hr:sB.heap.get rb=some (.cells r.cells 0))(tH:¬M sB rb)(F:Nat)(a:Nat)(s:St)(l:List Ev)(oG:a<q.length)(hI:I s l)(hF:gY M sB s)(hB:fM l+2<=1000000):
   ∃s2,I s2 (l++Z6 q (adQ J r) a)/\gY M sB s2/\∀(k2:Q2)(f:Nat),iD c F k2 (f+1) (kK vb rb fv P q.length a) s=iD c F k2 f (kK vb rb fv P q.length (a+1)) s2:=by
 have V1:=V.ai (H.ai hI);have vc:=V1.vc;have jc:=V1.jw.lU;obtain⟨y,hy⟩:∃y,q[a]? =some y:=⟨_,H0 oG⟩
 obtain⟨pb,po,p⟩:=pW V1.pq hy;have p1:=λ{R}=>@p.st R
 have p3:=p.one;have hN:=V1.E8;have jx:=V.ql;have fk:=(hF.2.2 rb _ tH hr).1;have wr:av .i64 ((a:Int)+1)=(a:Int)+1:=wrap64 (by omega) (by omega);unfold Z6;rw[ahB hy];by_cases h0:0<=y
 . obtain⟨k,rfl,hk⟩:=V1.kz hy h0;have ak:=GZ hc V1 r hk;obtain⟨A,v,ab,ao,hA,h1⟩:=V1.pV hy;have r1:=λ{R}=>@h1.pr R
   have r2:=h1.at' 5 _ rfl;unfold adQ aru;rw[hA];simp only[Zc8];generalize tG J.p.ts r.t k=e at*
   by_cases hn:A.nG=r.a
   . have Hf:decide (A.nG=r.a)=true:=Za0 hn;cases e
     .  obtain⟨s2,v2,a1,a2,a3⟩:=H.YK hI hB a;refine⟨s2,by simpa [hn,rV]using a2,hF.trans a3,λk2 f=> ?_⟩;simp only[kK,show((a+1:Nat):Int)=(a:Int)+1 by omega];rw[kB];simp[-au,cH,oG,p1,p3,vc,jc,r1,r2,fk,Hf,ak,a1,wr]
     .  refine⟨s,by simpa [eH]using hI,hF,λk2 f=> ?_⟩;simp only[kK,show((a+1:Nat):Int)=(a:Int)+1 by omega];rw[kB];simp[-au,cH,oG,p1,p3,vc,jc,r1,r2,fk,Hf,ak,wr]
   . have Hf:decide (A.nG=r.a)=false:=Za1 hn;refine⟨s,by simpa [hn,eH]using hI,hF,λk2 f=> ?_⟩;simp only[kK,show((a+1:Nat):Int)=(a:Int)+1 by omega];rw[kB];simp[-au,cH,oG,p1,p3,vc,jc,r1,r2,fk,Hf,wr]
 . refine⟨s,by simpa [h0,eH]using hI,hF,λk2 f=> ?_⟩;simp only[kK,show((a+1:Nat):Int)=(a:Int)+1 by omega];rw[kB];simp[-au,cH,oG,p1,p3,h0,wr]
theorem anm(H:kA c fv s0 I M)(hc:bw c)(V:Vw s0 vb jb j J P G q g)(r:Rl)(hI:I s l)(hB:fM l+2*q.length<=1000000):
  ∃s',c 99 [.ptr vb 0,.agg r.cells,fv] s=some (.tuple [],s')/\I s' (l++Oj (qF q) q.length (adP J r)):=by
 refine H.fin hI (λh=>US hc (q.length+1) h) ?_;have hw:=(H.ai hI).wf;have gr:=Grew.ah hw (.cells r.cells 0);have dO:=H.grow hI gr;have V1:=V.ai (H.ai dO);have tH:¬M (ah s (.cells r.cells 0)) s.next:=λh=>by have:=H.mlt hI (H.mL hI gr h);omega
 have vc:=V1.vc;have ln:=λ(K:AV->St->Option (AV×St))=>V1.pq.lenB (c:=c) K (ah s (.cells r.cells 0))
 rw[Za5]at ln
 obtain⟨s',z1,z2,z3⟩:=YM (E:=Z6 q (adP J r)) (n:=q.length) (ahC _) (λk2=>jz c (q.length+1) k2) (kK vb s.next fv P q.length) (λk2 f s=>by rw[iC];simp)
  (aln (c:=c) H V (aA s (.cells r.cells 0)) tH (q.length+1)) q.length 0 (q.length+1) _ l (by omega) (by omega) dO (gY.refl V1.wf) hB
 refine⟨s',?_,z1⟩;rw[Za,dy,show AV.cells (.agg r.cells)=r.cells from rfl];have z3:=z3 (λvs s=>mo vs (some (.tuple [],s)));simp only[ay,bY,aK,Zb4,aR,vc,aB,Za8,Za4,Zb7,aQ,ln];exact z3.trans rfl
theorem aji(H:kA c fv s0 I M)(hc:bw c)(V:Vw s0 vb jb j J P G q g)(r:Rl)(hI:I s l)(hB:fM l+2*q.length<=1000000):
  ∃s',c 106 [.ptr vb 0,.agg r.cells,fv] s=some (.tuple [],s')/\I s' (l++Oj (qF q) q.length (adQ J r)):=by
 refine H.fin hI (λh=>Qc hc (q.length+1) h) ?_;have hw:=(H.ai hI).wf;have gr:=Grew.ah hw (.cells r.cells 0);have dO:=H.grow hI gr;have V1:=V.ai (H.ai dO);have tH:¬M (ah s (.cells r.cells 0)) s.next:=λh=>by have:=H.mlt hI (H.mL hI gr h);omega
 have vc:=V1.vc;have ln:=λ(K:AV->St->Option (AV×St))=>V1.pq.lenB (c:=c) K (ah s (.cells r.cells 0))
 rw[Za5]at ln
 obtain⟨s',z1,z2,z3⟩:=YM (E:=Z6 q (adQ J r)) (n:=q.length) (ahC _) (λk2=>iD c (q.length+1) k2) (kK vb s.next fv P q.length) (λk2 f s=>by rw[kB];simp)
  (ahD (c:=c) hc H V (aA s (.cells r.cells 0)) tH (q.length+1)) q.length 0 (q.length+1) _ l (by omega) (by omega) dO (gY.refl V1.wf) hB
 refine⟨s',?_,z1⟩;rw[UT,dy,show AV.cells (.agg r.cells)=r.cells from rfl];have z3:=z3 (λvs s=>mo vs (some (.tuple [],s)));simp only[ay,bY,aK,Zb4,aR,vc,aB,Za8,Za4,Zb7,aQ,ln];exact z3.trans rfl
end
def alo(J:Jt)(a:Nat)(h:Int):Bool:=(J.kP.getD a []).getD h.toNat false
def IE(J:Jt)(g:List Int)(a:Nat):List Int->Bool->Bool->Bool×Bool
 |[],so,si=>(so,si)
 |k::r,so,si=>if 0<=g.getD k.toNat (-1)then IE J g a r true (si&& !alo J a (g.getD k.toNat (-1)))else IE J g a r so si
def aa8(J:Jt)(g:List Int)(a:Nat)(x:Int):Bool×Bool:=IE J g a (z8 J.p.ts x.toNat) (IE J g a (rj J.p.ts x.toNat) false true).1 (IE J g a (rj J.p.ts x.toNat) false true).2
def adR(J:Jt)(r:Rl)(g:List Int)(a:Nat)(x:Int):Bool:=tG J.p.ts r.t x.toNat&&((aa8 J g a x).1&&(aa8 J g a x).2)
section
variable{c : aj}{fv : AV}{s0 sB : St}{I : St -> List Ev -> Prop}{M : St -> Pos -> Prop}{s : St}{l : List Ev}{vb jb : Pos}{j : Jc}{J : Jt}{P G : AV}{q g : List Int}
theorem Vw.com(V:Vw s vb jb j J P G q g){a b:Nat}(ha:a<J.n)(hb:b<J.n):∃w p o p2 o2,Rd s 1 j.L6 a p o [w]/\Rd s 1 w b p2 o2 [.bool (alo J a (b:Int))]:=by
 have h1:a<J.kP.length:=by rw[V.jw.n1];exact ha
 have h2:b<J.kP[a].length:=by rw[V.jw.n3 _ (Zb9 h1)];exact hb
 have e:alo J a (b:Int)=J.kP[a][b]:=by
  unfold alo;rw[Zc8,Zb6,Zb6,H0 h1,Zf2,H0 h2,Zf2]
 rw[e];exact V.rC (H0 h1) (H0 h2)
theorem ahE(V:Vw s vb jb j J P G q g){w:AV}{r:List Int}(hw:QS 1 s w (r.map bU))(hr:∀k∈r,0<=k/\k<(J.N:Int))(hl:r.length<=1000){a:Nat}(ha:a<J.n)(x2 x4 x18 x19 x20 x54 x55 x56:AV)(F:Nat)(k6:Q2):
  ∀ (m k f:Nat)(so si:Bool),k+m=r.length->m<f->jC c F k6 f [.ptr vb 0,x2,x4,.int .i64 (a:Int),.bool so,.bool si,x18,x19,x20,x54,x55,x56,w,.int .i64 (r.length:Int),.int .i64 (k:Int)] s=
    k6 [.ptr vb 0,x2,x4,.int .i64 (a:Int),.bool (IE J g a (r.drop k) so si).1,.bool (IE J g a (r.drop k) so si).2,x18,x19,x20,x54,x55,x56] s:=by
 have vc:=V.vc;have jc:=V.jw.lU;intro m;induction m with
 |zero=>
  intro k f so si hk hf;obtain⟨f,rfl⟩:∃g,f=g+1:=⟨f - 1,by omega⟩
  obtain rfl:k=r.length:=by omega
  rw[vO];simp[IE]
 |succ m ih=>
  intro k f so si hk hf;obtain⟨f,rfl⟩:∃g,f=g+1:=⟨f - 1,by omega⟩
  have dN:k<r.length:=by omega
  obtain⟨wb,wo,w1⟩:=pW hw (H0 dN);have q1:=λ{R}=>@w1.st R
  have q3:=w1.one;have wr:av .i64 ((k:Int)+1)=((k+1:Nat):Int):=wrap64 (by omega) (by omega);have bd:=hr _ (Zb9 dN);obtain⟨i,hi⟩:∃i:Nat,r[k]=(i:Int):=⟨r[k].toNat,by omega⟩
  have hiN:i<J.N:=by omega
  have Qd:i<g.length:=by rw[V.gl];exact hiN
  obtain⟨gb,go,g1⟩:=pW V.gq (H0 Qd);have g2:=λ{R}=>@g1.st R
  have g3:=g1.one;have eg:g.getD i (-1)=g[i]:=by rw[Zb6,H0 Qd];rfl
  rw[Zd1 dN,hi];rw[hi]at q3;unfold IE;rw[Zc8,eg];by_cases h0:0<=g[i]
  . obtain⟨h,hh⟩:∃h:Nat,g[i]=(h:Int):=⟨g[i].toNat,by omega⟩
    have hn:h<J.n:=(by have:=V.og _ (Zb9 Qd);omega);obtain⟨w',cp,co,I3,co2,h1,h2⟩:=V.com ha hn;have r1:=λ{R}=>@h1.st R
    have r2:=h1.one;have r3:=λ{R}=>@h2.st R
    have r4:=h2.one;rw[hh]at g3 h0 ⊢;rw[Zb2 h0, <-ih (k+1) f true _ (by omega) (by omega),vO];cases si<;>simp[cH,dN,q1,q3,vc,jc,g2,g3,r1,r2,r3,r4,wr]
  . have d0:decide (0<=g[i])=false:=Za1 h0;rw[Za7 h0, <-ih (k+1) f so si (by omega) (by omega),vO];simp[cH,dN,q1,q3,vc,jc,g2,g3,d0,wr]
theorem ahF{R:Type}(K:AV->Option R)(b:Pos)(off len es:Nat)(cap:Option Nat):fu (.lenB .l) [.slice b off len cap es] K=K (.int .i64 (len:Int)):=dm K (λH n=>rfl)
theorem alp(hc:bw c)(H:kA c fv s0 I M)(V:Vw s0 vb jb j J P G q g){r:Rl}{rb:Pos}(hr:sB.heap.get rb=some (.cells r.cells 0))(tH:¬M sB rb){F:Nat}(hFu:1001<=F)(a:Nat)(s:St)(l:List Ev)(oG:a<q.length)(hI:I s l)(hF:gY M sB s)(hB:fM l+2<=1000000):
   ∃s2,I s2 (l++Z6 q (adR J r g) a)/\gY M sB s2/\∀(k2:Q2)(f:Nat),fY c F k2 (f+1) (kK vb rb fv P q.length a) s=fY c F k2 f (kK vb rb fv P q.length (a+1)) s2:=by
 have V1:=V.ai (H.ai hI);have vc:=V1.vc;have jc:=V1.jw.lU;obtain⟨y,hy⟩:∃y,q[a]? =some y:=⟨_,H0 oG⟩
 obtain⟨pb,po,p⟩:=pW V1.pq hy;have p1:=λ{R}=>@p.st R
 have p3:=p.one;have p4:=λ{R}=>@p.pr R
 have hN:=V1.E8;have jx:=V.ql;have fk:=(hF.2.2 rb _ tH hr).1;have wr:av .i64 ((a:Int)+1)=(a:Int)+1:=wrap64 (by omega) (by omega);unfold Z6;rw[ahB hy];by_cases h0:0<=y
 . obtain⟨k,rfl,hk⟩:=V1.kz hy h0;have dn:decide ((k:Int)<0)=false:=Za1 (by omega);have ak:=GZ hc V1 r hk;unfold adR aa8;simp only[Zc8];generalize tG J.p.ts r.t k=e at*
   cases e
   . refine⟨s,by simpa [eH]using hI,hF,λk2 f=> ?_⟩;simp only[kK,show((a+1:Nat):Int)=(a:Int)+1 by omega];rw[mP];simp[-au,cH,oG,p1,p3,dn,fk,ak,wr]
   . obtain⟨w1,b1,o1,h1,h2⟩:=V1.rB hk;obtain⟨w2,b2,o2,h3,h4⟩:=V1.rA hk;have m1:=λ{R}=>@h1.pr R
     have m2:=h1.one;have m3:=λ{R}=>@h3.pr R
     have m4:=h3.one;have bdB:=(aa9 V.jw.nN).1 (rj J.p.ts k) (by unfold xV;exact Zc9.2 ⟨k,Zh1.2 hk,rfl⟩);have bdA:=(aa9 V.jw.nN).2 (z8 J.p.ts k) (by unfold xW;exact Zc9.2 ⟨k,Zh1.2 hk,rfl⟩);obtain⟨wc1,_⟩:=QS.cells h2;obtain⟨wc2,_⟩:=QS.cells h4;have ef:cF (bX [AV.af] 2) ([0,1].map λi=>(i*1,1)) [w1,w2]=some [w1,w2]:=by
        simp[cF,bX,dz,dB,aX,wc1,wc2]
     have nw:=λ(K:AV->AB->Option (AV×St))=>(qu s 1 2 [.af] [0,1] [w1,w2] K).trans (by rw[ef])
     have gN:=Grew.ah V1.wf (.cells [w1,w2] 0);have uw:=H.grow hI gN;have hF2:=hF.trans (H.fr hI gN);have V2:=V.ai (H.ai uw);have hx:=aA s (.cells [w1,w2] 0);have hn1:a<J.n:=(by omega);have l1:=λ(so si:Bool)(x55 x56:AV)(k6:Q2)=>ahE (c:=c) V2 (h2.ai gN) bdB.2 bdB.1 hn1 fv (.ptr rb 0) P (.int .i64 (q.length:Int)) (.int .i64 (a:Int)) (.slice s.next 0 2 (some 2) 1) x55 x56 F k6 (rj J.p.ts k).length 0 F so si (by omega) (by omega)
     have l2:=λ(so si:Bool)(x55 x56:AV)(k6:Q2)=>ahE (c:=c) V2 (h4.ai gN) bdA.2 bdA.1 hn1 fv (.ptr rb 0) P (.int .i64 (q.length:Int)) (.int .i64 (a:Int)) (.slice s.next 0 2 (some 2) 1) x55 x56 F k6 (z8 J.p.ts k).length 0 F so si (by omega) (by omega)
     (simp only[Ze2,show((0:Nat):Int)=0 from rfl]at l1 l2;have ln1:=λ(K:AV->St->Option (AV×St))=>(h2.ai gN).lenB (c:=c) K (ah s (.cells [w1,w2] 0)));have ln2:=λ(K:AV->St->Option (AV×St))=>(h4.ai gN).lenB (c:=c) K (ah s (.cells [w1,w2] 0))
     (rw[Za5]at ln1 ln2;have ix0:=λ(K:AV->St->Option (AV×St))(s1:St)=>iy c K s1 (b:=s.next) (off:=0) (len:=2) (es:=1) (es':=1) (cap:=some 2) (k:= .i64) (i:=0) (by omega));have ix1:=λ(K:AV->St->Option (AV×St))(s1:St)=>iy c K s1 (b:=s.next) (off:=0) (len:=2) (es:=1) (es':=1) (cap:=some 2) (k:= .i64) (i:=1) (by omega)
     simp only[show((0:Nat):Int)=0 from rfl,show((1:Nat):Int)=1 from rfl,Zn7,Zg0,Zn1,Zb4]at ix0 ix1;have w11:av .i64 ((0:Int)+1)=1:=wrap64 (by omega) (by omega);have w12:av .i64 ((1:Int)+1)=2:=wrap64 (by omega) (by omega);obtain⟨F',rfl⟩:∃n,F=n+3:=⟨F - 3,by omega⟩
     have L1:∀k4:Q2,lV c (F'+3) k4 (F'+3) [.ptr vb 0,fv,.ptr rb 0,.int .i64 (a:Int),.bool false,.bool true,P,.int .i64 (q.length:Int),.int .i64 (a:Int),.slice s.next 0 2 (some 2) 1,.int .i64 2,.int .i64 0] (ah s (.cells [w1,w2] 0))=
         k4 [.ptr vb 0,fv,.ptr rb 0,.int .i64 (a:Int),.bool (aa8 J g a (k:Int)).1,.bool (aa8 J g a (k:Int)).2,P,.int .i64 (q.length:Int),.int .i64 (a:Int)] (ah s (.cells [w1,w2] 0)):=λk4=>by
        unfold aa8;rw[Zc8,vP];simp only[aG,bg,cU,show decide ((0:Int)<2)=true from rfl,dh,ix0,aR,hx,aB,Za8,Za4,aQ,ay,ln1,l1,eu,w11];rw[vP];simp only[aG,bg,cU,show decide ((1:Int)<2)=true from rfl,dh,ix1,aR,hx,aB,Za8,Za4,Zb7,aQ,ay,ln2,l2,eu,w12];rw[vP];simp only[aG,bg,cU,show decide ((2:Int)<2)=false from rfl,dD]
     unfold aa8 at L1;rw[Zc8]at L1;generalize IE J g a (z8 J.p.ts k) (IE J g a (rj J.p.ts k) false true).1 (IE J g a (rj J.p.ts k) false true).2=e at*
     obtain⟨so,si⟩:=e;have tail:∃s2,I s2 (l++yJ (so&&si) 1 [(a:Int)])/\gY M sB s2/\∀(k2:Q2)(f:Nat),fY c (F'+3) k2 (f+1) (kK vb rb fv P q.length a) s=fY c (F'+3) k2 f (kK vb rb fv P q.length (a+1)) s2:=by
        obtain⟨s2,v2,a1,a2,a3⟩:=H.YK uw hB a;cases so<;>cases si
        case true.true=>
         refine⟨s2,a2,hF2.trans a3,λk2 f=> ?_⟩;simp only[kK,show((a+1:Nat):Int)=(a:Int)+1 by omega];rw[mP];simp[-au,-qu,cH,oG,p1,p3,p4,dn,fk,ak,vc,jc,m1,m2,m3,m4,nw,ahF,L1,a1,wr]
        all_goals
         refine⟨_,by simpa [eH]using uw,hF2,λk2 f=> ?_⟩;simp only[kK,show((a+1:Nat):Int)=(a:Int)+1 by omega];rw[mP];simp[-au,-qu,cH,oG,p1,p3,p4,dn,fk,ak,vc,jc,m1,m2,m3,m4,nw,ahF,L1,wr]
     have e0:(decide (0<=(k:Int))&&(true&&(so&&si)))=(so&&si):=(by rw[Za0 h0];simp);rw[e0];exact tail
 . have dn:decide (y<0)=true:=Za0 (by omega);refine⟨s,by simpa [h0,eH]using hI,hF,λk2 f=> ?_⟩;simp only[kK,show((a+1:Nat):Int)=(a:Int)+1 by omega];rw[mP];simp[-au,cH,oG,p1,p3,dn,wr]
theorem ann(H:kA c fv s0 I M)(hc:bw c)(V:Vw s0 vb jb j J P G q g)(r:Rl)(hI:I s l)(hB:fM l+2*q.length<=1000000):
  ∃s',c 100 [.ptr vb 0,.agg r.cells,fv] s=some (.tuple [],s')/\I s' (l++Oj (qF q) q.length (adR J r g)):=by
 refine H.fin hI (λh=>UU hc (q.length+1001) h) ?_;have hw:=(H.ai hI).wf;have gr:=Grew.ah hw (.cells r.cells 0);have dO:=H.grow hI gr;have V1:=V.ai (H.ai dO);have tH:¬M (ah s (.cells r.cells 0)) s.next:=λh=>by have:=H.mlt hI (H.mL hI gr h);omega
 have vc:=V1.vc;have ln:=λ(K:AV->St->Option (AV×St))=>V1.pq.lenB (c:=c) K (ah s (.cells r.cells 0))
 rw[Za5]at ln
 obtain⟨s',z1,z2,z3⟩:=YM (E:=Z6 q (adR J r g)) (n:=q.length) (ahC _) (λk2=>fY c (q.length+1001) k2) (kK vb s.next fv P q.length) (λk2 f s=>by rw[mP];simp)
  (alp (c:=c) hc H V (aA s (.cells r.cells 0)) tH (F:=q.length+1001) (by omega)) q.length 0 (q.length+1001) _ l (by omega) (by omega) dO (gY.refl V1.wf) hB
 refine⟨s',?_,z1⟩;rw[Zb,dy,show AV.cells (.agg r.cells)=r.cells from rfl];have z3:=z3 (λvs s=>mo vs (some (.tuple [],s)));simp only[ay,bY,aK,Zb4,aR,vc,aB,Za8,Za4,Zb7,aQ,ln];exact z3.trans rfl
end
def zB(J:Jt)(a:Nat):Bool:=match J.p.gs[a]? with|some g=>g.host|none=>false
def jT(J:Jt):JT:=⟨J.n,J.p.ts.length,yK J,zB J⟩
def aba(J:Jt)(r:Rl)(t:Nat):Bool:=decide (r.t=[])||decide (r.t=WG J.p.ts t)
section
variable{c : aj}{fv : AV}{s0 sB : St}{I : St -> List Ev -> Prop}{M : St -> Pos -> Prop}{s : St}{l l' : List Ev}{vb jb : Pos}{j : Jc}{J : Jt}{P G : AV}{q g : List Int}
theorem kA.apP(H:kA c fv s0 I M)(hI:I s l){T:Option (AV×St)}{f:FuncId}{args:List AV}{v:AV}(hr:∀{r},T=some r->c f args s=some (tidy s r))(h:∃s',T=some (v,s')/\I s' l'/\gY M s s'):
   ∃s',c f args s=some (v,s')/\I s' l'/\gY M s s':=by
 obtain⟨s',h1,h2,h4⟩:=h;have h3:=hr h1;unfold tidy at h3;split at h3
 . rename_i hk;exact⟨s,h3,H.back hI h2 hk.2,gY.refl (H.ai hI).wf⟩
 . exact⟨s',h3,h2,h4⟩
def DoC(c:aj)(dv:AV)(I:St->List Ev->Prop)(M:St->Pos->Prop)(n:Nat)(sB:St)(D:List Int->List Ev):Prop:=
 ∀  {s l}{W:AV}{who:List Int},I s l->gY M sB s->QS 1 s W (who.map bU)->who.length<=n->(∀x∈who,0<=x/\x<(n:Int))->fM l+2000<=1000000->
    ∃s' v,(∀(K:AV->St->Option (AV×St)),aq c .callV [dv,W] s K=K v s')/\I s' (l++D who)/\gY M s s'
theorem Vw.auR(V:Vw s vb jb j J P G q g){t:Nat}{T:aE}(ht:J.p.ts[t]? =some T):∃v b o,Rd s 7 j.V1 t b o (T.ax v)/\aS (T.ax v)=true:=by
 obtain⟨s0,r1,r2,_,h,_⟩:=V.jw.ps;have hl:t<r1.length:=by rw[h.len];exact(Za2.1 ht).1
 obtain⟨v,e,hv,_⟩:=h.eF t T r1[t] ht (H0 hl);obtain⟨b,o,h4⟩:=h.out.own.rd h.out.row (H0 hl);exact⟨v,b,o,by rw[<-e];exact h4,T.LD (by simp[aS,hv.own.cells.2])⟩
def LF(J:Jt)(q:List Int)(t k:Nat):List Int:=((List.range k).filter ((jT J).at (qF q) t)).map λ(g:Nat)=>(g:Int)
theorem ano(J:Jt)(q:List Int)(t k:Nat):LF J q t (k+1)=LF J q t k++(if(jT J).at (qF q) t k then [(k:Int)]else []):=by
 unfold LF;rw[Zf8,Zk8,Zd4];cases h:(jT J).at (qF q) t k<;>simp[h]
theorem Sq(J:Jt)(q:List Int)(t k:Nat):(LF J q t k).length<=k:=by unfold LF;rw[Za5,Wx];exact Wv _ _
theorem asg(V:Vw s0 vb jb j J P G q g)(gs:Grew s0 sB){t:Nat}(ht:t<1000)(x2 x4 x18 x19 x20:AV)(F:Nat):
  ∀ (m k f:Nat)(s:St)(v:AV),k+m=q.length->m<f->Mk 1 sB s v ((LF J q t k).map bU)->∃s' v',Mk 1 sB s' v' ((LF J q t q.length).map bU)/\
    ∀k4,nh c F k4 f [.ptr vb 0,x2,x4,.int .i64 (t:Int),v,x18,x19,x20,P,.int .i64 (q.length:Int),.int .i64 (k:Int)] s=k4 [.ptr vb 0,x2,x4,v',x18,x19,x20] s':=by
 intro m;induction m with
 |zero=>
  intro k f s v hk hf hM;obtain⟨f,rfl⟩:∃g,f=g+1:=⟨f - 1,by omega⟩
  obtain rfl:k=q.length:=by omega
  exact⟨s,v,hM,λk4=>by rw[rY];simp⟩
 |succ m ih=>
  intro k f s v hk hf hM;obtain⟨f,rfl⟩:∃g,f=g+1:=⟨f - 1,by omega⟩
  have V1:=V.ai (gs.trans hM.ai);have vc:=V1.vc;have jc:=V1.jw.lU;have dN:k<q.length:=by omega
  obtain⟨y,hy⟩:∃y,q[k]? =some y:=⟨_,H0 dN⟩
  obtain⟨pb,po,p⟩:=pW V1.pq hy;have p1:=λ{R}=>@p.st R
  have p3:=p.one;have hN:=V1.E8;have jx:=V.ql;have wr:av .i64 ((k:Int)+1)=((k+1:Nat):Int):=wrap64 (by omega) (by omega);have wl:=Sq J q t k;have hs:=ano J q t k;have ea:(jT J).at (qF q) t k=(decide (0<=y)&&yK J y==t):=by unfold JT.at on jT;rw[mM hy]
  rw[ea]at hs;by_cases h0:0<=y
  . obtain⟨i,rfl,hi⟩:=V1.kz hy h0;obtain⟨tb,to,u⟩:=V1.rT hi;have t1:=λ{R}=>@u.st R
    have t3:=u.one;unfold yK at hs;rw[Zc8,Za0 h0,Zg1]at hs;by_cases hT:cM J.p.ts i=t
    .   have d1:decide (((cM J.p.ts i:Nat):Int)=(t:Int))=true:=Za0 (by omega);rw[Zb2 (by simpa using hT)]at hs;obtain⟨s5,v5,a1,a2,_,_⟩:=hM.push (R:=AV×St) (c:=c) (bytes:=8) (z:=[.int .i64 0]) (x:= .int .i64 (k:Int)) rfl rfl rfl (by omega) (by rw[Za5];omega) (by rw[Za5];omega);obtain⟨s',v',z1,z2⟩:=ih (k+1) f s5 v5 (by omega) (by omega) (by rw[hs,Zd4];exact a2);refine⟨s',v',z1,λk4=> ?_⟩;rw[<-z2 k4,rY];simp[-au,cH,dN,p1,p3,vc,jc,t1,t3,d1,a1,wr]
    .   have d1:decide (((cM J.p.ts i:Nat):Int)=(t:Int))=false:=Za1 (by omega);rw[Za7 (by simpa using hT),Zd9]at hs;obtain⟨s',v',z1,z2⟩:=ih (k+1) f s v (by omega) (by omega) (by rw[hs];exact hM);refine⟨s',v',z1,λk4=> ?_⟩;rw[<-z2 k4,rY];simp[-au,cH,dN,p1,p3,vc,jc,t1,t3,d1,wr]
  . rw[Za1 h0,Zq1,Za7 (by simp),Zd9]at hs;obtain⟨s',v',z1,z2⟩:=ih (k+1) f s v (by omega) (by omega) (by rw[hs];exact hM);refine⟨s',v',z1,λk4=> ?_⟩;rw[<-z2 k4,rY];simp[-au,cH,dN,p1,p3,h0,wr]
abbrev Sr(vb rb:Pos)(dv V1:AV)(n a:Nat):List AV:=[.ptr vb 0,dv,.ptr rb 0,V1,.int .i64 (n:Int),.int .i64 (a:Int)]
def Hg(J:Jt)(q:List Int)(r:Rl)(D:List Int->List Ev)(t:Nat):List Ev:=if aba J r t then D (LF J q t q.length)else []
theorem anp (H:kA c fv s0 I M) (V:Vw s0 vb jb j J P G q g){dv:AV}{D:List Int->List Ev}(hD:DoC c dv I M J.n sB D){r:Rl}{rb:Pos}(hr:sB.heap.get rb=some (.cells r.cells 0))(tH:¬M sB rb)(F:Nat)(hFu:q.length<F)(t:Nat)(s:St)(l:List Ev)(oG:t<J.p.ts.length)(hI:I s l)(hF:gY M sB s)(hB:fM l+2000<=1000000):
   ∃s2,I s2 (l++Hg J q r D t)/\gY M sB s2/\∀(k2:Q2)(f:Nat),gO c F k2 (f+1) (Sr vb rb dv j.V1 J.p.ts.length t) s=gO c F k2 f (Sr vb rb dv j.V1 J.p.ts.length (t+1)) s2:=by
 have V1:=V.ai (H.ai hI);have vc:=V1.vc;have tu:=V1.jw.uv.ts;obtain⟨T,hT⟩:∃T,J.p.ts[t]? =some T:=⟨_,H0 oG⟩
 obtain⟨v,b,o,h1,h2⟩:=V1.auR hT;have r1:=λ{R}=>@h1.st R
 have r2:=h1.all;have fk:=(hF.2.2 rb _ tH hr).1;have wr:av .i64 ((t:Int)+1)=(t:Int)+1:=wrap64 (by omega) (by omega);have gN:=Grew.ah V1.wf (.cells (T.ax v) 0);have uw:=H.grow hI gN;have hF2:=hF.trans (H.fr hI gN);have V2:=V.ai (H.ai uw);have vc2:=V2.vc;have hx:=aA s (.cells (T.ax v) 0);have apQ:=gN.get fk;have st7:∀(K:AV->St->Option (AV×St)),aq c (.store 7) [.ptr s.next 0,.agg (T.ax v)] (ah s (.cells [.str [],.int .u8 0,.int .i64 0,.int .i64 0,.af,.int .i64 0,.int .i64 0] 0)) K=K .undef (ah s (.cells (T.ax v) 0)):=λK=>
   cE c K s 7 (.agg (T.ax v)) [.str [],.int .u8 0,.int .i64 0,.int .i64 0,.af,.int .i64 0,.int .i64 0] rfl rfl h2
 have ln:=λ(K:AV->St->Option (AV×St))=>V2.pq.lenB (c:=c) K (ah s (.cells (T.ax v) 0))
 rw[Za5]at ln;have aT:decide ((t:Int)<(J.p.ts.length:Int))=true:=Za0 (by omega);have c0:(T.ax v)[0]? =some (.str T.name):=rfl;have en:WG J.p.ts t=T.name:=by unfold WG;rw[hT]
 obtain⟨s',v',z1,z2⟩:=asg (c:=c) V (H.ai uw) (t:=t) (by omega) dv (.ptr rb 0) j.V1 (.int .i64 (J.p.ts.length:Int)) (.int .i64 (t:Int)) F q.length 0 F _ .af (by omega) hFu (Mk.start V2.wf (Grew.refl V2.wf));simp only[show((0:Nat):Int)=0 from rfl]at z2;have jx:=V.ql;have hwl:=Sq J q t q.length;have uK:∀x∈LF J q t q.length,0<=x/\x<(J.n:Int):=λx hx=>by unfold LF at hx;obtain⟨i,hi,rfl⟩:=Zc9.1 hx;have:=Zh1.1 (Zl5.1 hi).1;omega
 obtain ⟨s3,v3,y1,y2,y3⟩:=hD (H.grow uw z1.ai) (hF2.trans (H.fr uw z1.ai)) z1.own (by omega) uK hB;have arv:∀(k2:Q2)(f:Nat),decide (r.t=[ ])=true\/decide (r.t=T.name)=true->gO c F k2 (f+1) (Sr vb rb dv j.V1 J.p.ts.length t) s=gO c F k2 f (Sr vb rb dv j.V1 J.p.ts.length (t+1)) s3:=λk2 f hor=>by
   simp only[Sr,show((t+1:Nat):Int)=(t:Int)+1 by omega];rw[xk];by_cases he:r.t=[]
   . have d1:decide (r.t=[])=true:=Za0 he;simp only[aG,bg,cU,aT,dh,cH,ay,r1,cK,r2,cO,bS,st7,aK,aR,apQ,aB,Za8,Zb4,Rl.c4,aQ,aaS,d1,Zj1,ab8,iw,dD,bY,vc2,Zb7,Za4,ln,z2,y1,eu,wr]
   . have d1:decide (r.t=[])=false:=Za1 he
     have d2:decide (r.t=T.name)=true:=by rcases hor with h|h
                                          . rw[d1]at h;cases h
                                          . exact h
     simp only[aG,bg,cU,aT,dh,cH,ay,r1,cK,r2,cO,bS,st7,aK,aR,apQ,hx,c0,aB,Za8,Zb4,Rl.c4,aQ,aaS,d1,d2,Zj1,Zj2,fL,kH,dD,bY,vc2,Zb7,Za4,ln,z2,y1,eu,wr]
 unfold Hg aba;rw[en];by_cases he:r.t=[]
 . refine⟨s3,by simpa [he]using y2,(hF2.trans (H.fr uw z1.ai)).trans y3,λk2 f=>arv k2 f (.inl (Za0 he))⟩
 . by_cases hn:r.t=T.name
   . refine⟨s3,by simpa [hn]using y2,(hF2.trans (H.fr uw z1.ai)).trans y3,λk2 f=>arv k2 f (.inr (Za0 hn))⟩
   . refine⟨_,by simpa [he,hn]using uw,hF2,λk2 f=> ?_⟩;have d1:decide (r.t=[])=false:=Za1 he;have d2:decide (r.t=T.name)=false:=Za1 hn;simp only[Sr,show((t+1:Nat):Int)=(t:Int)+1 by omega];rw[xk];simp only[aG,bg,cU,aT,dh,cH,ay,r1,cK,r2,cO,bS,st7,aK,aR,apQ,hx,c0,aB,Za8,Zb4,Rl.c4,aQ,aaS,d1,d2,Zj2,fL,kH,eu,wr]
theorem adS(H:kA c fv s0 I M)(hc:bw c)(V:Vw s0 vb jb j J P G q g){dv:AV}{D:List Int->List Ev}(hD:DoC c dv I M J.n s D)(hDW:∀who:List Int,who.length<=J.n->fM (D who)<=2000)(r:Rl)(hI:I s l)(hB:fM l+2000*J.p.ts.length<=1000000):
  ∃s',c 166 [.ptr vb 0,.agg r.cells,dv] s=some (.tuple [],s')/\I s' (l++cG (Hg J q r D) J.p.ts.length 0):=by
 refine H.fin hI (λh=>WS hc (q.length+J.p.ts.length+1) h) ?_;have hw:=(H.ai hI).wf;have gr:=Grew.ah hw (.cells r.cells 0);have dO:=H.grow hI gr;have V1:=V.ai (H.ai dO);have tH:¬M (ah s (.cells r.cells 0)) s.next:=λh=>by have:=H.mlt hI (H.mL hI gr h);omega
 have vc:=V1.vc;have jc:=V1.jw.lU;obtain⟨s0',r1',r2',_,tsq,_⟩:=V1.jw.ps;have ln:=λ(K:AV->St->Option (AV×St))=>tsq.out.own.lenB (c:=c) K (ah s (.cells r.cells 0))
 rw[tsq.len]at ln;have hF:=H.fr hI gr;have jx:=V.ql;obtain⟨s',z1,z2,z3⟩:=YM (E:=Hg J q r D) (n:=J.p.ts.length) (B:=2000) (λt=>by
   unfold Hg;split
   . exact hDW _ (by have:=Sq J q t q.length;omega)
   . exact Zh9 _) (λk2=>gO c (q.length+J.p.ts.length+1) k2) (Sr vb s.next dv j.V1 J.p.ts.length) (λk2 f s=>by rw[xk];simp)
  (anp (c:=c) (sB:=ah s (.cells r.cells 0)) H V (λ{s2 l2 W who} h1 h2=>hD h1 (hF.trans h2)) (aA s (.cells r.cells 0)) tH (q.length+J.p.ts.length+1) (by omega)) J.p.ts.length 0 (q.length+J.p.ts.length+1) _ l (by omega) (by omega) dO (gY.refl V1.wf) hB
 refine⟨s',?_,z1⟩;rw[abb,dy,show AV.cells (.agg r.cells)=r.cells from rfl];have z3:=z3 (λvs s=>mo vs (some (.tuple [],s)));simp only[ay,bY,aK,Zb4,aR,vc,jc,Jc.c0,aB,Za8,Za4,Zb7,aQ,ln];exact z3.trans rfl
theorem ash(hc:bw c)(H:kA c fv s0 I M){n m:Nat}{r:Rl}(hn:r.n=(m:Int))(hm:m<=1000)(hn1:n<=100){rb fb:Pos}(hr:sB.heap.get rb=some (.cells r.cells 0))(tH:¬M sB rb)(hf:sB.heap.get fb=some (.cells [fv] 0))(hfM:¬M sB fb):
  DoC c (.func 172 [] [.ptr rb 0,.ptr fb 0]) I M n sB (Sd m):=λ{s l W who} hI hF hW hl _ hB=>by
 have b1:=(hF.2.2 rb _ tH hr).1;have b2:=(hF.2.2 fb _ hfM hf).1;have ln:=λ(K:AV->St->Option (AV×St))=>hW.lenB (c:=c) K s
 rw[Za5]at ln;have key:∃s',c 172 [W,.ptr rb 0,.ptr fb 0] s=some (.tuple [],s')/\I s' (l++Sd m who)/\gY M s s':=by
  refine H.apP hI (λh=>Ss hc 1 h) ?_;unfold Sd;by_cases h:who.length<m
  . obtain⟨s',v,h1,h2,h3⟩:=H.call (k:=m - who.length) hI hW (by omega);refine⟨s',?_,by simpa [h,rV]using h2,h3⟩;have d:decide ((who.length:Int)<r.n)=true:=Za0 (by omega);have w:av .i64 (r.n - (who.length:Int))=((m - who.length:Nat):Int):=(by rw[wrap64 (by omega) (by omega)];omega);rw[Hh];simp only[ay,ln,aK,Zb4,aR,b1,b2,aB,Za8,Rl.c5,aQ,cU,d,dh,Za4,adF,w,h1]
  . refine⟨s,?_,by simpa [h,eH]using hI,gY.refl (H.ai hI).wf⟩;have d:decide ((who.length:Int)<r.n)=false:=Za1 (by omega);rw[Hh];simp only[ay,ln,aK,Zb4,aR,b1,b2,aB,Za8,Rl.c5,aQ,cU,d,dD]
 obtain⟨s',h1,h2,h3⟩:=key;exact⟨s',.tuple [],λK=>by rw[iQ];simp only[Ze1,Zd7];rw[h1];rfl,h2,h3⟩
theorem apR(hc:bw c)(H:kA c fv s0 I M){n m:Nat}{r:Rl}(hn:r.n=(m:Int))(hm:m<=1000)(hn1:n<=100){rb fb:Pos}(hr:sB.heap.get rb=some (.cells r.cells 0))(tH:¬M sB rb)(hf:sB.heap.get fb=some (.cells [fv] 0))(hfM:¬M sB fb):
  DoC c (.func 173 [] [.ptr rb 0,.ptr fb 0]) I M n sB (Se m):=λ{s l W who} hI hF hW hl _ hB=>by
 have b1:=(hF.2.2 rb _ tH hr).1;have b2:=(hF.2.2 fb _ hfM hf).1;have ln:=λ(K:AV->St->Option (AV×St))=>hW.lenB (c:=c) K s
 rw[Za5]at ln;have key:∃s',c 173 [W,.ptr rb 0,.ptr fb 0] s=some (.tuple [],s')/\I s' (l++Se m who)/\gY M s s':=by
  refine H.apP hI (λh=>Qe hc 1 h) ?_;unfold Se;by_cases h:m<who.length
  . obtain⟨s',v,h1,h2,h3⟩:=H.call (k:=who.length - m) hI hW (by omega);refine⟨s',?_,by simpa [h,rV]using h2,h3⟩;have d:decide (r.n<(who.length:Int))=true:=Za0 (by omega);have w:av .i64 ((who.length:Int) - r.n)=((who.length - m:Nat):Int):=(by rw[wrap64 (by omega) (by omega)];omega);rw[E9];simp only[ay,ln,aK,Zb4,aR,b1,b2,aB,Za8,Rl.c5,aQ,ki,d,dh,Za4,adF,w,h1]
  . refine⟨s,?_,by simpa [h,eH]using hI,gY.refl (H.ai hI).wf⟩;have d:decide (r.n<(who.length:Int))=false:=Za1 (by omega);rw[E9];simp only[ay,ln,aK,Zb4,aR,b1,b2,aB,Za8,Rl.c5,aQ,ki,d,dD]
 obtain⟨s',h1,h2,h3⟩:=key;exact⟨s',.tuple [],λK=>by rw[iQ];simp only[Ze1,Zd7];rw[h1];rfl,h2,h3⟩
theorem asi(V:Vw s vb jb j J P G q g){vp:Pos}(hv:s.heap.get vp=some (.cells [.ptr vb 0] 0)){W:AV}{who:List Int}(hW:QS 1 s W (who.map bU))(hl:who.length<=1000)(hm:∀x∈who,0<=x/\x<(J.n:Int))(x2:AV)(F:Nat)(k1 k2:Q2):
  ∀(m k f:Nat),k+m=who.length->m<f->nW c F k1 k2 f [W,.ptr vp 0,x2,W,.int .i64 (who.length:Int),.int .i64 (k:Int)] s=if(who.drop k).any (λg=>zB J g.toNat)then k1 [] s else k2 [W,x2] s:=by
 have vc:=V.vc;have jc:=V.jw.lU;intro m;induction m with
 |zero=>
  intro k f hk hf;obtain⟨f,rfl⟩:∃g,f=g+1:=⟨f - 1,by omega⟩
  obtain rfl:k=who.length:=by omega
  rw[uM];simp
 |succ m ih=>
  intro k f hk hf;obtain⟨f,rfl⟩:∃g,f=g+1:=⟨f - 1,by omega⟩
  have dN:k<who.length:=by omega
  obtain⟨wb,wo,w1⟩:=pW hW (H0 dN);have q1:=λ{R}=>@w1.st R
  have q3:=w1.one;have wr:av .i64 ((k:Int)+1)=((k+1:Nat):Int):=wrap64 (by omega) (by omega);have bd:=hm _ (Zb9 dN);obtain⟨i,hi⟩:∃i:Nat,who[k]=(i:Int):=⟨who[k].toNat,by omega⟩
  have Qd:i<J.p.gs.length:=by have:J.n=J.p.gs.length:=rfl;omega
  obtain⟨v,ab,ao,h1⟩:=V.rG (H0 Qd);have r1:=λ{R}=>@h1.st R
  have r2:=h1.at' 6 _ rfl;have eh:zB J i=(J.p.gs[i]).host:=by unfold zB;rw[H0 Qd]
  rw[Zd1 dN,List.any_cons,hi,Zc8,eh];rw[hi]at q3;generalize (J.p.gs[i]).host=e at*
  cases e
  . rw[Zl7, <-ih (k+1) f (by omega) (by omega),uM];simp[dN,q1,q3,hv,vc,jc,r1,r2,wr]
  . rw[uM];simp[dN,q1,q3,hv,vc,jc,r1,r2]
theorem asj(hc:bw c)(H:kA c fv s0 I M)(V:Vw s0 vb jb j J P G q g){vp fb:Pos}(hv:sB.heap.get vp=some (.cells [.ptr vb 0] 0))(hvM:¬M sB vp)(hf:sB.heap.get fb=some (.cells [fv] 0))(hfM:¬M sB fb):
  DoC c (.func 167 [] [.ptr vp 0,.ptr fb 0]) I M J.n sB (Sc (zB J)):=λ{s l W who} hI hF hW hl uK hB=>by
 have b1:=(hF.2.2 vp _ hvM hv).1;have b2:=(hF.2.2 fb _ hfM hf).1;have V1:=V.ai (H.ai hI);have hN:=V1.E8;have ln:=λ(K:AV->St->Option (AV×St))=>hW.lenB (c:=c) K s
 rw[Za5]at ln;have lp:=λ(k1 k2:Q2)=>asi (c:=c) V1 b1 hW (by omega) uK (.ptr fb 0) (who.length+1) k1 k2 who.length 0 (who.length+1) (by omega) (by omega)
 simp only[Ze2,show((0:Nat):Int)=0 from rfl]at lp;have key:∃s',c 167 [W,.ptr vp 0,.ptr fb 0] s=some (.tuple [],s')/\I s' (l++Sc (zB J) who)/\gY M s s':=by
  refine H.apP hI (λh=>Su hc (who.length+1) h) ?_;unfold Sc;generalize who.any (λg=>zB J g.toNat)=e at*
  cases e
  . by_cases h:0<who.length
    .   obtain⟨s',v,h1,h2,h3⟩:=H.call (k:=1) hI hW (by omega);refine⟨s',?_,by simpa [h,rV]using h2,h3⟩;have d:decide ((0:Int)<(who.length:Int))=true:=Za0 (by omega);simp only[show((1:Nat):Int)=1 from rfl]at h1;rw[yL];simp only[ay,ln,lp,Zf5,Zh0,aG,bg,ki,d,dh,aR,b2,aB,Za8,Za4,aQ,h1]
    .   refine⟨s,?_,by simpa [h,eH]using hI,gY.refl (H.ai hI).wf⟩;have d:decide ((0:Int)<(who.length:Int))=false:=Za1 (by omega);rw[yL];simp only[ay,ln,lp,Zf5,Zh0,aG,bg,ki,d,dD]
  . refine⟨s,?_,by simpa [eH]using hI,gY.refl (H.ai hI).wf⟩;rw[yL];simp only[ay,ln,lp,Zh6,bg]
 obtain⟨s',h1,h2,h3⟩:=key;exact⟨s',.tuple [],λK=>by rw[iQ];simp only[Ze1,Zd7];rw[h1];rfl,h2,h3⟩
end
theorem ahG(h:Nat->Bool){n:Nat}(hn:n<=100)(who:List Int)(hw:who.length<=n):fM (Sc h who)<=2000:=by unfold Sc;have:=GW (!who.any (λg=>h g.toNat)&&decide (0<who.length)) 1 who;omega
theorem ahH(m:Nat)(hm:m<=1000){n:Nat}(hn:n<=100)(who:List Int)(hw:who.length<=n):fM (Sd m who)<=2000:=by unfold Sd;have:=GW (decide (who.length<m)) (m - who.length) who;omega
theorem ahI(m:Nat){n:Nat}(hn:n<=100)(who:List Int)(hw:who.length<=n):fM (Se m who)<=2000:=by unfold Se;have:=GW (decide (m<who.length)) (who.length - m) who;omega
theorem acA:∀l:List Ev,j9 l<=fM l
 |[]=>Za3 _
 |e::l=>by have:=acA l;show(List.map _ (e::l)).sum<=(List.map _ (e::l)).sum;rw[Zd6,Zd6,Zo7,Zo7];unfold j9 fM at this;omega
section
variable{c : aj}{fv : AV}{s0 sB : St}{I : St -> List Ev -> Prop}{M : St -> Pos -> Prop}{s : St}{l l' : List Ev}{vb jb : Pos}{j : Jc}{J : Jt}{P G : AV}{q g : List Int}
theorem apS(hc:bw c)(H:kA c fv s0 I M)(V:Vw s0 vb jb j J P G q g)(r:Rl)(hI:I s l)(hB:fM l+2000*J.p.ts.length<=1000000):
  ∃s',c 98 [.ptr vb 0,.agg r.cells,fv] s=some (.tuple [],s')/\I s' (l++cG (Hg J q r (Sc (zB J))) J.p.ts.length 0):=by
 refine H.fin hI (λh=>WT hc 1 h) ?_;have hw:=(H.ai hI).wf;have hN:=(V.ai (H.ai hI)).E8;have g1:=Grew.ah hw (.cells [.ptr vb 0] 0);have dO:=H.grow hI g1;have g2:=Grew.ah g1.wf (.cells r.cells 0);have uw:=H.grow dO g2;have g3:=Grew.ah g2.wf (.cells [fv] 0);have hI3:=H.grow uw g3;have m1:∀b,M (ah (ah (ah s (.cells [.ptr vb 0] 0)) (.cells r.cells 0)) (.cells [fv] 0)) b->b.toNat<s.next.toNat:=λb h=>H.mlt hI (H.mL hI g1 (H.mL dO g2 (H.mL uw g3 h)))
 have n1:(ah s (.cells [.ptr vb 0] 0)).next.toNat=s.next.toNat+1:=by rw[bQ,Pos.aF]
 have n2:(ah (ah s (.cells [.ptr vb 0] 0)) (.cells r.cells 0)).next.toNat=s.next.toNat+2:=by rw[bQ,Pos.aF,n1]
 have b1:=g3.get (g2.get (aA s (.cells [.ptr vb 0] 0)));have b2:=g3.get (aA (ah s (.cells [.ptr vb 0] 0)) (.cells r.cells 0));have b3:=aA (ah (ah s (.cells [.ptr vb 0] 0)) (.cells r.cells 0)) (.cells [fv] 0);obtain⟨s',z1,z2⟩:=adS H hc V (asj hc H V b1 (λh=>by have:=m1 _ h;omega) b3 (λh=>by have:=m1 _ h;omega)) (ahG _ hN.2) r hI3 hB;refine⟨s',?_,z2⟩;rw[abc];simp only[dy,show AV.cells (.agg r.cells)=r.cells from rfl,show AV.cells (.ptr vb 0)=[.ptr vb 0]from rfl,H.one.1,aR,b1,aB,Za8,Za4,aQ,cK,b2,Rl.cc,cO,Gt,bR,z1,bH]
theorem apT(hc:bw c)(H:kA c fv s0 I M)(V:Vw s0 vb jb j J P G q g)(r:Rl){m:Nat}(hn:r.n=(m:Int))(hm:m<=1000)(hI:I s l)(hB:fM l+2000*J.p.ts.length<=1000000):
  ∃s',c 104 [.ptr vb 0,.agg r.cells,fv] s=some (.tuple [],s')/\I s' (l++cG (Hg J q r (Sd m)) J.p.ts.length 0):=by
 refine H.fin hI (λh=>WU hc 1 h) ?_;have hw:=(H.ai hI).wf;have hN:=(V.ai (H.ai hI)).E8;have g1:=Grew.ah hw (.cells r.cells 0);have dO:=H.grow hI g1;have g2:=Grew.ah g1.wf (.cells [fv] 0);have uw:=H.grow dO g2;have m1:∀b,M (ah (ah s (.cells r.cells 0)) (.cells [fv] 0)) b->b.toNat<s.next.toNat:=λb h=>H.mlt hI (H.mL hI g1 (H.mL dO g2 h))
 have n1:(ah s (.cells r.cells 0)).next.toNat=s.next.toNat+1:=by rw[bQ,Pos.aF]
 have b1:=g2.get (aA s (.cells r.cells 0));have b2:=aA (ah s (.cells r.cells 0)) (.cells [fv] 0);obtain⟨s',z1,z2⟩:=adS H hc V (ash hc H hn hm hN.2 b1 (λh=>by have:=m1 _ h;omega) b2 (λh=>by have:=m1 _ h;omega)) (ahH m hm hN.2) r uw hB;refine⟨s',?_,z2⟩;rw[abd];simp only[dy,ay,show AV.cells (.agg r.cells)=r.cells from rfl,H.one.1,cK,b1,aB,Za8,Rl.cc,cO,Gt,bR,z1,bH]
theorem anq(hc:bw c)(H:kA c fv s0 I M)(V:Vw s0 vb jb j J P G q g)(r:Rl){m:Nat}(hn:r.n=(m:Int))(hm:m<=1000)(hI:I s l)(hB:fM l+2000*J.p.ts.length<=1000000):
  ∃s',c 105 [.ptr vb 0,.agg r.cells,fv] s=some (.tuple [],s')/\I s' (l++cG (Hg J q r (Se m)) J.p.ts.length 0):=by
 refine H.fin hI (λh=>UW hc 1 h) ?_;have hw:=(H.ai hI).wf;have hN:=(V.ai (H.ai hI)).E8;have g1:=Grew.ah hw (.cells r.cells 0);have dO:=H.grow hI g1;have g2:=Grew.ah g1.wf (.cells [fv] 0);have uw:=H.grow dO g2;have m1:∀b,M (ah (ah s (.cells r.cells 0)) (.cells [fv] 0)) b->b.toNat<s.next.toNat:=λb h=>H.mlt hI (H.mL hI g1 (H.mL dO g2 h))
 have n1:(ah s (.cells r.cells 0)).next.toNat=s.next.toNat+1:=by rw[bQ,Pos.aF]
 have b1:=g2.get (aA s (.cells r.cells 0));have b2:=aA (ah s (.cells r.cells 0)) (.cells [fv] 0);obtain⟨s',z1,z2⟩:=adS H hc V (apR hc H hn hm hN.2 b1 (λh=>by have:=m1 _ h;omega) b2 (λh=>by have:=m1 _ h;omega)) (ahI m hN.2) r uw hB;refine⟨s',?_,z2⟩;rw[Zc];simp only[dy,ay,show AV.cells (.agg r.cells)=r.cells from rfl,H.one.1,cK,b1,aB,Za8,Rl.cc,cO,Gt,bR,z1,bH]
def rA(J:Jt)(r:Rl):Nat:=(gi J.p r.a).toNat
def rB(J:Jt)(r:Rl):Nat:=(gi J.p r.b).toNat
def oM(J:Jt)(q g:List Int)(r:Rl):List Ev:=match r.k.toNat with
 |1=>Dj (qF q) (rA J r) (rB J r) (acv J r)
 |2=>Dj (qF q) (rA J r) (rB J r) (ale J)
 |3=>Dj (qF q) (rA J r) (rB J r) (alf J)
 |4=>Dj (qF q) (rA J r) (rB J r) (agh J r)
 |5=>Dj (qF q) (rA J r) (rB J r) (alg J)
 |6=>Wy (qF q) (rA J r) (atP J r)
 |7=>Wy (qF q) (rA J r) (agi J r)
 |8=>zZ (qF q) q.length (rX J r (aa6 J))
 |9=>cG (Hg J q r (Sc (zB J))) J.p.ts.length 0
 |10=>Oj (qF q) q.length (adP J r)
 |11=>Oj (qF q) q.length (adR J r g)
 |12=>zZ (qF q) q.length (rX J r (LB J))
 |13=>zZ (qF q) q.length (So J r)
 |14=>zZ (qF q) q.length (rX J r (WQ J))
 |15=>cG (Hg J q r (Sd r.n.toNat)) J.p.ts.length 0
 |16=>cG (Hg J q r (Se r.n.toNat)) J.p.ts.length 0
 |17=>Oj (qF q) q.length (adQ J r)
 |18=>zZ (qF q) q.length (rX J r (aa7 J))
 |_=>[]
structure T4(p:cw)(r:Rl)(m:Nat):Prop where
 k:r.k=(m:Int)
 m1:1<=m
 m2:m<=18
 a:(kd m).a=103->0<=gi p r.a
 b:(kd m).b=true->0<=gi p r.b
 n:m=15\/m=16->0<=r.n/\r.n<=24
 w:0<=r.wt/\r.wt<=1000
theorem atI{p:cw}{r:Rl}(hr:r.Ok)(h:uA p r=0):∃m,T4 p r m:=by
 have hk:∃m:Nat,r.k=(m:Int):=⟨r.k.toNat,by have:=hr.1;omega⟩
 obtain⟨m,hk⟩:=hk;unfold uA at h;rw[hk,Zc8]at h;by_cases hm:1<=m/\m<=18
 . have h2:=h;unfold Sv at h;by_cases e1:(kd m).w=[]
   . rw[Zb2 e1]at h;cases h
   rw[Za7 e1]at h;by_cases e2:r.wt<0\/1000<r.wt
   . rw[Zb2 e2]at h;cases h
   rw[Za7 e2]at h;by_cases e3:LG (kd m) r=false
   . rw[Zb2 e3]at h;cases h
   rw[Za7 e3]at h;by_cases e4:((kd m).a=103/\gi p r.a<0)\/((kd m).a=101/\r.a≠[]/\gi p r.a<0)\/((kd m).b=true/\gi p r.b<0)
   . rw[Zb2 e4]at h;cases h
   rw[Za7 e4]at h;refine⟨m,hk,hm.1,hm.2,λha=> ?_,λhb=> ?_,λhm=> ?_,by omega⟩
   . exact Int.not_lt.1 λaT=>e4 (.inl ⟨ha,aT⟩)
   . exact Int.not_lt.1 λaT=>e4 (.inr (.inr ⟨hb,aT⟩))
   . unfold adT at h;have ka:(kd m).a=0:=(by rcases hm with rfl|rfl<;>rfl);have kb:(kd m).b=false:=(by rcases hm with rfl|rfl<;>rfl);have kn:(kd m).n=true:=(by rcases hm with rfl|rfl<;>rfl);have ks:(kd m).kz=false:=(by rcases hm with rfl|rfl<;>rfl);have kl:(kd m).lo=0:=(by rcases hm with rfl|rfl<;>rfl);rw[Za7 (by rw[ka];simp),Za7 (by rw[kb];simp)]at h;unfold YN at h;split at h
     .  cases h
     .  unfold BA at h;simp only[ks,kn,kl,Zf5,Zh0,Zs0]at h;split at h
        . cases h
        . omega
 . exfalso;have e:kd m=⟨[],0,false,0,false,0,false,.jK⟩:=by
     unfold kd;split<;>first|rfl|(exfalso;omega)
   rw[e]at h;unfold Sv at h;simp at h
theorem YO(p:cw)(s:List Nat)(h:0<=gi p s):(gi p s).toNat<p.gs.length:=by have:=(BB (P:=nX p.gs s) p.gs.length 0 h).2.1;unfold gi;omega
theorem asl(hc:bw c)(H:kA c fv s0 I M)(V:Vw s0 vb jb j J P G q g)(fh:J.p.cs.length=J.n\/J.p.cs.length=0){r:Rl}{m:Nat}(R:T4 J.p r m)(hI:I s []):
   ∃f s',(kd m).f= .func f [] []/\c f [.ptr vb 0,.agg r.cells,fv] s=some (.tuple [],s')/\I s' (oM J q g r):=by
 have hN:=V.E8;have jx:=V.ql;have tu:=V.jw.uv.ts;have e0:fM []=0:=rfl;have Z4:3*q.length*q.length<=30000:=by have:q.length<=100:=(by omega);have:=Zq3 this this;have e:3*q.length*q.length=3*(q.length*q.length):=Nat.mul_assoc _ _ _;omega
 have nil:∀E:List Ev,[]++E=E:=λE=>rfl
 have two:(kd m).a=103->(kd m).b=true->Two J q r (rA J r) (rB J r) (qF q (rA J r)) (qF q (rB J r)):=λha hb=>by
   have h1:=R.a ha;have h2:=R.b hb;have l1:=YO _ _ h1;have l2:=YO _ _ h2;have l1:rA J r<q.length:=(by rw[jx];exact l1);have l2:rB J r<q.length:=(by rw[jx];exact l2);refine⟨by unfold rA;omega,by unfold rB;omega,?_,?_⟩
   . rw[H0 l1,mM (H0 l1)]
   . rw[H0 l2,mM (H0 l2)]
 have one:(kd m).a=103->gi J.p r.a=((rA J r:Nat):Int)/\q[rA J r]? =some (qF q (rA J r)):=λha=>by
   have h1:=R.a ha;have l1:=YO _ _ h1;have l1:rA J r<q.length:=(by rw[jx];exact l1);exact⟨by unfold rA;omega,by rw[H0 l1,mM (H0 l1)]⟩
 have hn:m=15\/m=16->r.n=((r.n.toNat:Nat):Int)/\r.n.toNat<=1000:=λh=>by have:=R.n h;omega
 have tY:J.p.cs.length=q.length\/J.p.cs.length=0:=by rw[jx];exact fh
 unfold oM;rw[R.k,Zc8];have m1:=R.m1;have m2:=R.m2;rcases Cj m1 m2 with rfl|rfl|rfl|rfl|rfl|rfl|rfl|rfl|rfl|rfl|rfl|rfl|rfl|rfl|rfl|rfl|rfl|rfl
 . obtain⟨s',a,b⟩:=apL hc H V (two rfl rfl) hI (by omega);exact⟨_,s',rfl,a,b⟩
 . obtain⟨s',a,b⟩:=afz hc H V (two rfl rfl) hI (by omega);exact⟨_,s',rfl,a,b⟩
 . obtain⟨s',a,b⟩:=afA hc H V (two rfl rfl) hI (by omega);exact⟨_,s',rfl,a,b⟩
 . obtain⟨s',a,b⟩:=alh hc H V (two rfl rfl) hI (by omega);exact⟨_,s',rfl,a,b⟩
 . obtain⟨s',a,b⟩:=ajg hc H V (two rfl rfl) hI (by omega);exact⟨_,s',rfl,a,b⟩
 . obtain⟨s',a,b⟩:=atH hc H V (one rfl).1 (one rfl).2 hI (by omega);exact⟨_,s',rfl,a,b⟩
 . obtain⟨s',a,b⟩:=apM hc H V (one rfl).1 (one rfl).2 hI (by omega);exact⟨_,s',rfl,a,b⟩
 . obtain⟨s',a,b⟩:=afC hc H V r hI (by omega);exact⟨_,s',rfl,a,b⟩
 . obtain⟨s',a,b⟩:=apS hc H V r hI (by omega);exact⟨_,s',rfl,a,b⟩
 . obtain⟨s',a,b⟩:=anm H hc V r hI (by omega);exact⟨_,s',rfl,a,b⟩
 . obtain⟨s',a,b⟩:=ann H hc V r hI (by omega);exact⟨_,s',rfl,a,b⟩
 . obtain⟨s',a,b⟩:=anl hc H V r hI (by omega);exact⟨_,s',rfl,a,b⟩
 . obtain⟨s',a,b⟩:=ajh hc H V r hI (by omega);exact⟨_,s',rfl,a,b⟩
 . obtain⟨s',a,b⟩:=alj hc H V tY r hI (by omega);exact⟨_,s',rfl,a,b⟩
 . obtain⟨s',a,b⟩:=apT hc H V r (hn (.inl rfl)).1 (hn (.inl rfl)).2 hI (by omega);exact⟨_,s',rfl,a,b⟩
 . obtain⟨s',a,b⟩:=anq hc H V r (hn (.inr rfl)).1 (hn (.inr rfl)).2 hI (by omega);exact⟨_,s',rfl,a,b⟩
 . obtain⟨s',a,b⟩:=aji H hc V r hI (by omega);exact⟨_,s',rfl,a,b⟩
 . obtain⟨s',a,b⟩:=asf hc H V r hI (by omega);exact⟨_,s',rfl,a,b⟩
end
end
end Go.Proofs.YtgihekklfnjkiaaGreatDoor
