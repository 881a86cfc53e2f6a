/- Faults of a rule. -/
import Derived.Test.YtgihekklfnjkiaaGreatDoorAPlainC
set_option linter.all false
set_option maxRecDepth 100000
namespace Go.Proofs.YtgihekklfnjkiaaGreatDoor
section
open Go Go.Ai Go.Proofs
variable{c:aj}
theorem Gw(q:List Int):q.map bH=(q.map (AV.int .i64)).map oH:=by rw[Zg3];rfl
theorem pZ{s:St}{v:AV}{q:List Int}(h:QS 1 s v (q.map bH)){i:Nat}{x:Int}(hx:q[i]? =some x):∃b o,Rd s 1 v i b o [.int .i64 x]:=by
 rw[Gw]at h;exact h.ML (by rw[Zb3,hx];rfl)
structure Jc where
 V1:AV
 V2:AV
 V3:AV
 V4:AV
 V5:AV
 M:Pos
 L0:AV
 L1:AV
 L2:AV
 L3:AV
 L4:AV
 L5:AV
 L6:AV
 L7:AV
def Jc.Vs(j:Jc):List AV:=[j.V1,j.V2,j.V3,j.V4,j.V5]
def Jc.cells(j:Jc):List AV:=[j.V1,j.V2,j.V3,j.V4,j.V5,.map j.M,j.L0,j.L1,j.L2,j.L3,j.L4,j.L5,j.L6,j.L7]
structure Jt where
 p:bE
 N:Nat
 ja:List (List Bool)
 jd:List (List Int)
section
variable(J:Jt)
def Jt.n:Nat:=J.p.gs.length
def Jt.steps(i:Nat):List (Int×Int):=adN (uF J.p.ts J.N) (uG J.p.ts J.N) J.N (i:Int)
end
structure JW(s:St)(jb:Pos)(j:Jc)(J:Jt):Prop where
 mj:s.heap.get jb=some (.cells j.cells 0)
 ps:∃s0 r1 r2,PS s0 s j.Vs J.p/\TS s0 s j.V1 J.p.ts r1/\GS s0 s j.V2 J.p.gs r2
 cls:QS 1 s j.V4 (J.p.cs.map bH)
 iG:QS 6 s j.V5 (J.p.rs.map Rl.cells)
 kin:s.heap.get j.M=some (.map FA 18)
 tab:QS 1 s j.L0 ((BK J.p.ts J.N).map oH)
 lvl:QS 1 s j.L1 ((BL J.p.ts J.N).map oH)
 kK:QS 1 s j.L2 ((BM J.p.ts J.N).map oH)
 bes:RQ s j.L3 ((uF J.p.ts J.N).map λr=>r.map (AV.int .i64))
 acr:RQ s j.L4 ((uG J.p.ts J.N).map λr=>r.map (AV.int .i64))
 aq:∃ms:List Pos,QS 1 s j.L5 ((ms.map AV.map).map oH)/\ms.length=J.N/\∀(i:Nat)(m:Pos),ms[i]? =some m->s.heap.get m=some (im (J.steps i))
 com:RQ s j.L6 (J.ja.map λr=>r.map AV.bool)
 tie:RQ s j.L7 (J.jd.map λr=>r.map (AV.int .u8))
 kL:J.p.uz
 n1:J.ja.length=J.n
 n2:J.jd.length=J.n
 n3:∀r∈J.ja,r.length=J.n
 n4:∀r∈J.jd,r.length=J.n
 nN:(J.N:Int)=bg J.p.ts
theorem TS.ai{s0 s s':St}{V:AV}{ts:List aC}{rows:List (List AV)}(h:TS s0 s V ts rows)(g:Grew s s'):TS s0 s' V ts rows:=
 ⟨h.out.grow g,h.len,λi t r a b=>by obtain⟨v,e1,e2,e3⟩:=h.eI i t r a b;exact⟨v,e1,e2.grow g,e3⟩⟩
theorem GS.ai{s0 s s':St}{V:AV}{ts:List aS}{rows:List (List AV)}(h:GS s0 s V ts rows)(g:Grew s s'):GS s0 s' V ts rows:=
 ⟨h.out.grow g,h.len,λi t r a b=>by obtain⟨v,e1,e2,e3⟩:=h.eI i t r a b;exact⟨v,e1,e2.grow g,e3⟩⟩
theorem PS.Ly{s0 s s':St}{Vs:List AV}{p:bE}(h:PS s0 s Vs p)(g:Grew s s'):PS s0 s' Vs p:=by
 obtain⟨V1,V2,V3,V4,V5,r1,r2,rfl,h1,h2,h3,h4,h5⟩:=h.all;exact⟨h.ai.trans g,V1,V2,V3,V4,V5,r1,r2,rfl,h1.ai g,h2.ai g,h3.grow g,h4.grow g,h5.grow g⟩
theorem JW.ai{s s':St}{jb:Pos}{j:Jc}{J:Jt}(h:JW s jb j J)(g:Grew s s'):JW s' jb j J where
 mj:=g.get h.mj
 ps:=by obtain⟨s0,r1,r2,a,b,d⟩:=h.ps;exact⟨s0,r1,r2,a.Ly g,b.ai g,d.ai g⟩
 cls:=h.cls.ai g
 iG:=h.iG.ai g
 kin:=g.get h.kin
 tab:=h.tab.ai g
 lvl:=h.lvl.ai g
 kK:=h.kK.ai g
 bes:=h.bes.ai g
 acr:=h.acr.ai g
 aq:=by obtain⟨ms,a,b,d⟩:=h.aq;exact⟨ms,a.ai g,b,λi m hm=>g.get (d i m hm)⟩
 com:=h.com.ai g
 tie:=h.tie.ai g
 kL:=h.kL
 n1:=h.n1
 n2:=h.n2
 n3:=h.n3
 n4:=h.n4
 nN:=h.nN
theorem JW.of{s0 s1 s:St}{jb:Pos}{Vs:List AV}{p:bE}{N:Nat}{ja:List (List Bool)}{jd:List (List Int)}(h:JD s1 s jb Vs p.ts N p.gs.length ja jd)(hp:PS s0 s Vs p)(hf:p.uz)(hN:(N:Int)=bg p.ts):
   ∃j:Jc,JW s jb j ⟨p,N,ja,jd⟩/\j.Vs=Vs:=by
 obtain⟨V1,V2,V3,V4,V5,r1,r2,rfl,h1,h2,h3,h4,h5⟩:=hp.all;obtain⟨m,L0,L1,L2,L3,L4,L5,L6,L7,wB,wA,ms,r6,r7,k0,k1,k2,k3,k4,k5,k6,k7,k8,k9⟩:=h.all;have lb:=OO p.ts N;refine⟨⟨V1,V2,V3,V4,V5,m,L0,L1,L2,L3,L4,L5,L6,L7⟩,⟨k0,⟨s0,r1,r2,hp,h1,h2⟩,h4.own,h5.own,k1.2,k2.1,k3.1,k4.1,⟨wB,k5.1.1,by rw[k5.2.1,Za3,lb.1],λi w r a b=> ?_⟩,⟨wA,k6.1.1,by rw[k6.2.1,Za3,lb.2],λi w r a b=> ?_⟩,
   ⟨ms,k7.1.1,k7.2.1,λi m hm=>(k7.2.2 i m hm).2⟩,⟨r6,k8.1.1,by rw[k8.2.1,Za3];exact h.n1.symm,λi w r a b=> ?_⟩,⟨r7,k9.1.1,by rw[k9.2.1,Za3];exact h.n2.symm,λi w r a b=> ?_⟩,hf,h.n1,h.n2,h.n3,h.n4,hN⟩,rfl⟩
 all_goals
   rw[Zb3]at b;obtain⟨r,hr,rfl⟩:=Zf5.1 b
 .rw[<-Gw];exact(k5.2.2 i w r a hr).1
 .rw[<-Gw];exact(k6.2.2 i w r a hr).1
 .exact(k8.2.2 i w r a hr).1
 .exact(k9.2.2 i w r a hr).1
theorem arl(hc:bu c){s0 s:St}{Vs:List AV}{p:bE}(P:PS s0 s Vs p)(hp:p.uz)(nm:List Nat):c 109 [.agg Vs,.str nm] s=some (.int .i64 (gi p nm),s):=by
 obtain⟨p',e,S⟩:=P.fE 1;refine hc.at (s:=DK 109) rfl (ara ?_ (bS.int _ _));rw[Zd1,Zd1,Zg9,e, <-S.gi nm];exact aoH rfl p' (S.kL hp) nm (emptyAt s) (zQ s)
structure Vw(s:St)(vb jb:Pos)(j:Jc)(J:Jt)(P G:AV)(q g:List Int):Prop where
 jw:JW s jb j J
 vc:s.heap.get vb=some (.cells [.ptr jb 0,P,G] 0)
 wf:Wf s
 pq:QS 1 s P (q.map bH)
 gq:QS 1 s G (g.map bH)
 ql:q.length=J.n
 gl:g.length=J.N
 ok:∀x∈q,-1<=x/\x<(J.N:Int)
 og:∀x∈g,-1<=x/\x<(J.n:Int)
theorem Vw.ai{s s':St}{vb jb:Pos}{j:Jc}{J:Jt}{P G:AV}{q g:List Int}(h:Vw s vb jb j J P G q g)(k:Grew s s'):Vw s' vb jb j J P G q g:=
 ⟨h.jw.ai k,k.get h.vc,k.wf,h.pq.ai k,h.gq.ai k,h.ql,h.gl,h.ok,h.og⟩
@[simp] theorem Jc.c0(j:Jc):j.cells[0]? =some j.V1:=id rfl
@[simp] theorem Jc.c1(j:Jc):j.cells[1]? =some j.V2:=id rfl
@[simp] theorem Jc.c3(j:Jc):j.cells[3]? =some j.V4:=id rfl
@[simp] theorem Jc.c4(j:Jc):j.cells[4]? =some j.V5:=id rfl
@[simp] theorem Jc.c5(j:Jc):j.cells[5]? =some (.map j.M):=id rfl
@[simp] theorem Jc.c6(j:Jc):j.cells[6]? =some j.L0:=id rfl
@[simp] theorem Jc.c7(j:Jc):j.cells[7]? =some j.L1:=id rfl
@[simp] theorem Jc.c8(j:Jc):j.cells[8]? =some j.L2:=id rfl
@[simp] theorem Jc.c9(j:Jc):j.cells[9]? =some j.L3:=id rfl
@[simp] theorem Jc.c10(j:Jc):j.cells[10]? =some j.L4:=id rfl
@[simp] theorem Jc.c11(j:Jc):j.cells[11]? =some j.L5:=id rfl
@[simp] theorem Jc.c12(j:Jc):j.cells[12]? =some j.L6:=id rfl
@[simp] theorem Jc.c13(j:Jc):j.cells[13]? =some j.L7:=id rfl
@[simp] theorem Jc.cc(j:Jc):cut j.cells 0 5=some j.Vs:=id rfl
section
variable{s:St}{vb jb:Pos}{j:Jc}{J:Jt}{P G:AV}{q g:List Int}(V:Vw s vb jb j J P G q g)
include V
theorem Vw.kO{a:Nat}{x:Int}(ha:q[a]? =some x)(hx:0<=x):∃i:Nat,x=(i:Int)/\i<J.N:=by
 have:=V.ok x (Zc5 ha);exact⟨x.toNat,by omega,by omega⟩
theorem Vw.rT{i:Nat}(hi:i<J.N):∃b o,Rd s 1 j.L0 i b o [.int .i64 ((cC J.p.ts i:Nat):Int)]:=
 V.jw.tab.ML (by unfold BK;rw[Zb3,Zh9 hi];rfl)
theorem Vw.rL{i:Nat}(hi:i<J.N):∃b o,Rd s 1 j.L1 i b o [.int .i64 (BZ J.p.ts ((i:Nat):Int))]:=
 V.jw.lvl.ML (by unfold BL;rw[Zb3,Zh9 hi];rfl)
theorem Vw.rO{i:Nat}(hi:i<J.N):∃b o,Rd s 1 j.L2 i b o [.bool (Gx J.p.ts ((i:Nat):Int))]:=
 V.jw.kK.ML (by unfold BM;rw[Zb3,Zh9 hi];rfl)
theorem Vw.rB{i:Nat}(hi:i<J.N):∃w b o,Rd s 1 j.L3 i b o [w]/\QS 1 s w ((nR J.p.ts i).map bH):=by
 obtain⟨w,b,o,h1,h2⟩:=V.jw.bes.rd (i:=i) (r:=(nR J.p.ts i).map (AV.int .i64)) (by unfold uF;rw[Zb3,Zb3,Zh9 hi];rfl);exact⟨w,b,o,h1,by rw[Gw];exact h2⟩
theorem Vw.rA{i:Nat}(hi:i<J.N):∃w b o,Rd s 1 j.L4 i b o [w]/\QS 1 s w ((uk J.p.ts i).map bH):=by
 obtain⟨w,b,o,h1,h2⟩:=V.jw.acr.rd (i:=i) (r:=(uk J.p.ts i).map (AV.int .i64)) (by unfold uG;rw[Zb3,Zb3,Zh9 hi];rfl);exact⟨w,b,o,h1,by rw[Gw];exact h2⟩
theorem Vw.rS{i:Nat}(hi:i<J.N):∃m b o,Rd s 1 j.L5 i b o [.map m]/\s.heap.get m=some (im (J.steps i)):=by
 obtain⟨ms,h1,h2,h3⟩:=V.jw.aq;have hl:i<ms.length:=by omega
 obtain⟨b,o,h4⟩:=h1.ML (i:=i) (x:= .map ms[i]) (by rw[Zb3,H0 hl];rfl);exact⟨_,b,o,h4,h3 i _ (H0 hl)⟩
theorem Vw.rTab{t:Nat}{T:aC}(ht:J.p.ts[t]? =some T):∃v b o,Rd s 7 j.V1 t b o (T.ay v):=by
 obtain⟨s0,r1,r2,_,h,_⟩:=V.jw.ps;have hl:t<r1.length:=by rw[h.len];exact(Za1.1 ht).1
 obtain⟨v,e,_⟩:=h.eI t T r1[t] ht (H0 hl);obtain⟨b,o,h4⟩:=h.out.own.rd h.out.row (H0 hl);exact⟨v,b,o,by rw[<-e];exact h4⟩
theorem Vw.rG{t:Nat}{T:aS}(ht:J.p.gs[t]? =some T):∃v b o,Rd s 9 j.V2 t b o (T.ay v):=by
 obtain⟨s0,r1,r2,_,_,h⟩:=V.jw.ps;have hl:t<r2.length:=by rw[h.len];exact(Za1.1 ht).1
 obtain⟨v,e,_⟩:=h.eI t T r2[t] ht (H0 hl);obtain⟨b,o,h4⟩:=h.out.own.rd h.out.row (H0 hl);exact⟨v,b,o,by rw[<-e];exact h4⟩
theorem Vw.rC{a b:Nat}{r:List Bool}{x:Bool}(ha:J.ja[a]? =some r)(hb:r[b]? =some x):∃w p o p2 o2,Rd s 1 j.L6 a p o [w]/\Rd s 1 w b p2 o2 [.bool x]:=by
 obtain⟨w,p,o,h1,h2⟩:=V.jw.com.rd (i:=a) (r:=r.map AV.bool) (by rw[Zb3,ha];rfl);obtain⟨p2,o2,h3⟩:=h2.ML (i:=b) (x:= .bool x) (by rw[Zb3,hb];rfl);exact⟨w,p,o,p2,o2,h1,h3⟩
theorem Vw.rK{a b:Nat}{r:List Int}{x:Int}(ha:J.jd[a]? =some r)(hb:r[b]? =some x):∃w p o p2 o2,Rd s 1 j.L7 a p o [w]/\Rd s 1 w b p2 o2 [.int .u8 x]:=by
 obtain⟨w,p,o,h1,h2⟩:=V.jw.tie.rd (i:=a) (r:=r.map (AV.int .u8)) (by rw[Zb3,ha];rfl);obtain⟨p2,o2,h3⟩:=h2.ML (i:=b) (x:= .int .u8 x) (by rw[Zb3,hb];rfl);exact⟨w,p,o,p2,o2,h1,h3⟩
end
end
section
open Go Go.Ai Go.Proofs
variable{c:aj}{s:St}{vb jb:Pos}{j:Jc}{J:Jt}{P G:AV}{q g:List Int}
theorem arn(V:Vw s vb jb j J P G q g){w:AV}{r:List Int}(hw:QS 1 s w (r.map bH))(hl:r.length<=1000000){b:Nat}{x:Int}(hb:q[b]? =some x)(F:Nat):
  ∀(m k:Nat),r.length<=k+m->k<=r.length->∀k1 k2,oX c F k1 k2 (m+1) [.ptr vb 0,.int .i64 (b:Int),w,.int .i64 (r.length:Int),.int .i64 (k:Int)] s=if(r.drop k).contains x then k1 [.bool true] s else k2 [] s:=by
 obtain⟨pb,po,p⟩:=pZ V.pq hb;have p1:=λ{R}=>@p.st R
 have p3:=p.one;have vc:=V.vc;intro m;induction m with
 |zero=>
  intro k h1 h2 k1 k2;obtain rfl:k=r.length:=by omega
  rw[qy];simp
 |succ m ih=>
  intro k h1 h2 k1 k2;by_cases hk:k<r.length
  . obtain⟨wb,wo,w⟩:=pZ hw (H0 hk);have w1:=λ{R}=>@w.st R
    have w3:=w.one;have wr:av .i64 ((k:Int)+1)=((k+1:Nat):Int):=wrap64 (by omega) (by omega);rw[Zd2 hk,Zq7];by_cases he:r[k]=x
    .   rw[qy];simp[hk,w1,w3,p1,p3,vc,he]
    .   have Mx:(x==r[k])=false:=(by simpa using λe=>he e.symm);rw[Mx,Zm0, <-ih (k+1) (by omega) (by omega) k1 k2,qy];simp[hk,w1,w3,p1,p3,vc,he,wr]
  .obtain rfl:k=r.length:=(by omega);rw[qy];simp
theorem Gy(hc:bu c)(V:Vw s vb jb j J P G q g){L:AV}{i:Nat}{lb:Pos}{lo:Nat}{w:AV}{r:List Int}(hL:Rd s 1 L i lb lo [w])(hw:QS 1 s w (r.map bH))(hlen:r.length<=1000){a b:Nat}{x:Int}(ha:q[a]? =some (i:Int))(hb:q[b]? =some x):
  c 163 [.ptr vb 0,L,.int .i64 (a:Int),.int .i64 (b:Int)] s=some (.bool (r.contains x),s):=by
 obtain⟨pb,po,p⟩:=pZ V.pq ha;have p1:=λ{R}=>@p.st R
 have p3:=p.one;have l1:=λ{R}=>@hL.st R
 have l3:=hL.one;have vc:=V.vc;have ln:=λ(K:AV->St->Option (AV×St))=>hw.lenB (c:=c) K s
 rw[Za3]at ln;rw[Wl hc (r.length+1) (r:=(.bool (r.contains x),s)),aE (Plain.bool _) (aZ.refl s)];have lp:=arn (c:=c) V hw (by omega) hb (r.length+1) r.length 0 (by omega) (by omega);rw[Ze3]at lp;rw[aap];simp only[au,cr,aK,Zb1,aO,vc,az,Za6,Za4,Zb6,aQ,p1,p3,l1,l3,ln];rw[show(0:Int)=((0:Nat):Int)from rfl,lp];generalize r.contains x=e;cases e<;>simp
theorem Mh(ts:List aC)(i:Nat):(nR ts i).length<=1000/\(uk ts i).length<=1000:=by
 have h:Gz ts i<=24:=by
  unfold Gz;split
  .rename_i t ht;have:=Yc t;omega
  .omega
 exact⟨Zb2 (Lz _ _ _) (by omega),Zb2 (Lz _ _ _) (by omega)⟩
def LA(ts:List aC)(i:Nat)(x:Int):Bool:=(nR ts i).contains x||(uk ts i).contains x
theorem agc(hc:bu c)(V:Vw s vb jb j J P G q g){a b i:Nat}{x:Int}(ha:q[a]? =some (i:Int))(hi:i<J.N)(hb:q[b]? =some x):
  c 170 [.ptr vb 0,.int .i64 (a:Int),.int .i64 (b:Int)] s=some (.bool (LA J.p.ts i x),s):=by
 obtain⟨w,wb,wo,h1,h2⟩:=V.rB hi;obtain⟨w',wb',wo',h3,h4⟩:=V.rA hi;have c1:=Gy hc V h1 h2 (Mh _ _).1 ha hb;have c2:=Gy hc V h3 h4 (Mh _ _).2 ha hb;have vc:=V.vc;have jc:=V.jw.mj;rw[TJ hc 1 (r:=(.bool (LA J.p.ts i x),s)),aE (Plain.bool _) (aZ.refl s)];rw[Yd];unfold LA;cases h:(nR J.p.ts i).contains x<;>simp only[h]at c1<;>simp[vc,jc,c1,c2,-List.elem_eq_contains,-List.contains_eq_mem]
theorem aiJ:∀(ts:List aC)(i:Nat),(i:Int)<bg ts->cC ts i<ts.length
 |[],i,h=>by simp[bg]at h;omega
 |t ::ts,i,h=>by
  unfold cC;split
  .simp
  .rename_i hn;have n1:0<=bQ t:=Ye t;have e:bg (t::ts)=bQ t+bg ts:=(by simp[bg]);have:=aiJ ts (i - (bQ t).toNat) (by omega);simpa using this
theorem Vw.awx(V:Vw s vb jb j J P G q g){i:Nat}(hi:i<J.N):cC J.p.ts i<J.p.ts.length:=aiJ _ _ (by have:=V.jw.nN;omega)
def GF(ts:List aC)(t:Nat):List Nat:=match ts[t]? with|some t=>t.name|none=>[]
def oY(ts:List aC)(nm:List Nat)(i:Nat):Bool:=decide (nm=[])||decide (nm=GF ts (cC ts i))
theorem Vw.rN(V:Vw s vb jb j J P G q g){i:Nat}(hi:i<J.N):∃T v b o,J.p.ts[cC J.p.ts i]? =some T/\GF J.p.ts (cC J.p.ts i)=T.name/\Rd s 7 j.V1 (cC J.p.ts i) b o (T.ay v):=by
 have hT:=H0 (V.awx hi);obtain⟨v,b,o,h⟩:=V.rTab hT;exact⟨_,v,b,o,hT,by unfold GF;rw[hT],h⟩
theorem HZ(hc:bu c)(V:Vw s vb jb j J P G q g)(r:Rl){i:Nat}(hi:i<J.N):c 168 [.ptr vb 0,.agg r.cells,.int .i64 (i:Int)] s=some (.bool (oY J.p.ts r.t i),s):=by
 rw[Wm hc 1 (r:=(.bool (oY J.p.ts r.t i),ah s (.cells r.cells 0))),aE (Plain.bool _) (cM V.wf)];rw[aaq,di];have V1:=V.ai (Grew.ah V.wf (.cells r.cells 0));have hb:=aB s (.cells r.cells 0);have e:AV.cells (.agg r.cells)=r.cells:=rfl;rw[e];generalize ah s (.cells r.cells 0)=s1 at*
 have vc:=V1.vc;have jc:=V1.jw.mj;obtain⟨b1,o1,t1⟩:=V1.rT hi;have t2:=λ{R}=>@t1.pr R
 have t3:=t1.one;obtain⟨T,v,b,o,_,hn,h⟩:=V1.rN hi;have h1:=λ{R}=>@h.pr R
 have h2:=h.at' 0 _ rfl;rw[Zg2]at h2;unfold oY;rw[hn];by_cases h0:r.t=[]
 .simp[hb,h0]
 .have d0:decide (r.t=[])=false:=Za2 h0;simp[hb,vc,jc,t2,t3,h1,h2,d0]
theorem aro{R:Type}(K:AV->Option R){h:T AB}{m:Pos}{E:List (Int×Int)}(hm:h.get m=some (im E))(x:Int):
  jJ (.lookup .i (.int .i64 0) true) [.map m,.int .i64 x] h (λ_=>true) K=K (.tuple [.int .i64 ((ku E x).getD 0),.bool (ku E x).isSome]):=by
 unfold jJ;have e:aJ.run (λ_=>none) .h (.lookup .i (.int .i64 0) true) [.map m,.int .i64 x]=none:=rfl;rw[e];simp only;have:aJ.run (λb=>h.get b) .h (.lookup .i (.int .i64 0) true) [.map m,.int .i64 x]=some (.val (.tuple [.int .i64 ((ku E x).getD 0),.bool (ku E x).isSome])):=by
  unfold im at hm;cases hl:ku E x with
  |none=>simp only[aJ.run,lU,hm,(CL x E 0 0).1 hl];rfl
  |some d=>obtain⟨n,e⟩:=(CL x E 0 0).2 d hl;simp only[aJ.run,lU,hm,e];rfl
 rw[this]
theorem aoI(hc:bu c)(V:Vw s vb jb j J P G q g){a b i:Nat}{x:Int}(ha:q[a]? =some (i:Int))(hi:i<J.N)(hb:q[b]? =some x):
  c 162 [.ptr vb 0,.int .i64 (a:Int),.int .i64 (b:Int)] s=some (.tuple [.int .i64 ((ku (J.steps i) x).getD 0),.bool (ku (J.steps i) x).isSome],s):=by
 obtain⟨pb,po,p⟩:=pZ V.pq ha;obtain⟨qb,qo,p'⟩:=pZ V.pq hb;have p1:=λ{R}=>@p.pr R
 have p3:=p.one;have p4:=λ{R}=>@p'.pr R
 have p6:=p'.one;obtain⟨m,b1,o1,t1,t0⟩:=V.rS hi;have t2:=λ{R}=>@t1.pr R
 have t3:=t1.one;have vc:=V.vc;have jc:=V.jw.mj;have lk:=λ(K:AV->Option (AV×St))=>aro K t0 x
 rw[aar hc 1 (r:=(.tuple [.int .i64 ((ku (J.steps i) x).getD 0),.bool (ku (J.steps i) x).isSome],s)),aE (Plain.tuple (by simp[Plain.int,Plain.bool])) (aZ.refl s)];rw[adO];simp[vc,jc,p1,p3,p4,p6,t2,t3,lk]
theorem QS.Yf{es:Nat}{v:AV}{rows:List (List AV)}(h:QS es s v rows):gy 3 v:=by
 rcases h with⟨rfl,_⟩|⟨b,off,cap,cs,rfl,_⟩|⟨b,off,rfl,_⟩
 .exact .flat rfl
 .refine .flat ?_;cases cap<;>simp[fy,Pos.beq_eq.2 rfl]
 .refine .flat ?_;simp[fy,Pos.beq_eq.2 rfl]
theorem JW.beq{s:St}(h:JW s jb j J):eJ (.agg j.Vs) (.agg j.Vs)=true:=by
 obtain⟨s0,r1,r2,_,h1,h2⟩:=h.ps;obtain⟨V1,V2,V3,V4,V5,_,_,e,_,_,h3,_⟩:=(show PS s0 s j.Vs J.p from by assumption).all;refine Vm λv hv=> ?_
 simp only[Jc.Vs,Za9,Zc6,Zf3]at hv;simp only[Jc.Vs,Zf8]at e;rcases hv with rfl|rfl|rfl|rfl|rfl
 .exact QS.Yf h1.out.own
 .exact QS.Yf h2.out.own
 .rw[e.2.2.1];exact QS.Yf h3.own
 .exact QS.Yf h.cls
 .exact QS.Yf h.iG
theorem Vw.who(hc:bu c)(V:Vw s vb jb j J P G q g)(nm:List Nat):c 109 [.agg j.Vs,.str nm] s=some (.int .i64 (gi J.p nm),s):=by obtain⟨s0,r1,r2,h,_,_⟩:=V.jw.ps;exact arl hc h V.jw.kL nm
theorem Rj(hc:bu c)(V:Vw s vb jb j J P G q g)(r:Rl){a b:Nat}{x y:Int}(ga:gi J.p r.a=(a:Int))(gb:gi J.p r.b=(b:Int))(ha:q[a]? =some x)(hb:q[b]? =some y):
   c 161 [.ptr vb 0,.agg r.cells] s=some (.tuple [.int .i64 (a:Int),.int .i64 (b:Int),.bool (decide (0<=x)&&decide (0<=y))],s):=by
 rw[Yg hc 1 (r:=(.tuple [.int .i64 (a:Int),.int .i64 (b:Int),.bool (decide (0<=x)&&decide (0<=y))],ah s (.cells r.cells 0))),aE (Plain.tuple (by simp[Plain.int,Plain.bool])) (cM V.wf)];rw[acm,di];have V1:=V.ai (Grew.ah V.wf (.cells r.cells 0));have fG:=aB s (.cells r.cells 0);have e:AV.cells (.agg r.cells)=r.cells:=rfl;rw[e];generalize ah s (.cells r.cells 0)=s1 at*
 have vc:=V1.vc;have jc:=V1.jw.mj;obtain⟨pb,po,p⟩:=pZ V1.pq ha;obtain⟨qb,qo,p'⟩:=pZ V1.pq hb;have p1:=λ{R}=>@p.pr R
 have p3:=p.one;have p4:=λ{R}=>@p'.pr R
 have p6:=p'.one;have w1:=V1.who hc r.a;have w2:=V1.who hc r.b;rw[ga]at w1;rw[gb]at w2;have k1:=λ(K:AV->Option (AV×St))=>lH K (p:=vb) (o:=0) (h:=s1.heap) (h2:=s1.heap) (v:= .ptr jb 0) (by rw[vc];rfl) (by rw[vc];rfl) (by simp[eJ,jC,fy,Pos.beq_eq.2 rfl])
 have k2:=λ(K:AV->Option (AV×St))=>ace K (m:=5) (p:=jb) (o:=0) (h:=s1.heap) (h2:=s1.heap) (l:=j.Vs) (by rw[jc];rfl) (by rw[jc];rfl) V1.jw.beq
 have k3:=λ(K:AV->Option (AV×St))=>lH K (p:=s.next) (o:=3) (h:=s1.heap) (h2:=s1.heap) (v:= .str r.b) (by rw[fG];rfl) (by rw[fG];rfl) (by simp[eJ,jC,fy,mS.2 rfl])
 by_cases hx:0<=x
 .have d:decide (0<=x)=true:=Za0 hx;simp[fG,vc,jc,p1,p3,p4,p6,w1,w2,k1,k2,k3,d,hx]
 .have d:decide (0<=x)=false:=Za2 hx;simp[fG,vc,jc,p1,p3,p4,p6,w1,w2,k1,k2,k3,d,hx]
end
section
open Go Go.Ai Go.Proofs
def iu(M:St->Pos->Prop)(s s':St):Prop:=s.next.toNat<=s'.next.toNat/\Wf s'/\∀b x,¬M s b->s.heap.get b=some x->s'.heap.get b=some x/\¬M s' b
theorem iu.refl{M:St->Pos->Prop}{s:St}(hw:Wf s):iu M s s:=⟨Za5 _,hw,λ_ _ h1 h2=>⟨h2,h1⟩⟩
theorem iu.trans{M:St->Pos->Prop}{a b d:St}(h:iu M a b)(k:iu M b d):iu M a d:=⟨Zb2 h.1 k.1,k.2.1,λp x h1 h2=>by obtain⟨e1,e2⟩:=h.2.2 p x h1 h2;exact k.2.2 p x e2 e1⟩
structure kP(c:aj)(fv:AV)(s0:St)(I:St->List Ev->Prop)(M:St->Pos->Prop):Prop where
 ai:∀{s l},I s l->Grew s0 s
 grow:∀{s s' l},I s l->Grew s s'->I s' l
 mW:∀{s s' l b},I s l->Grew s s'->M s' b->M s b
 mlt:∀{s l b},I s l->M s b->b.toNat<s.next.toNat
 back:∀{s s' l l'},I s l->I s' l'->aZ s s'->I s l'
 call:∀{s l}{k:Nat}{W:AV}{who:List Int},I s l->QS 1 s W (who.map bH)->fS l+k+who.length<=1000000->
  ∃s' v,(∀(K:AV->St->Option (AV×St)),aq c .callV [fv,.int .i64 (k:Int),W] s K=K v s')/\I s' (l++[(k,who)])/\iu M s s'
 one:fv.cells=[fv]/\fv.one=true
def qF(q:List Int)(g:Nat):Int:=q.getD g (-1)
theorem yo{q:List Int}{a:Nat}{x:Int}(h:q[a]? =some x):qF q a=x:=by unfold qF;rw[Zb9,h];rfl
section
variable{c:aj}{fv:AV}{s0:St}{I:St->List Ev->Prop}{M:St->Pos->Prop}{s:St}{l l':List Ev}
theorem kP.fin(H:kP c fv s0 I M)(hI:I s l){T:Option (AV×St)}{f:FuncId}{args:List AV}{v:AV}(hr:∀{r},T=some r->c f args s=some (tidy s r))(h:∃s',T=some (v,s')/\I s' l'):
   ∃s',c f args s=some (v,s')/\I s' l':=by
 obtain⟨s',h1,h2⟩:=h;have h3:=hr h1;unfold tidy at h3;split at h3
 .rename_i hk;exact⟨s,h3,H.back hI h2 hk.2⟩
 .exact⟨s',h3,h2⟩
theorem kP.fr(H:kP c fv s0 I M){s':St}(hI:I s l)(g:Grew s s'):iu M s s':=⟨g.next,g.wf,λb x h1 h2=>⟨g.get h2,λh=>h1 (H.mW hI g h)⟩⟩
theorem kP.TM(H:kP c fv s0 I M)(hI:I s l)(hB:fS l+3<=1000000)(a b:Nat):
  ∃s' v,(∀(K:AV->St->Option (AV×St)),aq c (.buildSlice 1 2 [.int .i64 0] [0,1]) [.int .i64 (a:Int),.int .i64 (b:Int)] s (λx s=>aq c .callV [fv,.int .i64 1,x] s K)=K v s')/\I s' (l++[(1,[(a:Int),(b:Int)])])/\iu M s s':=by
 have hw:=(H.ai hI).wf;have e:cS (cg [AV.int .i64 0] 2) ([0,1].map λi=>(i*1,1)) [.int .i64 (a:Int),.int .i64 (b:Int)]=some [.int .i64 (a:Int),.int .i64 (b:Int)]:=by
  simp[cS,cg,dH,dG,bf,AV.cells]
 obtain⟨s',v,h1,h2,h3⟩:=H.call (k:=1) (W:= .slice s.next 0 2 (some 2) 1) (who:=[(a:Int),(b:Int)]) (H.grow hI (Grew.ah hw (.cells [.int .i64 (a:Int),.int .i64 (b:Int)] 0)))
  (.inr (.inl ⟨s.next,0,some 2,_,rfl,aB _ _,by simp,by simp,.inr rfl⟩)) (by simp;omega)
 exact⟨s',v,λK=>by rw[ax,e,cG];exact h1 K,h2,(H.fr hI (Grew.ah hw _)).trans h3⟩
theorem kP.Z7(H:kP c fv s0 I M)(hI:I s l)(hB:fS l+2<=1000000)(a:Nat):
  ∃s' v,(∀(K:AV->St->Option (AV×St)),aq c (.buildSlice 1 1 [.int .i64 0] [0]) [.int .i64 (a:Int)] s (λx s=>aq c .callV [fv,.int .i64 1,x] s K)=K v s')/\I s' (l++[(1,[(a:Int)])])/\iu M s s':=by
 have hw:=(H.ai hI).wf
 obtain⟨s',v,h1,h2,h3⟩:=H.call (k:=1) (W:= .slice s.next 0 1 (some 1) 1) (who:=[(a:Int)]) (H.grow hI (Grew.ah hw (.cells [.int .i64 (a:Int)] 0)))
  (.inr (.inl ⟨s.next,0,some 1,_,rfl,aB _ _,by simp,by simp,.inr rfl⟩)) (by simp;omega)
 exact⟨s',v,λK=>by rw[Gt rfl rfl];exact h1 K,h2,(H.fr hI (Grew.ah hw _)).trans h3⟩
end
section
variable{c:aj}{fv:AV}{s0:St}{I:St->List Ev->Prop}{M:St->Pos->Prop}{s:St}{l:List Ev}{vb jb:Pos}{j:Jc}{J:Jt}{P G:AV}{q g:List Int}
def TN(J:Jt)(x y:Int):Option Int:=ku (J.steps x.toNat) y
def wj(J:Jt)(x:Int):Nat:=cC J.p.ts x.toNat
def MM(J:Jt)(r:Rl)(x y:Int):Bool:=decide (wj J x=wj J y)&&(decide (r.n=0)||((TN J x y).isSome&&decide ((TN J x y).getD 0<r.n)))
def acn(J:Jt)(x y:Int):Bool:= !(nR J.p.ts x.toNat).contains y
def aco(J:Jt)(x y:Int):Bool:= !(uk J.p.ts x.toNat).contains y
def TO(J:Jt)(r:Rl)(x y:Int):Bool:= !(TN J x y).isSome||decide (r.n<(TN J x y).getD 0)
def acp(J:Jt)(x y:Int):Bool:= !decide (wj J x=wj J y)
structure Two(J:Jt)(q:List Int)(r:Rl)(a b:Nat)(x y:Int):Prop where
 ga:gi J.p r.a=(a:Int)
 gb:gi J.p r.b=(b:Int)
 qa:q[a]? =some x
 qb:q[b]? =some y
theorem Two.two{r:Rl}{a b:Nat}{x y:Int}(h:Two J q r a b x y)(P:Int->Int->Bool):DJ (qF q) a b P=yW (decide (0<=x)&&decide (0<=y)&&P x y) 1 [(a:Int),(b:Int)]:=by
 unfold DJ on;rw[yo h.qa,yo h.qb]
theorem arp (hc:bu c)(H:kP c fv s0 I M)(V:Vw s0 vb jb j J P G q g){r:Rl}{a b:Nat}{x y:Int}(hT:Two J q r a b x y)(hI:I s l)(hB:fS l+3<=1000000):
   ∃s',c 90 [.ptr vb 0,.agg r.cells,fv] s=some (.tuple [],s')/\I s' (l++DJ (qF q) a b (MM J r)):=by
 refine H.fin hI (λh=>Wn hc 1 h) ?_;have hw:=(H.ai hI).wf;have dR:=H.grow hI (Grew.ah hw (.cells r.cells 0));have V1:=V.ai (H.ai dR);have fG:=aB s (.cells r.cells 0);rw[hT.two,aas,di,show AV.cells (.agg r.cells)=r.cells from rfl];generalize ah s (.cells r.cells 0)=s1 at*
 have vc:=V1.vc;have jc:=V1.jw.mj;have bo:=Rj hc V1 r hT.ga hT.gb hT.qa hT.qb;obtain⟨pb,po,p⟩:=pZ V1.pq hT.qa;obtain⟨qb,qo,p'⟩:=pZ V1.pq hT.qb;have p1:=λ{R}=>@p.pr R
 have p3:=p.one;have p4:=λ{R}=>@p'.pr R
 have p6:=p'.one;obtain⟨s2,v2,e1,e2,_⟩:=H.TM dR hB a b;by_cases hx:0<=x
 . by_cases hy:0<=y
   . obtain ⟨ i,rfl,hi⟩:=V1.kO hT.qa hx;obtain⟨k,rfl,hk⟩:=V1.kO hT.qb hy;obtain⟨tb,to,t⟩:=V1.rT hi;obtain⟨ub,uo,u⟩:=V1.rT hk;have t1:=λ{R}=>@t.pr R
     have t3:=t.one;have u1:=λ{R}=>@u.pr R
     have u3:=u.one;have fa:=aoI hc V1 hT.qa hi hT.qb;unfold MM wj TN;simp only[Zd4];by_cases ht:cC J.p.ts i=cC J.p.ts k
     .  have d1:decide (((cC J.p.ts i:Nat):Int)=((cC J.p.ts k:Nat):Int))=true:=Za0 (by omega);by_cases hn:r.n=0
        .refine⟨s2,?_,by simpa [hx,hy,ht,hn,rX]using e2⟩;simp[-ax,fG,bo,hx,hy,vc,jc,p1,p3,p4,p6,t1,t3,u1,u3,ht,fa,hn,e1]
        . by_cases hs:(ku (J.steps i) (k:Int)).isSome=true
          . by_cases hl:(ku (J.steps i) (k:Int)).getD 0<r.n
            .refine⟨s2,?_,by simpa [hx,hy,ht,hn,hs,hl,rX]using e2⟩;simp[-ax,fG,bo,hx,hy,vc,jc,p1,p3,p4,p6,t1,t3,u1,u3,ht,fa,hn,hs,hl,e1]
            .refine⟨s1,?_,by simpa [hx,hy,ht,hn,hs,hl,eN]using dR⟩;simp[-ax,fG,bo,hx,hy,vc,jc,p1,p3,p4,p6,t1,t3,u1,u3,ht,fa,hn,hs,hl,e1]
          .have hs:(ku (J.steps i) (k:Int)).isSome=false:=(by simpa using hs);refine⟨s1,?_,by simpa [hx,hy,ht,hn,hs,eN]using dR⟩;simp[-ax,fG,bo,hx,hy,vc,jc,p1,p3,p4,p6,t1,t3,u1,u3,ht,fa,hn,hs,e1]
     .  have d1:decide (((cC J.p.ts i:Nat):Int)=((cC J.p.ts k:Nat):Int))=false:=Za2 (by omega);refine⟨s1,?_,by simpa [ht,eN]using dR⟩;simp[-ax,fG,bo,hx,hy,vc,jc,p1,p3,p4,p6,t1,t3,u1,u3,d1]
   .refine⟨s1,?_,by simpa [hy,eN]using dR⟩;simp[-ax,fG,bo,hy]
 .refine⟨s1,?_,by simpa [hx,eN]using dR⟩;simp[-ax,fG,bo,hx]
theorem agM(hc:bu c)(H:kP c fv s0 I M)(V:Vw s0 vb jb j J P G q g){r:Rl}{a b:Nat}{x y:Int}(hT:Two J q r a b x y)(hI:I s l)(hB:fS l+3<=1000000):
   ∃s',c 91 [.ptr vb 0,.agg r.cells,fv] s=some (.tuple [],s')/\I s' (l++DJ (qF q) a b (acn J)):=by
 refine H.fin hI (λh=>MN hc 1 h) ?_;have hw:=(H.ai hI).wf;have dR:=H.grow hI (Grew.ah hw (.cells r.cells 0));have V1:=V.ai (H.ai dR);have fG:=aB s (.cells r.cells 0);rw[hT.two,PJ,di,show AV.cells (.agg r.cells)=r.cells from rfl];generalize ah s (.cells r.cells 0)=s1 at*
 have vc:=V1.vc;have jc:=V1.jw.mj;have bo:=Rj hc V1 r hT.ga hT.gb hT.qa hT.qb;obtain⟨s2,v2,e1,e2,_⟩:=H.TM dR hB a b;by_cases hx:0<=x
 . by_cases hy:0<=y
   . obtain⟨i,rfl,hi⟩:=V1.kO hT.qa hx;obtain⟨w,wb,wo,h1,h2⟩:=V1.rB hi;have c1:=Gy hc V1 h1 h2 (Mh _ _).1 hT.qa hT.qb;unfold acn;simp only[Zd4];generalize (nR J.p.ts i).contains y=e at*
     cases e
     .  refine⟨s2,?_,by simpa [hx,hy,rX]using e2⟩;simp[-ax,fG,bo,hx,hy,vc,jc,c1,e1]
     .  refine⟨s1,?_,by simpa [hx,hy,eN]using dR⟩;simp[-ax,fG,bo,hx,hy,vc,jc,c1]
   .refine⟨s1,?_,by simpa [hy,eN]using dR⟩;simp[-ax,fG,bo,hy]
 .refine⟨s1,?_,by simpa [hx,eN]using dR⟩;simp[-ax,fG,bo,hx]
theorem agN(hc:bu c)(H:kP c fv s0 I M)(V:Vw s0 vb jb j J P G q g){r:Rl}{a b:Nat}{x y:Int}(hT:Two J q r a b x y)(hI:I s l)(hB:fS l+3<=1000000):
   ∃s',c 92 [.ptr vb 0,.agg r.cells,fv] s=some (.tuple [],s')/\I s' (l++DJ (qF q) a b (aco J)):=by
 refine H.fin hI (λh=>MO hc 1 h) ?_;have hw:=(H.ai hI).wf;have dR:=H.grow hI (Grew.ah hw (.cells r.cells 0));have V1:=V.ai (H.ai dR);have fG:=aB s (.cells r.cells 0);rw[hT.two,PM,di,show AV.cells (.agg r.cells)=r.cells from rfl];generalize ah s (.cells r.cells 0)=s1 at*
 have vc:=V1.vc;have jc:=V1.jw.mj;have bo:=Rj hc V1 r hT.ga hT.gb hT.qa hT.qb;obtain⟨s2,v2,e1,e2,_⟩:=H.TM dR hB a b;by_cases hx:0<=x
 . by_cases hy:0<=y
   . obtain⟨i,rfl,hi⟩:=V1.kO hT.qa hx;obtain⟨w,wb,wo,h1,h2⟩:=V1.rA hi;have c1:=Gy hc V1 h1 h2 (Mh _ _).2 hT.qa hT.qb;unfold aco;simp only[Zd4];generalize (uk J.p.ts i).contains y=e at*
     cases e
     .  refine⟨s2,?_,by simpa [hx,hy,rX]using e2⟩;simp[-ax,fG,bo,hx,hy,vc,jc,c1,e1]
     .  refine⟨s1,?_,by simpa [hx,hy,eN]using dR⟩;simp[-ax,fG,bo,hx,hy,vc,jc,c1]
   .refine⟨s1,?_,by simpa [hy,eN]using dR⟩;simp[-ax,fG,bo,hy]
 .refine⟨s1,?_,by simpa [hx,eN]using dR⟩;simp[-ax,fG,bo,hx]
theorem amE(hc:bu c)(H:kP c fv s0 I M)(V:Vw s0 vb jb j J P G q g){r:Rl}{a b:Nat}{x y:Int}(hT:Two J q r a b x y)(hI:I s l)(hB:fS l+3<=1000000):
   ∃s',c 93 [.ptr vb 0,.agg r.cells,fv] s=some (.tuple [],s')/\I s' (l++DJ (qF q) a b (TO J r)):=by
 refine H.fin hI (λh=>TP hc 1 h) ?_;have hw:=(H.ai hI).wf;have dR:=H.grow hI (Grew.ah hw (.cells r.cells 0));have V1:=V.ai (H.ai dR);have fG:=aB s (.cells r.cells 0);rw[hT.two,Yh,di,show AV.cells (.agg r.cells)=r.cells from rfl];generalize ah s (.cells r.cells 0)=s1 at*
 have vc:=V1.vc;have jc:=V1.jw.mj;have bo:=Rj hc V1 r hT.ga hT.gb hT.qa hT.qb;obtain⟨s2,v2,e1,e2,_⟩:=H.TM dR hB a b;by_cases hx:0<=x
 . by_cases hy:0<=y
   . obtain⟨i,rfl,hi⟩:=V1.kO hT.qa hx;have fa:=aoI hc V1 hT.qa hi hT.qb;unfold TO TN;simp only[Zd4];by_cases hs:(ku (J.steps i) y).isSome=true
     .  by_cases hl:r.n<(ku (J.steps i) y).getD 0
        .refine⟨s2,?_,by simpa [hx,hy,hs,hl,rX]using e2⟩;simp[-ax,fG,bo,hx,hy,vc,jc,fa,hs,hl,e1]
        .refine⟨s1,?_,by simpa [hx,hy,hs,hl,eN]using dR⟩;simp[-ax,fG,bo,hx,hy,vc,jc,fa,hs,hl,e1]
     .  have hs:(ku (J.steps i) y).isSome=false:=(by simpa using hs);refine⟨s2,?_,by simpa [hx,hy,hs,rX]using e2⟩;simp[-ax,fG,bo,hx,hy,vc,jc,fa,hs,e1]
   .refine⟨s1,?_,by simpa [hy,eN]using dR⟩;simp[-ax,fG,bo,hy]
 .refine⟨s1,?_,by simpa [hx,eN]using dR⟩;simp[-ax,fG,bo,hx]
theorem akv(hc:bu c)(H:kP c fv s0 I M)(V:Vw s0 vb jb j J P G q g){r:Rl}{a b:Nat}{x y:Int}(hT:Two J q r a b x y)(hI:I s l)(hB:fS l+3<=1000000):
   ∃s',c 94 [.ptr vb 0,.agg r.cells,fv] s=some (.tuple [],s')/\I s' (l++DJ (qF q) a b (acp J)):=by
 refine H.fin hI (λh=>PN hc 1 h) ?_;have hw:=(H.ai hI).wf;have dR:=H.grow hI (Grew.ah hw (.cells r.cells 0));have V1:=V.ai (H.ai dR);have fG:=aB s (.cells r.cells 0);rw[hT.two,TQ,di,show AV.cells (.agg r.cells)=r.cells from rfl];generalize ah s (.cells r.cells 0)=s1 at*
 have vc:=V1.vc;have jc:=V1.jw.mj;have bo:=Rj hc V1 r hT.ga hT.gb hT.qa hT.qb;obtain⟨pb,po,p⟩:=pZ V1.pq hT.qa;obtain⟨qb,qo,p'⟩:=pZ V1.pq hT.qb;have p1:=λ{R}=>@p.pr R
 have p3:=p.one;have p4:=λ{R}=>@p'.pr R
 have p6:=p'.one;obtain⟨s2,v2,e1,e2,_⟩:=H.TM dR hB a b;by_cases hx:0<=x
 . by_cases hy:0<=y
   . obtain⟨i,rfl,hi⟩:=V1.kO hT.qa hx;obtain⟨k,rfl,hk⟩:=V1.kO hT.qb hy;obtain⟨tb,to,t⟩:=V1.rT hi;obtain⟨ub,uo,u⟩:=V1.rT hk;have t1:=λ{R}=>@t.pr R
     have t3:=t.one;have u1:=λ{R}=>@u.pr R
     have u3:=u.one;unfold acp wj;simp only[Zd4];by_cases ht:cC J.p.ts i=cC J.p.ts k
     .  refine⟨s1,?_,by simpa [ht,eN]using dR⟩;simp[-ax,fG,bo,hx,hy,vc,jc,p1,p3,p4,p6,t1,t3,u1,u3,ht]
     .  have d1:decide (((cC J.p.ts i:Nat):Int)=((cC J.p.ts k:Nat):Int))=false:=Za2 (by omega);refine⟨s2,?_,by simpa [hx,hy,ht,rX]using e2⟩;simp[-ax,fG,bo,hx,hy,vc,jc,p1,p3,p4,p6,t1,t3,u1,u3,d1,e1]
   .refine⟨s1,?_,by simpa [hy,eN]using dR⟩;simp[-ax,fG,bo,hy]
 .refine⟨s1,?_,by simpa [hx,eN]using dR⟩;simp[-ax,fG,bo,hx]
def atP(J:Jt)(r:Rl)(x:Int):Bool:= !decide (GF J.p.ts (wj J x)=r.t)
def TR(J:Jt)(r:Rl)(x:Int):Bool:= !decide (GF J.p.ts (wj J x)=r.t)|| !decide (x - ((BJ (cC J.p.ts) (wj J x) x.toNat:Nat):Int)=r.n)
theorem alx{a:Nat}{x:Int}(h:q[a]? =some x)(P:Int->Bool):Yb (qF q) a P=yW (decide (0<=x)&&P x) 1 [(a:Int)]:=by
 unfold Yb on;rw[yo h]
theorem avt(hc:bu c)(H:kP c fv s0 I M)(V:Vw s0 vb jb j J P G q g){r:Rl}{a:Nat}{x:Int}(ga:gi J.p r.a=(a:Int))(ha:q[a]? =some x)(hI:I s l)(hB:fS l+2<=1000000):
   ∃s',c 95 [.ptr vb 0,.agg r.cells,fv] s=some (.tuple [],s')/\I s' (l++Yb (qF q) a (atP J r)):=by
 refine H.fin hI (λh=>acq hc 1 h) ?_;have hw:=(H.ai hI).wf;have dR:=H.grow hI (Grew.ah hw (.cells r.cells 0));have V1:=V.ai (H.ai dR);have fG:=aB s (.cells r.cells 0);rw[alx ha,ae8,di,show AV.cells (.agg r.cells)=r.cells from rfl];generalize ah s (.cells r.cells 0)=s1 at*
 have vc:=V1.vc;have jc:=V1.jw.mj;have wh:=V1.who hc r.a;rw[ga]at wh;obtain⟨pb,po,p⟩:=pZ V1.pq ha;have p1:=λ{R}=>@p.st R
 have p3:=p.one;obtain⟨s2,v2,e1,e2,_⟩:=H.Z7 dR hB a;by_cases hx:0<=x
 . obtain⟨i,rfl,hi⟩:=V1.kO ha hx;obtain⟨tb,to,t⟩:=V1.rT hi;have t1:=λ{R}=>@t.pr R
   have t3:=t.one;obtain⟨T,v,b,o,_,hn,h⟩:=V1.rN hi;have h1:=λ{R}=>@h.pr R
   have h2:=h.at' 0 _ rfl;rw[Zg2]at h2;unfold atP wj;simp only[Zd4,hn];by_cases hd:T.name=r.t
   .refine⟨s1,?_,by simpa [hd,eN]using dR⟩;simp[-ax,fG,vc,jc,wh,p1,p3,hx,t1,t3,h1,h2,hd]
   .have d1:decide (T.name=r.t)=false:=Za2 hd;refine⟨s2,?_,by simpa [hd,rX]using e2⟩;simp[-ax,fG,vc,jc,wh,p1,p3,hx,t1,t3,h1,h2,d1,e1]
 .refine⟨s1,?_,by simpa [hx,eN]using dR⟩;simp[-ax,fG,vc,jc,wh,p1,p3,hx]
theorem atX(V:Vw s vb jb j J P G q g){i0:Nat}(tu:i0<J.N)(x2 x4 x6:AV)(F:Nat)(k2):∀(m i f:Nat),m<f->i<=m->i<J.N->
  p7 c F k2 f [.ptr vb 0,x2,x4,x6,.int .i64 (i0:Int),.int .i64 (i:Int)] s=k2 [.ptr vb 0,x2,x4,x6,.int .i64 (i0:Int),.int .i64 ((BJ (cC J.p.ts) (cC J.p.ts i0) i:Nat):Int)] s:=by
 have vc:=V.vc;have jc:=V.jw.mj;obtain⟨tb,to,t⟩:=V.rT tu;have t1:=λ{R}=>@t.pr R
 have t3:=t.one;intro m;induction m with
 |zero=>
  intro i f hf hi _;obtain⟨f,rfl⟩:∃g,f=g+1:=⟨f - 1,by omega⟩
  obtain rfl:i=0:=by omega
  rw[rY];simp[BJ]
 |succ m ih=>
  intro i f hf hi hN;obtain⟨f,rfl⟩:∃g,f=g+1:=⟨f - 1,by omega⟩
  cases i with
  |zero=>rw[rY];simp[BJ]
  |succ i=>
   have wr:av .i64 (((i+1:Nat):Int) - 1)=(i:Int):=(by rw[wrap64 (by omega) (by have:=V.jw.nN;have:=V.jw.kL.ts;have:=(ry J.p.ts).2;omega)];omega);obtain⟨ub,uo,u⟩:=V.rT (i:=i) (by omega);have u1:=λ{R}=>@u.pr R
   have u3:=u.one;have hp:(0:Int)<((i+1:Nat):Int):=(by omega);unfold BJ;by_cases ht:cC J.p.ts i=cC J.p.ts i0
   .    rw[Zb4 ht, <-ih i f (by omega) (by omega) (by omega),rY];have d1:decide (((cC J.p.ts i:Nat):Int)=((cC J.p.ts i0:Nat):Int))=true:=Za0 (by omega);have HJ:(0:Int)<(i:Int)+1:=(by omega);have wr2:av .i64 ((i:Int)+1 - 1)=(i:Int):=(by rw[show((i:Int)+1)=((i+1:Nat):Int)by omega];exact wr);simp only[aD,aX,dh,ale,Za0 hp,aeU,qU,bC,Zb1,ak8,jZ,vc,jc,az,Za6,Za4,Jc.c6,aQ,alk,wr,u1,u3,t1,t3,aeW,d1,Tm,cV,au,aeY]
   .    rw[Za7 ht,rY];have d1:decide (((cC J.p.ts i:Nat):Int)=((cC J.p.ts i0:Nat):Int))=false:=Za2 (by omega);simp only[aD,aX,dh,ale,Za0 hp,aeU,qU,bC,Zb1,ak8,jZ,vc,jc,az,Za6,Za4,Jc.c6,aQ,alk,wr,u1,u3,t1,t3,aeW,d1,Tm,cE]
theorem Vw.FB(V:Vw s vb jb j J P G q g):J.N<=100000/\J.n<=100:=by have:=V.jw.nN;have:=V.jw.kL.ts;have:=(ry J.p.ts).2;have:=V.jw.kL.gs;unfold Jt.n;omega
theorem aiK(tab:Nat->Nat)(t:Nat):∀i,BJ tab t i<=i
 |0=>Za5 _
 |i+1=>by have:=aiK tab t i;unfold BJ;split<;>omega
theorem arq(hc:bu c)(H:kP c fv s0 I M)(V:Vw s0 vb jb j J P G q g){r:Rl}{a:Nat}{x:Int}(ga:gi J.p r.a=(a:Int))(ha:q[a]? =some x)(hI:I s l)(hB:fS l+2<=1000000):
   ∃s',c 96 [.ptr vb 0,.agg r.cells,fv] s=some (.tuple [],s')/\I s' (l++Yb (qF q) a (TR J r)):=by
 refine H.fin hI (λh=>Yi hc (x.toNat+1) h) ?_;have hw:=(H.ai hI).wf;have dR:=H.grow hI (Grew.ah hw (.cells r.cells 0));have V1:=V.ai (H.ai dR);have fG:=aB s (.cells r.cells 0);rw[alx ha,acs,di,show AV.cells (.agg r.cells)=r.cells from rfl];generalize ah s (.cells r.cells 0)=s1 at*
 have vc:=V1.vc;have jc:=V1.jw.mj;have wh:=V1.who hc r.a;rw[ga]at wh;obtain⟨pb,po,p⟩:=pZ V1.pq ha;have p1:=λ{R}=>@p.st R
 have p3:=p.one;obtain⟨s2,v2,e1,e2,_⟩:=H.Z7 dR hB a;by_cases hx:0<=x
 . obtain⟨i,rfl,hi⟩:=V1.kO ha hx;have hN:=V1.FB;obtain⟨tb,to,t⟩:=V1.rT hi;have t1:=λ{R}=>@t.pr R
   have t3:=t.one;obtain⟨T,v,b,o,_,hn,h⟩:=V1.rN hi;have h1:=λ{R}=>@h.pr R
   have h2:=h.at' 0 _ rfl;rw[Zg2]at h2;have lp:=λk2=>atX (c:=c) V1 hi fv (.ptr s.next 0) (.int .i64 (a:Int)) (i+1) k2 i i (i+1) (by omega) (by omega) hi
   have bl:=aiK (cC J.p.ts) (cC J.p.ts i) i;have ws:av .i64 ((i:Int) - ((BJ (cC J.p.ts) (cC J.p.ts i) i:Nat):Int))=(i:Int) - ((BJ (cC J.p.ts) (cC J.p.ts i) i:Nat):Int):=wrap64 (by omega) (by omega);unfold TR wj;simp only[Zd4,hn];have dx:decide ((i:Int)<0)=false:=Za2 (by omega);by_cases hd:T.name=r.t
   . by_cases hm:(i:Int) - ((BJ (cC J.p.ts) (cC J.p.ts i) i:Nat):Int)=r.n
     .  refine⟨s1,?_,by simpa [hd,hm,eN]using dR⟩;have ws':av .i64 r.n=r.n:=(by rw[<-hm];exact ws);simp[-ax,fG,vc,jc,wh,p1,p3,dx,lp,t1,t3,h1,h2,hd,ws',hm]
     .  have d2:decide ((i:Int) - ((BJ (cC J.p.ts) (cC J.p.ts i) i:Nat):Int)=r.n)=false:=Za2 hm;refine⟨s2,?_,by simpa [hd,hm,rX]using e2⟩;simp[-ax,fG,vc,jc,wh,p1,p3,dx,lp,t1,t3,h1,h2,hd,ws,d2,e1]
   .have d1:decide (T.name=r.t)=false:=Za2 hd;refine⟨s2,?_,by simpa [hd,rX]using e2⟩;simp[-ax,fG,vc,jc,wh,p1,p3,dx,lp,t1,t3,h1,h2,d1,e1]
 .have dx:decide (x<0)=true:=Za0 (by omega);refine⟨s1,?_,by simpa [hx,eN]using dR⟩;simp[-ax,fG,vc,jc,wh,p1,p3,dx]
end
def SoC(c:aj)(sv:AV)(M:St->Pos->Prop)(s0 sB:St)(J:Jt)(q:List Int)(S:Nat->Nat->Int->Int->Bool):Prop:=
 ∀{s},Grew s0 s->iu M sB s->∀{a b i k:Nat},q[a]? =some (i:Int)->q[b]? =some (k:Int)->i<J.N->k<J.N->∀(K:AV->St->Option (AV×St)),aq c .callV [sv,.int .i64 (a:Int),.int .i64 (b:Int)] s K=K (.bool (S a b (i:Int) (k:Int))) s
section
variable{c:aj}{fv:AV}{s0 sB:St}{I:St->List Ev->Prop}{M:St->Pos->Prop}{s:St}{l:List Ev}{vb jb:Pos}{j:Jc}{J:Jt}{P G:AV}{q g:List Int}
def prP(J:Jt)(S:Nat->Nat->Int->Int->Bool)(a b:Nat)(x y:Int):Bool:=decide (wj J y=wj J x)&&S a b x y
theorem aoJ{a b:Nat}{x y:Int}(ha:q[a]? =some x)(hb:q[b]? =some y)(P:Nat->Nat->Int->Int->Bool):vL (qF q) P a b=yW (decide (0<=x)&&decide (0<=y)&&P a b x y) 1 [(a:Int),(b:Int)]:=by
 unfold vL on;rw[yo ha,yo hb]
theorem aiL(P:Nat->Nat->Int->Int->Bool)(a b:Nat):fS (vL (qF q) P a b)<=3:=HX _ _ _
theorem art(H:kP c fv s0 I M)(V:Vw s0 vb jb j J P G q g){sv:AV}{S:Nat->Nat->Int->Int->Bool}(hS:SoC c sv M s0 sB J q S){a i:Nat}(ha:q[a]? =some (i:Int))(hi:i<J.N)(x5 x15 x16 x17:AV)(F:Nat):
  ∀(m b f:Nat)(s:St)(l:List Ev),b+m=q.length->m<f->I s l->iu M sB s->fS l+3*m<=1000000->∃s',I s' (l++cU (vL (qF q) (prP J S) a) m b)/\iu M sB s'/\
   ∀k4,iH c F k4 f [.ptr vb 0,sv,fv,x5,.int .i64 (a:Int),.int .i64 (i:Int),.int .i64 (b:Int),x15,x16,x17] s=k4 [.ptr vb 0,sv,fv,x5,x15,x16,x17] s':=by
 intro m;induction m with
 |zero=>
  intro b f s l hb hf hI hF hB;obtain⟨f,rfl⟩:∃g,f=g+1:=⟨f - 1,by omega⟩
  have V1:=V.ai (H.ai hI);have vc:=V1.vc;have ln:=λ(K:AV->St->Option (AV×St))=>V1.pq.lenB (c:=c) K s
  rw[Za3]at ln;refine⟨s,by simpa [cU]using hI,hF,λk4=> ?_⟩;obtain rfl:b=q.length:=by omega
  rw[mX];simp[vc,ln]
 |succ m ih=>
  intro b f s l hb hf hI hF hB;obtain⟨f,rfl⟩:∃g,f=g+1:=⟨f - 1,by omega⟩
  have V1:=V.ai (H.ai hI);have vc:=V1.vc;have jc:=V1.jw.mj;have ln:=λ(K:AV->St->Option (AV×St))=>V1.pq.lenB (c:=c) K s
  rw[Za3]at ln;have z8:b<q.length:=by omega
  obtain⟨y,hy⟩:∃y,q[b]? =some y:=⟨_,H0 z8⟩
  obtain⟨pb,po,p⟩:=pZ V1.pq hy;have p1:=λ{R}=>@p.st R
  have p3:=p.one;have hN:=V1.FB;have mH:=V.ql;have wr:av .i64 ((b:Int)+1)=((b+1:Nat):Int):=wrap64 (by omega) (by omega)
  have step:∃s2,I s2 (l++vL (qF q) (prP J S) a b)/\iu M sB s2/\∀k4,iH c F k4 (f+1) [.ptr vb 0,sv,fv,x5,.int .i64 (a:Int),.int .i64 (i:Int),.int .i64 (b:Int),x15,x16,x17] s=
        iH c F k4 f [.ptr vb 0,sv,fv,x5,.int .i64 (a:Int),.int .i64 (i:Int),.int .i64 ((b+1:Nat):Int),x15,x16,x17] s2:=by
   rw[aoJ ha hy];by_cases h0:0<=y
   .    obtain⟨k,rfl,hk⟩:=V1.kO hy h0;obtain⟨tb,to,t⟩:=V1.rT hi;obtain⟨ub,uo,u⟩:=V1.rT hk;have t1:=λ{R}=>@t.pr R
        have t3:=t.one;have u1:=λ{R}=>@u.pr R
        have u3:=u.one;unfold prP wj;simp only[Zd4];by_cases ht:cC J.p.ts k=cC J.p.ts i
        . have so:=hS (H.ai hI) hF ha hy hi hk;generalize S a b (i:Int) (k:Int)=e at*
          cases e
          .refine⟨s,by simpa [ht,eN]using hI,hF,λk4=> ?_⟩;rw[mX];simp[-ax,cY,z8,vc,ln,jc,p1,p3,t1,t3,u1,u3,ht,so,wr]
          .obtain⟨s2,v2,e1,e2,e3⟩:=H.TM hI (by omega) a b;refine⟨s2,by simpa [ht,rX]using e2,hF.trans e3,λk4=> ?_⟩;rw[mX];simp[-ax,cY,z8,vc,ln,jc,p1,p3,t1,t3,u1,u3,ht,so,wr,e1]
        .have d1:decide (((cC J.p.ts k:Nat):Int)=((cC J.p.ts i:Nat):Int))=false:=Za2 (by omega);refine⟨s,by simpa [ht,eN]using hI,hF,λk4=> ?_⟩;rw[mX];simp[-ax,cY,z8,vc,ln,jc,p1,p3,t1,t3,u1,u3,d1,wr]
   .    refine⟨s,by simpa [h0,eN]using hI,hF,λk4=> ?_⟩;rw[mX];simp[-ax,cY,z8,vc,ln,jc,p1,p3,h0,wr]
  obtain⟨s2,a1,a2,a3⟩:=step;have vH:=aiL (q:=q) (prP J S) a b;obtain⟨s',z1,z2,z3⟩:=ih (b+1) f s2 _ (by omega) (by omega) a1 a2 (by rw[Mg];omega);exact⟨s',by rw[cU, <-Zf0];exact z1,z2,λk4=>by rw[a3,z3]⟩
def jr(J:Jt)(r:Rl)(S:Nat->Nat->Int->Int->Bool)(a b:Nat)(x y:Int):Bool:=oY J.p.ts r.t x.toNat&&prP J S a b x y
theorem Yj(P:Nat->Nat->Int->Int->Bool)(a:Nat):∀m k,fS (cU (vL (qF q) P a) m k)<=3*m:=λm k=>by have:=A7 (f:=vL (qF q) P a) (B:=3) (λk=>aiL P a k) m k;omega
theorem aru(hc:bu c)(H:kP c fv s0 I M)(V:Vw s0 vb jb j J P G q g){sv:AV}{S:Nat->Nat->Int->Int->Bool}(hS:SoC c sv M s0 sB J q S){r:Rl}{rb:Pos}(hr:sB.heap.get rb=some (.cells r.cells 0))(tK:¬M sB rb)(F:Nat)(hFu:q.length<F):
  ∀(m a f:Nat)(s:St)(l:List Ev),a+m=q.length->m<f->I s l->iu M sB s->fS l+3*q.length*m<=1000000->∃s',I s' (l++cU (λa=>cU (vL (qF q) (jr J r S) a) (q.length - (a+1)) (a+1)) m a)/\iu M sB s'/\
   ∀k2,jM c F k2 f [.ptr vb 0,sv,fv,.ptr rb 0,P,.int .i64 (q.length:Int),.int .i64 (a:Int)] s=k2 [] s':=by
 intro m;induction m with
 |zero=>
  intro a f s l hb hf hI hF hB;obtain⟨f,rfl⟩:∃g,f=g+1:=⟨f - 1,by omega⟩
  refine⟨s,by simpa [cU]using hI,hF,λk2=> ?_⟩;obtain rfl:a=q.length:=by omega
  rw[qz];simp
 |succ m ih=>
  intro a f s l hb hf hI hF hB;obtain⟨f,rfl⟩:∃g,f=g+1:=⟨f - 1,by omega⟩
  have V1:=V.ai (H.ai hI);have vc:=V1.vc;have oM:a<q.length:=by omega
  obtain⟨y,hy⟩:∃y,q[a]? =some y:=⟨_,H0 oM⟩
  obtain⟨pb,po,p⟩:=pZ V1.pq hy;have p1:=λ{R}=>@p.st R
  have p3:=p.one;have hN:=V1.FB;have mH:=V.ql;have fG:=(hF.2.2 rb _ tK hr).1;have wr:av .i64 ((a:Int)+1)=((a+1:Nat):Int):=wrap64 (by omega) (by omega);rw[Nat.mul_succ]at hB;have fp:=alw (qF q) (λx=>oY J.p.ts r.t x.toNat) (prP J S) a (q.length - (a+1)) (a+1);have fp:cU (vL (qF q) (jr J r S) a) (q.length - (a+1)) (a+1)=_:=fp;have e0:on (qF q) a=decide (0<=y):=by unfold on;rw[yo hy]
  rw[e0,yo hy]at fp
  have step:∃s2,I s2 (l++cU (vL (qF q) (jr J r S) a) (q.length - (a+1)) (a+1))/\iu M sB s2/\∀k2,jM c F k2 (f+1) [.ptr vb 0,sv,fv,.ptr rb 0,P,.int .i64 (q.length:Int),.int .i64 (a:Int)] s=
        jM c F k2 f [.ptr vb 0,sv,fv,.ptr rb 0,P,.int .i64 (q.length:Int),.int .i64 ((a+1:Nat):Int)] s2:=by
   rw[fp];by_cases h0:0<=y
   .    obtain⟨i,rfl,hi⟩:=V1.kO hy h0;have dn:decide ((i:Int)<0)=false:=Za2 (by omega);have ak:=HZ hc V1 r hi;simp only[Zd4,Za0 h0,Zg5];generalize oY J.p.ts r.t i=e at*
        cases e
        .refine⟨s,by simpa using hI,hF,λk2=> ?_⟩;rw[qz];simp[-ax,cY,oM,p1,p3,dn,fG,ak,wr]
        .obtain⟨s2,z1,z2,z3⟩:=art (c:=c) H V hS hy hi (.ptr rb 0) P (.int .i64 (q.length:Int)) (.int .i64 (a:Int)) F (q.length - (a+1)) (a+1) F s l (by omega) (by omega) hI hF (by have:=Zl5 3 (show q.length - (a+1)<=q.length by omega);omega);refine⟨s2,by simpa using z1,z2,λk2=> ?_⟩;simp only[show((a+1:Nat):Int)=(a:Int)+1 by omega]at z3 wr ⊢;rw[qz];simp[-ax,cY,oM,p1,p3,dn,fG,ak,wr,z3]
   .    have dn:decide (y<0)=true:=Za0 (by omega);refine⟨s,by simpa [h0]using hI,hF,λk2=> ?_⟩;rw[qz];simp[-ax,cY,oM,p1,p3,dn,wr]
  obtain⟨s2,a1,a2,a3⟩:=step;have vH:=Yj (q:=q) (jr J r S) a (q.length - (a+1)) (a+1);obtain⟨s',z1,z2,z3⟩:=ih (a+1) f s2 _ (by omega) (by omega) a1 a2 (by rw[Mg];have:=Zl5 3 (show q.length - (a+1)<=q.length by omega);omega);exact⟨s',by rw[cU, <-Zf0];exact z1,z2,λk2=>by rw[a3,z3]⟩
theorem TU(hc:bu c)(H:kP c fv s0 I M)(V:Vw s0 vb jb j J P G q g){sv:AV}{S:Nat->Nat->Int->Int->Bool}(hS:SoC c sv M s0 s J q S)(r:Rl)(hI:I s l)(hB:fS l+3*q.length*q.length<=1000000):
  ∃s',c 164 [.ptr vb 0,.agg r.cells,sv,fv] s=some (.tuple [],s')/\I s' (l++Aq (qF q) q.length (jr J r S)):=by
 refine H.fin hI (λh=>Wo hc (q.length+1) h) ?_;have hw:=(H.ai hI).wf;have gr:=Grew.ah hw (.cells r.cells 0);have dR:=H.grow hI gr;have V1:=V.ai (H.ai dR);have hF:=H.fr hI gr;have Aa:SoC c sv M s0 (ah s (.cells r.cells 0)) J q S:=λ{s2} g1 g2=>hS g1 (hF.trans g2)
 have tK:¬M (ah s (.cells r.cells 0)) s.next:=λh=>by have:=H.mlt hI (H.mW hI gr h);omega
 have vc:=V1.vc;have ln:=λ(K:AV->St->Option (AV×St))=>V1.pq.lenB (c:=c) K (ah s (.cells r.cells 0))
 rw[Za3]at ln;obtain⟨s',z1,z2,z3⟩:=aru (c:=c) hc H V Aa (aB s (.cells r.cells 0)) tK (q.length+1) (by omega) q.length 0 (q.length+1) _ l (by omega) (by omega) dR (iu.refl V1.wf) hB;refine⟨s',?_,z1⟩;rw[aat,di,show AV.cells (.agg r.cells)=r.cells from rfl];have z3:=z3 (λvs s=>mG vs (some (.tuple [],s)));simp only[au,cr,aK,Zb1,aO,vc,az,Za6,Za4,Zb6,aQ,ln];rw[show(0:Int)=((0:Nat):Int)from rfl,z3];rfl
end
def Z8(J:Jt)(a:Nat):Int:=match J.p.gs[a]? with|some g=>g.side|none=>0
def Rk(J:Jt)(a:Nat):List Nat:=match J.p.gs[a]? with|some g=>g.j5|none=>[]
def MP(J:Jt)(a b:Nat):Int:=(J.jd.getD a []).getD b 0
def sJ(J:Jt)(a:Nat):Int:=J.p.cs.getD a 0
def PO(J:Jt)(a b:Nat)(x y:Int):Bool:=decide (0<Z8 J a)&&decide (Z8 J a=Z8 J b)&&(nR J.p.ts x.toNat).contains y
def PR(J:Jt)(a b:Nat)(x y:Int):Bool:= !decide (Rk J a=[])&&decide (Rk J a=Rk J b)&&(nR J.p.ts x.toNat).contains y
def A8(J:Jt)(a b:Nat)(x y:Int):Bool:=decide (MP J a b=2)&&LA J.p.ts x.toNat y
def acu(J:Jt)(x:Int):Int:=BZ J.p.ts x
def MQ(J:Jt)(a b:Nat)(x y:Int):Bool:=if sJ J b<sJ J a then decide (sJ J b<sJ J a)&&decide (acu J x<acu J y)else decide (sJ J a<sJ J b)&&decide (acu J y<acu J x)
section
variable{c:aj}{fv:AV}{s0 sB:St}{I:St->List Ev->Prop}{M:St->Pos->Prop}{s:St}{l:List Ev}{vb jb:Pos}{j:Jc}{J:Jt}{P G:AV}{q g:List Int}
theorem Vw.qK(V:Vw s vb jb j J P G q g){a:Nat}{x:Int}(ha:q[a]? =some x):∃A v b o,J.p.gs[a]? =some A/\Rd s 9 j.V2 a b o (A.ay v):=by
 have h:a<J.p.gs.length:=by have:=V.ql;unfold Jt.n at this;rw[<-this];exact(Za1.1 ha).1
 obtain⟨v,b,o,h1⟩:=V.rG (H0 h);exact⟨_,v,b,o,H0 h,h1⟩
theorem agO(hc:bu c)(V:Vw s vb jb j J P G q g){vp:Pos}(hv:s.heap.get vp=some (.cells [.ptr vb 0] 0)){a b i:Nat}{y:Int}(ha:q[a]? =some (i:Int))(hb:q[b]? =some y)(hi:i<J.N):
   c 165 [.int .i64 (a:Int),.int .i64 (b:Int),.ptr vp 0] s=some (.bool (PO J a b (i:Int) y),s):=by
 rw[LB hc 1 (r:=(.bool (PO J a b (i:Int) y),s)),aE (Plain.bool _) (aZ.refl s)];rw[Of];have vc:=V.vc;have jc:=V.jw.mj;obtain⟨A,v,ab,ao,hA,h1⟩:=V.qK ha;obtain⟨B,v',bb,bo,hB,h2⟩:=V.qK hb;have r1:=λ{R}=>@h1.pr R
 have r2:=h1.at' 4 _ rfl;have r3:=λ{R}=>@h2.pr R
 have r4:=h2.at' 4 _ rfl;obtain⟨w,wb,wo,h3,h4⟩:=V.rB hi;have cl:=Gy hc V h3 h4 (Mh _ _).1 ha hb;unfold PO Z8;rw[hA,hB];simp only[Zd4];generalize (nR J.p.ts i).contains y=e at*
 by_cases d1:0<A.side
 . by_cases d2:A.side=B.side
   .have H6:0<B.side:=(by rw[<-d2];exact d1);simp[hv,vc,jc,r1,r2,r3,r4,d1,H6,d2,cl]
   .have MR:decide (A.side=B.side)=false:=Za2 d2;simp[hv,vc,jc,r1,r2,r3,r4,d1,MR]
 .have H6:decide (0<A.side)=false:=Za2 d1;simp[hv,vc,jc,r1,r2,r3,r4,H6]
theorem atY(hc:bu c)(V:Vw s vb jb j J P G q g){vp:Pos}(hv:s.heap.get vp=some (.cells [.ptr vb 0] 0)){a b i:Nat}{y:Int}(ha:q[a]? =some (i:Int))(hb:q[b]? =some y)(hi:i<J.N):
   c 174 [.int .i64 (a:Int),.int .i64 (b:Int),.ptr vp 0] s=some (.bool (PR J a b (i:Int) y),s):=by
 rw[Wp hc 1 (r:=(.bool (PR J a b (i:Int) y),s)),aE (Plain.bool _) (aZ.refl s)];rw[aau];have vc:=V.vc;have jc:=V.jw.mj;obtain⟨A,v,ab,ao,hA,h1⟩:=V.qK ha;obtain⟨B,v',bb,bo,hB,h2⟩:=V.qK hb;have r1:=λ{R}=>@h1.pr R
 have r2:=h1.at' 2 _ rfl;have r3:=λ{R}=>@h2.pr R
 have r4:=h2.at' 2 _ rfl;obtain⟨w,wb,wo,h3,h4⟩:=V.rB hi;have cl:=Gy hc V h3 h4 (Mh _ _).1 ha hb;unfold PR Rk;rw[hA,hB];simp only[Zd4];generalize (nR J.p.ts i).contains y=e at*
 by_cases d1:A.j5=[]
 .have H6:decide (A.j5=[])=true:=Za0 d1;simp[hv,vc,jc,r1,r2,r3,r4,H6]
 . have H6:decide (A.j5=[])=false:=Za2 d1;by_cases d2:A.j5=B.j5
   .have MR:decide (A.j5=B.j5)=true:=Za0 d2;simp[hv,vc,jc,r1,r2,r3,r4,H6,MR,cl]
   .have MR:decide (A.j5=B.j5)=false:=Za2 d2;simp[hv,vc,jc,r1,r2,r3,r4,H6,MR]
theorem Vw.tie(V:Vw s vb jb j J P G q g){a b:Nat}{x y:Int}(ha:q[a]? =some x)(hb:q[b]? =some y):∃w p o p2 o2,Rd s 1 j.L7 a p o [w]/\Rd s 1 w b p2 o2 [.int .u8 (MP J a b)]:=by
 have h1:a<J.jd.length:=by rw[V.jw.n2, <-V.ql];exact(Za1.1 ha).1
 have h2:b<J.jd[a].length:=by rw[V.jw.n4 _ (Zb8 h1), <-V.ql];exact(Za1.1 hb).1
 have e:MP J a b=J.jd[a][b]:=by
  unfold MP;rw[Zb9,Zb9,H0 h1,Ze6,H0 h2,Ze6]
 rw[e];exact V.rK (H0 h1) (H0 h2)
theorem aoK(hc:bu c)(V:Vw s vb jb j J P G q g){vp:Pos}(hv:s.heap.get vp=some (.cells [.ptr vb 0] 0)){a b i:Nat}{y:Int}(ha:q[a]? =some (i:Int))(hb:q[b]? =some y)(hi:i<J.N):
   c 169 [.int .i64 (a:Int),.int .i64 (b:Int),.ptr vp 0] s=some (.bool (A8 J a b (i:Int) y),s):=by
 rw[Rm hc 1 (r:=(.bool (A8 J a b (i:Int) y),s)),aE (Plain.bool _) (aZ.refl s)];rw[Wq];have vc:=V.vc;have jc:=V.jw.mj;obtain⟨w,p,o,p2,o2,h1,h2⟩:=V.tie ha hb;have r1:=λ{R}=>@h1.st R
 have r2:=h1.one;have r3:=λ{R}=>@h2.st R
 have r4:=h2.one;have nr:=agc hc V ha hi hb;unfold A8;simp only[Zd4];by_cases d1:MP J a b=2
 .have H6:decide (MP J a b=2)=true:=Za0 d1;simp[hv,vc,jc,r1,r2,r3,r4,H6,nr]
 .have H6:decide (MP J a b=2)=false:=Za2 d1;simp[hv,vc,jc,r1,r2,r3,r4,H6]
theorem Vw.cls(V:Vw s vb jb j J P G q g)(fB:J.p.cs.length=q.length){a:Nat}{x:Int}(ha:q[a]? =some x):∃b o,Rd s 1 j.V4 a b o [.int .i64 (sJ J a)]:=by
 have h1:a<J.p.cs.length:=by rw[fB];exact(Za1.1 ha).1
 refine pZ V.jw.cls (i:=a) ?_;unfold sJ;rw[Zb9,H0 h1];rfl
theorem amF(hc:bu c)(V:Vw s vb jb j J P G q g)(fB:J.p.cs.length=q.length){vp:Pos}(hv:s.heap.get vp=some (.cells [.ptr vb 0] 0)){a b i k:Nat}(ha:q[a]? =some (i:Int))(hb:q[b]? =some (k:Int))(hi:i<J.N)(hk:k<J.N):
   c 171 [.int .i64 (a:Int),.int .i64 (b:Int),.ptr vp 0] s=some (.bool (MQ J a b (i:Int) (k:Int)),s):=by
 rw[PT hc 1 (r:=(.bool (MQ J a b (i:Int) (k:Int)),s)),aE (Plain.bool _) (aZ.refl s)];rw[TV];have vc:=V.vc;have jc:=V.jw.mj;obtain⟨ab,ao,h1⟩:=V.cls fB ha;obtain⟨bb,bo,h2⟩:=V.cls fB hb;have r1:=λ{R}=>@h1.pr R
 have r2:=h1.one;have r3:=λ{R}=>@h2.pr R
 have r4:=h2.one;obtain⟨pb,po,p⟩:=pZ V.pq ha;obtain⟨qb,qo,p'⟩:=pZ V.pq hb;have p1:=λ{R}=>@p.pr R
 have p3:=p.one;have p4:=λ{R}=>@p'.pr R
 have p6:=p'.one;obtain⟨tb,to,t⟩:=V.rL hi;obtain⟨ub,uo,u⟩:=V.rL hk;have t1:=λ{R}=>@t.pr R
 have t3:=t.one;have u1:=λ{R}=>@u.pr R
 have u3:=u.one;unfold MQ acu;by_cases d1:sJ J b<sJ J a
 .rw[Zb4 d1];have H6:decide (sJ J b<sJ J a)=true:=Za0 d1;simp[cY,hv,vc,jc,r1,r2,r3,r4,p1,p3,p4,p6,t1,t3,u1,u3,H6]
 . rw[Za7 d1];have H6:decide (sJ J b<sJ J a)=false:=Za2 d1;by_cases d2:sJ J a<sJ J b
   .have MR:decide (sJ J a<sJ J b)=true:=Za0 d2;simp[cY,hv,vc,jc,r1,r2,r3,r4,p1,p3,p4,p6,t1,t3,u1,u3,H6,MR]
   .have MR:decide (sJ J a<sJ J b)=false:=Za2 d2;simp[cY,hv,vc,jc,r1,r2,r3,r4,p1,p3,p4,p6,t1,t3,u1,u3,H6,MR]
theorem adP(V:Vw s0 vb jb j J P G q g){f:FuncId}{vp:Pos}{S:Nat->Nat->Int->Int->Bool}(hv:sB.heap.get vp=some (.cells [.ptr vb 0] 0))(hM:¬M sB vp)
  (dF:∀{s},Vw s vb jb j J P G q g->s.heap.get vp=some (.cells [.ptr vb 0] 0)->∀{a b i k:Nat},q[a]? =some (i:Int)->q[b]? =some (k:Int)->i<J.N->k<J.N->c f [.int .i64 (a:Int),.int .i64 (b:Int),.ptr vp 0] s=some (.bool (S a b (i:Int) (k:Int)),s)):
  SoC c (.func f [] [.ptr vp 0]) M s0 sB J q S:=λ{s} g1 hF {a b i k} ha hb hi hk K=>by
 rw[iZ];simp only[Ze2,Zd8];rw[dF (V.ai g1) (hF.2.2 vp _ hM hv).1 ha hb hi hk];rfl
theorem atZ{q:Nat->Int}{P:Nat->Nat->Int->Int->Bool}(h:∀a b x y,P a b x y=false)(n:Nat):Aq q n P=[]:=by
 have h1:∀a m k,cU (vL q P a) m k=[]:=λa m=>by
  induction m with
  |zero=>intro k;rfl
  |succ m ih=>intro k;rw[cU,ih (k+1)];unfold vL;rw[h];simp[yW]
 have h2:∀m k,cU (λa=>cU (vL q P a) (n - (a+1)) (a+1)) m k=[]:=λm=>by
  induction m with
  |zero=>intro k;rfl
  |succ m ih=>intro k;rw[cU,ih (k+1),h1];rfl
 exact h2 _ _
theorem agP(hc:bu c)(H:kP c fv s0 I M)(V:Vw s0 vb jb j J P G q g)(r:Rl)(hI:I s l)(hB:fS l+3*q.length*q.length<=1000000):
  ∃s',c 97 [.ptr vb 0,.agg r.cells,fv] s=some (.tuple [],s')/\I s' (l++Aq (qF q) q.length (jr J r (PO J))):=by
 refine H.fin hI (λh=>Og hc 1 h) ?_;have hw:=(H.ai hI).wf;have g1:=Grew.ah hw (.cells [.ptr vb 0] 0);have dR:=H.grow hI g1;have g2:=Grew.ah g1.wf (.cells r.cells 0);have uA:=H.grow dR g2;have b1:=g2.get (aB s (.cells [.ptr vb 0] 0));have b2:=aB (ah s (.cells [.ptr vb 0] 0)) (.cells r.cells 0);have hM:¬M (ah (ah s (.cells [.ptr vb 0] 0)) (.cells r.cells 0)) s.next:=λh=>by have:=H.mlt hI (H.mW hI g1 (H.mW dR g2 h));omega
 obtain⟨s',z1,z2⟩:=TU hc H V (adP (f:=165) (S:=PO J) V b1 hM λ{s} V hv {a b i k} ha hb hi hk=>agO hc V hv ha hb hi) r uA hB;refine⟨s',?_,z2⟩;rw[Rn];simp[show AV.cells (.agg r.cells)=r.cells from rfl,show AV.cells (.ptr vb 0)=[.ptr vb 0]from rfl,b1,b2,z1]
theorem at1(hc:bu c)(H:kP c fv s0 I M)(V:Vw s0 vb jb j J P G q g)(r:Rl)(hI:I s l)(hB:fS l+3*q.length*q.length<=1000000):
  ∃s',c 107 [.ptr vb 0,.agg r.cells,fv] s=some (.tuple [],s')/\I s' (l++Aq (qF q) q.length (jr J r (PR J))):=by
 refine H.fin hI (λh=>aav hc 1 h) ?_;have hw:=(H.ai hI).wf;have g1:=Grew.ah hw (.cells [.ptr vb 0] 0);have dR:=H.grow hI g1;have g2:=Grew.ah g1.wf (.cells r.cells 0);have uA:=H.grow dR g2;have b1:=g2.get (aB s (.cells [.ptr vb 0] 0));have b2:=aB (ah s (.cells [.ptr vb 0] 0)) (.cells r.cells 0);have hM:¬M (ah (ah s (.cells [.ptr vb 0] 0)) (.cells r.cells 0)) s.next:=λh=>by have:=H.mlt hI (H.mW hI g1 (H.mW dR g2 h));omega
 obtain⟨s',z1,z2⟩:=TU hc H V (adP (f:=174) (S:=PR J) V b1 hM λ{s} V hv {a b i k} ha hb hi hk=>atY hc V hv ha hb hi) r uA hB;refine⟨s',?_,z2⟩;rw[adQ];simp[show AV.cells (.agg r.cells)=r.cells from rfl,show AV.cells (.ptr vb 0)=[.ptr vb 0]from rfl,b1,b2,z1]
theorem aoL(hc:bu c)(H:kP c fv s0 I M)(V:Vw s0 vb jb j J P G q g)(r:Rl)(hI:I s l)(hB:fS l+3*q.length*q.length<=1000000):
  ∃s',c 101 [.ptr vb 0,.agg r.cells,fv] s=some (.tuple [],s')/\I s' (l++Aq (qF q) q.length (jr J r (A8 J))):=by
 refine H.fin hI (λh=>Wr hc 1 h) ?_;have hw:=(H.ai hI).wf;have g1:=Grew.ah hw (.cells [.ptr vb 0] 0);have dR:=H.grow hI g1;have g2:=Grew.ah g1.wf (.cells r.cells 0);have uA:=H.grow dR g2;have b1:=g2.get (aB s (.cells [.ptr vb 0] 0));have b2:=aB (ah s (.cells [.ptr vb 0] 0)) (.cells r.cells 0);have hM:¬M (ah (ah s (.cells [.ptr vb 0] 0)) (.cells r.cells 0)) s.next:=λh=>by have:=H.mlt hI (H.mW hI g1 (H.mW dR g2 h));omega
 obtain⟨s',z1,z2⟩:=TU hc H V (adP (f:=169) (S:=A8 J) V b1 hM λ{s} V hv {a b i k} ha hb hi hk=>aoK hc V hv ha hb hi) r uA hB;refine⟨s',?_,z2⟩;rw[aaw];simp[show AV.cells (.agg r.cells)=r.cells from rfl,show AV.cells (.ptr vb 0)=[.ptr vb 0]from rfl,b1,b2,z1]
theorem amG(hc:bu c)(H:kP c fv s0 I M)(V:Vw s0 vb jb j J P G q g)(fB:J.p.cs.length=q.length\/J.p.cs.length=0)(r:Rl)(hI:I s l)(hB:fS l+3*q.length*q.length<=1000000):
   ∃s',c 103 [.ptr vb 0,.agg r.cells,fv] s=some (.tuple [],s')/\I s' (l++Aq (qF q) q.length (jr J r (MQ J))):=by
 refine H.fin hI (λh=>TW hc 1 h) ?_;have hw:=(H.ai hI).wf;have g1:=Grew.ah hw (.cells [.ptr vb 0] 0);have dR:=H.grow hI g1;have g2:=Grew.ah g1.wf (.cells r.cells 0);have uA:=H.grow dR g2;have b1:=g2.get (aB s (.cells [.ptr vb 0] 0));have b2:=aB (ah s (.cells [.ptr vb 0] 0)) (.cells r.cells 0);have hM:¬M (ah (ah s (.cells [.ptr vb 0] 0)) (.cells r.cells 0)) s.next:=λh=>by have:=H.mlt hI (H.mW hI g1 (H.mW dR g2 h));omega
 have V2:=V.ai (H.ai uA);have vc:=V2.vc;have jc:=V2.jw.mj;have ln:=λ(K:AV->St->Option (AV×St))(s:St)=>V2.jw.cls.lenB (c:=c) K s
 rw[Za3]at ln;by_cases h0:J.p.cs.length=0
 . refine⟨_,?_,by
    rw[atZ,Zd7];· exact uA
    .   (intro a b x y;have e:∀a,sJ J a=0:=λa=>by unfold sJ;rw[Zc4 h0];rfl);unfold jr prP MQ;rw[e,e];simp⟩
   rw[H7];simp[show AV.cells (.agg r.cells)=r.cells from rfl,show AV.cells (.ptr vb 0)=[.ptr vb 0]from rfl,b1,b2,vc,jc,ln,h0]
 .have h1:J.p.cs.length=q.length:=(by omega);obtain⟨s',z1,z2⟩:=TU hc H V (adP (f:=171) (S:=MQ J) V b1 hM λ{s} V hv {a b i k} ha hb hi hk=>amF hc V h1 hv ha hb hi hk) r uA hB;refine⟨s',?_,z2⟩;have d0:decide ((J.p.cs.length:Int)=0)=false:=Za2 (by omega);rw[H7];simp only[di,show AV.cells (.agg r.cells)=r.cells from rfl,show AV.cells (.ptr vb 0)=[.ptr vb 0]from rfl,aO,b1,b2,az,Za6,Za4,aQ,cr,aK,Zb1,vc,jc,Jc.c3,ln,dJ,d0,cE,cm,Rl.cc,cG,Hz,au,bI,z1,bw]
end
def ahw(J:Jt)(a:Nat):List Nat:=match J.p.gs[a]? with|some g=>g.name|none=>[]
def ahx(J:Jt)(a:Nat):List Nat:=match J.p.gs[a]? with|some g=>g.mY|none=>[]
def amH(J:Jt)(a:Nat):Bool:=match J.p.gs[a]? with|some g=>g.access|none=>false
def Ju(J:Jt)(r:Rl)(a b:Nat)(x y:Int):Bool:=decide (MP J a b=1)&&(oY J.p.ts r.t x.toNat||oY J.p.ts r.t y.toNat)&& !LA J.p.ts x.toNat y
def TX(J:Jt)(r:Rl)(a:Nat)(x:Int):Bool:= !Gx J.p.ts x&&(decide (r.a=ahw J a)||(decide (r.a=[])&&amH J a))
def TY(J:Jt)(r:Rl)(a:Nat)(x:Int):Bool:=decide (ahx J a=r.a)&& !oY J.p.ts r.t x.toNat
section
variable{c:aj}{fv:AV}{s0 sB:St}{I:St->List Ev->Prop}{M:St->Pos->Prop}{s:St}{l:List Ev}{vb jb:Pos}{j:Jc}{J:Jt}{P G:AV}{q g:List Int}
theorem amI (hc:bu c)(H:kP c fv s0 I M)(V:Vw s0 vb jb j J P G q g){r:Rl}{rb:Pos}(hr:sB.heap.get rb=some (.cells r.cells 0))(tK:¬M sB rb){a:Nat}{x:Int}(ha:q[a]? =some x)(x13 x14 x15:AV)(F:Nat):
  ∀(m b f:Nat)(s:St)(l:List Ev),b+m=q.length->m<f->I s l->iu M sB s->fS l+3*m<=1000000->∃s',I s' (l++cU (vL (qF q) (Ju J r) a) m b)/\iu M sB s'/\
   ∀k4,gC c F k4 f [.ptr vb 0,fv,.ptr rb 0,.int .i64 (a:Int),.int .i64 x,.int .i64 (b:Int),x13,x14,x15] s=k4 [.ptr vb 0,fv,.ptr rb 0,x13,x14,x15] s':=by
 intro m;induction m with
 |zero=>
  intro b f s l hb hf hI hF hB;obtain⟨f,rfl⟩:∃g,f=g+1:=⟨f - 1,by omega⟩
  have V1:=V.ai (H.ai hI);have vc:=V1.vc;have ln:=λ(K:AV->St->Option (AV×St))=>V1.pq.lenB (c:=c) K s
  rw[Za3]at ln;refine⟨s,by simpa [cU]using hI,hF,λk4=> ?_⟩;obtain rfl:b=q.length:=by omega
  rw[iV];simp[vc,ln]
 |succ m ih  =>
  intro b f s l hb hf hI hF hB;obtain⟨f,rfl⟩:∃g,f=g+1:=⟨f - 1,by omega⟩
  have V1:=V.ai (H.ai hI);have vc:=V1.vc;have jc:=V1.jw.mj;have ln:=λ(K:AV->St->Option (AV×St))=>V1.pq.lenB (c:=c) K s
  rw[Za3]at ln;have z8:b<q.length:=by omega
  obtain⟨y,hy⟩:∃y,q[b]? =some y:=⟨_,H0 z8⟩
  obtain⟨pb,po,p⟩:=pZ V1.pq hy;have p1:=λ{R}=>@p.st R
  have p3:=p.one;have hN:=V1.FB;have mH:=V.ql;have fG:=(hF.2.2 rb _ tK hr).1;have wr:av .i64 ((b:Int)+1)=((b+1:Nat):Int):=wrap64 (by omega) (by omega)
  have step  :∃s2,I s2 (l++vL (qF q) (Ju J r) a b)/\iu M sB s2/\∀k4,gC c F k4 (f+1) [.ptr vb 0,fv,.ptr rb 0,.int .i64 (a:Int),.int .i64 x,.int .i64 (b:Int),x13,x14,x15] s=
        gC c F k4 f [.ptr vb 0,fv,.ptr rb 0,.int .i64 (a:Int),.int .i64 x,.int .i64 ((b+1:Nat):Int),x13,x14,x15] s2:=by
   rw[aoJ ha hy];by_cases hx:0<=x
   .    by_cases h0:0<=y
        . obtain⟨i,rfl,hi⟩:=V1.kO ha hx;obtain⟨k,rfl,hk⟩:=V1.kO hy h0;obtain⟨w,tp,to,tp2,to2,h1,h2⟩:=V1.tie ha hy;have r1:=λ{R}=>@h1.st R
          have r2:=h1.one;have r3:=λ{R}=>@h2.st R
          have r4:=h2.one;have nr:=agc hc V1 ha hi hy;have a1:=HZ hc V1 r hi;have a2:=HZ hc V1 r hk;unfold Ju;simp only[Zd4];by_cases ht:MP J a b=1
          . have dt:decide (MP J a b=1)=true:=Za0 ht;generalize LA J.p.ts i (k:Int)=e at*
            generalize oY J.p.ts r.t i=e1 at*
            generalize oY J.p.ts r.t k=e2 at*
            cases e1<;>cases e2<;>cases e
            case false.false.false|false.false.true|false.true.true|true.false.true|true.true.true=>
             refine⟨s,by simpa [eN]using hI,hF,λk4=> ?_⟩;rw[iV];simp[-ax,cY,z8,vc,ln,jc,p1,p3,r1,r2,r3,r4,dt,a1,a2,nr,fG,wr]
            all_goals
             obtain⟨s2,v2,e1,e2,e3⟩:=H.TM hI (by omega) a b;refine⟨s2,by simpa [dt,rX]using e2,hF.trans e3,λk4=> ?_⟩;rw[iV];simp[-ax,cY,z8,vc,ln,jc,p1,p3,r1,r2,r3,r4,dt,a1,a2,nr,fG,wr,e1]
          .have dt:decide (MP J a b=1)=false:=Za2 ht;refine⟨s,by simpa [ht,eN]using hI,hF,λk4=> ?_⟩;rw[iV];simp[-ax,cY,z8,vc,ln,jc,p1,p3,r1,r2,r3,r4,dt,wr]
        .refine⟨s,by simpa [h0,eN]using hI,hF,λk4=> ?_⟩;rw[iV];simp[-ax,cY,z8,vc,ln,jc,p1,p3,h0,hx,wr]
   .    refine⟨s,by simpa [hx,eN]using hI,hF,λk4=> ?_⟩;rw[iV];simp[-ax,cY,z8,vc,ln,jc,p1,p3,hx,wr]
  obtain⟨s2,a1,a2,a3⟩:=step;have vH:=aiL (q:=q) (Ju J r) a b;obtain⟨s',z1,z2,z3⟩:=ih (b+1) f s2 _ (by omega) (by omega) a1 a2 (by rw[Mg];omega);exact⟨s',by rw[cU, <-Zf0];exact z1,z2,λk4=>by rw[a3,z3]⟩
theorem amJ(hc:bu c)(H:kP c fv s0 I M)(V:Vw s0 vb jb j J P G q g){r:Rl}{rb:Pos}(hr:sB.heap.get rb=some (.cells r.cells 0))(tK:¬M sB rb)(F:Nat)(hFu:q.length<F):
  ∀(m a f:Nat)(s:St)(l:List Ev),a+m=q.length->m<f->I s l->iu M sB s->fS l+3*q.length*m<=1000000->∃s',I s' (l++cU (λa=>cU (vL (qF q) (Ju J r) a) (q.length - (a+1)) (a+1)) m a)/\iu M sB s'/\
   ∀k2,mZ c F k2 f [.ptr vb 0,fv,.ptr rb 0,P,.int .i64 (q.length:Int),.int .i64 (a:Int)] s=k2 [] s':=by
 intro m;induction m with
 |zero=>
  intro a f s l hb hf hI hF hB;obtain⟨f,rfl⟩:∃g,f=g+1:=⟨f - 1,by omega⟩
  refine⟨s,by simpa [cU]using hI,hF,λk2=> ?_⟩;obtain rfl:a=q.length:=by omega
  rw[A9];simp
 |succ m ih=>
  intro a f s l hb hf hI hF hB;obtain⟨f,rfl⟩:∃g,f=g+1:=⟨f - 1,by omega⟩
  have V1:=V.ai (H.ai hI);have oM:a<q.length:=by omega
  obtain⟨y,hy⟩:∃y,q[a]? =some y:=⟨_,H0 oM⟩
  obtain⟨pb,po,p⟩:=pZ V1.pq hy;have p1:=λ{R}=>@p.st R
  have p3:=p.one;have hN:=V1.FB;have mH:=V.ql;have wr:av .i64 ((a:Int)+1)=(a:Int)+1:=wrap64 (by omega) (by omega);rw[Nat.mul_succ]at hB;have b3:=Zl5 3 (show q.length - (a+1)<=q.length by omega);obtain⟨s2,z1,z2,z3⟩:=amI (c:=c) hc H V hr tK hy P (.int .i64 (q.length:Int)) (.int .i64 (a:Int)) F (q.length - (a+1)) (a+1) F s l (by omega) (by omega) hI hF (by omega);simp only[show((a+1:Nat):Int)=(a:Int)+1 by omega]at z3;have vH:=Yj (q:=q) (Ju J r) a (q.length - (a+1)) (a+1);obtain⟨s',y1,y2,y3⟩:=ih (a+1) f s2 _ (by omega) (by omega) z1 z2 (by rw[Mg];omega);simp only[show((a+1:Nat):Int)=(a:Int)+1 by omega]at y3;refine⟨s',by rw[cU, <-Zf0];exact y1,y2,λk2=> ?_⟩;rw[<-y3 k2,A9];simp[-ax,oM,p1,p3,wr,z3]
theorem akw(hc:bu c)(H:kP c fv s0 I M)(V:Vw s0 vb jb j J P G q g)(r:Rl)(hI:I s l)(hB:fS l+3*q.length*q.length<=1000000):
  ∃s',c 102 [.ptr vb 0,.agg r.cells,fv] s=some (.tuple [],s')/\I s' (l++Aq (qF q) q.length (Ju J r)):=by
 refine H.fin hI (λh=>Ro hc (q.length+1) h) ?_;have hw:=(H.ai hI).wf;have gr:=Grew.ah hw (.cells r.cells 0);have dR:=H.grow hI gr;have V1:=V.ai (H.ai dR);have tK:¬M (ah s (.cells r.cells 0)) s.next:=λh=>by have:=H.mlt hI (H.mW hI gr h);omega
 have vc:=V1.vc;have ln:=λ(K:AV->St->Option (AV×St))=>V1.pq.lenB (c:=c) K (ah s (.cells r.cells 0))
 rw[Za3]at ln;obtain⟨s',z1,z2,z3⟩:=amJ (c:=c) hc H V (aB s (.cells r.cells 0)) tK (q.length+1) (by omega) q.length 0 (q.length+1) _ l (by omega) (by omega) dR (iu.refl V1.wf) hB;refine⟨s',?_,z1⟩;rw[Ws,di,show AV.cells (.agg r.cells)=r.cells from rfl];have z3:=z3 (λvs s=>mG vs (some (.tuple [],s)));simp only[au,cr,aK,Zb1,aO,vc,az,Za6,Za4,Zb6,aQ,ln];rw[show(0:Int)=((0:Nat):Int)from rfl,z3];rfl
theorem aiM{a:Nat}{x:Int}(ha:q[a]? =some x)(P:Nat->Int->Bool):yW (on (qF q) a&&P a (qF q a)) 1 [(a:Int)]=yW (decide (0<=x)&&P a x) 1 [(a:Int)]:=by
 unfold on;rw[yo ha]
end
section
variable{c:aj}{fv:AV}{s0 sB:St}{I:St->List Ev->Prop}{M:St->Pos->Prop}{s:St}{l:List Ev}{vb jb:Pos}{j:Jc}{J:Jt}{P G:AV}{q g:List Int}
theorem Z9{E:Nat->List Ev}{B n:Nat}(hE:∀a,fS (E a)<=B)(L:Q2->Nat->List AV->St->Option (AV×St))(args:Nat->List AV)(hz:∀(k2:Q2)(f:Nat)(s:St),L k2 (f+1) (args n) s=k2 [] s)
  (hs:∀(a:Nat)(s:St)(l:List Ev),a<n->I s l->iu M sB s->fS l+B<=1000000->∃s2,I s2 (l++E a)/\iu M sB s2/\∀(k2:Q2)(f:Nat),L k2 (f+1) (args a) s=L k2 f (args (a+1)) s2):
  ∀(m a f:Nat)(s:St)(l:List Ev),a+m=n->m<f->I s l->iu M sB s->fS l+B*m<=1000000->∃s',I s' (l++cU E m a)/\iu M sB s'/\∀k2,L k2 f (args a) s=k2 [] s':=by
 intro m;induction m with
 |zero=>
  intro a f s l hb hf hI hF hB;obtain⟨f,rfl⟩:∃g,f=g+1:=⟨f - 1,by omega⟩
  obtain rfl:a=n:=by omega
  exact⟨s,by simpa [cU]using hI,hF,λk2=>hz k2 f s⟩
 |succ m ih=>
  intro a f s l hb hf hI hF hB;obtain⟨f,rfl⟩:∃g,f=g+1:=⟨f - 1,by omega⟩
  rw[Nat.mul_succ]at hB;obtain⟨s2,a1,a2,a3⟩:=hs a s l (by omega) hI hF (by omega);have:=hE a;obtain⟨s',z1,z2,z3⟩:=ih (a+1) f s2 _ (by omega) (by omega) a1 a2 (by rw[Mg];omega);exact⟨s',by rw[cU, <-Zf0];exact z1,z2,λk2=>by rw[a3,z3]⟩
def gsE(q:List Int)(P:Nat->Int->Bool)(a:Nat):List Ev:=yW (on (qF q) a&&P a (qF q a)) 1 [(a:Int)]
theorem aiN(P:Nat->Int->Bool)(a:Nat):fS (gsE q P a)<=2:=HX _ _ _
abbrev kZ(vb rb:Pos)(fv P:AV)(n a:Nat):List AV:=[.ptr vb 0,fv,.ptr rb 0,P,.int .i64 (n:Int),.int .i64 (a:Int)]
theorem amK(H:kP c fv s0 I M)(V:Vw s0 vb jb j J P G q g){r:Rl}{rb:Pos}(hr:sB.heap.get rb=some (.cells r.cells 0))(tK:¬M sB rb)(F:Nat)(a:Nat)(s:St)(l:List Ev)(oM:a<q.length)(hI:I s l)(hF:iu M sB s)(hB:fS l+2<=1000000):
   ∃s2,I s2 (l++gsE q (TX J r) a)/\iu M sB s2/\∀(k2:Q2)(f:Nat),jN c F k2 (f+1) (kZ vb rb fv P q.length a) s=jN c F k2 f (kZ vb rb fv P q.length (a+1)) s2:=by
 have V1:=V.ai (H.ai hI);have vc:=V1.vc;have jc:=V1.jw.mj;obtain⟨y,hy⟩:∃y,q[a]? =some y:=⟨_,H0 oM⟩
 obtain⟨pb,po,p⟩:=pZ V1.pq hy;have p1:=λ{R}=>@p.st R
 have p3:=p.one;have hN:=V1.FB;have mH:=V.ql;have fG:=(hF.2.2 rb _ tK hr).1;have wr:av .i64 ((a:Int)+1)=(a:Int)+1:=wrap64 (by omega) (by omega);unfold gsE;rw[aiM hy];by_cases h0:0<=y
 . obtain ⟨ k,rfl,hk⟩:=V1.kO hy h0;obtain⟨ub,uo,u⟩:=V1.rO hk;have u1:=λ{R}=>@u.pr R
   have u3:=u.one;obtain⟨A,v,ab,ao,hA,h1⟩:=V1.qK hy;have r1:=λ{R}=>@h1.pr R
   have r2:=h1.at' 0 _ rfl;rw[Zg2]at r2;have r3:=h1.at' 7 _ rfl;unfold TX ahw amH;rw[hA];simp only;generalize Gx J.p.ts (k:Int)=o at*
   cases o
   . by_cases hn:r.a=A.name
     .  obtain⟨s2,v2,a1,a2,a3⟩:=H.Z7 hI hB a;refine⟨s2,by simpa [hn,rX]using a2,hF.trans a3,λk2 f=> ?_⟩;simp only[kZ,show((a+1:Nat):Int)=(a:Int)+1 by omega];rw[iM];simp[-ax,cY,oM,p1,p3,vc,jc,u1,u3,r1,r2,r3,fG,hn,a1,wr]
     .  have H8:decide (r.a=A.name)=false:=Za2 hn;by_cases he:r.a=[]
        . have Mx:decide (r.a=[])=true:=Za0 he;cases hac:A.access
          .refine⟨s,by simpa [hn,hac,eN]using hI,hF,λk2 f=> ?_⟩;rw[hac]at r3;simp only[kZ,show((a+1:Nat):Int)=(a:Int)+1 by omega];rw[iM];simp[-ax,cY,oM,p1,p3,vc,jc,u1,u3,r1,r2,r3,fG,H8,Mx,wr]
          .obtain⟨s2,v2,a1,a2,a3⟩:=H.Z7 hI hB a;rw[hac]at r3;refine⟨s2,by simpa [he,hac,rX]using a2,hF.trans a3,λk2 f=> ?_⟩;simp only[kZ,show((a+1:Nat):Int)=(a:Int)+1 by omega];rw[iM];simp[-ax,cY,oM,p1,p3,vc,jc,u1,u3,r1,r2,r3,fG,H8,Mx,a1,wr]
        .have Mx:decide (r.a=[])=false:=Za2 he;refine⟨s,by simpa [hn,he,eN]using hI,hF,λk2 f=> ?_⟩;simp only[kZ,show((a+1:Nat):Int)=(a:Int)+1 by omega];rw[iM];simp[-ax,cY,oM,p1,p3,vc,jc,u1,u3,r1,r2,r3,fG,H8,Mx,wr]
   .refine⟨s,by simpa [eN]using hI,hF,λk2 f=> ?_⟩;simp only[kZ,show((a+1:Nat):Int)=(a:Int)+1 by omega];rw[iM];simp[-ax,cY,oM,p1,p3,vc,jc,u1,u3,wr]
 .refine⟨s,by simpa [h0,eN]using hI,hF,λk2 f=> ?_⟩;simp only[kZ,show((a+1:Nat):Int)=(a:Int)+1 by omega];rw[iM];simp[-ax,cY,oM,p1,p3,h0,wr]
theorem aiO(hc:bu c)(H:kP c fv s0 I M)(V:Vw s0 vb jb j J P G q g){r:Rl}{rb:Pos}(hr:sB.heap.get rb=some (.cells r.cells 0))(tK:¬M sB rb)(F:Nat)(a:Nat)(s:St)(l:List Ev)(oM:a<q.length)(hI:I s l)(hF:iu M sB s)(hB:fS l+2<=1000000):
   ∃s2,I s2 (l++gsE q (TY J r) a)/\iu M sB s2/\∀(k2:Q2)(f:Nat),iN c F k2 (f+1) (kZ vb rb fv P q.length a) s=iN c F k2 f (kZ vb rb fv P q.length (a+1)) s2:=by
 have V1:=V.ai (H.ai hI);have vc:=V1.vc;have jc:=V1.jw.mj;obtain⟨y,hy⟩:∃y,q[a]? =some y:=⟨_,H0 oM⟩
 obtain⟨pb,po,p⟩:=pZ V1.pq hy;have p1:=λ{R}=>@p.st R
 have p3:=p.one;have hN:=V1.FB;have mH:=V.ql;have fG:=(hF.2.2 rb _ tK hr).1;have wr:av .i64 ((a:Int)+1)=(a:Int)+1:=wrap64 (by omega) (by omega);unfold gsE;rw[aiM hy];by_cases h0:0<=y
 . obtain⟨k,rfl,hk⟩:=V1.kO hy h0;have ak:=HZ hc V1 r hk;obtain⟨A,v,ab,ao,hA,h1⟩:=V1.qK hy;have r1:=λ{R}=>@h1.pr R
   have r2:=h1.at' 5 _ rfl;unfold TY ahx;rw[hA];simp only[Zd4];generalize oY J.p.ts r.t k=e at*
   by_cases hn:A.mY=r.a
   . have H8:decide (A.mY=r.a)=true:=Za0 hn;cases e
     .  obtain⟨s2,v2,a1,a2,a3⟩:=H.Z7 hI hB a;refine⟨s2,by simpa [hn,rX]using a2,hF.trans a3,λk2 f=> ?_⟩;simp only[kZ,show((a+1:Nat):Int)=(a:Int)+1 by omega];rw[kQ];simp[-ax,cY,oM,p1,p3,vc,jc,r1,r2,fG,H8,ak,a1,wr]
     .  refine⟨s,by simpa [eN]using hI,hF,λk2 f=> ?_⟩;simp only[kZ,show((a+1:Nat):Int)=(a:Int)+1 by omega];rw[kQ];simp[-ax,cY,oM,p1,p3,vc,jc,r1,r2,fG,H8,ak,wr]
   .have H8:decide (A.mY=r.a)=false:=Za2 hn;refine⟨s,by simpa [hn,eN]using hI,hF,λk2 f=> ?_⟩;simp only[kZ,show((a+1:Nat):Int)=(a:Int)+1 by omega];rw[kQ];simp[-ax,cY,oM,p1,p3,vc,jc,r1,r2,fG,H8,wr]
 .refine⟨s,by simpa [h0,eN]using hI,hF,λk2 f=> ?_⟩;simp only[kZ,show((a+1:Nat):Int)=(a:Int)+1 by omega];rw[kQ];simp[-ax,cY,oM,p1,p3,h0,wr]
theorem aoM(H:kP c fv s0 I M)(hc:bu c)(V:Vw s0 vb jb j J P G q g)(r:Rl)(hI:I s l)(hB:fS l+2*q.length<=1000000):
  ∃s',c 99 [.ptr vb 0,.agg r.cells,fv] s=some (.tuple [],s')/\I s' (l++PI (qF q) q.length (TX J r)):=by
 refine H.fin hI (λh=>Wt hc (q.length+1) h) ?_;have hw:=(H.ai hI).wf;have gr:=Grew.ah hw (.cells r.cells 0);have dR:=H.grow hI gr;have V1:=V.ai (H.ai dR);have tK:¬M (ah s (.cells r.cells 0)) s.next:=λh=>by have:=H.mlt hI (H.mW hI gr h);omega
 have vc:=V1.vc;have ln:=λ(K:AV->St->Option (AV×St))=>V1.pq.lenB (c:=c) K (ah s (.cells r.cells 0))
 rw[Za3]at ln
 obtain⟨s',z1,z2,z3⟩:=Z9 (E:=gsE q (TX J r)) (n:=q.length) (aiN _) (λk2=>jN c (q.length+1) k2) (kZ vb s.next fv P q.length) (λk2 f s=>by rw[iM];simp)
  (amK (c:=c) H V (aB s (.cells r.cells 0)) tK (q.length+1)) q.length 0 (q.length+1) _ l (by omega) (by omega) dR (iu.refl V1.wf) hB
 refine⟨s',?_,z1⟩;rw[aax,di,show AV.cells (.agg r.cells)=r.cells from rfl];have z3:=z3 (λvs s=>mG vs (some (.tuple [],s)));simp only[au,cr,aK,Zb1,aO,vc,az,Za6,Za4,Zb6,aQ,ln];exact z3.trans rfl
theorem akx(H:kP c fv s0 I M)(hc:bu c)(V:Vw s0 vb jb j J P G q g)(r:Rl)(hI:I s l)(hB:fS l+2*q.length<=1000000):
  ∃s',c 106 [.ptr vb 0,.agg r.cells,fv] s=some (.tuple [],s')/\I s' (l++PI (qF q) q.length (TY J r)):=by
 refine H.fin hI (λh=>Rp hc (q.length+1) h) ?_;have hw:=(H.ai hI).wf;have gr:=Grew.ah hw (.cells r.cells 0);have dR:=H.grow hI gr;have V1:=V.ai (H.ai dR);have tK:¬M (ah s (.cells r.cells 0)) s.next:=λh=>by have:=H.mlt hI (H.mW hI gr h);omega
 have vc:=V1.vc;have ln:=λ(K:AV->St->Option (AV×St))=>V1.pq.lenB (c:=c) K (ah s (.cells r.cells 0))
 rw[Za3]at ln
 obtain⟨s',z1,z2,z3⟩:=Z9 (E:=gsE q (TY J r)) (n:=q.length) (aiN _) (λk2=>iN c (q.length+1) k2) (kZ vb s.next fv P q.length) (λk2 f s=>by rw[kQ];simp)
  (aiO (c:=c) hc H V (aB s (.cells r.cells 0)) tK (q.length+1)) q.length 0 (q.length+1) _ l (by omega) (by omega) dR (iu.refl V1.wf) hB
 refine⟨s',?_,z1⟩;rw[Wu,di,show AV.cells (.agg r.cells)=r.cells from rfl];have z3:=z3 (λvs s=>mG vs (some (.tuple [],s)));simp only[au,cr,aK,Zb1,aO,vc,az,Za6,Za4,Zb6,aQ,ln];exact z3.trans rfl
end
def amL(J:Jt)(a:Nat)(h:Int):Bool:=(J.ja.getD a []).getD h.toNat false
def Ar(J:Jt)(g:List Int)(a:Nat):List Int->Bool->Bool->Bool×Bool
 |[],so,si=>(so,si)
 |k::r,so,si=>if 0<=g.getD k.toNat (-1)then Ar J g a r true (si&& !amL J a (g.getD k.toNat (-1)))else Ar J g a r so si
def Yk(J:Jt)(g:List Int)(a:Nat)(x:Int):Bool×Bool:=Ar J g a (uk J.p.ts x.toNat) (Ar J g a (nR J.p.ts x.toNat) false true).1 (Ar J g a (nR J.p.ts x.toNat) false true).2
def TZ(J:Jt)(r:Rl)(g:List Int)(a:Nat)(x:Int):Bool:=oY J.p.ts r.t x.toNat&&((Yk J g a x).1&&(Yk J g a x).2)
section
variable{c:aj}{fv:AV}{s0 sB:St}{I:St->List Ev->Prop}{M:St->Pos->Prop}{s:St}{l:List Ev}{vb jb:Pos}{j:Jc}{J:Jt}{P G:AV}{q g:List Int}
theorem Vw.com(V:Vw s vb jb j J P G q g){a b:Nat}(ha:a<J.n)(hb:b<J.n):∃w p o p2 o2,Rd s 1 j.L6 a p o [w]/\Rd s 1 w b p2 o2 [.bool (amL J a (b:Int))]:=by
 have h1:a<J.ja.length:=by rw[V.jw.n1];exact ha
 have h2:b<J.ja[a].length:=by rw[V.jw.n3 _ (Zb8 h1)];exact hb
 have e:amL J a (b:Int)=J.ja[a][b]:=by
  unfold amL;rw[Zd4,Zb9,Zb9,H0 h1,Ze6,H0 h2,Ze6]
 rw[e];exact V.rC (H0 h1) (H0 h2)
theorem aiP(V:Vw s vb jb j J P G q g){w:AV}{r:List Int}(hw:QS 1 s w (r.map bH))(hr:∀k∈r,0<=k/\k<(J.N:Int))(hl:r.length<=1000){a:Nat}(ha:a<J.n)(x2 x4 x18 x19 x20 x54 x55 x56:AV)(F:Nat)(k6:Q2):
  ∀ (m k f:Nat)(so si:Bool),k+m=r.length->m<f->jO c F k6 f [.ptr vb 0,x2,x4,.int .i64 (a:Int),.bool so,.bool si,x18,x19,x20,x54,x55,x56,w,.int .i64 (r.length:Int),.int .i64 (k:Int)] s=
    k6 [.ptr vb 0,x2,x4,.int .i64 (a:Int),.bool (Ar J g a (r.drop k) so si).1,.bool (Ar J g a (r.drop k) so si).2,x18,x19,x20,x54,x55,x56] s:=by
 have vc:=V.vc;have jc:=V.jw.mj;intro m;induction m with
 |zero=>
  intro k f so si hk hf;obtain⟨f,rfl⟩:∃g,f=g+1:=⟨f - 1,by omega⟩
  obtain rfl:k=r.length:=by omega
  rw[wm];simp[Ar]
 |succ m ih=>
  intro k f so si hk hf;obtain⟨f,rfl⟩:∃g,f=g+1:=⟨f - 1,by omega⟩
  have dM:k<r.length:=by omega
  obtain⟨wb,wo,w1⟩:=pZ hw (H0 dM);have q1:=λ{R}=>@w1.st R
  have q3:=w1.one;have wr:av .i64 ((k:Int)+1)=((k+1:Nat):Int):=wrap64 (by omega) (by omega);have bd:=hr _ (Zb8 dM);obtain⟨i,hi⟩:∃i:Nat,r[k]=(i:Int):=⟨r[k].toNat,by omega⟩
  have hiN:i<J.N:=by omega
  have Rq:i<g.length:=by rw[V.gl];exact hiN
  obtain⟨gb,go,g1⟩:=pZ V.gq (H0 Rq);have g2:=λ{R}=>@g1.st R
  have g3:=g1.one;have eg:g.getD i (-1)=g[i]:=by rw[Zb9,H0 Rq];rfl
  rw[Zd2 dM,hi];rw[hi]at q3;unfold Ar;rw[Zd4,eg];by_cases h0:0<=g[i]
  . obtain⟨h,hh⟩:∃h:Nat,g[i]=(h:Int):=⟨g[i].toNat,by omega⟩
    have hn:h<J.n:=(by have:=V.og _ (Zb8 Rq);omega);obtain⟨w',cp,co,JS,co2,h1,h2⟩:=V.com ha hn;have r1:=λ{R}=>@h1.st R
    have r2:=h1.one;have r3:=λ{R}=>@h2.st R
    have r4:=h2.one;rw[hh]at g3 h0 ⊢;rw[Zb4 h0, <-ih (k+1) f true _ (by omega) (by omega),wm];cases si<;>simp[cY,dM,q1,q3,vc,jc,g2,g3,r1,r2,r3,r4,wr]
  .have d0:decide (0<=g[i])=false:=Za2 h0;rw[Za7 h0, <-ih (k+1) f so si (by omega) (by omega),wm];simp[cY,dM,q1,q3,vc,jc,g2,g3,d0,wr]
theorem aiQ{R:Type}(K:AV->Option R)(b:Pos)(off len es:Nat)(cap:Option Nat):fq (.lenB .l) [.slice b off len cap es] K=K (.int .i64 (len:Int)):=dw K (λH n=>rfl)
theorem amM(hc:bu c)(H:kP c fv s0 I M)(V:Vw s0 vb jb j J P G q g){r:Rl}{rb:Pos}(hr:sB.heap.get rb=some (.cells r.cells 0))(tK:¬M sB rb){F:Nat}(hFu:1001<=F)(a:Nat)(s:St)(l:List Ev)(oM:a<q.length)(hI:I s l)(hF:iu M sB s)(hB:fS l+2<=1000000):
   ∃s2,I s2 (l++gsE q (TZ J r g) a)/\iu M sB s2/\∀(k2:Q2)(f:Nat),gG c F k2 (f+1) (kZ vb rb fv P q.length a) s=gG c F k2 f (kZ vb rb fv P q.length (a+1)) s2:=by
 have V1:=V.ai (H.ai hI);have vc:=V1.vc;have jc:=V1.jw.mj;obtain⟨y,hy⟩:∃y,q[a]? =some y:=⟨_,H0 oM⟩
 obtain⟨pb,po,p⟩:=pZ V1.pq hy;have p1:=λ{R}=>@p.st R
 have p3:=p.one;have p4:=λ{R}=>@p.pr R
 have hN:=V1.FB;have mH:=V.ql;have fG:=(hF.2.2 rb _ tK hr).1;have wr:av .i64 ((a:Int)+1)=(a:Int)+1:=wrap64 (by omega) (by omega);unfold gsE;rw[aiM hy];by_cases h0:0<=y
 . obtain⟨k,rfl,hk⟩:=V1.kO hy h0;have dn:decide ((k:Int)<0)=false:=Za2 (by omega);have ak:=HZ hc V1 r hk;unfold TZ Yk;simp only[Zd4];generalize oY J.p.ts r.t k=e at*
   cases e
   .refine⟨s,by simpa [eN]using hI,hF,λk2 f=> ?_⟩;simp only[kZ,show((a+1:Nat):Int)=(a:Int)+1 by omega];rw[nh];simp[-ax,cY,oM,p1,p3,dn,fG,ak,wr]
   . obtain⟨w1,b1,o1,h1,h2⟩:=V1.rB hk;obtain⟨w2,b2,o2,h3,h4⟩:=V1.rA hk;have m1:=λ{R}=>@h1.pr R
     have m2:=h1.one;have m3:=λ{R}=>@h3.pr R
     have m4:=h3.one;have bdB:=(acv V.jw.nN).1 (nR J.p.ts k) (by unfold uF;exact Zc9.2 ⟨k,Zi0.2 hk,rfl⟩);have bdA:=(acv V.jw.nN).2 (uk J.p.ts k) (by unfold uG;exact Zc9.2 ⟨k,Zi0.2 hk,rfl⟩);obtain⟨wc1,_⟩:=QS.cells h2;obtain⟨wc2,_⟩:=QS.cells h4;have ef:cS (cg [AV.af] 2) ([0,1].map λi=>(i*1,1)) [w1,w2]=some [w1,w2]:=by
        simp[cS,cg,dG,dH,bf,wc1,wc2]
     have nw:=λ(K:AV->AB->Option (AV×St))=>(qx s 1 2 [.af] [0,1] [w1,w2] K).trans (by rw[ef])
     have gN:=Grew.ah V1.wf (.cells [w1,w2] 0);have uA:=H.grow hI gN;have hF2:=hF.trans (H.fr hI gN);have V2:=V.ai (H.ai uA);have hx:=aB s (.cells [w1,w2] 0);have hn1:a<J.n:=(by omega);have l1:=λ(so si:Bool)(x55 x56:AV)(k6:Q2)=>aiP (c:=c) V2 (h2.ai gN) bdB.2 bdB.1 hn1 fv (.ptr rb 0) P (.int .i64 (q.length:Int)) (.int .i64 (a:Int)) (.slice s.next 0 2 (some 2) 1) x55 x56 F k6 (nR J.p.ts k).length 0 F so si (by omega) (by omega)
     have l2:=λ(so si:Bool)(x55 x56:AV)(k6:Q2)=>aiP (c:=c) V2 (h4.ai gN) bdA.2 bdA.1 hn1 fv (.ptr rb 0) P (.int .i64 (q.length:Int)) (.int .i64 (a:Int)) (.slice s.next 0 2 (some 2) 1) x55 x56 F k6 (uk J.p.ts k).length 0 F so si (by omega) (by omega)
     (simp only[Ze3,show((0:Nat):Int)=0 from rfl]at l1 l2;have ln1:=λ(K:AV->St->Option (AV×St))=>(h2.ai gN).lenB (c:=c) K (ah s (.cells [w1,w2] 0)));have ln2:=λ(K:AV->St->Option (AV×St))=>(h4.ai gN).lenB (c:=c) K (ah s (.cells [w1,w2] 0))
     (rw[Za3]at ln1 ln2;have ix0:=λ(K:AV->St->Option (AV×St))(s1:St)=>je c K s1 (b:=s.next) (off:=0) (len:=2) (es:=1) (es':=1) (cap:=some 2) (k:= .i64) (i:=0) (by omega));have ix1:=λ(K:AV->St->Option (AV×St))(s1:St)=>je c K s1 (b:=s.next) (off:=0) (len:=2) (es:=1) (es':=1) (cap:=some 2) (k:= .i64) (i:=1) (by omega)
     simp only[show((0:Nat):Int)=0 from rfl,show((1:Nat):Int)=1 from rfl,Zo1,Zg2,Zn4,Zb1]at ix0 ix1;have w11:av .i64 ((0:Int)+1)=1:=wrap64 (by omega) (by omega);have w12:av .i64 ((1:Int)+1)=2:=wrap64 (by omega) (by omega);obtain⟨F',rfl⟩:∃n,F=n+3:=⟨F - 3,by omega⟩
     have L1:∀k4:Q2,mo c (F'+3) k4 (F'+3) [.ptr vb 0,fv,.ptr rb 0,.int .i64 (a:Int),.bool false,.bool true,P,.int .i64 (q.length:Int),.int .i64 (a:Int),.slice s.next 0 2 (some 2) 1,.int .i64 2,.int .i64 0] (ah s (.cells [w1,w2] 0))=
         k4 [.ptr vb 0,fv,.ptr rb 0,.int .i64 (a:Int),.bool (Yk J g a (k:Int)).1,.bool (Yk J g a (k:Int)).2,P,.int .i64 (q.length:Int),.int .i64 (a:Int)] (ah s (.cells [w1,w2] 0)):=λk4=>by
        unfold Yk;rw[Zd4,wq];simp only[aD,aX,bV,show decide ((0:Int)<2)=true from rfl,cV,ix0,aO,hx,az,Za6,Za4,aQ,au,ln1,l1,dy,w11];rw[wq];simp only[aD,aX,bV,show decide ((1:Int)<2)=true from rfl,cV,ix1,aO,hx,az,Za6,Za4,Zb6,aQ,au,ln2,l2,dy,w12];rw[wq];simp only[aD,aX,bV,show decide ((2:Int)<2)=false from rfl,cE]
     unfold Yk at L1;rw[Zd4]at L1;generalize Ar J g a (uk J.p.ts k) (Ar J g a (nR J.p.ts k) false true).1 (Ar J g a (nR J.p.ts k) false true).2=e at*
     obtain⟨so,si⟩:=e;have tail:∃s2,I s2 (l++yW (so&&si) 1 [(a:Int)])/\iu M sB s2/\∀(k2:Q2)(f:Nat),gG c (F'+3) k2 (f+1) (kZ vb rb fv P q.length a) s=gG c (F'+3) k2 f (kZ vb rb fv P q.length (a+1)) s2:=by
        obtain⟨s2,v2,a1,a2,a3⟩:=H.Z7 uA hB a;cases so<;>cases si
        case true.true=>
         refine⟨s2,a2,hF2.trans a3,λk2 f=> ?_⟩;simp only[kZ,show((a+1:Nat):Int)=(a:Int)+1 by omega];rw[nh];simp[-ax,-qx,cY,oM,p1,p3,p4,dn,fG,ak,vc,jc,m1,m2,m3,m4,nw,aiQ,L1,a1,wr]
        all_goals
         refine⟨_,by simpa [eN]using uA,hF2,λk2 f=> ?_⟩;simp only[kZ,show((a+1:Nat):Int)=(a:Int)+1 by omega];rw[nh];simp[-ax,-qx,cY,oM,p1,p3,p4,dn,fG,ak,vc,jc,m1,m2,m3,m4,nw,aiQ,L1,wr]
     have e0:(decide (0<=(k:Int))&&(true&&(so&&si)))=(so&&si):=(by rw[Za0 h0];simp);rw[e0];exact tail
 .have dn:decide (y<0)=true:=Za0 (by omega);refine⟨s,by simpa [h0,eN]using hI,hF,λk2 f=> ?_⟩;simp only[kZ,show((a+1:Nat):Int)=(a:Int)+1 by omega];rw[nh];simp[-ax,cY,oM,p1,p3,dn,wr]
theorem aoN(H:kP c fv s0 I M)(hc:bu c)(V:Vw s0 vb jb j J P G q g)(r:Rl)(hI:I s l)(hB:fS l+2*q.length<=1000000):
  ∃s',c 100 [.ptr vb 0,.agg r.cells,fv] s=some (.tuple [],s')/\I s' (l++PI (qF q) q.length (TZ J r g)):=by
 refine H.fin hI (λh=>Wv hc (q.length+1001) h) ?_;have hw:=(H.ai hI).wf;have gr:=Grew.ah hw (.cells r.cells 0);have dR:=H.grow hI gr;have V1:=V.ai (H.ai dR);have tK:¬M (ah s (.cells r.cells 0)) s.next:=λh=>by have:=H.mlt hI (H.mW hI gr h);omega
 have vc:=V1.vc;have ln:=λ(K:AV->St->Option (AV×St))=>V1.pq.lenB (c:=c) K (ah s (.cells r.cells 0))
 rw[Za3]at ln
 obtain⟨s',z1,z2,z3⟩:=Z9 (E:=gsE q (TZ J r g)) (n:=q.length) (aiN _) (λk2=>gG c (q.length+1001) k2) (kZ vb s.next fv P q.length) (λk2 f s=>by rw[nh];simp)
  (amM (c:=c) hc H V (aB s (.cells r.cells 0)) tK (F:=q.length+1001) (by omega)) q.length 0 (q.length+1001) _ l (by omega) (by omega) dR (iu.refl V1.wf) hB
 refine⟨s',?_,z1⟩;rw[aay,di,show AV.cells (.agg r.cells)=r.cells from rfl];have z3:=z3 (λvs s=>mG vs (some (.tuple [],s)));simp only[au,cr,aK,Zb1,aO,vc,az,Za6,Za4,Zb6,aQ,ln];exact z3.trans rfl
end
def wu(J:Jt)(a:Nat):Bool:=match J.p.gs[a]? with|some g=>g.host|none=>false
def jT(J:Jt):JT:=⟨J.n,J.p.ts.length,wj J,wu J⟩
def PW(J:Jt)(r:Rl)(t:Nat):Bool:=decide (r.t=[])||decide (r.t=GF J.p.ts t)
section
variable{c:aj}{fv:AV}{s0 sB:St}{I:St->List Ev->Prop}{M:St->Pos->Prop}{s:St}{l l':List Ev}{vb jb:Pos}{j:Jc}{J:Jt}{P G:AV}{q g:List Int}
theorem kP.arv(H:kP c fv s0 I M)(hI:I s l){T:Option (AV×St)}{f:FuncId}{args:List AV}{v:AV}(hr:∀{r},T=some r->c f args s=some (tidy s r))(h:∃s',T=some (v,s')/\I s' l'/\iu M s s'):
   ∃s',c f args s=some (v,s')/\I s' l'/\iu M s s':=by
 obtain⟨s',h1,h2,h4⟩:=h;have h3:=hr h1;unfold tidy at h3;split at h3
 .rename_i hk;exact⟨s,h3,H.back hI h2 hk.2,iu.refl (H.ai hI).wf⟩
 .exact⟨s',h3,h2,h4⟩
def DoC(c:aj)(dv:AV)(I:St->List Ev->Prop)(M:St->Pos->Prop)(n:Nat)(sB:St)(D:List Int->List Ev):Prop:=
 ∀  {s l}{W:AV}{who:List Int},I s l->iu M sB s->QS 1 s W (who.map bH)->who.length<=n->(∀x∈who,0<=x/\x<(n:Int))->fS l+2000<=1000000->
    ∃s' v,(∀(K:AV->St->Option (AV×St)),aq c .callV [dv,W] s K=K v s')/\I s' (l++D who)/\iu M s s'
theorem Vw.awy(V:Vw s vb jb j J P G q g){t:Nat}{T:aC}(ht:J.p.ts[t]? =some T):∃v b o,Rd s 7 j.V1 t b o (T.ay v)/\aV (T.ay v)=true:=by
 obtain⟨s0,r1,r2,_,h,_⟩:=V.jw.ps;have hl:t<r1.length:=by rw[h.len];exact(Za1.1 ht).1
 obtain⟨v,e,hv,_⟩:=h.eI t T r1[t] ht (H0 hl);obtain⟨b,o,h4⟩:=h.out.own.rd h.out.row (H0 hl);exact⟨v,b,o,by rw[<-e];exact h4,T.MT (by simp[aV,hv.own.cells.2])⟩
def MU(J:Jt)(q:List Int)(t k:Nat):List Int:=((List.range k).filter ((jT J).at (qF q) t)).map λ(g:Nat)=>(g:Int)
theorem aoO(J:Jt)(q:List Int)(t k:Nat):MU J q t (k+1)=MU J q t k++(if(jT J).at (qF q) t k then [(k:Int)]else []):=by
 unfold MU;rw[Zf9,Zk2,Zc8];cases h:(jT J).at (qF q) t k<;>simp[h]
theorem T4(J:Jt)(q:List Int)(t k:Nat):(MU J q t k).length<=k:=by unfold MU;rw[Za3,Ya];exact X7 _ _
theorem at2(V:Vw s0 vb jb j J P G q g)(gs:Grew s0 sB){t:Nat}(ht:t<1000)(x2 x4 x18 x19 x20:AV)(F:Nat):
  ∀ (m k f:Nat)(s:St)(v:AV),k+m=q.length->m<f->Mk 1 sB s v ((MU J q t k).map bH)->∃s' v',Mk 1 sB s' v' ((MU J q t q.length).map bH)/\
    ∀k4,nH c F k4 f [.ptr vb 0,x2,x4,.int .i64 (t:Int),v,x18,x19,x20,P,.int .i64 (q.length:Int),.int .i64 (k:Int)] s=k4 [.ptr vb 0,x2,x4,v',x18,x19,x20] s':=by
 intro m;induction m with
 |zero=>
  intro k f s v hk hf hM;obtain⟨f,rfl⟩:∃g,f=g+1:=⟨f - 1,by omega⟩
  obtain rfl:k=q.length:=by omega
  exact⟨s,v,hM,λk4=>by rw[rZ];simp⟩
 |succ m ih=>
  intro k f s v hk hf hM;obtain⟨f,rfl⟩:∃g,f=g+1:=⟨f - 1,by omega⟩
  have V1:=V.ai (gs.trans hM.ai);have vc:=V1.vc;have jc:=V1.jw.mj;have dM:k<q.length:=by omega
  obtain⟨y,hy⟩:∃y,q[k]? =some y:=⟨_,H0 dM⟩
  obtain⟨pb,po,p⟩:=pZ V1.pq hy;have p1:=λ{R}=>@p.st R
  have p3:=p.one;have hN:=V1.FB;have mH:=V.ql;have wr:av .i64 ((k:Int)+1)=((k+1:Nat):Int):=wrap64 (by omega) (by omega);have wl:=T4 J q t k;have hs:=aoO J q t k;have ea:(jT J).at (qF q) t k=(decide (0<=y)&&wj J y==t):=by unfold JT.at on jT;rw[yo hy]
  rw[ea]at hs;by_cases h0:0<=y
  . obtain⟨i,rfl,hi⟩:=V1.kO hy h0;obtain⟨tb,to,u⟩:=V1.rT hi;have t1:=λ{R}=>@u.st R
    have t3:=u.one;unfold wj at hs;rw[Zd4,Za0 h0,Zg5]at hs;by_cases hT:cC J.p.ts i=t
    .   have d1:decide (((cC J.p.ts i:Nat):Int)=(t:Int))=true:=Za0 (by omega);rw[Zb4 (by simpa using hT)]at hs;obtain⟨s5,v5,a1,a2,_,_⟩:=hM.push (R:=AV×St) (c:=c) (bytes:=8) (z:=[.int .i64 0]) (x:= .int .i64 (k:Int)) rfl rfl rfl (by omega) (by rw[Za3];omega) (by rw[Za3];omega);obtain⟨s',v',z1,z2⟩:=ih (k+1) f s5 v5 (by omega) (by omega) (by rw[hs,Zc8];exact a2);refine⟨s',v',z1,λk4=> ?_⟩;rw[<-z2 k4,rZ];simp[-ax,cY,dM,p1,p3,vc,jc,t1,t3,d1,a1,wr]
    .   have d1:decide (((cC J.p.ts i:Nat):Int)=(t:Int))=false:=Za2 (by omega);rw[Za7 (by simpa using hT),Zd7]at hs;obtain⟨s',v',z1,z2⟩:=ih (k+1) f s v (by omega) (by omega) (by rw[hs];exact hM);refine⟨s',v',z1,λk4=> ?_⟩;rw[<-z2 k4,rZ];simp[-ax,cY,dM,p1,p3,vc,jc,t1,t3,d1,wr]
  .rw[Za2 h0,Zo5,Za7 (by simp),Zd7]at hs;obtain⟨s',v',z1,z2⟩:=ih (k+1) f s v (by omega) (by omega) (by rw[hs];exact hM);refine⟨s',v',z1,λk4=> ?_⟩;rw[<-z2 k4,rZ];simp[-ax,cY,dM,p1,p3,h0,wr]
abbrev T6(vb rb:Pos)(dv V1:AV)(n a:Nat):List AV:=[.ptr vb 0,dv,.ptr rb 0,V1,.int .i64 (n:Int),.int .i64 (a:Int)]
def H9(J:Jt)(q:List Int)(r:Rl)(D:List Int->List Ev)(t:Nat):List Ev:=if PW J r t then D (MU J q t q.length)else []
theorem aoP (H:kP c fv s0 I M) (V:Vw s0 vb jb j J P G q g){dv:AV}{D:List Int->List Ev}(hD:DoC c dv I M J.n sB D){r:Rl}{rb:Pos}(hr:sB.heap.get rb=some (.cells r.cells 0))(tK:¬M sB rb)(F:Nat)(hFu:q.length<F)(t:Nat)(s:St)(l:List Ev)(oM:t<J.p.ts.length)(hI:I s l)(hF:iu M sB s)(hB:fS l+2000<=1000000):
   ∃s2,I s2 (l++H9 J q r D t)/\iu M sB s2/\∀(k2:Q2)(f:Nat),gY c F k2 (f+1) (T6 vb rb dv j.V1 J.p.ts.length t) s=gY c F k2 f (T6 vb rb dv j.V1 J.p.ts.length (t+1)) s2:=by
 have V1:=V.ai (H.ai hI);have vc:=V1.vc;have uO:=V1.jw.kL.ts;obtain⟨T,hT⟩:∃T,J.p.ts[t]? =some T:=⟨_,H0 oM⟩
 obtain⟨v,b,o,h1,h2⟩:=V1.awy hT;have r1:=λ{R}=>@h1.st R
 have r2:=h1.all;have fG:=(hF.2.2 rb _ tK hr).1;have wr:av .i64 ((t:Int)+1)=(t:Int)+1:=wrap64 (by omega) (by omega);have gN:=Grew.ah V1.wf (.cells (T.ay v) 0);have uA:=H.grow hI gN;have hF2:=hF.trans (H.fr hI gN);have V2:=V.ai (H.ai uA);have vc2:=V2.vc;have hx:=aB s (.cells (T.ay v) 0);have arw:=gN.get fG;have st7:∀(K:AV->St->Option (AV×St)),aq c (.store 7) [.ptr s.next 0,.agg (T.ay v)] (ah s (.cells [.str [],.int .u8 0,.int .i64 0,.int .i64 0,.af,.int .i64 0,.int .i64 0] 0)) K=K .undef (ah s (.cells (T.ay v) 0)):=λK=>
   cq c K s 7 (.agg (T.ay v)) [.str [],.int .u8 0,.int .i64 0,.int .i64 0,.af,.int .i64 0,.int .i64 0] rfl rfl h2
 have ln:=λ(K:AV->St->Option (AV×St))=>V2.pq.lenB (c:=c) K (ah s (.cells (T.ay v) 0))
 rw[Za3]at ln;have aW:decide ((t:Int)<(J.p.ts.length:Int))=true:=Za0 (by omega);have c0:(T.ay v)[0]? =some (.str T.name):=rfl;have en:GF J.p.ts t=T.name:=by unfold GF;rw[hT]
 obtain⟨s',v',z1,z2⟩:=at2 (c:=c) V (H.ai uA) (t:=t) (by omega) dv (.ptr rb 0) j.V1 (.int .i64 (J.p.ts.length:Int)) (.int .i64 (t:Int)) F q.length 0 F _ .af (by omega) hFu (Mk.start V2.wf (Grew.refl V2.wf));simp only[show((0:Nat):Int)=0 from rfl]at z2;have mH:=V.ql;have hwl:=T4 J q t q.length;have yQ:∀x∈MU J q t q.length,0<=x/\x<(J.n:Int):=λx hx=>by unfold MU at hx;obtain⟨i,hi,rfl⟩:=Zc9.1 hx;have:=Zi0.1 (Zl8.1 hi).1;omega
 obtain ⟨s3,v3,y1,y2,y3⟩:=hD (H.grow uA z1.ai) (hF2.trans (H.fr uA z1.ai)) z1.own (by omega) yQ hB;have atd:∀(k2:Q2)(f:Nat),decide (r.t=[ ])=true\/decide (r.t=T.name)=true->gY c F k2 (f+1) (T6 vb rb dv j.V1 J.p.ts.length t) s=gY c F k2 f (T6 vb rb dv j.V1 J.p.ts.length (t+1)) s3:=λk2 f hor=>by
   simp only[T6,show((t+1:Nat):Int)=(t:Int)+1 by omega];rw[xO];by_cases he:r.t=[]
   .have d1:decide (r.t=[])=true:=Za0 he;simp only[aD,aX,bV,aW,cV,cY,au,r1,cm,r2,cG,bN,st7,aK,aO,arw,az,Za6,Zb1,Rl.c4,aQ,acd,d1,Zi4,XS,jY,cE,cr,vc2,Zb6,Za4,ln,z2,y1,dy,wr]
   . have d1:decide (r.t=[])=false:=Za2 he
     have d2:decide (r.t=T.name)=true:=by rcases hor with h|h
                                          .rw[d1]at h;cases h
                                          .exact h
     simp only[aD,aX,bV,aW,cV,cY,au,r1,cm,r2,cG,bN,st7,aK,aO,arw,hx,c0,az,Za6,Zb1,Rl.c4,aQ,acd,d1,d2,Zi4,Zk9,fZ,mU,cE,cr,vc2,Zb6,Za4,ln,z2,y1,dy,wr]
 unfold H9 PW;rw[en];by_cases he:r.t=[]
 .refine⟨s3,by simpa [he]using y2,(hF2.trans (H.fr uA z1.ai)).trans y3,λk2 f=>atd k2 f (.inl (Za0 he))⟩
 . by_cases hn:r.t=T.name
   .refine⟨s3,by simpa [hn]using y2,(hF2.trans (H.fr uA z1.ai)).trans y3,λk2 f=>atd k2 f (.inr (Za0 hn))⟩
   .refine⟨_,by simpa [he,hn]using uA,hF2,λk2 f=> ?_⟩;have d1:decide (r.t=[])=false:=Za2 he;have d2:decide (r.t=T.name)=false:=Za2 hn;simp only[T6,show((t+1:Nat):Int)=(t:Int)+1 by omega];rw[xO];simp only[aD,aX,bV,aW,cV,cY,au,r1,cm,r2,cG,bN,st7,aK,aO,arw,hx,c0,az,Za6,Zb1,Rl.c4,aQ,acd,d1,d2,Zk9,fZ,mU,dy,wr]
theorem ae9(H:kP c fv s0 I M)(hc:bu c)(V:Vw s0 vb jb j J P G q g){dv:AV}{D:List Int->List Ev}(hD:DoC c dv I M J.n s D)(hDW:∀who:List Int,who.length<=J.n->fS (D who)<=2000)(r:Rl)(hI:I s l)(hB:fS l+2000*J.p.ts.length<=1000000):
  ∃s',c 166 [.ptr vb 0,.agg r.cells,dv] s=some (.tuple [],s')/\I s' (l++cU (H9 J q r D) J.p.ts.length 0):=by
 refine H.fin hI (λh=>Yl hc (q.length+J.p.ts.length+1) h) ?_;have hw:=(H.ai hI).wf;have gr:=Grew.ah hw (.cells r.cells 0);have dR:=H.grow hI gr;have V1:=V.ai (H.ai dR);have tK:¬M (ah s (.cells r.cells 0)) s.next:=λh=>by have:=H.mlt hI (H.mW hI gr h);omega
 have vc:=V1.vc;have jc:=V1.jw.mj;obtain⟨s0',r1',r2',_,tsq,_⟩:=V1.jw.ps;have ln:=λ(K:AV->St->Option (AV×St))=>tsq.out.own.lenB (c:=c) K (ah s (.cells r.cells 0))
 rw[tsq.len]at ln;have hF:=H.fr hI gr;have mH:=V.ql;obtain⟨s',z1,z2,z3⟩:=Z9 (E:=H9 J q r D) (n:=J.p.ts.length) (B:=2000) (λt=>by
   unfold H9;split
   .exact hDW _ (by have:=T4 J q t q.length;omega)
   .exact Zi6 _) (λk2=>gY c (q.length+J.p.ts.length+1) k2) (T6 vb s.next dv j.V1 J.p.ts.length) (λk2 f s=>by rw[xO];simp)
  (aoP (c:=c) (sB:=ah s (.cells r.cells 0)) H V (λ{s2 l2 W who} h1 h2=>hD h1 (hF.trans h2)) (aB s (.cells r.cells 0)) tK (q.length+J.p.ts.length+1) (by omega)) J.p.ts.length 0 (q.length+J.p.ts.length+1) _ l (by omega) (by omega) dR (iu.refl V1.wf) hB
 refine⟨s',?_,z1⟩;rw[acw,di,show AV.cells (.agg r.cells)=r.cells from rfl];have z3:=z3 (λvs s=>mG vs (some (.tuple [],s)));simp only[au,cr,aK,Zb1,aO,vc,jc,Jc.c0,az,Za6,Za4,Zb6,aQ,ln];exact z3.trans rfl
theorem at3(hc:bu c)(H:kP c fv s0 I M){n m:Nat}{r:Rl}(hn:r.n=(m:Int))(hm:m<=1000)(hn1:n<=100){rb fb:Pos}(hr:sB.heap.get rb=some (.cells r.cells 0))(tK:¬M sB rb)(hf:sB.heap.get fb=some (.cells [fv] 0))(hfM:¬M sB fb):
  DoC c (.func 172 [] [.ptr rb 0,.ptr fb 0]) I M n sB (TG m):=λ{s l W who} hI hF hW hl _ hB=>by
 have b1:=(hF.2.2 rb _ tK hr).1;have b2:=(hF.2.2 fb _ hfM hf).1;have ln:=λ(K:AV->St->Option (AV×St))=>hW.lenB (c:=c) K s
 rw[Za3]at ln;have key:∃s',c 172 [W,.ptr rb 0,.ptr fb 0] s=some (.tuple [],s')/\I s' (l++TG m who)/\iu M s s':=by
  refine H.arv hI (λh=>T7 hc 1 h) ?_;unfold TG;by_cases h:who.length<m
  .obtain⟨s',v,h1,h2,h3⟩:=H.call (k:=m - who.length) hI hW (by omega);refine⟨s',?_,by simpa [h,rX]using h2,h3⟩;have d:decide ((who.length:Int)<r.n)=true:=Za0 (by omega);have w:av .i64 (r.n - (who.length:Int))=((m - who.length:Nat):Int):=(by rw[wrap64 (by omega) (by omega)];omega);rw[Ia];simp only[au,ln,aK,Zb1,aO,b1,b2,az,Za6,Rl.c5,aQ,bV,d,cV,Za4,aeY,w,h1]
  .refine⟨s,?_,by simpa [h,eN]using hI,iu.refl (H.ai hI).wf⟩;have d:decide ((who.length:Int)<r.n)=false:=Za2 (by omega);rw[Ia];simp only[au,ln,aK,Zb1,aO,b1,b2,az,Za6,Rl.c5,aQ,bV,d,cE]
 obtain⟨s',h1,h2,h3⟩:=key;exact⟨s',.tuple [],λK=>by rw[iZ];simp only[Ze2,Zd8];rw[h1];rfl,h2,h3⟩
theorem arx(hc:bu c)(H:kP c fv s0 I M){n m:Nat}{r:Rl}(hn:r.n=(m:Int))(hm:m<=1000)(hn1:n<=100){rb fb:Pos}(hr:sB.heap.get rb=some (.cells r.cells 0))(tK:¬M sB rb)(hf:sB.heap.get fb=some (.cells [fv] 0))(hfM:¬M sB fb):
  DoC c (.func 173 [] [.ptr rb 0,.ptr fb 0]) I M n sB (TH m):=λ{s l W who} hI hF hW hl _ hB=>by
 have b1:=(hF.2.2 rb _ tK hr).1;have b2:=(hF.2.2 fb _ hfM hf).1;have ln:=λ(K:AV->St->Option (AV×St))=>hW.lenB (c:=c) K s
 rw[Za3]at ln;have key:∃s',c 173 [W,.ptr rb 0,.ptr fb 0] s=some (.tuple [],s')/\I s' (l++TH m who)/\iu M s s':=by
  refine H.arv hI (λh=>Rr hc 1 h) ?_;unfold TH;by_cases h:m<who.length
  .obtain⟨s',v,h1,h2,h3⟩:=H.call (k:=who.length - m) hI hW (by omega);refine⟨s',?_,by simpa [h,rX]using h2,h3⟩;have d:decide (r.n<(who.length:Int))=true:=Za0 (by omega);have w:av .i64 ((who.length:Int) - r.n)=((who.length - m:Nat):Int):=(by rw[wrap64 (by omega) (by omega)];omega);rw[FC];simp only[au,ln,aK,Zb1,aO,b1,b2,az,Za6,Rl.c5,aQ,nG,d,cV,Za4,aeY,w,h1]
  .refine⟨s,?_,by simpa [h,eN]using hI,iu.refl (H.ai hI).wf⟩;have d:decide (r.n<(who.length:Int))=false:=Za2 (by omega);rw[FC];simp only[au,ln,aK,Zb1,aO,b1,b2,az,Za6,Rl.c5,aQ,nG,d,cE]
 obtain⟨s',h1,h2,h3⟩:=key;exact⟨s',.tuple [],λK=>by rw[iZ];simp only[Ze2,Zd8];rw[h1];rfl,h2,h3⟩
theorem at4(V:Vw s vb jb j J P G q g){vp:Pos}(hv:s.heap.get vp=some (.cells [.ptr vb 0] 0)){W:AV}{who:List Int}(hW:QS 1 s W (who.map bH))(hl:who.length<=1000)(hm:∀x∈who,0<=x/\x<(J.n:Int))(x2:AV)(F:Nat)(k1 k2:Q2):
  ∀(m k f:Nat),k+m=who.length->m<f->od c F k1 k2 f [W,.ptr vp 0,x2,W,.int .i64 (who.length:Int),.int .i64 (k:Int)] s=if(who.drop k).any (λg=>wu J g.toNat)then k1 [] s else k2 [W,x2] s:=by
 have vc:=V.vc;have jc:=V.jw.mj;intro m;induction m with
 |zero=>
  intro k f hk hf;obtain⟨f,rfl⟩:∃g,f=g+1:=⟨f - 1,by omega⟩
  obtain rfl:k=who.length:=by omega
  rw[uT];simp
 |succ m ih=>
  intro k f hk hf;obtain⟨f,rfl⟩:∃g,f=g+1:=⟨f - 1,by omega⟩
  have dM:k<who.length:=by omega
  obtain⟨wb,wo,w1⟩:=pZ hW (H0 dM);have q1:=λ{R}=>@w1.st R
  have q3:=w1.one;have wr:av .i64 ((k:Int)+1)=((k+1:Nat):Int):=wrap64 (by omega) (by omega);have bd:=hm _ (Zb8 dM);obtain⟨i,hi⟩:∃i:Nat,who[k]=(i:Int):=⟨who[k].toNat,by omega⟩
  have Rq:i<J.p.gs.length:=by have:J.n=J.p.gs.length:=rfl;omega
  obtain⟨v,ab,ao,h1⟩:=V.rG (H0 Rq);have r1:=λ{R}=>@h1.st R
  have r2:=h1.at' 6 _ rfl;have eh:wu J i=(J.p.gs[i]).host:=by unfold wu;rw[H0 Rq]
  rw[Zd2 dM,List.any_cons,hi,Zd4,eh];rw[hi]at q3;generalize (J.p.gs[i]).host=e at*
  cases e
  .rw[Zm0, <-ih (k+1) f (by omega) (by omega),uT];simp[dM,q1,q3,hv,vc,jc,r1,r2,wr]
  .rw[uT];simp[dM,q1,q3,hv,vc,jc,r1,r2]
theorem at5(hc:bu c)(H:kP c fv s0 I M)(V:Vw s0 vb jb j J P G q g){vp fb:Pos}(hv:sB.heap.get vp=some (.cells [.ptr vb 0] 0))(hvM:¬M sB vp)(hf:sB.heap.get fb=some (.cells [fv] 0))(hfM:¬M sB fb):
  DoC c (.func 167 [] [.ptr vp 0,.ptr fb 0]) I M J.n sB (TF (wu J)):=λ{s l W who} hI hF hW hl yQ hB=>by
 have b1:=(hF.2.2 vp _ hvM hv).1;have b2:=(hF.2.2 fb _ hfM hf).1;have V1:=V.ai (H.ai hI);have hN:=V1.FB;have ln:=λ(K:AV->St->Option (AV×St))=>hW.lenB (c:=c) K s
 rw[Za3]at ln;have lp:=λ(k1 k2:Q2)=>at4 (c:=c) V1 b1 hW (by omega) yQ (.ptr fb 0) (who.length+1) k1 k2 who.length 0 (who.length+1) (by omega) (by omega)
 simp only[Ze3,show((0:Nat):Int)=0 from rfl]at lp;have key:∃s',c 167 [W,.ptr vp 0,.ptr fb 0] s=some (.tuple [],s')/\I s' (l++TF (wu J) who)/\iu M s s':=by
  refine H.arv hI (λh=>T8 hc (who.length+1) h) ?_;unfold TF;generalize who.any (λg=>wu J g.toNat)=e at*
  cases e
  . by_cases h:0<who.length
    .   obtain⟨s',v,h1,h2,h3⟩:=H.call (k:=1) hI hW (by omega);refine⟨s',?_,by simpa [h,rX]using h2,h3⟩;have d:decide ((0:Int)<(who.length:Int))=true:=Za0 (by omega);simp only[show((1:Nat):Int)=1 from rfl]at h1;rw[yX];simp only[au,ln,lp,Ze7,Zg7,aD,aX,nG,d,cV,aO,b2,az,Za6,Za4,aQ,h1]
    .   refine⟨s,?_,by simpa [h,eN]using hI,iu.refl (H.ai hI).wf⟩;have d:decide ((0:Int)<(who.length:Int))=false:=Za2 (by omega);rw[yX];simp only[au,ln,lp,Ze7,Zg7,aD,aX,nG,d,cE]
  .refine⟨s,?_,by simpa [eN]using hI,iu.refl (H.ai hI).wf⟩;rw[yX];simp only[au,ln,lp,Zh6,aX]
 obtain⟨s',h1,h2,h3⟩:=key;exact⟨s',.tuple [],λK=>by rw[iZ];simp only[Ze2,Zd8];rw[h1];rfl,h2,h3⟩
end
theorem aiR(h:Nat->Bool){n:Nat}(hn:n<=100)(who:List Int)(hw:who.length<=n):fS (TF h who)<=2000:=by unfold TF;have:=HX (!who.any (λg=>h g.toNat)&&decide (0<who.length)) 1 who;omega
theorem aiS(m:Nat)(hm:m<=1000){n:Nat}(hn:n<=100)(who:List Int)(hw:who.length<=n):fS (TG m who)<=2000:=by unfold TG;have:=HX (decide (who.length<m)) (m - who.length) who;omega
theorem aiT(m:Nat){n:Nat}(hn:n<=100)(who:List Int)(hw:who.length<=n):fS (TH m who)<=2000:=by unfold TH;have:=HX (decide (m<who.length)) (who.length - m) who;omega
theorem adR:∀l:List Ev,kG l<=fS l
 |[]=>Za5 _
 |e::l=>by have:=adR l;show(List.map _ (e::l)).sum<=(List.map _ (e::l)).sum;rw[Zd1,Zd1,Zp4,Zp4];unfold kG fS at this;omega
section
variable{c:aj}{fv:AV}{s0 sB:St}{I:St->List Ev->Prop}{M:St->Pos->Prop}{s:St}{l l':List Ev}{vb jb:Pos}{j:Jc}{J:Jt}{P G:AV}{q g:List Int}
theorem ary(hc:bu c)(H:kP c fv s0 I M)(V:Vw s0 vb jb j J P G q g)(r:Rl)(hI:I s l)(hB:fS l+2000*J.p.ts.length<=1000000):
  ∃s',c 98 [.ptr vb 0,.agg r.cells,fv] s=some (.tuple [],s')/\I s' (l++cU (H9 J q r (TF (wu J))) J.p.ts.length 0):=by
 refine H.fin hI (λh=>Ym hc 1 h) ?_;have hw:=(H.ai hI).wf;have hN:=(V.ai (H.ai hI)).FB;have g1:=Grew.ah hw (.cells [.ptr vb 0] 0);have dR:=H.grow hI g1;have g2:=Grew.ah g1.wf (.cells r.cells 0);have uA:=H.grow dR g2;have g3:=Grew.ah g2.wf (.cells [fv] 0);have hI3:=H.grow uA g3;have m1:∀b,M (ah (ah (ah s (.cells [.ptr vb 0] 0)) (.cells r.cells 0)) (.cells [fv] 0)) b->b.toNat<s.next.toNat:=λb h=>H.mlt hI (H.mW hI g1 (H.mW dR g2 (H.mW uA g3 h)))
 have n1:(ah s (.cells [.ptr vb 0] 0)).next.toNat=s.next.toNat+1:=by rw[bX,Pos.aH]
 have n2:(ah (ah s (.cells [.ptr vb 0] 0)) (.cells r.cells 0)).next.toNat=s.next.toNat+2:=by rw[bX,Pos.aH,n1]
 have b1:=g3.get (g2.get (aB s (.cells [.ptr vb 0] 0)));have b2:=g3.get (aB (ah s (.cells [.ptr vb 0] 0)) (.cells r.cells 0));have b3:=aB (ah (ah s (.cells [.ptr vb 0] 0)) (.cells r.cells 0)) (.cells [fv] 0);obtain⟨s',z1,z2⟩:=ae9 H hc V (at5 hc H V b1 (λh=>by have:=m1 _ h;omega) b3 (λh=>by have:=m1 _ h;omega)) (aiR _ hN.2) r hI3 hB;refine⟨s',?_,z2⟩;rw[acy];simp only[di,show AV.cells (.agg r.cells)=r.cells from rfl,show AV.cells (.ptr vb 0)=[.ptr vb 0]from rfl,H.one.1,aO,b1,az,Za6,Za4,aQ,cm,b2,Rl.cc,cG,Hz,bI,z1,bw]
theorem arz(hc:bu c)(H:kP c fv s0 I M)(V:Vw s0 vb jb j J P G q g)(r:Rl){m:Nat}(hn:r.n=(m:Int))(hm:m<=1000)(hI:I s l)(hB:fS l+2000*J.p.ts.length<=1000000):
  ∃s',c 104 [.ptr vb 0,.agg r.cells,fv] s=some (.tuple [],s')/\I s' (l++cU (H9 J q r (TG m)) J.p.ts.length 0):=by
 refine H.fin hI (λh=>Yn hc 1 h) ?_;have hw:=(H.ai hI).wf;have hN:=(V.ai (H.ai hI)).FB;have g1:=Grew.ah hw (.cells r.cells 0);have dR:=H.grow hI g1;have g2:=Grew.ah g1.wf (.cells [fv] 0);have uA:=H.grow dR g2;have m1:∀b,M (ah (ah s (.cells r.cells 0)) (.cells [fv] 0)) b->b.toNat<s.next.toNat:=λb h=>H.mlt hI (H.mW hI g1 (H.mW dR g2 h))
 have n1:(ah s (.cells r.cells 0)).next.toNat=s.next.toNat+1:=by rw[bX,Pos.aH]
 have b1:=g2.get (aB s (.cells r.cells 0));have b2:=aB (ah s (.cells r.cells 0)) (.cells [fv] 0);obtain⟨s',z1,z2⟩:=ae9 H hc V (at3 hc H hn hm hN.2 b1 (λh=>by have:=m1 _ h;omega) b2 (λh=>by have:=m1 _ h;omega)) (aiS m hm hN.2) r uA hB;refine⟨s',?_,z2⟩;rw[acz];simp only[di,au,show AV.cells (.agg r.cells)=r.cells from rfl,H.one.1,cm,b1,az,Za6,Rl.cc,cG,Hz,bI,z1,bw]
theorem aoQ(hc:bu c)(H:kP c fv s0 I M)(V:Vw s0 vb jb j J P G q g)(r:Rl){m:Nat}(hn:r.n=(m:Int))(hm:m<=1000)(hI:I s l)(hB:fS l+2000*J.p.ts.length<=1000000):
  ∃s',c 105 [.ptr vb 0,.agg r.cells,fv] s=some (.tuple [],s')/\I s' (l++cU (H9 J q r (TH m)) J.p.ts.length 0):=by
 refine H.fin hI (λh=>Ww hc 1 h) ?_;have hw:=(H.ai hI).wf;have hN:=(V.ai (H.ai hI)).FB;have g1:=Grew.ah hw (.cells r.cells 0);have dR:=H.grow hI g1;have g2:=Grew.ah g1.wf (.cells [fv] 0);have uA:=H.grow dR g2;have m1:∀b,M (ah (ah s (.cells r.cells 0)) (.cells [fv] 0)) b->b.toNat<s.next.toNat:=λb h=>H.mlt hI (H.mW hI g1 (H.mW dR g2 h))
 have n1:(ah s (.cells r.cells 0)).next.toNat=s.next.toNat+1:=by rw[bX,Pos.aH]
 have b1:=g2.get (aB s (.cells r.cells 0));have b2:=aB (ah s (.cells r.cells 0)) (.cells [fv] 0);obtain⟨s',z1,z2⟩:=ae9 H hc V (arx hc H hn hm hN.2 b1 (λh=>by have:=m1 _ h;omega) b2 (λh=>by have:=m1 _ h;omega)) (aiT m hN.2) r uA hB;refine⟨s',?_,z2⟩;rw[aaz];simp only[di,au,show AV.cells (.agg r.cells)=r.cells from rfl,H.one.1,cm,b1,az,Za6,Rl.cc,cG,Hz,bI,z1,bw]
def rA(J:Jt)(r:Rl):Nat:=(gi J.p r.a).toNat
def rB(J:Jt)(r:Rl):Nat:=(gi J.p r.b).toNat
def oQ(J:Jt)(q g:List Int)(r:Rl):List Ev:=match r.k.toNat with
 |1=>DJ (qF q) (rA J r) (rB J r) (MM J r)
 |2=>DJ (qF q) (rA J r) (rB J r) (acn J)
 |3=>DJ (qF q) (rA J r) (rB J r) (aco J)
 |4=>DJ (qF q) (rA J r) (rB J r) (TO J r)
 |5=>DJ (qF q) (rA J r) (rB J r) (acp J)
 |6=>Yb (qF q) (rA J r) (atP J r)
 |7=>Yb (qF q) (rA J r) (TR J r)
 |8=>Aq (qF q) q.length (jr J r (PO J))
 |9=>cU (H9 J q r (TF (wu J))) J.p.ts.length 0
 |10=>PI (qF q) q.length (TX J r)
 |11=>PI (qF q) q.length (TZ J r g)
 |12=>Aq (qF q) q.length (jr J r (A8 J))
 |13=>Aq (qF q) q.length (Ju J r)
 |14=>Aq (qF q) q.length (jr J r (MQ J))
 |15=>cU (H9 J q r (TG r.n.toNat)) J.p.ts.length 0
 |16=>cU (H9 J q r (TH r.n.toNat)) J.p.ts.length 0
 |17=>PI (qF q) q.length (TY J r)
 |18=>Aq (qF q) q.length (jr J r (PR J))
 |_=>[]
structure RuV(p:bE)(r:Rl)(m:Nat):Prop where
 k:r.k=(m:Int)
 m1:1<=m
 m2:m<=18
 a:(kd m).a=103->0<=gi p r.a
 b:(kd m).b=true->0<=gi p r.b
 n:m=15\/m=16->0<=r.n/\r.n<=24
 w:0<=r.wt/\r.wt<=1000
theorem aoR{p:bE}{r:Rl}(hr:r.Ok)(h:nX p r=0):∃m,RuV p r m:=by
 have hk:∃m:Nat,r.k=(m:Int):=⟨r.k.toNat,by have:=hr.1;omega⟩
 obtain⟨m,hk⟩:=hk;unfold nX at h;rw[hk,Zd4]at h;by_cases hm:1<=m/\m<=18
 . have h2:=h;unfold T9 at h;by_cases e1:(kd m).w=[]
   .rw[Zb4 e1]at h;cases h
   rw[Za7 e1]at h;by_cases e2:r.wt<0\/1000<r.wt
   .rw[Zb4 e2]at h;cases h
   rw[Za7 e2]at h;by_cases e3:MV (kd m) r=false
   .rw[Zb4 e3]at h;cases h
   rw[Za7 e3]at h;by_cases e4:((kd m).a=103/\gi p r.a<0)\/((kd m).a=101/\r.a≠[]/\gi p r.a<0)\/((kd m).b=true/\gi p r.b<0)
   .rw[Zb4 e4]at h;cases h
   rw[Za7 e4]at h;refine⟨m,hk,hm.1,hm.2,λha=> ?_,λhb=> ?_,λhm=> ?_,by omega⟩
   .exact Int.not_lt.1 λaW=>e4 (.inl ⟨ha,aW⟩)
   .exact Int.not_lt.1 λaW=>e4 (.inr (.inr ⟨hb,aW⟩))
   . unfold afa at h;have ka:(kd m).a=0:=(by rcases hm with rfl|rfl<;>rfl);have kb:(kd m).b=false:=(by rcases hm with rfl|rfl<;>rfl);have kn:(kd m).n=true:=(by rcases hm with rfl|rfl<;>rfl);have ks:(kd m).kO=false:=(by rcases hm with rfl|rfl<;>rfl);have kl:(kd m).lo=0:=(by rcases hm with rfl|rfl<;>rfl);rw[Za7 (by rw[ka];simp),Za7 (by rw[kb];simp)]at h;unfold aaa at h;split at h
     .  cases h
     .  unfold B4 at h;simp only[ks,kn,kl,Ze7,Zg7,Zs6]at h;split at h
        .cases h
        .omega
 . exfalso;have e:kd m=⟨[],0,false,0,false,0,false,.jX⟩:=by
     unfold kd;split<;>first|rfl|(exfalso;omega)
   rw[e]at h;unfold T9 at h;simp at h
theorem amN(p:bE)(s:List Nat)(h:0<=gi p s):(gi p s).toNat<p.gs.length:=by have:=(B5 (P:=nM p.gs s) p.gs.length 0 h).2.1;unfold gi;omega
theorem at7(hc:bu c)(H:kP c fv s0 I M)(V:Vw s0 vb jb j J P G q g)(fB:J.p.cs.length=J.n\/J.p.cs.length=0){r:Rl}{m:Nat}(R:RuV J.p r m)(hI:I s []):
   ∃f s',(kd m).f= .func f [] []/\c f [.ptr vb 0,.agg r.cells,fv] s=some (.tuple [],s')/\I s' (oQ J q g r):=by
 have hN:=V.FB;have mH:=V.ql;have uO:=V.jw.kL.ts;have e0:fS []=0:=rfl;have hb3:3*q.length*q.length<=30000:=by have:q.length<=100:=(by omega);have:=Zq8 this this;have e:3*q.length*q.length=3*(q.length*q.length):=Nat.mul_assoc _ _ _;omega
 have nil:∀E:List Ev,[]++E=E:=λE=>rfl
 have two:(kd m).a=103->(kd m).b=true->Two J q r (rA J r) (rB J r) (qF q (rA J r)) (qF q (rB J r)):=λha hb=>by
   have h1:=R.a ha;have h2:=R.b hb;have l1:=amN _ _ h1;have l2:=amN _ _ h2;have l1:rA J r<q.length:=(by rw[mH];exact l1);have l2:rB J r<q.length:=(by rw[mH];exact l2);refine⟨by unfold rA;omega,by unfold rB;omega,?_,?_⟩
   .rw[H0 l1,yo (H0 l1)]
   .rw[H0 l2,yo (H0 l2)]
 have one:(kd m).a=103->gi J.p r.a=((rA J r:Nat):Int)/\q[rA J r]? =some (qF q (rA J r)):=λha=>by
   have h1:=R.a ha;have l1:=amN _ _ h1;have l1:rA J r<q.length:=(by rw[mH];exact l1);exact⟨by unfold rA;omega,by rw[H0 l1,yo (H0 l1)]⟩
 have hn:m=15\/m=16->r.n=((r.n.toNat:Nat):Int)/\r.n.toNat<=1000:=λh=>by have:=R.n h;omega
 have uf:J.p.cs.length=q.length\/J.p.cs.length=0:=by rw[mH];exact fB
 unfold oQ;rw[R.k,Zd4];have m1:=R.m1;have m2:=R.m2;rcases Gu m1 m2 with rfl|rfl|rfl|rfl|rfl|rfl|rfl|rfl|rfl|rfl|rfl|rfl|rfl|rfl|rfl|rfl|rfl|rfl
 .obtain⟨s',a,b⟩:=arp hc H V (two rfl rfl) hI (by omega);exact⟨_,s',rfl,a,b⟩
 .obtain⟨s',a,b⟩:=agM hc H V (two rfl rfl) hI (by omega);exact⟨_,s',rfl,a,b⟩
 .obtain⟨s',a,b⟩:=agN hc H V (two rfl rfl) hI (by omega);exact⟨_,s',rfl,a,b⟩
 .obtain⟨s',a,b⟩:=amE hc H V (two rfl rfl) hI (by omega);exact⟨_,s',rfl,a,b⟩
 .obtain⟨s',a,b⟩:=akv hc H V (two rfl rfl) hI (by omega);exact⟨_,s',rfl,a,b⟩
 .obtain⟨s',a,b⟩:=avt hc H V (one rfl).1 (one rfl).2 hI (by omega);exact⟨_,s',rfl,a,b⟩
 .obtain⟨s',a,b⟩:=arq hc H V (one rfl).1 (one rfl).2 hI (by omega);exact⟨_,s',rfl,a,b⟩
 .obtain⟨s',a,b⟩:=agP hc H V r hI (by omega);exact⟨_,s',rfl,a,b⟩
 .obtain⟨s',a,b⟩:=ary hc H V r hI (by omega);exact⟨_,s',rfl,a,b⟩
 .obtain⟨s',a,b⟩:=aoM H hc V r hI (by omega);exact⟨_,s',rfl,a,b⟩
 .obtain⟨s',a,b⟩:=aoN H hc V r hI (by omega);exact⟨_,s',rfl,a,b⟩
 .obtain⟨s',a,b⟩:=aoL hc H V r hI (by omega);exact⟨_,s',rfl,a,b⟩
 .obtain⟨s',a,b⟩:=akw hc H V r hI (by omega);exact⟨_,s',rfl,a,b⟩
 .obtain⟨s',a,b⟩:=amG hc H V uf r hI (by omega);exact⟨_,s',rfl,a,b⟩
 .obtain⟨s',a,b⟩:=arz hc H V r (hn (.inl rfl)).1 (hn (.inl rfl)).2 hI (by omega);exact⟨_,s',rfl,a,b⟩
 .obtain⟨s',a,b⟩:=aoQ hc H V r (hn (.inr rfl)).1 (hn (.inr rfl)).2 hI (by omega);exact⟨_,s',rfl,a,b⟩
 .obtain⟨s',a,b⟩:=akx H hc V r hI (by omega);exact⟨_,s',rfl,a,b⟩
 .obtain⟨s',a,b⟩:=at1 hc H V r hI (by omega);exact⟨_,s',rfl,a,b⟩
end
end
end Go.Proofs.YtgihekklfnjkiaaGreatDoor
