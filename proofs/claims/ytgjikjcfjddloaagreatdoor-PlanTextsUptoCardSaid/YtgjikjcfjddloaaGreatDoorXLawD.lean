/- Functions of the program, plainly, and what they answer. -/
import Derived.Test.YtgjikjcfjddloaaGreatDoorXLawC
import Derived.Deep.DeepHandedRow
set_option linter.all false
set_option maxRecDepth 100000
set_option maxHeartbeats 4000000
namespace Go.Proofs.YtgjikjcfjddloaaGreatDoor
noncomputable section
open Go Go.Ai Go.Proofs
attribute [local go_sem ↓] aT jK ev JZ uD getLT oO AX FX nB nC zb tr tu tA oc od oe oh om oq tB tC ot ou ov ow oA yO yP yQ
attribute [local go_sem] aT jK ev
section
variable(c:ah)(F:Nat)(x0 x1 x2 x3 x4 x5 x6 x7 x8 x9 pY qo:AV)(s:St)
def DE:Sh:=(sq sl (sq sl sl))
def DF:PX 33 DE:=⟨_,by conv=>lhs;reduce⟩
def zo:O2:=aT c F bf DF.1 [x0,x1] s
def Qn:=(by dsimp only[zo,DF,go_sem,Int.reduceOfNat]:zo c F x0 x1 s=_)
def p8:Sh:=(sq sl (sq sl sl))
def p9:PX 70 p8:=⟨_,by conv=>lhs;reduce⟩
def lK:O2:=aT c F bf p9.1 [x0,x1] s
def B5:=(by dsimp only[lK,p9,go_sem,Int.reduceOfNat]:lK c F x0 x1 s=_)
def BN:Sh:=(sq sl (sq sl sl))
def BO:PX 71 BN:=⟨_,by conv=>lhs;reduce⟩
def vX:O2:=aT c F bf BO.1 [x0] s
def MP:=(by dsimp only[vX,BO,go_sem,Int.reduceOfNat]:vX c F x0 s=_)
def mA:Sh:=(sq sl (sq (sq sl (sq sl (sc (sq sl sl) sl))) (sq (sq sl (sc (sq sl sl) sl)) (sq sl (sq (sq sl (sb (sp 0 [1,2,10,11] [(1,[6,7]),(2,[])] (sq (sq sl (sc sl sl)) (sj [1,2,10,11] (sb (sq (sq sl (sc (sq (sq sl (sc (sq sl sl) sl)) sl) sl)) (sq (sq sl (sc (sq sl sl) sl)) (sq sl (sb (sp 1 [1,2,10,11,12] [(1,[6,7]),(4,[1,2,10,11])] (sq (sq sl (sc sl sl)) (sq (sb (sq sl (sc (sq sl sl) sl))) sl)))))))) sl))))) (sq sl sl))))))
def BP:PX 74 mA:=⟨_,by conv=>lhs;reduce⟩
def Ad:PL 74 mA 1:=⟨_,by conv=>lhs;reduce⟩
def ij(k1 k4:Q2):Nat->Q2
 |0,_,_=>none
 |n+1,vs,s=>eg c F bf (ij k1 k4 n) [k1,k4] Ad.1 vs s
def nY(k1 k4:Q2)(n:Nat)(vs:List AV)(s:St):=(by dsimp only[ij,Ad,go_sem,Int.reduceOfNat,Int.reduceNegSucc]:ij c F k1 k4 (n+1) vs s=_)
def Ae:Un->List Q2->Nat->Q2
 |(.s .z),[k1,k4]=>ij c F k1 k4
 |_,_=>λ_=>eO
def Af:PL 74 mA 0:=⟨_,by conv=>lhs;reduce⟩
def jE(k1 k2:Q2):Nat->Q2
 |0,_,_=>none
 |n+1,vs,s=>eg c F (Ae c F) (jE k1 k2 n) [k1,k2] Af.1 vs s
def fX(k1 k2:Q2)(n:Nat)(vs:List AV)(s:St):=(by dsimp only[jE,Af, ↓Ae,go_sem,Int.reduceOfNat,Int.reduceNegSucc]:jE c F k1 k2 (n+1) vs s=_)
def sO:Un->List Q2->Nat->Q2
 |.z,[k1,k2]=>jE c F k1 k2
 |(.s .z),[k1,k4]=>ij c F k1 k4
 |_,_=>λ_=>eO
def vY:O2:=aT c F (sO c F) BP.1 [x0,x1,x2] s
def MQ:=(by dsimp only[vY,BP, ↓sO,go_sem,Int.reduceOfNat,Int.reduceNegSucc]:vY c F x0 x1 x2 s=_)
def lU:Sh:=(sq sl (sq (sq sl (sb (sp 0 [0,1,7,8] [(1,[4]),(2,[])] (sq sl (sq (sc sl sl) (sq (sb (sq sl (sq sl (sc (sq sl sl) sl)))) sl)))))) (sq sl sl)))
def tP:PX 99 lU:=⟨_,by conv=>lhs;reduce⟩
def rA:PL 99 lU 0:=⟨_,by conv=>lhs;reduce⟩
def fV(k1 k2:Q2):Nat->Q2
 |0,_,_=>none
 |n+1,vs,s=>eg c F bf (fV k1 k2 n) [k1,k2] rA.1 vs s
def kB(k1 k2:Q2)(n:Nat)(vs:List AV)(s:St):=(by dsimp only[fV,rA,go_sem,Int.reduceOfNat,Int.reduceNegSucc]:fV c F k1 k2 (n+1) vs s=_)
def lV:Un->List Q2->Nat->Q2
 |.z,[k1,k2]=>fV c F k1 k2
 |_,_=>λ_=>eO
def nv:O2:=aT c F (lV c F) tP.1 [x0,x1] s
def Ef:=(by dsimp only[nv,tP, ↓lV,go_sem,Int.reduceOfNat,Int.reduceNegSucc]:nv c F x0 x1 s=_)
end
section
variable{c:ah}(hc:bB c)(F:Nat){x0 x1 x2 x3 x4 x5 x6 x7 x8 x9 pY qo:AV}{s:St}{r:AV×St}
include hc
theorem MR(h:zo c F x0 x1 s=some r):c 33 [x0,x1] s=some (tidy s r):=hc.o0 F DE (by kernel_rfl) (by kernel_rfl) h
theorem Aq(h:lK c F x0 x1 s=some r):c 70 [x0,x1] s=some (tidy s r):=hc.o0 F p8 (by kernel_rfl) (by kernel_rfl) h
theorem Jv(h:vX c F x0 s=some r):c 71 [x0] s=some (tidy s r):=hc.o0 F BN (by kernel_rfl) (by kernel_rfl) h
theorem Jw(h:vY c F x0 x1 x2 s=some r):c 74 [x0,x1,x2] s=some (tidy s r):=hc.oL F (sO c F) mA 2 (by kernel_rfl) (λi hi=>match i,hi with|0,_=>mZ 0 (by kernel_rfl) (λ_ _ _=>by kernel_rfl) (λ_ _ _ _=>by kernel_rfl)|1,_=>mZ 1 (by kernel_rfl) (λ_ _ _=>by kernel_rfl) (λ_ _ _ _=>by kernel_rfl)|n+2,h=>absurd h (by omega)) (by kernel_rfl) h
theorem CQ(h:nv c F x0 x1 s=some r):c 99 [x0,x1] s=some (tidy s r):=hc.o1 F (lV c F) lU (by kernel_rfl) (by kernel_rfl) (λ_ _ _=>by kernel_rfl) (λ_ _ _ _=>by kernel_rfl) (by kernel_rfl) h
end
end
section
set_option linter.unusedSimpArgs false
open Go Go.Ai Go.Proofs
variable{c:ah}
def mB(N:Nat)(w:Bool)(q:List Int):Nat->Nat->Int×Int
 |0,_=>(0,0)
 |m+1,k=>if w=true/\q.getD k 0= -1 then((k:Int),52)else if q.getD k 0< -1\/(N:Int)<=q.getD k 0 then((k:Int),50)else if 0<=q.getD k 0/\q.getD k 0∈q.take k then((k:Int),51)else mB N w q m (k+1)
def NS(p:aR):Nat:=(aO p.ts).toNat
def MS(p:aR)(w:Bool)(q:List Int):Int×Int:=if q.length≠p.gs.length then(0,53)else mB (NS p) w q q.length 0
def jL(p:aR)(w:Bool)(q:List Int):Int×Int:=if(bI p).2≠0 then(0,(bI p).2)else MS p w q
theorem MT{p:aR}(h:(bI p).2=0):(bA p.ts).2=0:=by
 unfold bI at h;split at h
 .rename_i k;exact absurd h k
 .rename_i k;exact RZ (by simpa using k)
theorem Qo{N:Nat}{w:Bool}{q:List Int}:∀(m k:Nat),(mB N w q m k).2=0->mB N w q m k=(0,0)
 |0,_,_=>rfl
 |m+1,k,h=>by
  rw[mB]at h ⊢;split at h<;>first|(simp at h;done)|skip
  split at h<;>first|(simp at h;done)|skip
  split at h<;>first|(simp at h;done)|skip
  rename_i h1 h2 h3;rw[Za2 h1,Za2 h2,Za2 h3];exact Qo m (k+1) h
theorem aco{N:Nat}{w:Bool}{q:List Int}:∀(m k:Nat),k+m=q.length->(mB N w q m k).2=0->∀i x,k<=i->q[i]? =some x-> -1<=x/\x<(N:Int)/\(w=true->x≠ -1)/\(0<=x->x∉q.take i)
 |0,k,hk,_,i,x,hi,hx=>by have:=(H5.1 hx).1;omega
 |m +1,k,hk,h,i,x,hi,hx=>by
  rw[mB]at h;split at h<;>first|(simp at h;done)|skip
  split at h<;>first|(simp at h;done)|skip
  split at h<;>first|(simp at h;done)|skip
  rename_i h1 h2 h3;by_cases e:i=k
  .subst e;rw[Zc1,hx]at h1 h2 h3;simp only[Zf1]at h1 h2 h3;exact⟨by omega,by omega,λa b=>h1 ⟨a,b⟩,λa b=>h3 ⟨a,b⟩⟩
  .exact aco m (k+1) (by omega) h i x (by omega) hx
theorem aje{N:Nat}{w:Bool}{q:List Int}(h:(mB N w q q.length 0).2=0):Xx N q.length q/\(w=true->(-1:Int)∉q):=by
 have h:=aco q.length 0 (by omega) h;refine⟨⟨rfl,λx hx=> ?_,λa b x hab ha hb=> ?_⟩,λhw hm=> ?_⟩
 .obtain⟨i,hi⟩:=Zg7.1 hx;have:=h i x (by omega) hi;exact⟨this.1,this.2.1⟩
 .have:=(h b x (by omega) hb).2.2.2;(refine Int.not_le.1 λh0=>this h0 ?_);rw[Zg7];exact⟨a,by rw[Zb8,Za4 hab];exact ha⟩
 .obtain⟨i,hi⟩:=Zg7.1 hm;exact(h i _ (by omega) hi).2.2.1 hw rfl
theorem Wl{N:Nat}{w:Bool}{q:List Int}{m k:Nat}(hk:k<q.length){x:Int}(hx:q[k]=x):
  mB N w q (m+1) k=if w=true/\x= -1 then((k:Int),52)else if x< -1\/(N:Int)<=x then((k:Int),50)else if 0<=x/\x∈q.take k then((k:Int),51)else mB N w q m (k+1):=by
 rw[mB,Zc1,H1 hk,hx];rfl
section
variable{sB s:St}{P:AV}{q:List Int}{N n:Nat}
theorem afq {tb :Pos}(PZ:q.length<=1000)(hN:N<=100000)(pq:QS 1 sB P (q.map cq))(hge:sB.next.toNat<=tb.toNat)(w0:Wf sB)(w:Bool)(F:Nat):
  ∀ (m k f:Nat)(s:St)(tk:List Bool),k+m=q.length->m<f->Grew sB s->s.heap.get tb=some (.cells (uQ tk) 0)->tk.length=N->(∀i:Nat,i<N->(tk[i]? =some true↔(i:Int)∈q.take k))->∃s',Grew sB s'/\
    ∀k1 k2:Q2,oE c F k1 k2 f [.bool w,.int .i64 (N:Int),.slice tb 0 N (some N) 1,P,.int .i64 (q.length:Int),.int .i64 (k:Int)] s=if(mB N w q m k).2=0 then k2 [] s' else k1 [.int .i64 (mB N w q m k).1,.int .i64 (mB N w q m k).2] s':=by
 intro m;induction m with
 |zero=>
  intro k f s tk hk hf gr ht hl pX;obtain⟨f,rfl⟩:∃g,f=g+1:=⟨f - 1,by omega⟩
  obtain rfl:k=q.length:=by omega
  refine⟨s,gr,λk1 k2=> ?_⟩;rw[fR];simp[mB]
 |succ m ih   =>
  intro k f s tk hk hf gr ht hl pX;obtain⟨f,rfl⟩:∃g,f=g+1:=⟨f - 1,by omega⟩
  have cK:k<q.length:=by omega
  obtain⟨pb,po,p⟩:=rdI (pq.aN gr) (H1 cK);have p1:=λ{R}=>@p.st R
  have p3:=p.one;have wr:au .i64 ((k:Int)+1)=((k+1:Nat):Int):=by rw[wrap64 (by omega) (by omega)];omega
  have tke:q.take (k+1)=q.take k++[q[k]]:=by rw[Zn2,H1 cK];rfl
  have eb:=Wl (N:=N) (w:=w) (m:=m) cK rfl;generalize q[k]=x at*
  by_cases h0:0<=x
  . have d1   : decide (x= -1)=false:=H3 (by omega);have d2:decide (x< -1)=false:=H3 (by omega);have n1:¬(w=true/\x= -1):=λh=>by have:=h.2;omega
    rw[Za2 n1]at eb;by_cases hx:(N:Int)<=x
    .   have d3:decide ((N:Int)<=x)=true:=H2 hx;have n2:x< -1\/(N:Int)<=x:= .inr hx;rw[Za4 n2]at eb;rw[eb];refine⟨s,gr,λk1 k2=> ?_⟩;rw[fR];simp[ki,cK,p1,p3,d1,d2,d3]
    .   have n2 :¬(x< -1\/(N:Int)<=x):=(by omega);rw[Za2 n2]at eb;have d3:decide ((N:Int)<=x)=false:=H3 hx;have d5:decide (0<=x)=true:=H2 h0;obtain⟨i,rfl⟩:∃i:Nat,x=(i:Int):=⟨x.toNat,by omega⟩
        have hi:i<N:=(by omega);have d4:decide (N<=i)=false:=H3 (by omega);have ix:=λ(K:AV->St->Option (AV×St))(s1:St)=>CC c K s1 (b:=tb) (off:=0) (len:=N) (es:=1) (es':=1) (cap:=some N) (k:= .i64) (i:=i) hi
        simp only[Zc7,Zk7]at ix;by_cases hm:(i:Int)∈q.take k
        . have ec:(uQ tk)[i]? =some (.bool true):=(by rw[Zb5,(pX i hi).2 hm];rfl);have n3:0<=(i:Int)/\(i:Int)∈q.take k:=⟨h0,hm⟩
          rw[Za4 n3]at eb;rw[eb];refine⟨s,gr,λk1 k2=> ?_⟩;rw[fR];simp[ki,cK,p1,p3,ix,d1,d2,d3,d4,d5,ht,aF,ec]
        . have n3:¬(0<=(i:Int)/\(i:Int)∈q.take k):=λh=>hm h.2
          rw[Za2 n3]at eb;rw[eb];have hf0:tk[i]? =some false:=by
            rw[H1 (by omega)];cases h:tk[i]'(by omega)with
            |false=>rfl
            |true=>exact absurd ((pX i hi).1 (by rw[H1 (by omega),h])) hm
          have ec:(uQ tk)[i]? =some (.bool false):=(by rw[Zb5,hf0];rfl);have pt:=λ(K:AV->St->Option (AV×St))=>QG (c:=c) K ht (o:=i) (by rw[Zb3];omega) (v:= .bool true) rfl rfl
          rw[show(uQ tk).set i (.bool true)=uQ (tk.set i true)from(Zq2).symm]at pt;have bw:=gr.wf _ _ ht;obtain⟨s',z1,z3⟩:=ih (k+1) f (cR s tb (.cells (uQ (tk.set i true)) 0)) (tk.set i true) (by omega) (by omega) (MF w0 gr hge bw _) (je _ _ _) (by simpa using hl) (λj hj=>by
            rw[tke,Zd5,Zc9];by_cases e:i=j
            .subst e;rw[List.getElem?_set_self (by omega)];simp
            . rw[List.getElem?_set_ne e,pX j hj];constructor
              .exact .inl
              . rintro(h|h)
                .exact h
                .omega)
          refine⟨s',z1,λk1 k2=> ?_⟩;rw[<-z3 k1 k2,fR];simp[ki,cK,p1,p3,ix,pt,wr,d1,d2,d3,d4,d5,ht,aF,ec]
  . have d5   :decide (0<=x)=false:=H3 h0;by_cases hx:x= -1
    .   subst hx;have d3:decide ((N:Int)<= -1)=false:=H3 (by omega);cases w with
        | true=>
          have n1:true=true/\(-1:Int)= -1:=⟨rfl,rfl⟩
          rw[Za4 n1]at eb;rw[eb];refine⟨s,gr,λk1 k2=> ?_⟩;rw[fR];simp[ki,cK,p1,p3]
        | false=>
          have n1:¬(false=true/\(-1:Int)= -1):=(by simp);have n2:¬((-1:Int)< -1\/(N:Int)<= -1):=(by omega);have n3:¬(0<=(-1:Int)/\(-1:Int)∈q.take k):=λh=>by have:=h.1;omega
          rw[Za2 n1,Za2 n2,Za2 n3]at eb;rw[eb];obtain⟨s',z1,z3⟩:=ih (k+1) f s tk (by omega) (by omega) gr ht hl (λj hj=>by
            rw[tke,Zd5,Zc9,pX j hj];constructor
            .exact .inl
            . rintro(h|h)
              .exact h
              .omega)
          refine⟨s',z1,λk1 k2=> ?_⟩;rw[<-z3 k1 k2,fR];simp[ki,cK,p1,p3,wr,d3]
    .   have d1:decide (x= -1)=false:=H3 hx;have d2:decide (x< -1)=true:=H2 (by omega);have n1:¬(w=true/\x= -1):=λh=>hx h.2
        have n2:x< -1\/(N:Int)<=x:= .inl (by omega);rw[Za2 n1,Za4 n2]at eb;rw[eb];refine⟨s,gr,λk1 k2=> ?_⟩;rw[fR];simp[ki,cK,p1,p3,d1,d2]
end
section
variable{s0 s:St}{Vs:List AV}{p:aR}{P:AV}{q:List Int}
theorem CR(a b:Int):Plain (.tuple [.int .i64 a,.int .i64 b]):= .tuple λv hv=>by simp at hv;rcases hv with rfl|rfl<;>exact .int _ _
theorem adL(hp:p.ic):((NS p:Nat):Int)=aO p.ts/\NS p<=100000:=by have h1:=pz p.ts;have h2:=hp.ts;unfold NS;omega
theorem ajf(hc:bB c)(h:PS s0 s Vs p)(hp:p.ic)(hv:(bA p.ts).2=0)(pq:QS 1 s P (q.map cq))(hl:q.length<=1000)(w:Bool):c 93 [.agg Vs,P,.bool w] s=some (.tuple [.int .i64 (MS p w q).1,.int .i64 (MS p w q).2],s):=by
 have hw:=h.aN.wf;have gN:=Grew.af hw (.cells Vs 0);have h1:=h.qc gN;obtain⟨V1,V2,r1,r2,e1,e2,T,T2,e5⟩:=h1.rT;have cn:=Xv hc h1 hp.ok hv e1;obtain⟨hs,hle⟩:=adL hp;rw[<-hs]at cn;have ln:=λ(K:AV->St->Option (AV×St))(s1:St)=>pq.lenB (c:=c) K s1
 rw[Zb3]at ln;have lg:=λ(K:AV->St->Option (AV×St))(s1:St)=>T2.out.own.lenB (c:=c) K s1
 rw[T2.len]at lg;unfold MS;by_cases he:q.length=p.gs.length
 . (rw[Za2 (by simpa using he)];have mk:=λ(K:AV->St->Option (AV×St))=>QF c K (af s (.cells Vs 0)) (es:=1) (bytes:=1) (z:=[.bool false]) (k:= .i64) (k':= .i64) (n:=NS p) (by omega) (by omega));rw[AS,Xw]at mk;have gT:=Grew.af gN.wf (.cells (uQ (List.replicate (NS p) false)) 0);obtain⟨s',z1,z3⟩:=afq (c:=c) hl hle (pq.aN gN) (Za3 _) gN.wf w (q.length+1) q.length 0 (q.length+1) _ (List.replicate (NS p) false) (by omega) (by omega) gT (aC _ _) (by simp) (λi hi=>by rw[List.getElem?_replicate,Za4 hi];simp);simp only[show((0:Nat):Int)=0 from rfl]at z3;rw[CO hc (q.length+1) (r:=(.tuple [.int .i64 (mB (NS p) w q q.length 0).1,.int .i64 (mB (NS p) w q q.length 0).2],s')),ak (CR _ _) (gN.trans z1).keeps];rw[GP];simp[show ∀l,AV.cells (.agg l)=l from λl=>rfl,aC,aF,e1,e2,ln,lg,he,cn];rw[mk, <-he,z3];by_cases hz:(mB (NS p) w q q.length 0).2=0
   .rw[Za4 hz,Qo _ _ hz];simp
   .rw[Za2 hz];simp
 .rw[Za4 he];have d:decide ((q.length:Int)=(p.gs.length:Int))=false:=H3 (by omega);rw[CO hc 1 (r:=(.tuple [.int .i64 0,.int .i64 53],af s (.cells Vs 0))),ak (CR _ _) gN.keeps];rw[GP];simp[show ∀l,AV.cells (.agg l)=l from λl=>rfl,aC,aF,e1,e2,ln,lg,he,d]
theorem afr(hc:bB c)(h:PS s0 s Vs p)(hp:p.ic)(hr:∀r∈p.rs,r.Ok)(pq:QS 1 s P (q.map cq))(hl:q.length<=1000)(w:Bool):c 57 [.agg Vs,P,.bool w] s=some (.tuple [.int .i64 (jL p w q).1,.int .i64 (jL p w q).2],s):=by
 have hw:=h.aN.wf;have gN:=Grew.af hw (.cells Vs 0);have h1:=h.qc gN;have hcut:cut Vs 0 5=some Vs:=bJ h1.rT.choose_spec.choose_spec.choose_spec.choose_spec.2.2.2.2;have ck:=PO hc h1 hp hr;unfold jL;by_cases hz:(bI p).2=0
 .rw[Za2 (by simpa using hz)];have kk:=ajf hc h1 hp (MT hz) (pq.aN gN) hl w;rw[hz]at ck;rw[zl hc 1 (r:=(.tuple [.int .i64 (MS p w q).1,.int .i64 (MS p w q).2],af s (.cells Vs 0))),ak (CR _ _) gN.keeps];rw[CN];simp[show ∀l,AV.cells (.agg l)=l from λl=>rfl,aC,aF,hcut,ck,kk]
 .rw[Za4 hz];have d:decide ((bI p).2=0)=false:=H3 hz;rw[zl hc 1 (r:=(.tuple [.int .i64 0,.int .i64 (bI p).2],af s (.cells Vs 0))),ak (CR _ _) gN.keeps];rw[CN];simp[show ∀l,AV.cells (.agg l)=l from λl=>rfl,aC,aF,hcut,ck,d,hz]
theorem abA(hc:bB c)(h:PS s0 s Vs p)(hp:p.ic)(hr:∀r∈p.rs,r.Ok)(pq:QS 1 s P (q.map cq))(hl:q.length<=1000):c 22 [.agg Vs,P] s=some (.tuple [.int .i64 (jL p false q).1,.int .i64 (jL p false q).2],s):=by
 have hw:=h.aN.wf;have gN:=Grew.af hw (.cells Vs 0);have h1:=h.qc gN;have hcut:cut Vs 0 5=some Vs:=bJ h1.rT.choose_spec.choose_spec.choose_spec.choose_spec.2.2.2.2;have kk:=afr hc h1 hp hr (pq.aN gN) hl false;rw[DA hc 1 (r:=(.tuple [.int .i64 (jL p false q).1,.int .i64 (jL p false q).2],af s (.cells Vs 0))),ak (CR _ _) gN.keeps];rw[GL];simp[show ∀l,AV.cells (.agg l)=l from λl=>rfl,aC,aF,hcut,kk]
theorem ajg(hc:bB c)(h:PS s0 s Vs p)(hp:p.ic)(hr:∀r∈p.rs,r.Ok)(pq:QS 1 s P (q.map cq))(hl:q.length<=1000):c 53 [.agg Vs,P] s=some (.bool (decide ((jL p false q).2=0)),s):=by
 have hw:=h.aN.wf;have gN:=Grew.af hw (.cells Vs 0);have h1:=h.qc gN;have hcut:cut Vs 0 5=some Vs:=bJ h1.rT.choose_spec.choose_spec.choose_spec.choose_spec.2.2.2.2;have kk:=abA hc h1 hp hr (pq.aN gN) hl;rw[KD hc 1 (r:=(.bool (decide ((jL p false q).2=0)),af s (.cells Vs 0))),ak (Plain.bool _) gN.keeps];rw[PU];simp[show ∀l,AV.cells (.agg l)=l from λl=>rfl,aC,aF,hcut,kk]
theorem afs(z:Bool)(hl:q.length<=1000){g:Nat}(hg:g<q.length)(x2 pY:AV)(F:Nat)(k1 k4:Q2):∀(m k f:Nat),k+m=g->m<f->
  ij c F k1 k4 f [ints z q,x2,pY,.int .i64 (g:Int),.int .i64 (k:Int)] s=if q[g]∈(q.take g).drop k then k1 [.int .i64 (g:Int),.int .i64 51] s else k4 [ints z q,x2,pY,.int .i64 (g:Int)] s:=by
 intro m;induction m with
 |zero=>
  intro k f hk hf;obtain⟨f,rfl⟩:∃g,f=g+1:=⟨f - 1,by omega⟩
  obtain rfl:k=g:=by omega
  rw[nY,Za2 (by rw[Zn6 (by rw[Zl2];omega)];simp)];simp
 |succ m ih=>
  intro k f hk hf;obtain⟨f,rfl⟩:∃g,f=g+1:=⟨f - 1,by omega⟩
  have hkg:k<g:=by omega
  have cK:k<q.length:=by omega
  have wr:au .i64 ((k:Int)+1)=((k+1:Nat):Int):=wrap64 (by omega) (by omega);have ihk:=ih (k+1) f (by omega) (by omega);have ed:(q.take g).drop k=q[k]::(q.take g).drop (k+1):=by
    rw[Za8 (by rw[Zl2];omega),Zm1]
  rw[ed];by_cases e:q[k]=q[g]
  .have d:decide (q[k]=q[g])=true:=H2 e;rw[Za4 (by rw[e];simp),nY];simp[ints,hkg,cK,hg,d]
  . have d:decide (q[k]=q[g])=false:=H3 e;have hiff:(q[g]∈q[k]::(q.take g).drop (k+1))↔q[g]∈(q.take g).drop (k+1):=by
        rw[Za7];constructor
        . rintro(h|h)
          .exact absurd h.symm e
          .exact h
        .exact .inr
    simp only[hiff];rw[<-ihk,nY];simp[ints,hkg,cK,hg,d,wr]
theorem afu(z:Bool)(hl:q.length<=1000){N:Nat}(w:Bool)(F:Nat)(hF:q.length<F)(k1 k2:Q2):∀(m k f:Nat),k+m=q.length->m<f->
  jE c F k1 k2 f [ints z q,.bool w,.int .i64 (N:Int),.int .i64 (k:Int)] s=if(mB N w q m k).2=0 then k2 [] s else k1 [.int .i64 (mB N w q m k).1,.int .i64 (mB N w q m k).2] s:=by
 intro m;induction m with
 |zero=>
  intro k f hk hf;obtain⟨f,rfl⟩:∃g,f=g+1:=⟨f - 1,by omega⟩
  obtain rfl:k=q.length:=by omega
  rw[fX];simp[mB,ints]
 |succ m ih=>
  intro k f hk hf;obtain⟨f,rfl⟩:∃g,f=g+1:=⟨f - 1,by omega⟩
  have cK:k<q.length:=by omega
  have wr:au .i64 ((k:Int)+1)=((k+1:Nat):Int):=by rw[wrap64 (by omega) (by omega)];omega
  have ihk:=ih (k+1) f (by omega) (by omega);have L1:=λk1 k4=>afs (c:=c) (s:=s) z hl cK (.bool w) (.int .i64 (N:Int)) F k1 k4 k 0 F (by omega) (by omega)
  simp only[Zb7,show((0:Nat):Int)=0 from rfl]at L1;have eb:=Wl (N:=N) (w:=w) (m:=m) cK rfl;have lI:∀(K:AV->St->Option (AV×St))(s:St),ai c (.lenB .l) [ints z q] s K=K (.int .i64 (q.length:Int)) s:=λK s=>by unfold ints;rw[bW];simp
  have ix:∀(K:AV->St->Option (AV×St))(s:St),ai c (.idxA 1 none) [ints z q,.int .i64 (k:Int)] s K=K (.fp (q.map λx=>[AV.int .i64 x]) k 0) s:=λK s=>by unfold ints;rw[FT,Zb3,Za4 cK];rfl
  have ld:∀(K:AV->St->Option (AV×St))(s:St),ai c (.load none) [.fp (q.map λx=>[AV.int .i64 x]) k 0] s K=K (.int .i64 q[k]) s:=λK s=>by simp[cK]
  generalize q[k]=x at*
  by_cases h1:x= -1
  . subst h1;cases w with
    |   true=>
        have n1:true=true/\(-1:Int)= -1:=⟨rfl,rfl⟩
        rw[Za4 n1]at eb;rw[eb,fX];simp[ki,lI,ix,ld,cK]
    |   false=>
        have n1:¬(false=true/\(-1:Int)= -1):=(by simp);have n2:¬((-1:Int)< -1\/(N:Int)<= -1):=(by omega);have n3:¬(0<=(-1:Int)/\(-1:Int)∈q.take k):=λh=>by have:=h.1;omega
        rw[Za2 n1,Za2 n2,Za2 n3]at eb;rw[eb, <-ihk,fX];simp[ki,lI,ix,ld,cK,wr]
  . have n1:¬(w=true/\x= -1):=λh=>h1 h.2
    rw[Za2 n1]at eb;have d1:decide (x= -1)=false:=H3 h1;by_cases h2:x< -1\/(N:Int)<=x
    .   rw[Za4 h2]at eb;rw[eb,fX];by_cases h3:x<0
        .have d2:decide (x<0)=true:=H2 h3;simp[ki,lI,ix,ld,cK,d1,d2]
        .have d2:decide (x<0)=false:=H3 h3;have d3:decide ((N:Int)<=x)=true:=H2 (by omega);simp[ki,lI,ix,ld,cK,d1,d2,d3]
    .   rw[Za2 h2]at eb;have d2:decide (x<0)=false:=H3 (by omega);have d3:decide ((N:Int)<=x)=false:=H3 (by omega);by_cases h4:x∈q.take k
        . have n3:0<=x/\x∈q.take k:=⟨by omega,h4⟩
          rw[Za4 n3]at eb;rw[eb,fX];simp only[h4,Zf9]at L1;simp[ki,lI,ix,ld,cK,d1,d2,d3,L1]
        . have n3:¬(0<=x/\x∈q.take k):=λh=>h4 h.2
          rw[Za2 n3]at eb;rw[eb, <-ihk,fX];simp only[h4,Ze1]at L1;simp[ki,lI,ix,ld,cK,d1,d2,d3,L1,wr]
theorem afv(hc:bB c)(p:aR)(hp:p.ic)(hr:∀r∈p.rs,r.Ok)(z:Bool)(hl:q.length<=1000)(w:Bool)(hw:Wf s):c 74 [.agg p.cells,ints z q,.bool w] s=some (.tuple [.int .i64 (jL p w q).1,.int .i64 (jL p w q).2],s):=by
 have gN:=Grew.af hw (.cells p.cells 0);have x1:=aC s (.cells p.cells 0);have R:=Qm hc p hp hr (af s (.cells p.cells 0));have C:=aa1 hc p.tz p.ts hp.ts (af s (.cells p.cells 0));obtain⟨hs,hle⟩:=adL hp;rw[<-hs]at C;have lI:∀(K:AV->St->Option (AV×St))(s:St),ai c (.lenB .l) [ints z q] s K=K (.int .i64 (q.length:Int)) s:=λK s=>by unfold ints;rw[bW];simp
 have lG:∀(K:AV->St->Option (AV×St))(s:St),ai c (.lenB .l) [bC p.gz p.gs] s K=K (.int .i64 (p.gs.length:Int)) s:=λK s=>by unfold bC;rw[bW];simp
 have L0:=λk1 k2=>afu (c:=c) (s:=af s (.cells p.cells 0)) z hl (N:=NS p) w (q.length+1) (by omega) k1 k2 q.length 0 (q.length+1) (by omega) (by omega)
 simp only[show((0:Nat):Int)=0 from rfl]at L0;have p0:p.cells[0]? =some (tabs p.tz p.ts):=rfl;have p1:p.cells[1]? =some (bC p.gz p.gs):=rfl;have vc:cut p.cells 0 5=some p.cells:=bJ rfl;rw[Jw hc (q.length+1) (r:=(.tuple [.int .i64 (jL p w q).1,.int .i64 (jL p w q).2],af s (.cells p.cells 0))),ak (CR _ _) gN.keeps];rw[MQ];unfold jL MS;by_cases hz:(bI p).2=0
 . rw[  hz]at R;rw[Za2 (by simpa using hz)];by_cases he:q.length=p.gs.length
   . rw[Za2 (by simpa using he)];have d:decide ((q.length:Int)=(p.gs.length:Int))=true:=H2 (by omega);by_cases hb:(mB (NS p) w q q.length 0).2=0
     .  simp only[hb,Zf9]at L0;have e:=Qo _ _ hb;rw[e];simp[show ∀l,AV.cells (.agg l)=l from λl=>rfl,x1,aF,vc,R,lI,lG,d,he,p0,p1,C];rw[<-he,L0];simp
     .  simp only[hb,Ze1]at L0;simp[show ∀l,AV.cells (.agg l)=l from λl=>rfl,x1,aF,vc,R,lI,lG,d,he,p0,p1,C];rw[<-he,L0];simp
   .rw[Za4 he];have d:decide ((q.length:Int)=(p.gs.length:Int))=false:=H3 (by omega);simp[show ∀l,AV.cells (.agg l)=l from λl=>rfl,x1,aF,vc,R,lI,lG,d,he,p0,p1]
 .rw[Za4 hz];have d:decide ((bI p).2=0)=false:=H3 hz;simp[show ∀l,AV.cells (.agg l)=l from λl=>rfl,x1,aF,vc,R,d,hz]
end
set_option linter.unusedSimpArgs false
open Go Go.Ai Go.Proofs Go.Ai.HY Go.Ai.RI
theorem ahG {gn tn:List (List Nat)}{zs:List Int}{q:List Int}{w:List Nat}(hz:∀j,0<=(zs.take j).sum)(hq:∀x∈q,-1<=x):∀x∈(ql gn tn zs q w).2,-1<=x:=by
 unfold ql;split
 . split
   .exact hq
   . split
     .  exact hq
     .  split
        .exact hq
        . split
          .exact hq
          . split
            .exact hq
            . split
              .exact hq
              . split
                .exact hq
                . rename_i j _ _ _ _;intro x hx;rcases List.mem_or_eq_of_mem_set hx with h|h
                  .exact hq x h
                  .have:=hz j;omega
 .exact hq
theorem aa3{u:AV}{k1 k2:IntKind}{i1 i2:Int}(h:Plain (.tuple [u,.int k1 i1,.int k2 i2])):Plain u:=λρ ρ' n n' C x hx=>by
 obtain⟨y,hy⟩:∃y,aq ρ n C (.int k1 i1) y:=⟨_,.int k1 i1⟩
 obtain⟨z,hz⟩:∃y,aq ρ n C (.int k2 i2) y:=⟨_,.int k2 i2⟩
 have:=h ρ ρ' n n' C _ (.tuple _ #[x,y,z] rfl (λi v v' hv kg=>by
  match i with
  |0=>simp at hv kg;subst hv kg;exact hx
  |1=>simp at hv kg;subst hv kg;exact hy
  |2=>simp at hv kg;subst hv kg;exact hz
  |i+3=>simp at hv))
 cases this with
 |tuple _ _ _ h=>exact h 0 _ x rfl rfl
section
variable{s0 s sA:St}{Vs:List AV}{p:aR}{P V1 V2:AV}{q:List Int}
abbrev jr(p:aR):=ZN (p.gs.map (·.name)) (p.ts.map (·.name)) (p.ts.map bh)
abbrev lW(p:aR):=ql (p.gs.map (·.name)) (p.ts.map (·.name)) (p.ts.map bh)
theorem ajh(ts:List aG)(j:Nat):0<=((ts.map bh).take j).sum:=by rw[<-Zk8];exact(pz (ts.take j)).1
theorem Bx(a b d:AV)(K:AV->St->Option (AV×St))(s:St):ai c (.extract 0) [.tuple [a,b,d]] s K=K a s:=aP c K (λH n=>rfl) s
theorem Io(a b d:AV)(K:AV->St->Option (AV×St))(s:St):ai c (.extract 1) [.tuple [a,b,d]] s K=K b s:=aP c K (λH n=>rfl) s
theorem Ip(a b d:AV)(K:AV->St->Option (AV×St))(s:St):ai c (.extract 2) [.tuple [a,b,d]] s K=K d s:=aP c K (λH n=>rfl) s
theorem ahH{b:Nat}{u v:List Nat}(h:b∉u):∃y ys,bF b [] v=y::ys/\bF b [] (u++b::v)=u::y::ys:=by
 obtain⟨y,ys,e⟩:∃y ys,bF b [] v=y::ys:=by
  cases hv:bF b [] v with
  |nil=>exact absurd hv (Dh v [])
  |cons y ys=>exact⟨y,ys,rfl⟩
 exact⟨y,ys,e,by rw[SD u v h,e]⟩
theorem ahI{N:Nat}(hc:bB c)(h:PS s0 sA Vs p)(ok:R4 p N)(hk:∀t∈p.ts,lF t=0)(xp:p.gs.length<=1000){pb:Pos}(hpb:sA.heap.get pb=some (.cells Vs 0))(F:Nat):
  ∀(m:Nat)(w:List Nat)(k f:Nat)(s:St)(q:List Int),w.length<=m->m<f->k+m<=70000->Mr sA s P q->q.length=p.gs.length->(∀x∈q,-1<=x)->(∀x∈w,x<256)->w.length<=1000000->
  ∃ s' q',(jr p (bF 10 [] w) k q).1=(if(jr p (bF 10 [] w) k q).2.2=0 then q' else [])/\Mr sA s' P q'/\∀k1 k2:Q2,tN c F k1 k2 f [.str w,.ptr pb 0,P,.int .i64 (k:Int)] s=
    if(jr p (bF 10 [] w) k q).2.2=0 then k2 [P] s' else k1 [.av,.int .i64 ((jr p (bF 10 [] w) k q).2.1:Int),.int .i64 (jr p (bF 10 [] w) k q).2.2] s':=by
 intro m;induction m with
 |zero=>
  intro w k f s q hw hf hkm M PZ hqr cZ ID;obtain⟨f,rfl⟩:∃g,f=g+1:=⟨f - 1,by omega⟩
  obtain rfl:w=[]:=Zb0 (by omega);refine⟨s,q,rfl,M,λk1 k2=> ?_⟩;rw[oQ];simp only[aE,aH,aj,eN,Zf6,Zb9,bG];rfl
 |succ m ih=>
  intro w k f s q hw hf hkm M PZ hqr cZ ID;obtain⟨f,rfl⟩:∃g,f=g+1:=⟨f - 1,by omega⟩
  by_cases h0:w=[]
  .subst h0;refine⟨s,q,rfl,M,λk1 k2=> ?_⟩;rw[oQ];simp only[aE,aH,aj,eN,Zf6,Zb9,bG];rfl
  have d0:decide (w=[])=false:=H3 h0;have G:=M.aN;have hpb2:=G.get hpb;have ld:∀(K:AV->St->Option (AV×St)),ai c (.load (some 5)) [.ptr pb 0] s K=K (.agg Vs) s:=λK=>by
    have hcut:cut Vs 0 5=some Vs:=bJ h.cells.1;simp[hpb2,aF,hcut]
  rcases Uk (c:=10) w with hn|⟨u,v,hu,rfl⟩
  .have ct:=ahu hc (b:=10) (by omega) cZ hn s;have e:bF 10 [] w=[w]:=QH w hn;have ep:jr p [w] k q=([],k,3):=(by unfold jr ZN;rw[Za2 h0]);rw[e,ep];refine⟨s,q,by simp,M,λk1 k2=> ?_⟩;rw[oQ];simp only[aE,aH,aj,eN,d0,Ze7,bk,ki,aK,ct,aJ,Bx,Io,Ip,bG,dQ,show decide ((3:Int)=0)=false from rfl];rfl
  . have hu2:∀x∈u,x<256:=λx hx=>cZ x (Zg1 _ hx)
    have Fy:∀x∈v,x<256:=λx hx=>cZ x (Zh5 _ (Za0 _ hx))
    have hl:u.length+v.length+1<=m+1:=(by simpa [Zh4]using hw);have kF:u.length+v.length+1<=1000000:=(by simpa [Zh4]using ID);have ct:=ahv hc (b:=10) (v:=v) (by omega) hu2 hu (by omega) s;obtain⟨s1,pt,M1⟩:=aj4 hc h ok hk xp M PZ hqr hu2 (by omega);obtain⟨y,ys,ey,es⟩:=ahH (v:=v) hu;rw[es];have ep:jr p (u::y::ys) k q=if(lW p q u).1=0 then jr p (y::ys) (k+1) (lW p q u).2 else([],k,(lW p q u).1):=rfl
    by_cases hz:(lW p q u).1=0
    .   (rw[ep,Za4 hz, <-ey];obtain⟨s',q',z1,z2,z3⟩:=ih v (k+1) f s1 (lW p q u).2 (by omega) (by omega) (by omega) M1 (by rw[ZO];exact PZ) (ahG (ajh p.ts) hqr) Fy (by omega);refine⟨s',q',z1,z2,λk1 k2=> ?_⟩;have wr:Unit->au .i64 ((k:Int)+1)=((k+1:Nat):Int):=λ_=>wrap64 (by omega) (by omega));have dz:decide ((lW p q u).1=0)=true:=H2 hz;rw[<-z3 k1 k2,oQ];simp only[aE,aH,aj,eN,d0,Ze7,bk,ki,aK,ct,aJ,Bx,Io,Ip,ld,pt,dQ,dz,Zb9,bG,dR,wr ()]
    .   rw[ep,Za2 hz];have dz:decide ((lW p q u).1=0)=false:=H3 hz;refine⟨s1,(lW p q u).2,by rw[Za2 hz],M1,λk1 k2=> ?_⟩;rw[oQ,Za2 hz];simp only[aE,aH,aj,eN,d0,Ze7,bk,ki,aK,ct,aJ,Bx,Io,Ip,ld,pt,dQ,dz]
theorem aa4:∀(l:List (List Nat))(k:Nat)(q:List Int),(jr p l k q).2.2=0->(jr p l k q).2.1=0:=by
 intro l;induction l with
 |nil=>intro k q _;rfl
 |cons x l ih=>
  intro k q h;cases l with
  |nil=>
   unfold jr ZN at h ⊢;by_cases hx:x=[]
   .rw[Za4 hx]
   .rw[Za2 hx]at h;simp at h
  |cons y l=>
   have e1:jr p (x::y::l) k q=if(lW p q x).1=0 then jr p (y::l) (k+1) (lW p q x).2 else([],k,(lW p q x).1):=rfl
   rw[e1]at h ⊢;by_cases hz:(lW p q x).1=0
   .rw[Za4 hz]at h ⊢; exact ih _ _ h
   .rw[Za2 hz]at h;exact absurd h hz
def lX(p:aR)(w:List Nat):List Int×Nat×Int:=if(bI p).2≠0 then([],0,(bI p).2)else if 65536<w.length then([],0,7)else jr p (bF 10 [] w) 0 (List.replicate p.gs.length (-1))
theorem ahJ(hc:bB c)(h:PS s0 s Vs p)(hp:p.ic)(hr:∀r∈p.rs,r.Ok)(hk:(bI p).2=0->R4 p (NS p)/\∀t∈p.ts,lF t=0)(xp:p.gs.length<=1000){w:List Nat}(cZ:∀x∈w,x<256):
   ∃v s',c 37 [.agg Vs,.str w] s=some (.tuple [v,.int .i64 ((lX p w).2.1:Int),.int .i64 (lX p w).2.2],s')/\Grew s s'/\QS 1 s' v ((lX p w).1.map cq):=by
 have U0:=h.aN.wf;have gN:=Grew.af U0 (.cells Vs 0);have h1:=h.qc gN;have hcut:cut Vs 0 5=some Vs:=bJ h.cells.1;have ck:=PO hc h1 hp hr;have ld:∀(K:AV->St->Option (AV×St)),ai c (.load (some 5)) [.ptr s.next 0] (af s (.cells Vs 0)) K=K (.agg Vs) (af s (.cells Vs 0)):=λK=>by simp[aC,aF,hcut]
 have bad:∀(i:Nat)(e:Int),lX p w=([],i,e)->(∃s2,Grew s s2/\BE c (w.length+1) (.agg Vs) (.str w) s=some (.tuple [.av,.int .i64 (i:Int),.int .i64 e],s2))->∃v s',c 37 [.agg Vs,.str w] s=some (.tuple [v,.int .i64 ((lX p w).2.1:Int),.int .i64 (lX p w).2.2],s')/\Grew s s'/\QS 1 s' v ((lX p w).1.map cq):=λi e he hr=>by
   obtain⟨s2,g2,hr⟩:=hr;refine⟨.av,s,?_,Grew.refl U0,by rw[he];exact QS.nil⟩;rw[KF hc (w.length+1) (r:=(.tuple [.av,.int .i64 (i:Int),.int .i64 e],s2)) hr,ak (Plain.tuple (by simp[Plain.int,Plain.av])) g2.keeps,he]
 by_cases qg:(bI p).2=0;rotate_left
 .have dk:decide ((bI p).2=0)=false:=H3 qg;refine bad 0 (bI p).2 (by unfold lX;rw[Za4 qg]) ⟨_,gN,?_⟩;rw[GX];simp only[cP,show ∀l,AV.cells (.agg l)=l from λl=>rfl,aj,ld,aK,ck,aJ,bE,Za5,Za6,bP,dQ,dk,Ze7,bk];rfl
 have dk:decide ((bI p).2=0)=true:=H2 qg;by_cases ID:65536<w.length
 .have dl:decide ((65536:Int)<(w.length:Int))=true:=H2 (by omega);refine bad 0 7 (by unfold lX;rw[Za2 (λh=>h qg),Za4 ID]) ⟨_,gN,?_⟩;rw[GX];simp only[cP,show ∀l,AV.cells (.agg l)=l from λl=>rfl,aj,ld,aK,ck,aJ,bE,Za5,Za6,bP,dQ,dk,Zb9,bG,bL,gF,dl,bk];rfl
 have dl:decide ((65536:Int)<(w.length:Int))=false:=H3 (by omega);obtain⟨ok,Xo⟩:=hk qg;have et:lX p w=jr p (bF 10 [] w) 0 (List.replicate p.gs.length (-1)):=by unfold lX;rw[Za2 (λh=>h qg),Za2 ID]
 have gM:=Grew.af gN.wf (.cells [.int .i64 (-1)] 0);obtain⟨s2,gb,rp,g2,n2,hgb⟩:=afd hc (N:=p.gs.length) (v:= .int .i64 (-1)) (by omega) rfl (af (af s (.cells Vs 0)) (.cells [.int .i64 (-1)] 0)) gM.wf (aC _ _);have gA:=gN.trans gM;have hA:=h.qc gA;have hpb:(af (af s (.cells Vs 0)) (.cells [.int .i64 (-1)] 0)).heap.get s.next=some (.cells Vs 0):=gM.get (aC _ _);have efl:((List.replicate p.gs.length (-1:Int)).map cq).flatten=List.replicate p.gs.length (.int .i64 (-1)):=by
   rw[List.map_replicate];generalize p.gs.length=n;induction n with
   |zero=>rfl
   |succ n ih=>rw[Zm6,Zf3,ih];rfl
 have M0:Mr (af (af s (.cells Vs 0)) (.cells [.int .i64 (-1)] 0)) s2 (.slice gb 0 p.gs.length (some p.gs.length) 1) (List.replicate p.gs.length (-1)):=by
   rcases hgb with h0|hgb
   . refine⟨gM.wf,g2,.inr (.inr ⟨gb,0,by rw[h0],by rw[h0];rfl⟩),λb hb=> ?_,λb hb=> ?_⟩
     .  rw[h0,iW]at hb;cases hb
     .  rw[h0,iW]at hb;cases hb
   . refine⟨gM.wf,g2,.inr (.inl ⟨gb,0,some p.gs.length,_,by simp,hgb,by simp,by rw[efl];simp,.inr (by simp)⟩),λb hb=> ?_,λb hb=> ?_⟩
     .  rw[<-HW hb];exact n2
     .  rw[<-HW hb,efl];exact hgb
 obtain⟨V1,V2,r1,r2,q1,q2,T,T2,q5⟩:=h1.rT;obtain⟨s',q',z1,z2,L⟩:=ahI (F:=w.length+1) hc hA ok Xo xp hpb w.length w 0 (w.length+1) s2 _ (Za3 _) (by omega) (by omega) M0 (by simp) (λx hx=>by rw[List.eq_of_mem_replicate hx];omega) cZ (by omega);simp only[show((0:Nat):Int)=0 from rfl]at L;have f1:∀(K:AV->St->Option (AV×St)),ai c (.load none) [.ptr s.next (0+1)] (af (af s (.cells Vs 0)) (.cells [.int .i64 (-1)] 0)) K=K V2 (af (af s (.cells Vs 0)) (.cells [.int .i64 (-1)] 0)):=λK=>by rw[dS,hpb];show oZ (Vs[1]?) _=_;rw[q2];rfl
 have ln:=λ(K:AV->St->Option (AV×St))(s1:St)=>T2.out.own.lenB (c:=c) K s1
 rw[T2.len]at ln;have bs:∀(K:AV->St->Option (AV×St)),ai c (.buildSlice 1 1 [.int .i64 0] [0]) [.int .i64 (-1)] (af s (.cells Vs 0)) K=K (.slice (af s (.cells Vs 0)).next 0 1 (some 1) 1) (af (af s (.cells Vs 0)) (.cells [.int .i64 (-1)] 0)):=λK=>by simp only[eo];rfl
 have run:∀e,(jr p (bF 10 [] w) 0 (List.replicate p.gs.length (-1))).2.2=e->BE c (w.length+1) (.agg Vs) (.str w) s=if e=0 then some (.tuple [.slice gb 0 p.gs.length (some p.gs.length) 1,.int .i64 0,.int .i64 0],s')else some (.tuple [.av,.int .i64 ((jr p (bF 10 [] w) 0 (List.replicate p.gs.length (-1))).2.1:Int),.int .i64 e],s'):=λe he=>by
   rw[GX];simp only[cP,show ∀l,AV.cells (.agg l)=l from λl=>rfl,aj,ld,aK,ck,aJ,bE,Za5,Za6,bP,dQ,dk,Zb9,bG,bL,gF,dl,bs,cO,f1,ln,rp];rw[L,he];by_cases h:e=0
   .rw[Za4 h,Za4 h];simp only[aE,aH]
   .rw[Za2 h,Za2 h];simp only[aE,aH]
 have gs':Grew s s':=gA.trans z2.aN;by_cases he:(jr p (bF 10 [] w) 0 (List.replicate p.gs.length (-1))).2.2=0
 . have r:=run _ he;rw[Za4 rfl]at r;have adM:=aa4 _ _ _ he;rw[Za4 he]at z1;rw[et,he,adM,z1];have fin:∃eY,tidy s (.tuple [.slice gb 0 p.gs.length (some p.gs.length) 1,.int .i64 0,.int .i64 0],s')=(.tuple [.slice gb 0 p.gs.length (some p.gs.length) 1,.int .i64 0,.int .i64 0],eY)/\Grew s eY/\QS 1 eY (.slice gb 0 p.gs.length (some p.gs.length) 1) (q'.map cq):=by
     unfold tidy;split
     .  rename_i mH;by_cases h0:p.gs.length=0
        .have hq0:q'=[]:=(by have:=z2.own.len;simp only[dH,h0,H0,Zb3]at this;exact Zb0 this.symm);exact⟨s,rfl,Grew.refl U0,.inr (.inr ⟨gb,0,by rw[h0],by rw[hq0];rfl⟩)⟩
        .exact(zd h0 (aa3 mH.1)).elim
     .  exact⟨s',rfl,gs',z2.own⟩
   obtain⟨eY,e1,e2,e3⟩:=fin;refine⟨.slice gb 0 p.gs.length (some p.gs.length) 1,eY,?_,e2,e3⟩;rw[KF hc (w.length+1) (r:=(.tuple [.slice gb 0 p.gs.length (some p.gs.length) 1,.int .i64 0,.int .i64 0],s')) r,e1];rfl
 .have r:=run _ rfl;rw[Za2 he]at r;exact bad _ _ (by rw[et];exact Prod.ext (by rw[z1,Za2 he]) rfl) ⟨s',gs',r⟩
end
end
end Go.Proofs.YtgjikjcfjddloaaGreatDoor
section
end
namespace Go.Proofs.YtgjikjcfjddloaaGreatDoor
section
set_option linter.unusedSimpArgs false
open Go Go.Ai Go.Proofs
variable{c:ah}
structure Rx(s:St)(L:AV)(i:Nat)(P x:AV):Prop where
 st:∀{R:Type}(c:ah)(K:AV->St->Option R)(k:IntKind)(s1:St),ai c (.idxA 1 none) [L,.int k (i:Int)] s1 K=K P s1
 pr:∀{R:Type}(K:AV->Option R)(k:IntKind),dI (.idxA 1 none) [L,.int k (i:Int)] K=K P
 ld:∀{R:Type}(c:ah)(K:AV->St->Option R),ai c (.load none) [P] s K=K x s
 rd:∀{R:Type}(K:AV->Option R),fP (.load none) [P] s.heap (λ_=>true) K=K x
abbrev LS(s:St)(L:AV)(q:List Int):Prop:=Src 1 s L (q.map cq)
theorem LS.ro(s:St)(z:Bool)(q:List Int):LS s (ints z q) q:=Src.ro z _
theorem LS.rx{s:St}{L:AV}{q:List Int}(h:LS s L q){i:Nat}{x:Int}(hx:q[i]? =some x):∃P,Rx s L i P (.int .i64 x):=by
 obtain⟨hi,rfl⟩:=H5.1 hx;rcases h with rfl|h
 . have e:(AV.fl (q.map cq) 1)=Go.Ai.ro 1 false (q.map λx=>[AV.int .i64 x]):=(by unfold Go.Ai.ro;simp);refine⟨.fp (q.map λx=>[AV.int .i64 x]) i 0,λc K k s1=> ?_,λK k=> ?_,λc K=> ?_,λK=> ?_⟩
   .rw[e,FT,Zb3,Za4 hi];rfl
   .rw[e,LC,Zb3,Za4 hi];rfl
   .simp[hi]
   .simp[hi]
 .obtain⟨b,o,p⟩:=rdI h hx;exact⟨.ptr b o,λc K k s1=>p.st c K k s1,λK k=>p.pr K k,λc K=>by simp[p.one],λK=>by simp[p.one]⟩
theorem LS.lenB{s:St}{L:AV}{q:List Int}(h:LS s L q){R:Type}(K:AV->St->Option R)(s1:St):ai c (.lenB .l) [L] s1 K=K (.int .i64 (q.length:Int)) s1:=by
 rcases h with rfl|h
 . have:=aP (k:= .lenB .l) (xs:=[.fl (q.map cq) 1]) (v:= .int .i64 ((q.map cq).length:Int)) c K (λH n=>rfl) s1
   rwa [Zb3]at this
 . have:=h.lenB (c:=c) K s1
   rwa [Zb3]at this
section
variable{s:St}{P Q:AV}{q r:List Int}
theorem afw(pq:LS s P q)(pr:LS s Q r)(hl:q.length<=1000000)(he:q.length=r.length)(F:Nat)(k1 k2:Q2):∀(m k f:Nat),k+m=q.length->m<f->
  iM c F k1 k2 f [P,Q,.int .i64 (q.length:Int),.int .i64 (k:Int)] s=if q.drop k=r.drop k then k2 [] s else k1 [.bool false] s:=by
 intro m;induction m with
 |zero=>
  intro k f hk hf;obtain⟨f,rfl⟩:∃g,f=g+1:=⟨f - 1,by omega⟩
  obtain rfl:k=q.length:=by omega
  rw[mj,Zi3,he,Zi3];simp
 |succ m ih=>
  intro k f hk hf;obtain⟨f,rfl⟩:∃g,f=g+1:=⟨f - 1,by omega⟩
  have cK:k<q.length:=by omega
  have hkr:k<r.length:=by omega
  obtain⟨p',p⟩:=pq.rx (H1 cK);obtain⟨r',x⟩:=pr.rx (H1 hkr);have p1:=λ{R}=>@p.pr R
  have p2:=λ{R}=>@p.rd R
  have p3:=λ{R}=>@p.st R
  have p4:=λ{R}=>@p.ld R
  have x1:=λ{R}=>@x.pr R
  have x2:=λ{R}=>@x.rd R
  have x3:=λ{R}=>@x.st R
  have x4:=λ{R}=>@x.ld R
  have wr:au .i64 ((k:Int)+1)=((k+1:Nat):Int):=wrap64 (by omega) (by omega);have key:(q.drop k=r.drop k)↔(q[k]=r[k]/\q.drop (k+1)=r.drop (k+1)):=by rw[Za8 cK,Za8 hkr,Zj3]
  by_cases e:q[k]=r[k]
  .have key2:(q.drop k=r.drop k)↔(q.drop (k+1)=r.drop (k+1)):=key.trans ⟨λh=>h.2,λh=>⟨e,h⟩⟩;rw[show(if q.drop k=r.drop k then k2 [] s else k1 [.bool false] s)=(if q.drop (k+1)=r.drop (k+1)then k2 [] s else k1 [.bool false] s)from by simp only[key2], <-ih (k+1) f (by omega) (by omega),mj];have d2:decide (q[k]=r[k])=true:=H2 e;simp[cK,p1,p2,p3,p4,x1,x2,x3,x4,d2,wr]
  .rw[Za2 (λh=>e (key.1 h).1),mj];have d2:decide (q[k]=r[k])=false:=H3 e;simp[cK,p1,p2,p3,p4,x1,x2,x3,x4,d2]
theorem XB(hc:bB c)(pq:LS s P q)(pr:LS s Q r)(hl:q.length<=1000000):c 16 [P,Q] s=some (.bool (decide (q=r)),s):=by
 have ln:=λ(K:AV->St->Option (AV×St))=>pq.lenB (c:=c) K s
 have lr:=λ(K:AV->St->Option (AV×St))=>pr.lenB (c:=c) K s
 rw[GQ hc (q.length+1) (r:=(.bool (decide (q=r)),s)),ak (Plain.bool _) (aM.refl s)];rw[Jp];by_cases he:q.length=r.length
 . have hi:=λk1 k2=>afw (c:=c) pq pr hl he (q.length+1) k1 k2 q.length 0 (q.length+1) (by omega) (by omega)
   simp only[Zb7,show((0:Nat):Int)=0 from rfl]at hi;simp[ln,lr,he];rw[<-he,hi];split
   .rename_i h;rw[H2 h];simp
   .rename_i h;rw[H3 h];simp
 . have d:decide (q=r)=false:=H3 λe=>he (by rw[e])
   have hz:¬((q.length:Int)=(r.length:Int)):=(by omega);simp[ln,lr,hz,d]
theorem afx(hc:bB c)(hw:Wf s)(hS:LS s P q)(hl:q.length<=1000):∃v s',c 20 [P] s=some (v,s')/\Mk 1 s s' v (q.map cq):=by
 rcases hS.nil with⟨rfl,h0⟩|hn
 . (refine⟨.av,s,?_,by rw[h0];exact Mk.start hw (Grew.refl hw)⟩;rw[vO hc 1 (r:=(.av,s)),ak Plain.av (aM.refl s)];rw[yF];have e:∀(K:AV->St->Option (AV×St))(s:St),ai c (.bin .eql .slice) [.av,.av] s K=K (.bool true) s:=λK s=>aP c K (λH n=>rfl) s);simp[e]
 .obtain⟨v,s',a1,a2⟩:=Xd (c:=c) (R:=AV×St) (bytes:=8) (z:=[.int .i64 0]) (λr hr=>by obtain⟨m,_,rfl⟩:=Zf2.1 hr;rfl) (by decide) (by simp;omega) (by simp;omega) s hw hS;obtain⟨eY,t1,t2⟩:=a2.tidy;refine⟨v,eY,?_,t2⟩;rw[vO hc 1 (r:=(v,s')),t1];rw[yF];simp only[aj,hn,bG];rw[a1]
end
set_option linter.unusedSimpArgs false
def lq:List (List Int)->Nat->Int
 |[],_=> -1
 |q::qs,k=>if 30<q.length then(k:Int)else lq qs (k+1)
theorem XC:∀(qs:List (List Int))(k:Nat),lq qs k<0↔ ∀q∈qs,q.length<=30
 |[],k=>by simp[lq]
 |q ::qs,k=>by
  rw[lq];by_cases h:30<q.length
  .rw[Za4 h];refine⟨λh=>by omega,λhh=> ?_⟩;have:=hh q (by simp);omega
  .rw[Za2 h,XC qs (k+1)];simp;omega
structure LLs(s:St)(L:AV)(vs:List AV)(qs:List (List Int)):Prop where
 own:QS 1 s L (vs.map ac4)
 len:vs.length=qs.length
 yc:∀(i:Nat)(v:AV)(q:List Int),vs[i]? =some v->qs[i]? =some q->LS s v q
section
variable{s:St}{L:AV}{vs:List AV}{qs:List (List Int)}{p:aR}
theorem aji(hc:bB c){v:AV}{q:List Int}(h:LS s v q):c 71 [v] s=some (.bool (decide (30<q.length)),s):=by
 have ln:=λ(K:AV->St->Option (AV×St))=>h.lenB (c:=c) K s
 rw[Jv hc 1 (r:=(.bool (decide (30<q.length)),s)),ak (Plain.bool _) (aM.refl s)];rw[MP];have e:decide ((30:Int)<(q.length:Int))=decide (30<q.length):=decide_eq_decide.2 (by omega);simp[ln,e]
theorem ajj(hc:bB c)(h:LLs s L vs qs)(hl:vs.length<=1000)(F:Nat)(k1 k2:Q2):∀(m k f:Nat),k+m=vs.length->m<f->
  fV c F k1 k2 f [L,.func 71 [] [],.int .i64 (vs.length:Int),.int .i64 (k:Int)] s=if lq (qs.drop k) k<0 then k2 [] s else k1 [.int .i64 (lq (qs.drop k) k)] s:=by
 intro m;induction m with
 |zero=>
  intro k f hk hf;obtain⟨f,rfl⟩:∃g,f=g+1:=⟨f - 1,by omega⟩
  obtain rfl:k=vs.length:=by omega
  rw[kB,h.len,Zi3];simp[lq]
 |succ m ih=>
  intro k f hk hf;obtain⟨f,rfl⟩:∃g,f=g+1:=⟨f - 1,by omega⟩
  have cK:k<vs.length:=by omega
  have hkq:k<qs.length:=by rw[<-h.len];exact cK
  obtain⟨b,o,p⟩:=h.own.ZQ (H1 cK);have p1:=λ{R}=>@p.st R
  have p3:=p.one;have w:=aji hc (h.yc k _ _ (H1 cK) (H1 hkq));have wr:au .i64 ((k:Int)+1)=((k+1:Nat):Int):=wrap64 (by omega) (by omega);have ihk:=ih (k+1) f (by omega) (by omega);rw[Za8 hkq,lq];by_cases e:30<qs[k].length
  .rw[H2 e]at w;rw[Za4 e,Za2 (by omega),kB];simp[cK,p1,p3,zF,w]
  .rw[H3 e]at w;rw[Za2 e, <-ihk,kB];simp[cK,p1,p3,zF,w,wr]
theorem ahK(hc:bB c)(h:LLs s L vs qs)(hl:vs.length<=1000):c 70 [L,.func 71 [] []] s=some (.bool (decide (0<=lq qs 0)),s):=by
 have ln:=λ(K:AV->St->Option (AV×St))=>h.own.lenB (c:=c) K s
 rw[Zb3]at ln;have L0:=λk1 k2=>ajj (c:=c) hc h hl (vs.length+1) k1 k2 vs.length 0 (vs.length+1) (by omega) (by omega)
 simp only[Zb7,show((0:Nat):Int)=0 from rfl]at L0;have I:c 99 [L,.func 71 [] []] s=some (.int .i64 (if lq qs 0<0 then -1 else lq qs 0),s):=by rw[CQ hc (vs.length+1) (r:=(.int .i64 (if lq qs 0<0 then -1 else lq qs 0),s)),ak (Plain.int _ _) (aM.refl s)];rw[Ef];simp only[aj,ln,L0];split<;>simp
 rw[Aq hc 1 (r:=(.bool (decide (0<=lq qs 0)),s)),ak (Plain.bool _) (aM.refl s)];rw[B5];have e:decide (0<=(if lq qs 0<0 then(-1:Int)else lq qs 0))=decide (0<=lq qs 0):=decide_eq_decide.2 (by split<;>omega);simp[I,e]
def Wm(p:aR)(qs:List (List Int)):Bool:=decide (p.ts.length<=5)&&(D4 p 20&&decide (lq qs 0<0))
theorem ajk{p:aR}{qs:List (List Int)}(h:Wm p qs=true):p.ts.length<=5/\D4 p 100=true/\p.gs.length<=20/\∀q∈qs,q.length<=30:=by unfold Wm D4 at h;simp only[Za9,Zd3]at h;obtain⟨h1,⟨⟨⟨⟨a1,a2⟩,a3⟩,a4⟩,a5⟩,h3⟩:=h;refine⟨h1,?_,a2,(XC qs 0).1 h3⟩;unfold D4;simp only[Za9,Zd3];omega
theorem ajl(hc:bB c)(hw:Wf s)(p:aR)(h:LLs s L vs qs)(hl:vs.length<=1000):c 33 [.agg p.cells,L] s=some (.bool (Wm p qs),s):=by
 have gN:=Grew.af hw (.cells p.cells 0);have x1:=aC s (.cells p.cells 0);have h1:LLs (af s (.cells p.cells 0)) L vs qs:=⟨h.own.aN gN,h.len,λi v q a b=>(h.yc i v q a b).aN gN⟩
 have C:=ahK hc h1 hl;have F:c 69 [.agg p.cells,.int .i64 20] (af s (.cells p.cells 0))=some (.bool (D4 p 20),af s (.cells p.cells 0)):=ajd hc p 20 _;have lT:∀(K:AV->St->Option (AV×St))(s:St),ai c (.lenB .l) [tabs p.tz p.ts] s K=K (.int .i64 (p.ts.length:Int)) s:=λK s=>by unfold tabs;rw[bW];simp
 have vc:cut p.cells 0 5=some p.cells:=bJ rfl;have p0:p.cells[0]? =some (tabs p.tz p.ts):=rfl;have e1:decide ((p.ts.length:Int)<=5)=decide (p.ts.length<=5):=decide_eq_decide.2 (by omega);have e2:(!decide (0<=lq qs 0))=decide (lq qs 0<0):=by
   by_cases e:0<=lq qs 0
   .rw[H2 e,H3 (by omega)];rfl
   .rw[H3 e,H2 (by omega)];rfl
 rw[MR hc 1 (r:=(.bool (Wm p qs),af s (.cells p.cells 0))),ak (Plain.bool _) gN.keeps];rw[Qn];unfold Wm;rw[<-e2];by_cases a:p.ts.length<=5
 . have d:decide (p.ts.length<=5)=true:=H2 a;rw[d]at e1;cases b:D4 p 20
   .rw[b]at F;simp[x1,aF,vc,p0,lT,e1,d,F,a]
   .rw[b]at F;simp[x1,aF,vc,p0,lT,e1,d,F,C,a]
 .have d:decide (p.ts.length<=5)=false:=H3 a;rw[d]at e1;simp[x1,aF,vc,p0,lT,e1,d,a]
theorem LLs.one{s:St}{z:Bool}{q:List Int}(hw:Wf s):LLs (af s (.cells [ints z q] 0)) (.slice s.next 0 1 (some 1) 1) [ints z q] [q]:=
 ⟨.inr (.inl ⟨s.next,0,some 1,[ints z q],rfl,aC _ _,by simp,rfl,.inr rfl⟩),rfl,λi v q' a b=>by
  cases i with
  |zero=>simp at a b;subst a;subst b;exact LS.ro _ _ _
  |succ i=>simp at a⟩
theorem aR.Laid.real{p:aR}(hl:p.Laid)(hp:p.ic):p.Real:=⟨by have:=hp.ts;omega,λt ht=>(hl.tab t ht).2,by have:=hp.gs;omega,hl.bO,hl.ys,hl.cs,hl.rs⟩
theorem aR.dG.refl(p:aR):p.dG p:=⟨rfl,λi t t' h1 h2=>⟨t.oz,by rw[h1]at h2;cases h2;rfl⟩,rfl,λi t t' h1 h2=>⟨t.tz,by rw[h1]at h2;cases h2;rfl⟩,rfl,rfl,rfl⟩
end
end
noncomputable section
open Go Go.Ai Go.Proofs
attribute [local go_sem ↓] aT jK ev JZ uD getLT oO AX FX nB nC zb tr tu tA oc od oe oh om oq tB tC ot ou ov ow oA yO yP yQ
attribute [local go_sem] aT jK ev
section
variable(c:ah)(F:Nat)(x0 x1 x2 x3 x4 x5 x6 x7 x8 x9 pY qo:AV)(s:St)
def vZ:Sh:=(sq sl (sq (sq sl (sb (sp 0 [0,1,5] [(1,[4]),(2,[])] (sq (sq sl (sc sl sl)) (sq (sb (sq sl (sc (sq sl sl) sl))) sl))))) (sq sl sl)))
def DG:PX 113 vZ:=⟨_,by conv=>lhs;reduce⟩
def Cl:PL 113 vZ 0:=⟨_,by conv=>lhs;reduce⟩
def kP(k1 k2:Q2):Nat->Q2
 |0,_,_=>none
 |n+1,vs,s=>eg c F bf (kP k1 k2 n) [k1,k2] Cl.1 vs s
def qQ(k1 k2:Q2)(n:Nat)(vs:List AV)(s:St):=(by dsimp only[kP,Cl,go_sem,Int.reduceOfNat,Int.reduceNegSucc]:kP c F k1 k2 (n+1) vs s=_)
def v7:Un->List Q2->Nat->Q2
 |.z,[k1,k2]=>kP c F k1 k2
 |_,_=>λ_=>eO
def zp:O2:=aT c F (v7 c F) DG.1 [x0,x1] s
def Qp:=(by dsimp only[zp,DG, ↓v7,go_sem,Int.reduceOfNat,Int.reduceNegSucc]:zp c F x0 x1 s=_)
end
section
variable{c:ah}(hc:bB c)(F:Nat){x0 x1 x2 x3 x4 x5 x6 x7 x8 x9 pY qo:AV}{s:St}{r:AV×St}
include hc
theorem MU(h:zp c F x0 x1 s=some r):c 113 [x0,x1] s=some (tidy s r):=hc.o1 F (v7 c F) vZ (by kernel_rfl) (by kernel_rfl) (λ_ _ _=>by kernel_rfl) (λ_ _ _ _=>by kernel_rfl) (by kernel_rfl) h
end
end
section
set_option linter.unusedSimpArgs false
open Go Go.Ai Go.Proofs
variable{c:ah}
section
variable{s sB:St}{L:AV}{q:List Int}{p:aR}
theorem ajm(h:LS s L q)(hl:q.length<=1000000)(x:Int)(F:Nat)(k1 k2:Q2):∀(m k f:Nat),k+m=q.length->m<f->
  kP c F k1 k2 f [L,.int .i64 x,.int .i64 (k:Int)] s=if(q.drop k).contains x then k1 [.int .i64 ((k+(q.drop k).idxOf x:Nat):Int)] s else k2 [] s:=by
 have ln:=λ(K:AV->St->Option (AV×St))=>h.lenB (c:=c) K s
 intro m;induction m with
 |zero=>
  intro k f hk hf;obtain⟨f,rfl⟩:∃g,f=g+1:=⟨f - 1,by omega⟩
  obtain rfl:k=q.length:=by omega
  rw[qQ];simp[ln]
 |succ m ih=>
  intro k f hk hf;obtain⟨f,rfl⟩:∃g,f=g+1:=⟨f - 1,by omega⟩
  have cK:k<q.length:=by omega
  obtain⟨p',p⟩:=h.rx (H1 cK);have p1:=λ{R}=>@p.st R
  have p3:=λ{R}=>@p.ld R
  have wr:au .i64 ((k:Int)+1)=((k+1:Nat):Int):=wrap64 (by omega) (by omega);rw[Za8 cK,List.contains_cons,List.idxOf_cons];by_cases he:x=q[k]
  .rw[qQ];have e2:(x==q[k])=true:=(by simpa using he);have e3:(q[k]==x)=true:=(by simpa using he.symm);have d2:decide (q[k]=x)=true:=H2 he.symm;rw[e2,e3,Bool.true_or];simp[ln,cK,p1,p3,d2]
  . have Rm:(x==q[k])=false:=(by simpa using he);have he3:(q[k]==x)=false:=(by simpa using λe=>he e.symm);have d2:decide (q[k]=x)=false:=H3 λe=>he e.symm
    rw[Rm,he3,Bool.false_or,cond_false,show k+((q.drop (k+1)).idxOf x+1)=(k+1)+(q.drop (k+1)).idxOf x by omega, <-ih (k+1) f (by omega) (by omega),qQ];simp[ln,cK,p1,p3,d2,wr]
theorem ajn(hc:bB c)(h:LS s L q)(hl:q.length<=1000000)(x:Int):c 113 [L,.int .i64 x] s=some (.int .i64 (GU q x),s):=by
 have hi:=λk1 k2=>ajm (c:=c) h hl x (q.length+1) k1 k2 q.length 0 (q.length+1) (by omega) (by omega)
 simp only[Zb7,show((0:Nat):Int)=0 from rfl,Zc7]at hi;rw[MU hc (q.length+1) (r:=(.int .i64 (GU q x),s)),ak (Plain.int _ _) (aM.refl s)];rw[Qp];simp only[aj,hi];unfold GU;split<;>simp
end
section
variable{s0 s:St}{Vs:List AV}{p:aR}{P:AV}{q:List Int}
theorem Wn(hp:p.ic)(hr:∀r∈p.rs,r.Ok)(h:(jL p false q).2=0):R4 p (NS p)/\Xx (NS p) p.gs.length q/\∀t∈p.ts,lF t=0:=by
 unfold jL at h;split at h
 .rename_i hz;exact absurd h hz
 . rename_i hz;have hz:(bI p).2=0:=(by simpa using hz);unfold MS at h;split at h
   .cases h
   .rename_i hl;have hl:q.length=p.gs.length:=(by simpa using hl);obtain⟨hs,hle⟩:=adL hp;refine⟨⟨hp,hr,hz,MT hz,hs,hle⟩,hl ▸(aje h).1,λt ht=> ?_⟩;obtain⟨i,hi,rfl⟩:=Zg9.1 ht;exact Dx (MT hz) i hi
end
end
noncomputable section
open Go Go.Ai Go.Proofs
attribute [local go_sem ↓] aT jK ev JZ uD getLT oO AX FX nB nC zb tr tu tA oc od oe oh om oq tB tC ot ou ov ow oA yO yP yQ
attribute [local go_sem] aT jK ev
section
variable(c:ah)(F:Nat)(x0 x1 x2 x3 x4 x5 x6 x7 x8 x9 pY qo:AV)(s:St)
def mC:Sh:=(sq sl (sq (sq sl (sq sl (sc (sq sl sl) sl))) (sq (sq sl (sc (sq sl sl) sl)) (sq sl (sq (sq sl (sb (sp 0 [1,2,9,10] [(2,[1,2,9])] (sq (sq sl (sc sl sl)) (sq (sb sl) sl))))) (sq sl (sq (sq sl (sb (sp 1 [2,9,11,12,13] [(1,[4,5,6]),(4,[9])] (sq (sq sl (sc sl sl)) (sq (sb (sq sl (sq (sq sl (sc (sq sl sl) sl)) (sq sl (sq (sq sl (sc (sq sl sl) sl)) (sq sl (sq (sq sl (sc (sq sl sl) sl)) (sq (sq sl (sc (sq sl sl) sl)) (sq (sq sl (sc (sq sl sl) sl)) (sq sl (sq (sq sl (sc (sq sl sl) sl)) sl))))))))))) sl))))) (sq sl sl))))))))
def BQ:PX 73 mC:=⟨_,by conv=>lhs;reduce⟩
def Ag:PL 73 mC 1:=⟨_,by conv=>lhs;reduce⟩
def fO(k1 k4:Q2):Nat->Q2
 |0,_,_=>none
 |n+1,vs,s=>eg c F bf (fO k1 k4 n) [k1,k4] Ag.1 vs s
def b9(k1 k4:Q2)(n:Nat)(vs:List AV)(s:St):=(by dsimp only[fO,Ag,go_sem,Int.reduceOfNat,Int.reduceNegSucc]:fO c F k1 k4 (n+1) vs s=_)
def Ah:PL 73 mC 0:=⟨_,by conv=>lhs;reduce⟩
def jF(k2:Q2):Nat->Q2
 |0,_,_=>none
 |n+1,vs,s=>eg c F bf (jF k2 n) [k2] Ah.1 vs s
def xA(k2:Q2)(n:Nat)(vs:List AV)(s:St):=(by dsimp only[jF,Ah,go_sem,Int.reduceOfNat,Int.reduceNegSucc]:jF c F k2 (n+1) vs s=_)
def sP:Un->List Q2->Nat->Q2
 |.z,[k2]=>jF c F k2
 |(.s .z),[k1,k4]=>fO c F k1 k4
 |_,_=>λ_=>eO
def lM:O2:=aT c F (sP c F) BQ.1 [x0,x1] s
def sQ:=(by dsimp only[lM,BQ, ↓sP,go_sem,Int.reduceOfNat,Int.reduceNegSucc]:lM c F x0 x1 s=_)
def qR:Sh:=(sq sl (sq sl (sq (sq sl (sb (sp 0 [1,2,5,6] [(2,[5])] (sq (sq sl (sc sl sl)) (sj [1,2,5,6] (sb (sq (sq sl (sc sl sl)) (sq sl sl))) sl))))) (sq sl sl))))
def Aj:PX 75 qR:=⟨_,by conv=>lhs;reduce⟩
def yH:PL 75 qR 0:=⟨_,by conv=>lhs;reduce⟩
def js(k2:Q2):Nat->Q2
 |0,_,_=>none
 |n+1,vs,s=>eg c F bf (js k2 n) [k2] yH.1 vs s
def ny(k2:Q2)(n:Nat)(vs:List AV)(s:St):=(by dsimp only[js,yH,go_sem,Int.reduceOfNat]:js c F k2 (n+1) vs s=_)
def qT:Un->List Q2->Nat->Q2
 |.z,[k2]=>js c F k2
 |_,_=>λ_=>eO
def uv:O2:=aT c F (qT c F) Aj.1 [x0,x1] s
def KO:=(by dsimp only[uv,Aj, ↓qT,go_sem,Int.reduceOfNat]:uv c F x0 x1 s=_)
def v8:Sh:=(sq sl (sq sl (sq sl (sq (sq sl (sb (sp 0 [0,4,5,6] [(2,[0,4,5])] (sq (sq sl (sc sl sl)) (sj [0,4,5,6] (sb (sq sl (sc (sq sl sl) sl))) sl))))) (sq (sq sl (sc (sq sl sl) sl)) (sq sl sl))))))
def DH:PX 106 v8:=⟨_,by conv=>lhs;reduce⟩
def Cm:PL 106 v8 0:=⟨_,by conv=>lhs;reduce⟩
def kQ(k2:Q2):Nat->Q2
 |0,_,_=>none
 |n+1,vs,s=>eg c F bf (kQ k2 n) [k2] Cm.1 vs s
def qU(k2:Q2)(n:Nat)(vs:List AV)(s:St):=(by dsimp only[kQ,Cm,go_sem,Int.reduceOfNat]:kQ c F k2 (n+1) vs s=_)
def v9:Un->List Q2->Nat->Q2
 |.z,[k2]=>kQ c F k2
 |_,_=>λ_=>eO
def zq:O2:=aT c F (v9 c F) DH.1 [x0] s
def DI:=(by dsimp only[zq,DH, ↓v9,go_sem,Int.reduceOfNat]:zq c F x0 s=_)
def we:Sh:=(sq sl (sq sl (sq sl (sq (sq sl (sb (sp 0 [0,4,5,6] [(1,[2,3]),(2,[0,4,5])] (sq (sq sl (sc sl sl)) (sj [0,4,5,6] (sb (sq sl (sc (sq (sq sl (sc (sq sl sl) sl)) (sq sl sl)) sl))) sl))))) (sq (sq sl (sc (sq sl sl) sl)) (sq sl sl))))))
def DJ:PX 107 we:=⟨_,by conv=>lhs;reduce⟩
def Cn:PL 107 we 0:=⟨_,by conv=>lhs;reduce⟩
def kR(k1 k2:Q2):Nat->Q2
 |0,_,_=>none
 |n+1,vs,s=>eg c F bf (kR k1 k2 n) [k1,k2] Cn.1 vs s
def lO(k1 k2:Q2)(n:Nat)(vs:List AV)(s:St):=(by dsimp only[kR,Cn,go_sem,Int.reduceOfNat]:kR c F k1 k2 (n+1) vs s=_)
def wj:Un->List Q2->Nat->Q2
 |.z,[k1,k2]=>kR c F k1 k2
 |_,_=>λ_=>eO
def sR:O2:=aT c F (wj c F) DJ.1 [x0] s
def wm:=(by dsimp only[sR,DJ, ↓wj,go_sem,Int.reduceOfNat]:sR c F x0 s=_)
def uw:Sh:=(sq sl (sq (sq sl (sc (sq sl sl) sl)) (sq sl (sq (sq sl (sb (sp 0 [0,4,5] [(1,[2,3]),(2,[4])] (sq (sq sl (sc sl sl)) (sq (sb (sq (sq sl (sc (sq sl sl) sl)) sl)) sl))))) (sq sl sl)))))
def Co:PX 108 uw:=⟨_,by conv=>lhs;reduce⟩
def BR:PL 108 uw 0:=⟨_,by conv=>lhs;reduce⟩
def j9(k1 k2:Q2):Nat->Q2
 |0,_,_=>none
 |n+1,vs,s=>eg c F bf (j9 k1 k2 n) [k1,k2] BR.1 vs s
def gG(k1 k2:Q2)(n:Nat)(vs:List AV)(s:St):=(by dsimp only[j9,BR,go_sem,Int.reduceOfNat]:j9 c F k1 k2 (n+1) vs s=_)
def ux:Un->List Q2->Nat->Q2
 |.z,[k1,k2]=>j9 c F k1 k2
 |_,_=>λ_=>eO
def xO:O2:=aT c F (ux c F) Co.1 [x0] s
def N4:=(by dsimp only[xO,Co, ↓ux,go_sem,Int.reduceOfNat]:xO c F x0 s=_)
def sS:Sh:=(sq sl (sq (sq sl (sb (sp 0 [1,2,5] [(1,[4]),(2,[])] (sq (sq sl (sc sl sl)) (sq (sb (sq sl (sc (sq sl sl) sl))) sl))))) (sq sl sl)))
def BS:PX 109 sS:=⟨_,by conv=>lhs;reduce⟩
def Ak:PL 109 sS 0:=⟨_,by conv=>lhs;reduce⟩
def jG(k1 k2:Q2):Nat->Q2
 |0,_,_=>none
 |n+1,vs,s=>eg c F bf (jG k1 k2 n) [k1,k2] Ak.1 vs s
def nZ(k1 k2:Q2)(n:Nat)(vs:List AV)(s:St):=(by dsimp only[jG,Ak,go_sem,Int.reduceOfNat,Int.reduceNegSucc]:jG c F k1 k2 (n+1) vs s=_)
def sU:Un->List Q2->Nat->Q2
 |.z,[k1,k2]=>jG c F k1 k2
 |_,_=>λ_=>eO
def wo:O2:=aT c F (sU c F) BS.1 [x0,x1] s
def MX:=(by dsimp only[wo,BS, ↓sU,go_sem,Int.reduceOfNat,Int.reduceNegSucc]:wo c F x0 x1 s=_)
def sV:Sh:=(sq sl (sq (sq sl (sb (sp 0 [1,2,5] [(1,[4]),(2,[])] (sq (sq sl (sc sl sl)) (sq (sb (sq sl (sc (sq sl sl) sl))) sl))))) (sq sl sl)))
def BT:PX 110 sV:=⟨_,by conv=>lhs;reduce⟩
def Al:PL 110 sV 0:=⟨_,by conv=>lhs;reduce⟩
def jH(k1 k2:Q2):Nat->Q2
 |0,_,_=>none
 |n+1,vs,s=>eg c F bf (jH k1 k2 n) [k1,k2] Al.1 vs s
def n8(k1 k2:Q2)(n:Nat)(vs:List AV)(s:St):=(by dsimp only[jH,Al,go_sem,Int.reduceOfNat,Int.reduceNegSucc]:jH c F k1 k2 (n+1) vs s=_)
def sW:Un->List Q2->Nat->Q2
 |.z,[k1,k2]=>jH c F k1 k2
 |_,_=>λ_=>eO
def wq:O2:=aT c F (sW c F) BT.1 [x0,x1] s
def MY:=(by dsimp only[wq,BT, ↓sW,go_sem,Int.reduceOfNat,Int.reduceNegSucc]:wq c F x0 x1 s=_)
def sX:Sh:=(sq sl (sq (sq sl (sb (sp 0 [0,1,6] [(1,[4,5]),(2,[])] (sq (sq sl (sc sl sl)) (sq (sb (sq (sq sl (sc (sq sl sl) sl)) sl)) sl))))) (sq sl sl)))
def BU:PX 115 sX:=⟨_,by conv=>lhs;reduce⟩
def Am:PL 115 sX 0:=⟨_,by conv=>lhs;reduce⟩
def jI(k1 k2:Q2):Nat->Q2
 |0,_,_=>none
 |n+1,vs,s=>eg c F bf (jI k1 k2 n) [k1,k2] Am.1 vs s
def xB(k1 k2:Q2)(n:Nat)(vs:List AV)(s:St):=(by dsimp only[jI,Am,go_sem,Int.reduceOfNat,Int.reduceNegSucc]:jI c F k1 k2 (n+1) vs s=_)
def sY:Un->List Q2->Nat->Q2
 |.z,[k1,k2]=>jI c F k1 k2
 |_,_=>λ_=>eO
def wu:O2:=aT c F (sY c F) BU.1 [x0,x1] s
def MZ:=(by dsimp only[wu,BU, ↓sY,go_sem,Int.reduceOfNat,Int.reduceNegSucc]:wu c F x0 x1 s=_)
def Cp:Sh:=(sq sl (sq (sq sl (sc (sq sl sl) sl)) (sq sl sl)))
def Cq:PX 116 Cp:=⟨_,by conv=>lhs;reduce⟩
def xP:O2:=aT c F bf Cq.1 [x0] s
def Cr:=(by dsimp only[xP,Cq,go_sem,Int.reduceOfNat]:xP c F x0 s=_)
end
section
variable{c:ah}(hc:bB c)(F:Nat){x0 x1 x2 x3 x4 x5 x6 x7 x8 x9 pY qo:AV}{s:St}{r:AV×St}
include hc
theorem yI(h:lM c F x0 x1 s=some r):c 73 [x0,x1] s=some (tidy s r):=hc.oL F (sP c F) mC 2 (by kernel_rfl) (λi hi=>match i,hi with|0,_=>mZ 0 (by kernel_rfl) (λ_ _ _=>by kernel_rfl) (λ_ _ _ _=>by kernel_rfl)|1,_=>mZ 1 (by kernel_rfl) (λ_ _ _=>by kernel_rfl) (λ_ _ _ _=>by kernel_rfl)|n+2,h=>absurd h (by omega)) (by kernel_rfl) h
theorem Hv(h:uv c F x0 x1 s=some r):c 75 [x0,x1] s=some (tidy s r):=hc.o1 F (qT c F) qR (by kernel_rfl) (by kernel_rfl) (λ_ _ _=>by kernel_rfl) (λ_ _ _ _=>by kernel_rfl) (by kernel_rfl) h
theorem BV(h:zq c F x0 s=some r):c 106 [x0] s=some (tidy s r):=hc.o1 F (v9 c F) v8 (by kernel_rfl) (by kernel_rfl) (λ_ _ _=>by kernel_rfl) (λ_ _ _ _=>by kernel_rfl) (by kernel_rfl) h
theorem BW(h:sR c F x0 s=some r):c 107 [x0] s=some (tidy s r):=hc.o1 F (wj c F) we (by kernel_rfl) (by kernel_rfl) (λ_ _ _=>by kernel_rfl) (λ_ _ _ _=>by kernel_rfl) (by kernel_rfl) h
theorem KP(h:xO c F x0 s=some r):c 108 [x0] s=some (tidy s r):=hc.o1 F (ux c F) uw (by kernel_rfl) (by kernel_rfl) (λ_ _ _=>by kernel_rfl) (λ_ _ _ _=>by kernel_rfl) (by kernel_rfl) h
theorem Jx(h:wo c F x0 x1 s=some r):c 109 [x0,x1] s=some (tidy s r):=hc.o1 F (sU c F) sS (by kernel_rfl) (by kernel_rfl) (λ_ _ _=>by kernel_rfl) (λ_ _ _ _=>by kernel_rfl) (by kernel_rfl) h
theorem Jy(h:wq c F x0 x1 s=some r):c 110 [x0,x1] s=some (tidy s r):=hc.o1 F (sW c F) sV (by kernel_rfl) (by kernel_rfl) (λ_ _ _=>by kernel_rfl) (λ_ _ _ _=>by kernel_rfl) (by kernel_rfl) h
theorem Jz(h:wu c F x0 x1 s=some r):c 115 [x0,x1] s=some (tidy s r):=hc.o1 F (sY c F) sX (by kernel_rfl) (by kernel_rfl) (λ_ _ _=>by kernel_rfl) (λ_ _ _ _=>by kernel_rfl) (by kernel_rfl) h
theorem An(h:xP c F x0 s=some r):c 116 [x0] s=some (tidy s r):=hc.o0 F Cp (by kernel_rfl) (by kernel_rfl) h
end
end
section
set_option linter.unusedSimpArgs false
open Go Go.Ai Go.Proofs Go.Ai.HY Go.Ai.RI
variable{c:ah}
section
variable{s0 s sA:St}
theorem acp{w pre acc rest:List Nat}(h:w=pre++acc++rest):(w.take (pre.length+acc.length)).drop pre.length=acc:=by subst h;rw[Zj8 (by simp),Zg0 (by simp),List.drop_left'];rfl
theorem S8{w:List Nat}(hw:w.length<=1000000)(F:Nat):∀(rest pre acc:List Nat)(ds:List (List Nat))(f:Nat)(s:St)(V:AV),w=pre++acc++rest->rest.length<f->Mk 1 sA s V (ds.map iT)->ds.length<=pre.length->
  ∃ s' V' ps last,bF 10 acc rest=ps++[last]/\Mk 1 sA s' V' ((ds++ps).map iT)/\last.length<=w.length/\w.drop (w.length - last.length)=last/\(ds++ps).length<=w.length/\
    ∀k2:Q2,kQ c F k2 f [.str w,V,.int .i64 (pre.length:Int),.int .i64 ((pre.length+acc.length:Nat):Int)] s=k2 [.str w,V',.int .i64 ((w.length - last.length:Nat):Int)] s'
 |[],pre,acc,ds,f,s,V,h,hf,M,hd=>by
  obtain⟨f,rfl⟩:∃g,f=g+1:=⟨f - 1,by omega⟩
  rw[Ze9]at h;have hl:w.length=pre.length+acc.length:=by rw[h,Zb1]
  refine⟨s,V,[],acc,rfl,by simpa using M,by omega,by rw[h];simp,by simp;omega,λk2=> ?_⟩;have d:decide (((pre.length+acc.length:Nat):Int)<(w.length:Int))=false:=H3 (by omega);rw[qU];simp only[aE,aH,aj,bL,aU,d,bG];rw[show w.length - acc.length=pre.length by omega]
 |x ::rest,pre,acc,ds,f,s,V,h,hf,M,hd=>by
  obtain⟨f,rfl⟩:∃g,f=g+1:=⟨f - 1,by omega⟩
  simp only[Zb2]at hf;have hl:w.length=pre.length+acc.length+(rest.length+1):=by rw[h];simp;omega
  have d:decide (((pre.length+acc.length:Nat):Int)<(w.length:Int))=true:=H2 (by omega);have hx:w[pre.length+acc.length]? =some x:=by rw[h,Zd1 (by simp),Zb1];simp
  have ix:∀(K:AV->St->Option (AV×St)),ai c .idxS [.str w,.int .i64 ((pre.length+acc.length:Nat):Int)] s K=K (.int .u8 (x:Int)) s:=λK=>by rw[Sy,hx];rfl
  by_cases e:x=10
  . (subst e;have d2:decide (((10:Nat):Int)=10)=true:=rfl;obtain⟨s5,V5,p1,p2,_⟩:=Mk.push (R:=AV×St) (c:=c) (bytes:=16) M (z:=[.str []]) (x:= .str acc) rfl rfl rfl (by decide) (by rw[Zb3];omega) (by rw[Zb3];omega);have es:ds.map iT++[(AV.str acc).cells]=(ds++[acc]).map iT:=(by rw[Zg3];rfl);rw[es]at p2;obtain⟨s',V',ps,last,q1,q2,q3,q4,q5,q6⟩:=S8 hw F rest (pre++acc++[10]) [] (ds++[acc]) f s5 V5 (by rw[h];simp) (by omega) p2 (by simp;omega);refine⟨s',V',acc::ps,last,by rw[bF,Za4 rfl,q1];rfl,by simpa using q2,q3,q4,by simpa using q5,λk2=> ?_⟩;have hb:pre.length+acc.length<=w.length:=(by omega);have w1:Unit->au .i64 (((pre.length+acc.length:Nat):Int)+1)=(((pre++acc++[10]).length:Nat):Int):=λ_=>by rw[wrap64 (by omega) (by omega)];simp only[Zb1,Zb2,Zc3];omega);rw[<-q6 k2,qU];simp only[aE,aH,aj,bL,aU,d,bk,ki,ix,cN,d2,MM (show pre.length<=pre.length+acc.length by omega) hb,acp h,p1,dR,w1 (),Zc3,Zf8]
  . have d2:decide ((x:Int)=10)=false:=H3 (by omega);obtain⟨s',V',ps,last,q1,q2,q3,q4,q5,q6⟩:=S8 hw F rest pre (acc++[x]) ds f s V (by rw[h];simp) (by omega) M hd;refine⟨s',V',ps,last,by rw[bF,Za2 e,q1],q2,q3,q4,q5,λk2=> ?_⟩;have w1:Unit->au .i64 (((pre.length+acc.length:Nat):Int)+1)=((pre.length+(acc++[x]).length:Nat):Int):=λ_=>by rw[wrap64 (by omega) (by omega)];simp only[Zb1,Zb2,Zc3];omega
    rw[<-q6 k2,qU];simp only[aE,aH,aj,bL,aU,d,bk,ki,ix,cN,d2,bG,dR,w1 ()]
def qV(w:List Nat):List (List Nat)×Bool:=if(bF 10 [] w).getLast (Dh w [])=[]then((bF 10 [] w).dropLast,true)else(bF 10 [] w,false)
theorem ahL(hc:bB c){w:List Nat}(ID:w.length<=1000000)(s:St)(hw:Wf s):∃v s',c 106 [.str w] s=some (.tuple [v,.bool (qV w).2],s')/\Mk 1 s s' v ((qV w).1.map iT)/\(qV w).1.length<=w.length+1:=by
 obtain⟨s',V',ps,last,q1,q2,q3,q4,q5,q6⟩:=S8 (c:=c) (sA:=s) ID (w.length+1) w [] [] [] (w.length+1) s .av rfl (by omega) (Mk.start hw (Grew.refl hw)) (by simp);rw[Ze6]at q2 q5;have YD:(bF 10 [] w).getLast (Dh w [])=last:=by simp[q1]
 have akQ:(bF 10 [] w).dropLast=ps:=by simp[q1]
 simp only[Zc3,Zf8,show((0:Nat):Int)=0 from rfl]at q6;by_cases h:last=[]
 .have e:qV w=(ps,true):=(by unfold qV;rw[Za4 (YD.trans h),akQ]);rw[e];obtain⟨s2,t1,t2⟩:=q2.Vv true;refine⟨V',s2,?_,t2,by dsimp only;omega⟩;rw[BV hc (w.length+1) (r:=(.tuple [V',.bool true],s')),t1];rw[DI];have d:decide (((w.length - last.length:Nat):Int)<(w.length:Int))=false:=H3 (by rw[h];simp);simp only[aj];rw[q6];simp only[aE,aH,aj,bL,aU,d,bG]
 .have e:qV w=(ps++[last],false):=(by unfold qV;rw[Za2 (λe=>h (YD.symm.trans e)),q1]);have hlp:0<last.length:=Zm7.2 h;rw[e];obtain⟨s5,V5,p1,p2,_⟩:=Mk.push (R:=AV×St) (c:=c) (bytes:=16) q2 (z:=[.str []]) (x:= .str last) rfl rfl rfl (by decide) (by rw[Zb3];omega) (by rw[Zb3];omega);have es:ps.map iT++[(AV.str last).cells]=(ps++[last]).map iT:=(by rw[Zg3];rfl);rw[es]at p2;obtain⟨s2,t1,t2⟩:=p2.Vv false;refine⟨V5,s2,?_,t2,by simp;omega⟩;rw[BV hc (w.length+1) (r:=(.tuple [V5,.bool false],s5)),t1];rw[DI];have d:decide (((w.length - last.length:Nat):Int)<(w.length:Int))=true:=H2 (by omega);simp only[aj];rw[q6];simp only[aE,aH,aj,bL,aU,d,bk,P8 (show w.length - last.length<=w.length by omega),q4,p1]
theorem S9{w:List Nat}(hw:w.length<=1000000)(F:Nat):∀(rest pre acc:List Nat)(ds:List (List Nat))(f:Nat)(s:St)(V:AV),w=pre++acc++rest->rest.length<f->Mk 1 sA s V (ds.map iT)->ds.length<=pre.length->
  ∃ s' V' ps last,bF 32 acc rest=ps++[last]/\(([]:List Nat)∉ps->Mk 1 sA s' V' ((ds++ps).map iT))/\Grew sA s'/\last.length<=w.length/\w.drop (w.length - last.length)=last/\(ds++ps).length<=w.length/\
    ∀k1 k2:Q2,kR c F k1 k2 f [.str w,V,.int .i64 (pre.length:Int),.int .i64 ((pre.length+acc.length:Nat):Int)] s=if([]:List Nat)∈ps then k1 [.av,.bool false] s' else k2 [.str w,V',.int .i64 ((w.length - last.length:Nat):Int)] s'
 |[],pre,acc,ds,f,s,V,h,hf,M,hd=>by
  obtain⟨f,rfl⟩:∃g,f=g+1:=⟨f - 1,by omega⟩
  rw[Ze9]at h;have hl:w.length=pre.length+acc.length:=by rw[h,Zb1]
  refine⟨s,V,[],acc,rfl,λ_=>by simpa using M,M.aN,by omega,by rw[h];simp,by simp;omega,λk1 k2=> ?_⟩;have d:decide (((pre.length+acc.length:Nat):Int)<(w.length:Int))=false:=H3 (by omega);rw[lO,Za2 (by simp)];simp only[aE,aH,aj,bL,aU,d,bG];rw[show w.length - acc.length=pre.length by omega]
 |x ::rest,pre,acc,ds,f,s,V,h,hf,M,hd=>by
  obtain⟨f,rfl⟩:∃g,f=g+1:=⟨f - 1,by omega⟩
  simp only[Zb2]at hf;have hl:w.length=pre.length+acc.length+(rest.length+1):=by rw[h];simp;omega
  have d:decide (((pre.length+acc.length:Nat):Int)<(w.length:Int))=true:=H2 (by omega);have hx:w[pre.length+acc.length]? =some x:=by rw[h,Zd1 (by simp),Zb1];simp
  have ix:∀(K:AV->St->Option (AV×St)),ai c .idxS [.str w,.int .i64 ((pre.length+acc.length:Nat):Int)] s K=K (.int .u8 (x:Int)) s:=λK=>by rw[Sy,hx];rfl
  by_cases e:x=32
  . subst e;have d2:decide (((32:Nat):Int)=32)=true:=rfl;obtain⟨s5,V5,p1,p2,_⟩:=Mk.push (R:=AV×St) (c:=c) (bytes:=16) M (z:=[.str []]) (x:= .str acc) rfl rfl rfl (by decide) (by rw[Zb3];omega) (by rw[Zb3];omega);have es:ds.map iT++[(AV.str acc).cells]=(ds++[acc]).map iT:=(by rw[Zg3];rfl);rw[es]at p2;obtain⟨s',V',ps,last,q1,q2,q2',q3,q4,q5,q6⟩:=S9 hw F rest (pre++acc++[32]) [] (ds++[acc]) f s5 V5 (by rw[h];simp) (by omega) p2 (by simp;omega);by_cases ha:acc=[]
    .   subst ha;refine⟨s,V,[]::ps,last,by rw[bF,Za4 rfl,q1];rfl,λh=>absurd (by simp) h,M.aN,q3,q4,by simpa using q5,λk1 k2=> ?_⟩;have d3:decide (((pre.length+([]:List Nat).length:Nat):Int)=(pre.length:Int))=true:=H2 (by simp);rw[lO,Za4 (by simp)];simp only[aE,aH,aj,bL,aU,d,bk,ki,ix,cN,d2,d3]
    .   have AY:0<acc.length:=Zm7.2 ha;have d3:decide (((pre.length+acc.length:Nat):Int)=(pre.length:Int))=false:=H3 (by omega);refine⟨s',V',acc::ps,last,by rw[bF,Za4 rfl,q1];rfl,λh=>by simpa using q2 (λh2=>h (Za0 _ h2)),q2',q3,q4,by simpa using q5,λk1 k2=> ?_⟩;have hb:pre.length+acc.length<=w.length:=(by omega);have w1:Unit->au .i64 (((pre.length+acc.length:Nat):Int)+1)=(((pre++acc++[32]).length:Nat):Int):=λ_=>by rw[wrap64 (by omega) (by omega)];simp only[Zb1,Zb2,Zc3];omega
        have hm:(([]:List Nat)∈acc::ps)=(([]:List Nat)∈ps):=by
         apply propext;rw[Za7];exact⟨λh=>h.elim (λe=>absurd e.symm ha) id,.inr⟩
        simp only[hm];rw[<-q6 k1 k2,lO];simp only[aE,aH,aj,bL,aU,d,bk,ki,ix,cN,d2,d3,bG,MM (show pre.length<=pre.length+acc.length by omega) hb,acp h,p1,dR,w1 (),Zc3,Zf8]
  . have d2:decide ((x:Int)=32)=false:=H3 (by omega);obtain⟨s',V',ps,last,q1,q2,q2',q3,q4,q5,q6⟩:=S9 hw F rest pre (acc++[x]) ds f s V (by rw[h];simp) (by omega) M hd;refine⟨s',V',ps,last,by rw[bF,Za2 e,q1],q2,q2',q3,q4,q5,λk1 k2=> ?_⟩;have w1:Unit->au .i64 (((pre.length+acc.length:Nat):Int)+1)=((pre.length+(acc++[x]).length:Nat):Int):=λ_=>by rw[wrap64 (by omega) (by omega)];simp only[Zb1,Zb2,Zc3];omega
    rw[<-q6 k1 k2,lO];simp only[aE,aH,aj,bL,aU,d,bk,ki,ix,cN,d2,bG,dR,w1 ()]
theorem ahM(hc:bB c){w:List Nat}(ID:w.length<=1000000)(s:St)(hw:Wf s):∃v s',c 107 [.str w] s=some (.tuple [v,.bool (decide (([]:List Nat)∉bF 32 [] w))],s')/\Grew s s'/\(([]:List Nat)∉bF 32 [] w->Mk 1 s s' v ((bF 32 [] w).map iT)):=by
 obtain⟨s',V',ps,last,q1,q2,q2',q3,q4,q5,q6⟩:=S9 (c:=c) (sA:=s) ID (w.length+1) w [] [] [] (w.length+1) s .av rfl (by omega) (Mk.start hw (Grew.refl hw)) (by simp);rw[Ze6]at q2 q5;simp only[Zc3,Zf8,show((0:Nat):Int)=0 from rfl]at q6;have bad:([]:List Nat)∈bF 32 [] w->(∃s2,Grew s s2/\sR c (w.length+1) (.str w) s=some (.tuple [.av,.bool false],s2))->∃v s',c 107 [.str w] s=some (.tuple [v,.bool (decide (([]:List Nat)∉bF 32 [] w))],s')/\Grew s s'/\(([]:List Nat)∉bF 32 [] w->Mk 1 s s' v ((bF 32 [] w).map iT)):=λhm ⟨s2,g2,hr⟩=>by
   refine⟨.av,s,?_,Grew.refl hw,λh=>absurd hm h⟩;rw[BW hc (w.length+1) (r:=(.tuple [.av,.bool false],s2)) hr,ak (Plain.tuple (by simp[Plain.bool,Plain.av])) g2.keeps,H3 (λh=>h hm)]
 by_cases h1:([]:List Nat)∈ps
 .refine bad (by rw[q1];exact Zg1 _ h1) ⟨s',q2',?_⟩;rw[wm];simp only[aj];rw[q6,Za4 h1];simp only[aE,aH]
 by_cases h2:last=[]
 .refine bad (by rw[q1,h2];simp) ⟨s',q2',?_⟩;have d:decide (((w.length - last.length:Nat):Int)=(w.length:Int))=true:=H2 (by rw[h2];simp);rw[wm];simp only[aj];rw[q6,Za2 h1];simp only[aE,aH,aj,bL,cN,d,bk]
 have hlp:0<last.length:=Zm7.2 h2;have kH:([]:List Nat)∉bF 32 [] w:=by
   rw[q1];intro h;rcases Zd5.1 h with h|h
   .exact h1 h
   .exact h2 (Zc9.1 h).symm
 obtain⟨s5,V5,p1,p2,_⟩:=Mk.push (R:=AV×St) (c:=c) (bytes:=16) (q2 h1) (z:=[.str []]) (x:= .str last) rfl rfl rfl (by decide) (by rw[Zb3];omega) (by rw[Zb3];omega);have es:ps.map iT++[(AV.str last).cells]=(bF 32 [] w).map iT:=by rw[q1,Zg3];rfl
 rw[es]at p2;obtain⟨s2,t1,t2⟩:=p2.Vv true;refine⟨V5,s2,?_,t2.aN,λ_=>t2⟩;rw[BW hc (w.length+1) (r:=(.tuple [V5,.bool true],s5)),t1,H2 kH];rw[wm];have d:decide (((w.length - last.length:Nat):Int)=(w.length:Int))=false:=H3 (by omega);simp only[aj];rw[q6,Za2 h1];simp only[aE,aH,aj,bL,cN,d,bG,P8 (show w.length - last.length<=w.length by omega),q4,p1]
end
set_option linter.unusedSimpArgs false
theorem U5{c:Nat}:∀(l acc:List Nat),(∀x∈l,x<256)->(∀x∈acc,x<256)->∀u∈bF c acc l,∀x∈u,x<256
 |[],acc,_,ha,u,hu=>by simp[bF]at hu;subst hu;exact ha
 |y ::l,acc,hl,ha,u,hu=>by
  rw[bF]at hu;split at hu
  . rcases Za7.1 hu with rfl|hu
    .   exact ha
    .   exact U5 l [] (λx hx=>hl x (Za0 _ hx)) (λx hx=>by cases hx) u hu
  . exact U5 l (acc++[y]) (λx hx=>hl x (Za0 _ hx)) (λx hx=>by
        rcases Zd5.1 hx with h|h
        .exact ha x h
        .rw[Zc9.1 h];exact hl y (by simp)) u hu
theorem adN {w:List Nat}(hw:w.length<=9)(cZ:∀x∈w,x<256)(F:Nat)(s:St):∀(m i n f:Nat),i+m=w.length->m<f->n<10 ^ i->
  ∀k1 k2:Q2,j9 c F k1 k2 f [.str w,.int .i64 (n:Int),.int .i64 (i:Int)] s=if(w.drop i).all lS=true/\¬(i<=1/\1<w.length/\w[0]? =some 48)then k2 [.int .i64 ((Ee n (w.drop i):Nat):Int)] s else k1 [.int .i64 0,.bool false] s:=by
 intro m;induction m with
 |zero=>
  intro i n f hi hf hn k1 k2;obtain⟨f,rfl⟩:∃g,f=g+1:=⟨f - 1,by omega⟩
  obtain rfl:i=w.length:=by omega
  have d:decide ((w.length:Int)<(w.length:Int))=false:=H3 (by omega);rw[gG,Zi3,Za4 ⟨rfl,λh=>by omega⟩];simp only[aE,aH,aj,bL,aU,d,bG,Ee,List.foldl_nil]
 |succ m ih  =>
  intro i n f hi hf hn k1 k2;obtain⟨f,rfl⟩:∃g,f=g+1:=⟨f - 1,by omega⟩
  have fU:i<w.length:=by omega
  have d:decide ((i:Int)<(w.length:Int))=true:=H2 (by omega);obtain⟨x,hx⟩:∃x,w[i]? =some x:=⟨_,H1 fU⟩
  have hxe:w[i]=x:=(H5.1 hx).2;have Wz:=cZ x (Zc5 hx);have ix:∀(K:AV->St->Option (AV×St)),ai c .idxS [.str w,.int .i64 (i:Int)] s K=K (.int .u8 (x:Int)) s:=λK=>by rw[Sy,hx];rfl
  obtain⟨y,hy⟩:∃y,w[0]? =some y:=⟨_,H1 (by omega)⟩
  have ix0:∀(K:AV->St->Option (AV×St)),ai c .idxS [.str w,.int .i64 0] s K=K (.int .u8 (y:Int)) s:=λK=>by rw[aew,hy];rfl
  have hd:w.drop i=x::w.drop (i+1):=by rw[Za8 fU,hxe]
  rw[hd,Zl0,hy];have ten:10 ^ i<=10 ^ 8:=Zm5 (by omega) (by omega);have ten':(10:Nat) ^ 8=100000000:=by decide
  by_cases c1:48<=x
  . by_cases c2:x<=57
    .   have e:lS x=true:=(by unfold lS;rw[H2 c1,H2 c2];rfl);have d1:decide ((x:Int)<48)=false:=H3 (by omega);have d2:decide ((57:Int)<(x:Int))=false:=H3 (by omega);have w1:Unit->au .i64 (10*(n:Int))=((10*n:Nat):Int):=λ_=>by rw[wrap64 (by omega) (by omega)];omega
        have w2:Unit->au .i64 (x:Int)=(x:Int):=λ_=>wrap64 (by omega) (by omega)
        have w3:Unit->au .i64 (((10*n:Nat):Int)+(x:Int))=((10*n+x:Nat):Int):=λ_=>by rw[wrap64 (by omega) (by omega)];omega
        have w4:Unit->au .i64 (((10*n+x:Nat):Int) - 48)=((10*n+(x - 48):Nat):Int):=λ_=>by rw[wrap64 (by omega) (by omega)];omega
        have w5:Unit->au .i64 ((i:Int)+1)=((i+1:Nat):Int):=λ_=>wrap64 (by omega) (by omega)
        have ihh:=ih (i+1) (10*n+(x - 48)) f (by omega) (by omega) (by rw[Zo9];omega) k1 k2;by_cases c3:i=1
        . have d3:decide ((i:Int)=1)=true:=H2 (by omega);by_cases c4:y=48
          .have d4:decide ((y:Int)=48)=true:=H2 (by omega);rw[Za2 (λh=>h.2 ⟨by omega,by omega,by rw[c4]⟩),gG];simp only[aE,aH,aj,bL,aU,d,bk,ix,d1,bN,gF,d2,aZ,cN,d3,ix0,d4,cr]
          . have d4:decide ((y:Int)=48)=false:=H3 (by omega);have hc:((lS x&&(w.drop (i+1)).all lS)=true/\¬(i<=1/\1<w.length/\some y=some 48))=((w.drop (i+1)).all lS=true/\¬(i+1<=1/\1<w.length/\w[0]? =some 48)):=by
             apply propext;rw[e,Ze4];exact⟨λh=>⟨h.1,λh2=>by omega⟩,λh=>⟨h.1,λh2=>c4 (Zf4 h2.2.2)⟩⟩
            simp only[hc];rw[show Ee n (x::w.drop (i+1))=Ee (10*n+(x - 48)) (w.drop (i+1))from rfl, <-ihh,gG];simp only[aE,aH,aj,bL,aU,d,bk,ix,d1,bN,gF,d2,aZ,cN,d3,ix0,d4,cr,bG,QD,w1 (),y8,w2 (),dR,w3 (),kW,w4 (),w5 ()]
        . have d3:decide ((i:Int)=1)=false:=H3 (by omega);have hc:((lS x&&(w.drop (i+1)).all lS)=true/\¬(i<=1/\1<w.length/\some y=some 48))=((w.drop (i+1)).all lS=true/\¬(i+1<=1/\1<w.length/\w[0]? =some 48)):=by
            apply propext;rw[e,Ze4,hy];exact⟨λh=>⟨h.1,λh2=>h.2 ⟨by omega,h2.2⟩⟩,λh=>⟨h.1,λh2=>h.2 ⟨by omega,h2.2⟩⟩⟩
          simp only[hc];rw[show Ee n (x::w.drop (i+1))=Ee (10*n+(x - 48)) (w.drop (i+1))from rfl, <-ihh,gG];simp only[aE,aH,aj,bL,aU,d,bk,ix,d1,bN,gF,d2,aZ,cN,d3,OH,aZ,bG,QD,w1 (),y8,w2 (),dR,w3 (),kW,w4 (),w5 ()]
    .   have e:lS x=false:=(by unfold lS;rw[H3 c2,Bool.and_false]);have d1:decide ((x:Int)<48)=false:=H3 (by omega);have d2:decide ((57:Int)<(x:Int))=true:=H2 (by omega);rw[e,Zj2,Za2 (λh=>by cases h.1),gG];simp only[aE,aH,aj,bL,aU,d,bk,ix,d1,bN,gF,d2,aZ,l7,nc,cr]
  .have e:lS x=false:=(by unfold lS;rw[H3 c1,Zj2]);have d1:decide ((x:Int)<48)=true:=H2 (by omega);rw[e,Zj2,Za2 (λh=>by cases h.1),gG];simp only[aE,aH,aj,bL,aU,d,bk,ix,d1,l7,nc,cr]
theorem adO(hc:bB c){w:List Nat}(cZ:∀x∈w,x<256)(s:St):c 108 [.str w] s=some (mz w,s):=by
 have pl:Plain (mz w):=by
   unfold mz;split<;>exact Plain.tuple (by simp[Plain.int,Plain.bool])
 rw[KP hc (w.length+1) (r:=(mz w,s)),ak pl (aM.refl s)];rw[N4];by_cases h0:w.length=0
 .have e:mz w= .tuple [.int .i64 0,.bool false]:=(by unfold mz num;rw[Za4 (.inl h0)]);have d1:decide ((w.length:Int)=0)=true:=H2 (by omega);rw[e];simp only[aj,bL,cN,d1,l7,cr,nc,bk]
 have d1:decide ((w.length:Int)=0)=false:=H3 (by omega);by_cases h1:9<w.length
 .have e:mz w= .tuple [.int .i64 0,.bool false]:=(by unfold mz num;rw[Za4 (.inr (.inl h1))]);have d2:decide ((9:Int)<(w.length:Int))=true:=H2 (by omega);rw[e];simp only[aj,bL,cN,d1,bN,gF,d2,aZ,bk]
 have d2:decide ((9:Int)<(w.length:Int))=false:=H3 (by omega);have L:=λk1 k2=>adN (c:=c) (w:=w) (by omega) cZ (w.length+1) s w.length 0 0 (w.length+1) (by omega) (by omega) (by decide) k1 k2
 simp only[Zb7,show((0:Nat):Int)=0 from rfl]at L;have e:mz w=if w.all lS=true/\¬(0<=1/\1<w.length/\w[0]? =some 48)then .tuple [.int .i64 ((Ee 0 w:Nat):Int),.bool true]else .tuple [.int .i64 0,.bool false]:=by
   unfold mz num;by_cases hz:1<w.length/\w[0]? =some 48
   .rw[Za4 (.inr (.inr hz)),Za2 (λh=>h.2 ⟨by omega,hz⟩)]
   . rw[Za2 (by rintro(h|h|h);exact h0 h;exact h1 h;exact hz h)];by_cases ha:w.all lS=true
     .  have ha':(w.all λc=>decide (48<=c)&&decide (c<=57))=true:=ha;rw[Za4 ha',Za4 ⟨ha,λh=>hz h.2⟩];rfl
     .  have ha':¬(w.all λc=>decide (48<=c)&&decide (c<=57))=true:=ha;rw[Za2 ha',Za2 (λh=>ha h.1)]
 simp only[aj,bL,cN,d1,bN,gF,d2,aZ,bG];rw[L,e];by_cases ha:w.all lS=true/\¬(0<=1/\1<w.length/\w[0]? =some 48)
 .rw[Za4 ha,Za4 ha];simp only[aE,aH,aj]
 .rw[Za2 ha,Za2 ha];simp only[aE,aH]
section
variable{s:St}{p:aR}
theorem ahN{b:Pos}(hb:s.heap.get b=some (.cells p.cells 0))(w:List Nat)(xp:p.gs.length<=1000)(F:Nat):∀(m k f:Nat),k+m=p.gs.length->m<f->∀k1 k2:Q2,jG c F k1 k2 f [.str w,.ptr b 0,.int .i64 (k:Int)] s=
    match iR ((p.gs.map (·.name)).drop k) w with
    |some j=>k1 [.int .i64 ((k+j:Nat):Int)] s
    |none=>k2 [] s:=by
 intro m;induction m with
 |zero=>
  intro k f hk hf k1 k2;obtain⟨f,rfl⟩:∃g,f=g+1:=⟨f - 1,by omega⟩
  obtain rfl:k=p.gs.length:=by omega
  have e:(p.gs.map (·.name)).drop p.gs.length=[]:=Zh2 (by simp);rw[e,nZ];simp[hb,aF];rfl
 |succ m ih=>
  intro k f hk hf k1 k2;obtain⟨f,rfl⟩:∃g,f=g+1:=⟨f - 1,by omega⟩
  have cK:k<p.gs.length:=by omega
  have TV:k<(p.gs.map (·.name)).length:=by simpa using cK
  have wr:au .i64 ((k:Int)+1)=((k+1:Nat):Int):=wrap64 (by omega) (by omega);have ge:(p.gs.map (·.name))[k]=p.gs[k].name:=by rw[Zi2]
  rw[Za8 TV,ge];unfold iR;rw[Zn1];by_cases h:p.gs[k].name=w
  .rw[H2 h,Za4 rfl,nZ];simp[hb,aF,cK,bC,h]
  . have:=ih (k+1) f (by omega) (by omega) k1 k2;unfold iR at this;rw[H3 h,Za2 (by simp),nZ];cases hf:List.findIdx? (λx=>decide (x=w)) (List.drop (k+1) (List.map (λx=>x.name) p.gs))with
    |   none=>
        rw[hf]at this;simp[hb,aF,cK,bC,h,wr];exact this
    |   some j=>
        rw[hf]at this;simp only[show((k+1+j:Nat):Int)=((k+(j+1):Nat):Int)from congrArg _ (by omega)]at this;simp[hb,aF,cK,bC,h,wr];simpa using this
def Ta(l:List (List Nat))(w:List Nat):Int:=match iR l w with
 |some j=>(j:Int)
 |none=> -1
theorem ahO(hc:bB c)(w:List Nat)(xp:p.gs.length<=1000)(hw:Wf s):c 109 [.agg p.cells,.str w] s=some (.int .i64 (Ta (p.gs.map (·.name)) w),s):=by
 have gN:=Grew.af hw (.cells p.cells 0);have L:=ahN (c:=c) (p:=p) (s:=af s (.cells p.cells 0)) (aC _ _) w xp (p.gs.length+1) p.gs.length 0 (p.gs.length+1) (by omega) (by omega);simp only[Zb7,show((0:Nat):Int)=0 from rfl,Zc7]at L;rw[Jx hc (p.gs.length+1) (r:=(.int .i64 (Ta (p.gs.map (·.name)) w),af s (.cells p.cells 0))),ak (Plain.int _ _) gN.keeps];rw[MX];simp only[cP,show ∀l,AV.cells (.agg l)=l from λl=>rfl,aj];rw[L];unfold Ta;cases iR (p.gs.map (·.name)) w with
 |none=>simp
 |some j=>simp
theorem ahP{b:Pos}(hb:s.heap.get b=some (.cells p.cells 0))(w:List Nat)(xp:p.ts.length<=1000)(F:Nat):∀(m k f:Nat),k+m=p.ts.length->m<f->∀k1 k2:Q2,jH c F k1 k2 f [.str w,.ptr b 0,.int .i64 (k:Int)] s=
    match iR ((p.ts.map (·.name)).drop k) w with
    |some j=>k1 [.int .i64 ((k+j:Nat):Int)] s
    |none=>k2 [] s:=by
 intro m;induction m with
 |zero=>
  intro k f hk hf k1 k2;obtain⟨f,rfl⟩:∃g,f=g+1:=⟨f - 1,by omega⟩
  obtain rfl:k=p.ts.length:=by omega
  have e:(p.ts.map (·.name)).drop p.ts.length=[]:=Zh2 (by simp);rw[e,n8];simp[hb,aF,tabs];rfl
 |succ m ih=>
  intro k f hk hf k1 k2;obtain⟨f,rfl⟩:∃g,f=g+1:=⟨f - 1,by omega⟩
  have cK:k<p.ts.length:=by omega
  have TV:k<(p.ts.map (·.name)).length:=by simpa using cK
  have wr:au .i64 ((k:Int)+1)=((k+1:Nat):Int):=wrap64 (by omega) (by omega);have ge:(p.ts.map (·.name))[k]=p.ts[k].name:=by rw[Zi2]
  rw[Za8 TV,ge];unfold iR;rw[Zn1];by_cases h:p.ts[k].name=w
  .rw[H2 h,Za4 rfl,n8];simp[hb,aF,cK,tabs,h]
  . have:=ih (k+1) f (by omega) (by omega) k1 k2;unfold iR at this;rw[H3 h,Za2 (by simp),n8];cases hf:List.findIdx? (λx=>decide (x=w)) (List.drop (k+1) (List.map (λx=>x.name) p.ts))with
    |   none=>
        rw[hf]at this;simp[hb,aF,cK,tabs,h,wr];exact this
    |   some j=>
        rw[hf]at this;simp only[show((k+1+j:Nat):Int)=((k+(j+1):Nat):Int)from congrArg _ (by omega)]at this;simp[hb,aF,cK,tabs,h,wr];simpa using this
theorem afy(hc:bB c)(w:List Nat)(xp:p.ts.length<=1000)(hw:Wf s):c 110 [.agg p.cells,.str w] s=some (.int .i64 (Ta (p.ts.map (·.name)) w),s):=by
 have gN:=Grew.af hw (.cells p.cells 0);have L:=ahP (c:=c) (p:=p) (s:=af s (.cells p.cells 0)) (aC _ _) w xp (p.ts.length+1) p.ts.length 0 (p.ts.length+1) (by omega) (by omega);simp only[Zb7,show((0:Nat):Int)=0 from rfl,Zc7]at L;rw[Jy hc (p.ts.length+1) (r:=(.int .i64 (Ta (p.ts.map (·.name)) w),af s (.cells p.cells 0))),ak (Plain.int _ _) gN.keeps];rw[MY];simp only[cP,show ∀l,AV.cells (.agg l)=l from λl=>rfl,aj];rw[L];unfold Ta;cases iR (p.ts.map (·.name)) w with
 |none=>simp
 |some j=>simp
theorem afz(hc:bB c)(z:Bool)(ts:List aG)(dF:ts.length<=1000)(F:Nat)(s:St):∀(m k f:Nat)(x:Int),k+m=ts.length->m<f->0<=x->x<=1000000->∀k1 k2:Q2,jI c F k1 k2 f [tabs z ts,.int .i64 x,.int .i64 (k:Int)] s=
    match En ((ts.drop k).map bh) x k with
    |some (t,y)=>k1 [.int .i64 (t:Int),.int .i64 y] s
    |none=>k2 [] s:=by
 intro m;induction m with
 |zero=>
  intro k f x hk hf h0 h1 k1 k2;obtain⟨f,rfl⟩:∃g,f=g+1:=⟨f - 1,by omega⟩
  obtain rfl:k=ts.length:=by omega
  have d:decide ((ts.length:Int)<(ts.length:Int))=false:=H3 (by omega);rw[Zi3,xB];simp only[aE,aH,aj,tabs,bW,Zb3,aU,d,OH,aZ,bG];rfl
 |succ m ih=>
  intro k f x hk hf h0 h1 k1 k2;obtain⟨f,rfl⟩:∃g,f=g+1:=⟨f - 1,by omega⟩
  have cK:k<ts.length:=by omega
  have hs:=R7 hc ts[k] s;have sz:=tI ts[k];have d:decide ((k:Int)<(ts.length:Int))=true:=H2 (by omega);have d0:decide ((0:Int)<=x)=true:=H2 h0;have wr:Unit->au .i64 ((k:Int)+1)=((k+1:Nat):Int):=λ_=>wrap64 (by omega) (by omega)
  have w2:Unit->au .i64 (x - bh ts[k])=x - bh ts[k]:=λ_=>wrap64 (by omega) (by omega)
  have ld:∀(K:AV->St->Option (AV×St)),ai c (.load (some 7)) [.fp (ts.map aG.cells) k 0] s K=K (.agg ts[k].cells) s:=λK=>by
    have hcut:cut ts[k].cells 0 7=some ts[k].cells:=bJ rfl;simp[cK,hcut]
  have ia:∀(K:AV->St->Option (AV×St)),ai c (.idxA 7 none) [ro 7 z (ts.map aG.cells),.int .i64 (k:Int)] s K=K (.fp (ts.map aG.cells) k 0) s:=λK=>by rw[FT,Zb3,Za4 cK];rfl
  rw[Za8 cK,Zb4,En,xB];by_cases h:x<bh ts[k]
  .have dx:decide (x<bh ts[k])=true:=H2 h;rw[Za4 h];simp only[aE,aH,aj,tabs,bW,Zb3,aU,d,bN,oa,d0,cr,bk,ia,ld,aK,hs,aJ,dx]
  .have dx:decide (x<bh ts[k])=false:=H3 h;rw[Za2 h, <-ih (k+1) f (x - bh ts[k]) (by omega) (by omega) (by omega) (by omega) k1 k2];simp only[aE,aH,aj,tabs,bW,Zb3,aU,d,bN,oa,d0,cr,bk,ia,ld,aK,hs,aJ,dx,bG,kW,w2 (),dR,wr ()]
theorem afA(hc:bB c)(z:Bool)(ts:List aG)(dF:ts.length<=1000)(s:St){x:Int}(h0:0<=x)(h1:x<=1000000){t:Nat}{y:Int}(hw:En (ts.map bh) x 0=some (t,y)):c 115 [tabs z ts,.int .i64 x] s=some (.tuple [.int .i64 (t:Int),.int .i64 y],s):=by
 have L:=afz hc z ts dF (ts.length+1) s ts.length 0 (ts.length+1) x (by omega) (by omega) h0 h1;rw[Zb7,hw]at L;simp only[show((0:Nat):Int)=0 from rfl]at L;rw[Jz hc (ts.length+1) (r:=(.tuple [.int .i64 (t:Int),.int .i64 y],s)),ak (Plain.tuple (by simp[Plain.int])) (aM.refl s)];rw[MZ];simp only[aj];rw[L];simp only[aE,aH]
end
set_option linter.unusedSimpArgs false
theorem Tb{gn tn:List (List Nat)}{zs:List Int}{q:List Int}{w:List Nat}(h:([]:List Nat)∈bF 32 [] w\/(bF 32 [] w).length≠4\/(bF 32 [] w)[0]? ≠some [115,101,97,116]):ql gn tn zs q w=(3,q):=by
 unfold ql;split
 . rename_i a g t n e;rw[e]at h;by_cases h1:a≠[115,101,97,116]\/g=[]\/t=[]
   .rw[Za4 h1]
   . (rw[ Za2 h1];have ha:a=[115,101,97,116]:=Classical.not_not.1 λe=>h1 (.inl e));have hg:g≠[]:=λe=>h1 (.inr (.inl e))
     have ht:t≠[]:=λe=>h1 (.inr (.inr e))
     rcases h with h|h|h
     .  have hn:n=[]:=by
         simp only[Za7,Zd0,Zh3]at h;rcases h with h|h|h|h
         .rw[ha]at h;cases h
         .exact absurd h.symm hg
         .exact absurd h.symm ht
         .exact h.symm
        subst hn;rfl
     .  exact absurd rfl h
     .  rw[ha]at h;exact absurd rfl h
 .rfl
theorem ajo{gn tn:List (List Nat)}{zs:List Int}{q:List Int}{w a g t n:List Nat}(hs:bF 32 [] w=[a,g,t,n])(ha:a=[115,101,97,116])(hg:g≠[])(ht:t≠[]):ql gn tn zs q w=match num n with
  |none=>((3:Int),q)
  |some k=>match iR gn g with
   |none=>(6,q)
   |    some i=>match iR tn t with
        |none=>(6,q)
        |some j=>if zs.getD j 0<=(k:Int)then(50,q)else if 0<=q.getD i (-1)then(5,q)else if(zs.take j).sum+k∈q then(51,q)else(0,q.set i ((zs.take j).sum+k)):=by
 unfold ql;rw[hs];show(if a≠[115,101,97,116]\/g=[]\/t=[]then((3:Int),q)else _)=_;rw[Za2 (by rintro(h|h|h);exact h ha;exact hg h;exact ht h)];rfl
theorem afB(z:Bool)(l:List Ty):dD 3 (cT z l):=dD.ro λr hr v hv=>by simp only[Zf2]at hr;obtain⟨g,_,rfl⟩:=hr;simp only[Ty.cells,Za7,Zd0,Zh3]at hv;rcases hv with rfl|rfl|rfl<;>first|exact dD.str _|exact dD.int _ _
theorem aR.beq(p:aR):dN (.agg p.cells) (.agg p.cells)=true:=XQ (by
 intro v hv;simp only[aR.cells,Za7,Zd0,Zh3]at hv;rcases hv with rfl|rfl|rfl|rfl|rfl
 .exact UJ _ _
 .exact By _ _
 .exact afB _ _
 .exact Mu _ _
 .exact Xp _ _)
def pU(p:aR)(ls:List (List Nat))(wh:Bool)(i:Nat)(q:List Int):List Int×Nat×Int:=if wh=true then jr p (ls.drop i++[[]]) i q else jr p (ls.drop i) i q
theorem ahQ{p:aR}{ls:List (List Nat)}{wh:Bool}{q:List Int}:pU p ls wh ls.length q=(q,0,0):=by unfold pU;rw[Zi3];cases wh<;>rfl
theorem XD{p:aR}{ls:List (List Nat)}{i:Nat}(hi:i<ls.length)(h:i+1=ls.length)(cU:ls[i]≠[]){q:List Int}:pU p ls false i q=([],i,3):=by
 unfold pU;rw[Za2 (by simp),Za8 hi,Zh2 (by omega)];show(if ls[i]=[]then _ else _)=_;rw[Za2 cU]
theorem XE{p:aR}{ls:List (List Nat)}{wh:Bool}{i:Nat}(hi:i<ls.length)(h:wh=true\/i+1<ls.length){q:List Int}:pU p ls wh i q=if(lW p q ls[i]).1=0 then pU p ls wh (i+1) (lW p q ls[i]).2 else([],i,(lW p q ls[i]).1):=by
 have key:∀(x:List Nat)(l:List (List Nat)),l≠[]->jr p (x::l) i q=if(lW p q x).1=0 then jr p l (i+1) (lW p q x).2 else([],i,(lW p q x).1):=λx l hl=>by
   cases l with
   |nil=>exact absurd rfl hl
   |cons y ys=>rfl
 unfold pU;rw[Za8 hi];rcases h with rfl|h
 .rw[Za4 rfl,Za4 rfl,Ze8,key _ _ (by simp)]
 . have hd:ls.drop (i+1)≠[]:=(by rw[Za8 h];exact List.cons_ne_nil _ _);cases wh
   .simp only[Zd4,Ze1];rw[key _ _ hd]
   .rw[Za4 rfl,Za4 rfl,Ze8,key _ _ (by simp)]
section
variable{s0 s sA:St}{p:aR}{P V:AV}{q:List Int}
theorem afC{b:Pos}(hb:sA.heap.get b=some (.cells p.cells 0))(xp:p.gs.length<=1000)(x1:AV)(F:Nat):∀(m k f:Nat)(s:St)(V:AV),k+m=p.gs.length->m<f->Mk 1 sA s V ((List.replicate k (-1)).map cq)->
  ∃s' V',Mk 1 sA s' V' ((List.replicate p.gs.length (-1)).map cq)/\∀k2:Q2,jF c F k2 f [x1,.ptr b 0,V,.int .i64 (k:Int)] s=k2 [x1,.ptr b 0,V'] s':=by
 intro m;induction m with
 |zero=>
  intro k f s V hk hf M;obtain⟨f,rfl⟩:∃g,f=g+1:=⟨f - 1,by omega⟩
  obtain rfl:k=p.gs.length:=by omega
  have l6:=M.aN.get hb;refine⟨s,V,M,λk2=> ?_⟩;rw[xA];simp[l6,aF]
 |succ m ih=>
  intro k f s V hk hf M;obtain⟨f,rfl⟩:∃g,f=g+1:=⟨f - 1,by omega⟩
  have l6:=M.aN.get hb;obtain⟨s5,V5,p1,p2,_⟩:=Mk.push (R:=AV×St) (c:=c) (bytes:=8) M (z:=[.int .i64 0]) (x:= .int .i64 (-1)) rfl rfl rfl (by decide) (by rw[Zb3,Zm0];omega) (by rw[Zb3,Zm0];omega);have es:(List.replicate k (-1:Int)).map cq++[(AV.int .i64 (-1)).cells]=(List.replicate (k+1) (-1:Int)).map cq:=by rw[List.replicate_succ',Zg3];rfl
  rw[es]at p2;obtain⟨s',V',q1,q2⟩:=ih (k+1) f s5 V5 (by omega) (by omega) p2;refine⟨s',V',q1,λk2=> ?_⟩;have d:decide ((k:Int)<(p.gs.length:Int))=true:=H2 (by omega);have wr:Unit->au .i64 ((k:Int)+1)=((k+1:Nat):Int):=λ_=>wrap64 (by omega) (by omega)
  have ld:∀(K:AV->St->Option (AV×St)),ai c (.load none) [.ptr b (0+1)] s K=K (bC p.gz p.gs) s:=λK=>by rw[dS,l6];rfl
  rw[<-q2 k2,xA];simp only[aE,aH,aj,cO,ld,aap,aU,d,bk,p1,dR,wr ()]
theorem afD (hc:bB c)(hp:p.ic)(dF:p.ts.length<=100)(xp:p.gs.length<=1000)(ahR:∀j,j<=p.ts.length->aO (p.ts.take j)<=1000000){b:Pos}(hb:sA.heap.get b=some (.cells p.cells 0)){ls:List (List Nat)}(hls:ls.length<=1000000)(kF:∀w∈ls,(∀x∈w,x<256)/\w.length<=1000000)(wh:Bool)(hwh:wh=false->∀h:ls≠[],ls.getLast h≠[])(F:Nat):
  ∀(m i f:Nat)(s:St)(q:List Int),i+m=ls.length->m<f->Mk 1 sA s P (q.map cq)->QS 1 s V (ls.map iT)->(∀b,dY P=some b->dY V≠some b)->q.length=p.gs.length->
  ∃ s' q',(pU p ls wh i q).1=(if(pU p ls wh i q).2.2=0 then q' else [])/\Mk 1 sA s' P (q'.map cq)/\∀k1 k4:Q2,fO c F k1 k4 f [.ptr b 0,P,V,.bool wh,.int .i64 (i:Int)] s=
    if(pU p ls wh i q).2.2=0 then k4 [P] s' else k1 [.av,.int .i64 ((pU p ls wh i q).2.1:Int),.int .i64 (pU p ls wh i q).2.2] s':=by
 intro m;induction m with
 |zero=>
  intro i f s q hi hf M Q ahS PZ;obtain⟨f,rfl⟩:∃g,f=g+1:=⟨f - 1,by omega⟩
  obtain rfl:i=ls.length:=by omega
  rw[ahQ];have ln:∀(K:AV->St->Option (AV×St)),ai c (.lenB .l) [V] s K=K (.int .i64 (ls.length:Int)) s:=λK=>by
    have:=Q.lenB (c:=c) K s
    rwa [Zb3]at this
  have d:decide ((ls.length:Int)<(ls.length:Int))=false:=H3 (by omega);refine⟨s,q,rfl,M,λk1 k4=> ?_⟩;rw[b9];simp only[aE,aH,aj,ln,aU,d,bG];rfl
 |succ m ih=>
  intro i f s q hi hf M Q ahS PZ;obtain⟨f,rfl⟩:∃g,f=g+1:=⟨f - 1,by omega⟩
  have fU:i<ls.length:=by omega
  have cU:ls≠[]:=λe=>by rw[e]at fU;simp at fU
  obtain⟨x2,x3⟩:=kF ls[i] (Zc6 fU);have U0:=M.aN.wf;obtain⟨lb,lo,lr⟩:=Q.rd (λr hr=>by obtain⟨y,_,rfl⟩:=Zf2.1 hr;rfl) (r:=iT ls[i]) (i:=i) (by rw[Zb5,H1 fU];rfl);have p1:=λ{R}=>@lr.st R
  have p2:∀(K:AV->St->Option (AV×St)),ai c (.load none) [.ptr lb lo] s K=K (.str ls[i]) s:=λK=>by have:=lr.at' 0 _ rfl;rw[Zf8]at this;rw[dS,this];rfl
  have lnv:∀{t:St},QS 1 t V (ls.map iT)->∀(K:AV->St->Option (AV×St)),ai c (.lenB .l) [V] t K=K (.int .i64 (ls.length:Int)) t:=λ{t} hq K=>by
    have:=hq.lenB (c:=c) K t
    rwa [Zb3]at this
  have ln:=lnv Q;obtain⟨W,s1,wd,G1,MW⟩:=ahM hc x3 s U0;have M1:=M.grow G1;have Q1:=Q.aN G1;have R8:=lnv Q1;have nD:=G1.get (M.aN.get hb);have d:decide ((i:Int)<(ls.length:Int))=true:=H2 (by omega);have w1:Unit->au .i64 ((ls.length:Int) - 1)=((ls.length - 1:Nat):Int):=λ_=>by rw[wrap64 (by omega) (by omega)];omega
  have bad:∀e:Int,e≠0->pU p ls wh i q=([],i,e)->(∀k1 k4:Q2,fO c F k1 k4 (f+1) [.ptr b 0,P,V,.bool wh,.int .i64 (i:Int)] s=k1 [.av,.int .i64 (i:Int),.int .i64 e] s1)->
        ∃ s' q',(pU p ls wh i q).1=(if(pU p ls wh i q).2.2=0 then q' else [])/\Mk 1 sA s' P (q'.map cq)/\∀k1 k4:Q2,fO c F k1 k4 (f+1) [.ptr b 0,P,V,.bool wh,.int .i64 (i:Int)] s=
          if(pU p ls wh i q).2.2=0 then k4 [P] s' else k1 [.av,.int .i64 ((pU p ls wh i q).2.1:Int),.int .i64 (pU p ls wh i q).2.2] s':=λe he hr hh=>by
    rw[hr];exact⟨s1,q,by rw[Za2 he],M1,λk1 k4=>by rw[Za2 he,hh]⟩
  by_cases kH:([]:List Nat)∈bF 32 [] ls[i]
  . have dn:decide (([]:List Nat)∉bF 32 [] ls[i])=false:=H3 (λh=>h kH);rw[dn]at wd;refine bad 3 (by decide) ?_ λk1 k4=> ?_
    .   by_cases hL:wh=true\/i+1<ls.length
        .have es:=XE (p:=p) (q:=q) fU hL;unfold lW at es;rw[es,Tb (.inl kH)];rfl
        .have ahT:wh=false:=(by cases wh;rfl;exact absurd (.inl rfl) hL);subst ahT;exact XD fU (by omega) (by have:=hwh rfl cU;rw[List.getLast_eq_getElem]at this;simpa [show ls.length - 1=i by omega]using this)
    .   rw[b9];simp only[aE,aH,aj,ln,aU,d,bk,p1,p2,aK,wd,aJ,bE,Za5,Za6,bP,eC,Ze7,l7,nc,cr]
  have dn:decide (([]:List Nat)∉bF 32 [] ls[i])=true:=H2 kH;rw[dn]at wd;have M2:=MW kH;by_cases hL:wh=true\/i+1<ls.length;rotate_left
  . have ahT:wh=false:=(by cases wh;rfl;exact absurd (.inl rfl) hL);subst ahT;have d2:decide ((i:Int)=((ls.length - 1:Nat):Int))=true:=H2 (by omega);refine bad 3 (by decide) (XD fU (by omega) (by
            have:=hwh rfl cU;rw[List.getLast_eq_getElem]at this;simpa [show ls.length - 1=i by omega]using this)) λk1 k4=> ?_
    rw[b9];simp only[aE,aH,aj,ln,aU,d,bk,p1,p2,aK,wd,aJ,bE,Za5,Za6,bP,eC,Zb9,bN,R8,kW,w1 (),cN,d2,Ze7,cr,aZ,l7,nc]
  have d2:(decide ((i:Int)=((ls.length - 1:Nat):Int))&& !wh)=false:=by
    rcases hL with rfl|h
    .   simp
    .   rw[H3 (by omega),Zj2]
  have Ff:∀(K:AV->St->Option (AV×St)),bO c (.bool (decide ((i:Int)=((ls.length - 1:Nat):Int)))) true .move [.bool wh] s1 (λx70 t=>bO c (.bool (decide ((i:Int)=((ls.length - 1:Nat):Int)))) true (.un .not) [x70] t λx71 t=>ai c .pick [.bool (decide ((i:Int)=((ls.length - 1:Nat):Int))),x71,.bool false] t K)=K (.bool false) s1:=λK=>by
    cases hd:decide ((i:Int)=((ls.length - 1:Nat):Int))with
    |false=>simp only[OH,aZ]
    |   true=>
        rw[hd,Ze4]at d2;have:wh=true:=(by cases wh;cases d2;rfl);subst this;simp only[bN,aj,eC,Zb9,cr]
  have U6:∀(K:AV->St->Option (AV×St)),ai c (.lenB .l) [W] s1 K=K (.int .i64 ((bF 32 [] ls[i]).length:Int)) s1:=λK=>by
    have:=M2.own.lenB (c:=c) K s1
    rwa [Zb3]at this
  have es:=XE (p:=p) (q:=q) fU hL;unfold lW at es;by_cases Xh:(bF 32 [] ls[i]).length=4;rotate_left
  .have d3:decide (((bF 32 [] ls[i]).length:Int)=4)=false:=H3 (by omega);(refine bad 3 (by decide) (by rw[es,Tb (.inr (.inl Xh))];rfl) λk1 k4=> ?_);rw[b9];simp only[aE,aH,aj,ln,aU,d,bk,p1,p2,aK,wd,aJ,bE,Za5,Za6,bP,eC,Zb9,bN,R8,kW,w1 (),cN,Ff,aZ,U6,dQ,d3,Ze7,l7,nc,cr]
  have d3:decide (((bF 32 [] ls[i]).length:Int)=4)=true:=H2 (by omega);obtain⟨a,g,t,n,hs⟩:∃a g t n,bF 32 [] ls[i]=[a,g,t,n]:=by
    match h:bF 32 [] ls[i],Xh with
    |[a,g,t,n],_=>exact⟨a,g,t,n,rfl⟩
  have M2':=M2;rw[hs]at M2';have rw4:∀(j:Nat)(u:List Nat),([a,g,t,n]:List (List Nat))[j]? =some u->∃bb oo,Rd s1 1 W j bb oo (iT u):=λj u hj=>M2'.own.rd M2'.row (by rw[Zb5,hj];rfl)
  obtain⟨b0,o0,r0⟩:=rw4 0 a rfl;obtain⟨b1,o1,r1⟩:=rw4 1 g rfl;obtain⟨b2,o2,r2⟩:=rw4 2 t rfl;obtain⟨b3,o3,r3⟩:=rw4 3 n rfl;have i0:∀(K:AV->St->Option (AV×St))(t:St),ai c (.idxA 1 none) [W,.int .i64 0] t K=K (.ptr b0 o0) t:=λK t=>r0.st c K .i64 t
  have i3:∀(K:AV->St->Option (AV×St))(t:St),ai c (.idxA 1 none) [W,.int .i64 3] t K=K (.ptr b3 o3) t:=λK t=>r3.st c K .i64 t
  have i1p:∀(K:AV->Option (AV×St)),dI (.idxA 1 none) [W,.int .i64 1] K=K (.ptr b1 o1):=λK=>r1.pr K .i64
  have NK:∀(K:AV->Option (AV×St)),dI (.idxA 1 none) [W,.int .i64 2] K=K (.ptr b2 o2):=λK=>r2.pr K .i64
  have Xf:∀{bb:Pos}{oo:Nat}{j:Nat}{u:List Nat},Rd s1 1 W j bb oo (iT u)->((cellsOf (s1.heap.get bb)).bind λcs=>cs[oo]?)=some (.str u):=λr=>by
    have:=r.at' 0 _ rfl
    rwa [Zf8]at this
  have l0:∀(K:AV->St->Option (AV×St)),ai c (.load none) [.ptr b0 o0] s1 K=K (.str a) s1:=λK=>by rw[dS,Xf r0];rfl
  have l3:∀(K:AV->St->Option (AV×St)),ai c (.load none) [.ptr b3 o3] s1 K=K (.str n) s1:=λK=>by rw[dS,Xf r3];rfl
  have l1p:∀(K:AV->Option (AV×St)),fP (.load none) [.ptr b1 o1] s1.heap (λ_=>true) K=K (.str g):=λK=>by rw[oN,Xf r1];rfl
  have sb:∀u:List Nat,dN (.str u) (.str u)=true:=λu=>by simp[dN,iE,fc,jX.2 rfl]
  have NL:∀(K:AV->Option (AV×St)),fP (.load none) [.ptr b2 o2] s1.heap (λv=>eA (.load none) [.ptr b2 o2] v (iV [] s1.heap)&&true) K=K (.str t):=λK=>zG K (Xf r2) (Xf r2) (sb _)
  have hcut:cut p.cells 0 5=some p.cells:=bJ rfl;have f5:∀(K:AV->Option (AV×St)),fP (.load (some 5)) [.ptr b 0] s1.heap (λ_=>true) K=K (.agg p.cells):=λK=>by simp[nD,aF,hcut]
  have f5c:∀(K:AV->Option (AV×St)),fP (.load (some 5)) [.ptr b 0] s1.heap (λv=>eA (.load (some 5)) [.ptr b 0] v (iV [] s1.heap)&&true) K=K (.agg p.cells):=λK=>ahq K (by rw[nD];exact hcut) (by rw[nD];exact hcut) p.beq
  have f0:∀(K:AV->St->Option (AV×St)),ai c (.load none) [.ptr b (0+0)] s1 K=K (tabs p.tz p.ts) s1:=λK=>by rw[dS,nD];rfl
  by_cases ha:a=[115,101,97,116]
  rotate_left
  .have da:decide (a=[115,101,97,116])=false:=H3 ha;(refine bad 3 (by decide) (by rw[es,Tb (.inr (.inr (by rw[hs];exact λe=>ha (Zf4 e))))];rfl) λk1 k4=> ?_);rw[b9];simp only[aE,aH,aj,ln,aU,d,bk,p1,p2,aK,wd,aJ,bE,Za5,Za6,bP,eC,Zb9,bN,R8,kW,w1 (),cN,Ff,aZ,U6,dQ,d3,i0,l0,eN,da,Ze7]
  have da:decide (a=[115,101,97,116])=true:=H2 ha;have hg:g≠[]:=λe=>kH (by rw[hs,e];simp)
  have ht:t≠[]:=λe=>kH (by rw[hs,e];simp)
  have AK:∀u∈[a,g,t,n],∀x∈u,x<256:=by
    rw[<-hs];exact U5 ls[i] [] x2 (λx hx=>by cases hx)
  have ep:=ajo (gn:=p.gs.map (·.name)) (tn:=p.ts.map (·.name)) (zs:=p.ts.map bh) (q:=q) hs ha hg ht;have nm:=adO hc (w:=n) (AK n (by simp)) s1;have ng:=ahO hc (p:=p) g xp G1.wf;have nt:=afy hc (p:=p) t (by omega) G1.wf;unfold mz at nm;cases Jg:num n with
  | none=>
    rw[Jg]at ep nm;dsimp only at ep;(refine bad 3 (by decide) (by rw[es,ep];rfl) λk1 k4=> ?_);rw[b9];simp only[aE,aH,aj,ln,aU,d,bk,p1,p2,aK,wd,aJ,bE,Za5,Za6,bP,eC,Zb9,bN,R8,kW,w1 (),cN,Ff,aZ,U6,dQ,d3,i0,l0,eN,da,bG,i3,l3,nm,Ze7]
  |some k=>
  rw[Jg]at ep nm;dsimp only at ep;have hk9:=afl Jg;unfold Ta at ng nt;cases Qi:iR (p.gs.map (·.name)) g with
  | none=>
    rw[Qi]at ep ng;dsimp only at ep;have dm:decide ((-1:Int)<0)=true:=rfl;(refine bad 6 (by decide) (by rw[es,ep];rfl) λk1 k4=> ?_);rw[b9];simp only[aE,aH,aj,ln,aU,d,bk,p1,p2,aK,wd,aJ,bE,Za5,Za6,bP,eC,Zb9,bN,R8,kW,w1 (),cN,Ff,aZ,U6,dQ,d3,i0,l0,eN,da,bG,i3,l3,nm,f5,gJ,i1p,l1p,ng,f5c,NK,NL,nt,dm,l7,nc,cr]
  |some u=>
  rw[Qi]at ep ng;dsimp only at ep;have WD:u<p.gs.length:=by unfold iR at Qi;rw[Zj0]at Qi;obtain⟨h1,_⟩:=Qi;simpa using h1
  have du:decide ((u:Int)<0)=false:=H3 (by omega);cases Qj:iR (p.ts.map (·.name)) t with
  | none=>
    rw[Qj]at ep nt;dsimp only at ep;have dm:decide ((-1:Int)<0)=true:=rfl;(refine bad 6 (by decide) (by rw[es,ep];rfl) λk1 k4=> ?_);rw[b9];simp only[aE,aH,aj,ln,aU,d,bk,p1,p2,aK,wd,aJ,bE,Za5,Za6,bP,eC,Zb9,bN,R8,kW,w1 (),cN,Ff,aZ,U6,dQ,d3,i0,l0,eN,da,bG,i3,l3,nm,f5,gJ,i1p,l1p,ng,f5c,NK,NL,nt,du,dm,l7,nc,cr]
  |some j=>
  rw[Qj]at ep nt;dsimp only at ep;have Tz:j<p.ts.length:=by unfold iR at Qj;rw[Zj0]at Qj;obtain⟨h1,_⟩:=Qj;simpa using h1
  have dj:decide ((j:Int)<0)=false:=H3 (by omega);have ld7:∀(K:AV->St->Option (AV×St)),ai c (.load (some 7)) [.fp (p.ts.map aG.cells) j 0] s1 K=K (.agg p.ts[j].cells) s1:=λK=>by
    have hcut:cut p.ts[j].cells 0 7=some p.ts[j].cells:=bJ rfl;simp[Tz,hcut]
  have ia7:∀(K:AV->St->Option (AV×St)),ai c (.idxA 7 none) [tabs p.tz p.ts,.int .i64 (j:Int)] s1 K=K (.fp (p.ts.map aG.cells) j 0) s1:=λK=>by unfold tabs;rw[FT,Zb3,Za4 Tz];rfl
  have rs:=R7 hc p.ts[j] s1;have rf:=aa2 hc p.tz p.ts dF (n:=j) (by omega) s1;have esz:(p.ts.map bh).getD j 0=bh p.ts[j]:=by rw[Zc1,Zb5,H1 Tz];rfl
  have est:((p.ts.map bh).take j).sum=aO (p.ts.take j):=by rw[<-Zk8];rfl
  rw[esz,est]at ep;have hs0:0<=aO (p.ts.take j):=(pz _).1;have J3:=ahR j (by omega);have wk:Unit->au .i64 (aO (p.ts.take j)+(k:Int))=aO (p.ts.take j)+(k:Int):=λ_=>wrap64 (by omega) (by omega)
  by_cases ew:bh p.ts[j]<=(k:Int)
  .rw[Za4 ew]at ep;have dz:decide (bh p.ts[j]<=(k:Int))=true:=H2 ew;(refine bad 50 (by decide) (by rw[es,ep];rfl) λk1 k4=> ?_);rw[b9];simp only[aE,aH,aj,ln,aU,d,bk,p1,p2,aK,wd,aJ,bE,Za5,Za6,bP,eC,Zb9,bN,R8,kW,w1 (),cN,Ff,aZ,U6,dQ,d3,i0,l0,eN,da,bG,i3,l3,nm,f5,gJ,i1p,l1p,ng,f5c,NK,NL,nt,du,dj,cO,f0,ia7,ld7,rs,oa,dz]
  rw[Za2 ew]at ep;have dz:decide (bh p.ts[j]<=(k:Int))=false:=H3 ew;obtain⟨bb,bo,s4,r4,w4,M4,k4'⟩:=Mk.Sg (c:=c) M1 (i:=u) (by omega) (aO (p.ts.take j)+(k:Int));have y1:=λ{R}=>@r4.st R
  have y2:∀(K:AV->St->Option (AV×St)),ai c (.load none) [.ptr bb bo] s1 K=K (.int .i64 (fn q u)) s1:=λK=>by have:=r4.at' 0 _ rfl;rw[Zf8]at this;rw[dS,this];rfl
  by_cases U1:0<=q.getD u (-1)
  .rw[Za4 U1]at ep;have dw:decide (0<=fn q u)=true:=H2 U1;(refine bad 5 (by decide) (by rw[es,ep];rfl) λk1 k4=> ?_);rw[b9];simp only[aE,aH,aj,ln,aU,d,bk,p1,p2,aK,wd,aJ,bE,Za5,Za6,bP,eC,Zb9,bN,R8,kW,w1 (),cN,Ff,aZ,U6,dQ,d3,i0,l0,eN,da,bG,i3,l3,nm,f5,gJ,i1p,l1p,ng,f5c,NK,NL,nt,du,dj,cO,f0,ia7,ld7,rs,oa,dz,y1,y2,dw]
  rw[Za2 U1]at ep;have dw:decide (0<=fn q u)=false:=H3 U1;have rwho:=ajn hc (s:=s1) (L:=P) (q:=q) (.inr M1.own) (by omega) (aO (p.ts.take j)+(k:Int));have dn2:=ahp q (aO (p.ts.take j)+(k:Int));by_cases pX:aO (p.ts.take j)+(k:Int)∈q
  . rw[Za4 pX]at ep;have dk:decide (0<=GU q (aO (p.ts.take j)+(k:Int)))=true:=by
        rw[Zl9.2 pX]at dn2;exact H2 (Int.not_lt.1 (Zl4 (by simpa using dn2)))
    (refine bad 51 (by decide) (by rw[es,ep];rfl) λk1 k4=> ?_);rw[b9];simp only[aE,aH,aj,ln,aU,d,bk,p1,p2,aK,wd,aJ,bE,Za5,Za6,bP,eC,Zb9,bN,R8,kW,w1 (),cN,Ff,aZ,U6,dQ,d3,i0,l0,eN,da,bG,i3,l3,nm,f5,gJ,i1p,l1p,ng,f5c,NK,NL,nt,du,dj,cO,f0,ia7,ld7,rs,oa,dz,y1,y2,dw,rf,dR,wk (),rwho,dk]
  rw[Za2 pX]at ep;have dk:decide (0<=GU q (aO (p.ts.take j)+(k:Int)))=false:=by
    have:q.contains (aO (p.ts.take j)+(k:Int))=false:=(by rw[<-Bool.not_eq_true,Zl9];exact pX);rw[this]at dn2;have h:=Zh6 (by simpa using dn2);exact H3 (by omega)
  have Q4:QS 1 s4 V (ls.map iT):=Q1.mono λbb x hx hy=>k4' bb x (λe=>ahS bb e hx) hy
  rw[ep]at es;dsimp only at es;rw[Za4 rfl]at es;rw[es];obtain⟨s',q',z1,z2,z3⟩:=ih (i+1) f s4 (q.set u (aO (p.ts.take j)+(k:Int))) (by omega) (by omega) M4 Q4 ahS (by rw[Zq5];exact PZ);have wi:Unit->au .i64 ((i:Int)+1)=((i+1:Nat):Int):=λ_=>wrap64 (by omega) (by omega)
  refine⟨s',q',z1,z2,λk1 k4=> ?_⟩;rw[<-z3 k1 k4,b9];simp only[aE,aH,aj,ln,aU,d,bk,p1,p2,aK,wd,aJ,bE,Za5,Za6,bP,eC,Zb9,bN,R8,kW,w1 (),cN,Ff,aZ,U6,dQ,d3,i0,l0,eN,da,bG,i3,l3,nm,f5,gJ,i1p,l1p,ng,f5c,NK,NL,nt,du,dj,cO,f0,ia7,ld7,rs,oa,dz,y1,y2,dw,rf,dR,wk (),rwho,dk,w4,wi ()]
end
set_option linter.unusedSimpArgs false
def CS:Nat->Nat->List Nat
 |0,_=>[]
 |f+1,n=>if n<10 then [48+n]else CS f (n / 10)++[48+n % 10]
theorem aa5:∀(f n:Nat),(CS f n).length<=f
 |0,n=>by simp[CS]
 |f+1,n=>by have:=aa5 f (n / 10);unfold CS;split<;>simp<;>omega
theorem afE(d:Nat)(hd:d<256)(s:St)(K:AV->St->Option (AV×St)):ai c (.buildSlice 1 1 [.int .u8 0] [0]) [.int .u8 (d:Int)] s (λx t=>ai c (.conv .ofBytes) [x] t K)=K (.str [d]) (af s (.cells [.int .u8 (d:Int)] 0)):=by
 rw[show ai c (.buildSlice 1 1 [.int .u8 0] [0]) [.int .u8 (d:Int)] s (λx t=>ai c (.conv .ofBytes) [x] t K)=ai c (.conv .ofBytes) [.slice s.next 0 1 (some 1) 1] (af s (.cells [.int .u8 (d:Int)] 0)) K from rfl];have:ax.run (λb=>(af s (.cells [.int .u8 (d:Int)] 0)).heap.get b) (af s (.cells [.int .u8 (d:Int)] 0)).next (.conv .ofBytes) [.slice s.next 0 1 (some 1) 1]=some (.val (.str [d])):=by
  have hd':Nat.blt d 256=true:=by simpa using hd
  simp only[ax.run,wD,aC];show(match bytesOf [.int .u8 (.ofNat d)]with|some s=>some (cL.val (.str s))|none=>none)=_;simp only[bytesOf,hd']
 unfold ai Go.Ai.bY;rw[this]
theorem adP(x:Int)(d:Nat)(hx:x=(d:Int))(hd:d<256)(s:St)(K:AV->St->Option (AV×St)):ai c (.buildSlice 1 1 [.int .u8 0] [0]) [.int .u8 x] s (λx t=>ai c (.conv .ofBytes) [x] t K)=K (.str [d]) (af s (.cells [.int .u8 x] 0)):=by subst hx;exact afE d hd s K
theorem XF (hc:bB c): ∀(f n:Nat),n<10 ^ f->f<=10->0<f->∀st:St,Wf st->c 116 [.int .i64 (n:Int)] st=some (.str (CS f n),st)
 |0,n,_,_,h0,_,_=>by omega
 |f +   1,n,hn,hf,_,st,hw=>by
  have hp:10 ^ (f+1)<=10 ^ 10:=Zm5 (by decide) hf
  have hn10:n<10000000000:=by   have:(10:Nat) ^ 10=10000000000:=by decide
                                omega
  by_cases h:n<10
  . have hS:CS (f+1) n=[48+n]:=(by unfold CS;rw[Za4 h]);have hg:=Grew.af hw (.cells [.int .u8 (48+(n:Int))] 0);rw[hS,An hc 1 (r:=(.str [48+n],af st (.cells [.int .u8 (48+(n:Int))] 0))),ak (Plain.str _) hg.keeps];rw[Cr];have w1:au .i64 (48+(n:Int))=48+(n:Int):=wrap64 (by omega) (by omega);have w2:au .u8 (48+(n:Int))=48+(n:Int):=aia (by omega) (by omega);have hd:decide ((n:Int)<10)=true:=H2 (by omega);have adQ:∀(i:Int)(K:AV->St->Option (AV×St))(t:St),ai c (.conv (.int .u8)) [.int .i64 i] t K=K (.int .u8 (au .u8 i)) t:=λi K t=>rfl
    have hdig:=λK=>adP (c:=c) (48+(n:Int)) (48+n) (by omega) (by omega) st K
    simp[-eo,hd,w1,w2,adQ,hdig]
  . have hf0:0<f:=by
        rcases Zm8 f with h0|h0
        .subst h0;simp at hn;omega
        .exact h0
    have hS:CS (f+1) n=CS f (n / 10)++[48+n % 10]:=(by rw[CS,Za2 h]);have ih:=XF hc f (n / 10) (by rw[Zo9]at hn;omega) (by omega) hf0 st hw;have hg:=Grew.af hw (.cells [.int .u8 (48+((n:Int) % 10))] 0);rw[hS,An hc 1 (r:=(.str (CS f (n / 10)++[48+n % 10]),af st (.cells [.int .u8 (48+((n:Int) % 10))] 0))),ak (Plain.str _) hg.keeps];rw[Cr];have hd:decide ((n:Int)<10)=false:=H3 (by omega);have hquo:∀(K:AV->Option (AV×St)),dI (.bin .quo .num) [.int .i64 (n:Int),.int .i64 10] K=K (.int .i64 ((n / 10:Nat):Int)):=λK=>by
        have:ax.run (λ_=>none) .h (.bin .quo .num) [.int .i64 (n:Int),.int .i64 10]=some (.val (.int .i64 ((n / 10:Nat):Int))):=by
          have e0:yK (10:Int) 0=false:=rfl;have e1:(n:Int).tdiv 10=((n / 10:Nat):Int):=(by rw[Int.tdiv_eq_ediv_of_nonneg (by omega)];omega);have e2:au .i64 ((n / 10:Nat):Int)=((n / 10:Nat):Int):=wrap64 (by omega) (by omega);simp only[ax.run,fI,jT,cV,e0,e1,e2]
        unfold dI;rw[this]
    have hrem:∀(K:AV->Option (AV×St)),dI (.bin .rem .num) [.int .i64 (n:Int),.int .i64 10] K=K (.int .i64 ((n:Int) % 10)):=λK=>by
        have:ax.run (λ_=>none) .h (.bin .rem .num) [.int .i64 (n:Int),.int .i64 10]=some (.val (.int .i64 ((n:Int) % 10))):=by
          have e0:yK (10:Int) 0=false:=rfl;have e1:(n:Int).tmod 10=(n:Int) % 10:=Int.tmod_eq_emod_of_nonneg (by omega);simp only[ax.run,fI,jT,cV,e0,e1]
        unfold dI;rw[this]
    have w1:au .i64 (48+(n:Int) % 10)=48+(n:Int) % 10:=wrap64 (by omega) (by omega);have w2:au .u8 (48+(n:Int) % 10)=48+(n:Int) % 10:=aia (by omega) (by omega);have adQ:∀(i:Int)(K:AV->Option (AV×St)),dI (.conv (.int .u8)) [.int .i64 i] K=K (.int .u8 (au .u8 i)):=λi K=>rfl
    have hcat:∀(x y:List Nat)(K:AV->Option (AV×St)),x.length+y.length<=9223372036854775807->dI (.bin .add .num) [.str x,.str y] K=K (.str (x++y)):=λx y K hxy=>by
        have:ax.run (λ_=>none) .h (.bin .add .num) [.str x,.str y]=some (.val (.str (x++y))):=(by simp only[ax.run,fI,jT,cF,H2 hxy]);unfold dI;rw[this]
    have AD:∀(K:AV->AB->Option (AV×St)),Ry (.buildSlice 1 1 [.int .u8 0] [0]) [.int .u8 (48+(n:Int) % 10)] st K=K (.slice st.next 0 1 (some 1) 1) (.cells [.int .u8 (48+(n:Int) % 10)] 0):=λK=>aiI rfl rfl st K
    have hrd:∀(h2:T AB)(K:AV->Option (AV×St)),fP (.conv .ofBytes) [.slice st.next 0 1 (some 1) 1] (T.put (some (.cells [.int .u8 (48+(n:Int) % 10)] 0)) st.next st.heap) (λv=>eA (.conv .ofBytes) [.slice st.next 0 1 (some 1) 1] v (iV [(st.next,.cells [.int .u8 (48+(n:Int) % 10)] 0)] h2)) K=K (.str [48+n % 10]):=λh2 K=>by
        have hb:bytesOf [.int .u8 (48+(n:Int) % 10)]=some [48+n % 10]:=by
          have:(48+(n:Int) % 10)=((48+n % 10:Nat):Int):=(by omega);rw[this];have hd':Nat.blt (48+n % 10) 256=true:=(by simp;omega);show bytesOf [.int .u8 (.ofNat (48+n % 10))]=_;simp only[bytesOf,hd']
        have run:∀H:T AB,ax.run (λb=>(T.put (some (.cells [.int .u8 (48+(n:Int) % 10)] 0)) st.next H).get b) .h (.conv .ofBytes) [.slice st.next 0 1 (some 1) 1]=some (.val (.str [48+n % 10])):=λH=>by
          simp only[ax.run,wD,T.eB];show(match bytesOf [.int .u8 (48+(n:Int) % 10)]with|some s=>some (cL.val (.str s))|none=>none)=_;rw[hb]
        unfold fP;rw[show ax.run (λ_=>none) .h (.conv .ofBytes) [.slice st.next 0 1 (some 1) 1]=none from rfl];simp only[run];have:eA (.conv .ofBytes) [.slice st.next 0 1 (some 1) 1] (.str [48+n % 10]) (iV [(st.next,.cells [.int .u8 (48+(n:Int) % 10)] 0)] h2)=true:=by
          unfold eA;simp only[iV,run];simp[dN,iE,fc,ja]
        rw[this]
    have hl:=aa5 f (n / 10);have akR:=λK=>hcat (CS f (n / 10)) [48+n % 10] K (by simp;omega)
    rw[show((n / 10:Nat):Int)=(n:Int) / 10 by omega]at ih;simp[-Ud,hd,hquo,ih,hrem,w1,w2,adQ,AD,hrd,akR]
end
noncomputable section
open Go Go.Ai Go.Proofs
attribute [local go_sem ↓] aT jK ev JZ uD getLT oO AX FX nB nC zb tr tu tA oc od oe oh om oq tB tC ot ou ov ow oA yO yP yQ
attribute [local go_sem] aT jK ev
section
variable(c:ah)(F:Nat)(x0 x1 x2 x3 x4 x5 x6 x7 x8 x9 pY qo:AV)(s:St)
def wz:Sh:=(sq sl (sq sl sl))
def wA:PX 5 wz:=⟨_,by conv=>lhs;reduce⟩
def pV:O2:=aT c F bf wA.1 [x0,x1,x2] s
def G8:=(by dsimp only[pV,wA,go_sem,Int.reduceOfNat]:pV c F x0 x1 x2 s=_)
def BX:Sh:=(sq sl (sq sl (sq sl (sq sl (sq sl (sj [1,3,7,8,9,10,11,12,13,14,15] (sq sl (sq sl (sc sl sl))) (sq sl sl)))))))
def BZ:PX 34 BX:=⟨_,by conv=>lhs;reduce⟩
def wB:O2:=aT c F bf BZ.1 [x0,x1,x2] s
def M6:=(by dsimp only[wB,BZ,go_sem,Int.reduceOfNat]:wB c F x0 x1 x2 s=_)
end
section
variable{c:ah}(hc:bB c)(F:Nat){x0 x1 x2 x3 x4 x5 x6 x7 x8 x9 pY qo:AV}{s:St}{r:AV×St}
include hc
theorem Eg(h:pV c F x0 x1 x2 s=some r):c 5 [x0,x1,x2] s=some (tidy s r):=hc.o0 F wz (by kernel_rfl) (by kernel_rfl) h
theorem JA(h:wB c F x0 x1 x2 s=some r):c 34 [x0,x1,x2] s=some (tidy s r):=hc.o0 F BX (by kernel_rfl) (by kernel_rfl) h
end
end
section
set_option linter.unusedSimpArgs false
open Go Go.Ai Go.Proofs Go.Ai.HY Go.Ai.RI
variable{c:ah}
section
variable{p:aR}
theorem ajp(h:(bI p).2=0):(fM p).2=0:=by
 unfold bI at h;by_cases e:(fM p).2≠0
 .rw[Za4 e]at h;exact absurd h e
 .exact Decidable.not_not.1 e
theorem aj5(h:(bI p).2=0):(bV p.gs p.ys).2=0:=by
 have h:=ajp h;unfold fM at h;by_cases e:(bA p.ts).2≠0
 .rw[Za4 e]at h;exact absurd h e
 rw[Za2 e]at h;by_cases e:(bV p.gs p.ys).2≠0
 .rw[Za4 e]at h;exact absurd h e
 .exact Decidable.not_not.1 e
theorem XG(gs:List aQ):∀(m k:Nat),(gW gs m k).2=0->∀(i:Nat)(g:aQ),k<=i->i<k+m->gs[i]? =some g->fC g=0
 |0,k,_,i,g,h1,h2,_=>by omega
 |m +1,k,h,i,g,h1,h2,hg=>by
  have hk:k<gs.length:=by have:=(H5.1 hg).1;omega
  rw[gW,H1 hk]at h;simp only at h;by_cases e:fC gs[k]=0
  . rw[Za2 (by simp[e])]at h;by_cases e2:0<=scan (iY gs gs[k].name) k 0
    .rw[Za4 e2]at h;simp at h
    rw[Za2 e2]at h;by_cases e3:64<=k
    .rw[Za4 e3]at h;simp at h
    rw[Za2 e3]at h;by_cases e4:i=k
    .subst e4;rw[H1 hk]at hg;cases hg;exact e
    .exact XG gs m (k+1) h i g (by omega) (by omega) hg
  .rw[Za4 e]at h;exact absurd h e
theorem akS(h:(bI p).2=0)(hl:p.gs.length<=100){g:aQ}(hg:g∈p.gs):fC g=0:=by
 obtain⟨k,hk,rfl⟩:=Zg9.1 hg;have h:=aj5 h;unfold bV at h;by_cases e:(gW p.gs 101 0).2=0
 .exact XG p.gs 101 0 e k _ (Zi5 _) (by omega) (H1 hk)
 .rw[Za4 e]at h;exact absurd h e
theorem afF{l:List Nat}(h:e9 l=true):l.length<=12/\∀x∈l,x<256:=by
 unfold e9 at h;simp only[Za9,Zd3,Ze5]at h;exact⟨h.1.2,λx hx=>by have:=h.2 x hx;omega⟩
theorem aij(h:(bI p).2=0)(hl:p.gs.length<=100){g:aQ}(hg:g∈p.gs):g.name.length<=12/\∀x∈g.name,x<256:=by
 have e:=akS h hl hg;unfold fC at e;by_cases x:e9 g.name=true
 .exact afF x
 .rw[Za4 (by simp[x])]at e;cases e
theorem aik{t:aG}(h:lF t=0):t.name.length<=12/\∀x∈t.name,x<256:=by
 unfold lF at h;by_cases x:e9 t.name=true
 .exact afF x
 .rw[Za4 (by simpa using x)]at h;cases h
theorem XH{N:Nat}:∀(m k n:Nat),k+m=n->mB N false (List.replicate n (-1)) m k=(0,0)
 |0,_,_,_=>rfl
 |m+1,k,n,h=>by
  have hk:k<(List.replicate n (-1:Int)).length:=by simp;omega
  rw[Wl hk (x:= -1) (by simp),Za2 (by simp),Za2 (by omega),Za2 (by omega)];exact XH m (k+1) n (by omega)
theorem v_ok(hp:p.ic)(hr:∀r∈p.rs,r.Ok)(h:(bI p).2=0):R4 p (NS p)/\∀t∈p.ts,lF t=0:=by
 have hz:(jL p false (List.replicate p.gs.length (-1))).2=0:=by
  unfold jL;rw[Za2 (by rw[h];simp)];unfold MS;rw[Za2 (by simp),Zm0,XH _ 0 _ (by omega)]
 obtain⟨a,_,b⟩:=Wn hp hr hz;exact⟨a,b⟩
end
theorem ahU{k:Nat}(hk:k<100):CS 2 k=RJ k:=by
 revert hk;revert k
 decide+kernel
section
variable{s0 s sA:St}{p:aR}{P V:AV}{q:List Int}
theorem aa6{c:Nat}:∀(l acc:List Nat),∀u∈bF c acc l,u.length<=acc.length+l.length
 |[],acc,u,hu=>by simp[bF]at hu;subst hu;simp
 |y ::l,acc,u,hu=>by
  rw[bF]at hu;split at hu
  . rcases Za7.1 hu with rfl|hu
    .omega
    .have:=aa6 l [] u hu;simp only[Zb2,Zc3]at this ⊢; omega
  .have:=aa6 l (acc++[y]) u hu;simp only[Zb1,Zb2,Zc3]at this ⊢; omega
theorem ahV:∀(l:List (List Nat))(k:Nat)(q:List Int),(jr p l k q).1.length<=q.length:=by
 intro l;induction l with
 |nil=>intro k q;exact Za3 _
 |cons x l ih=>
  intro k q;cases l with
  |nil=>
   unfold jr ZN;split
   .    exact Za3 _
   .    simp
  |cons y l=>
   have e1:jr p (x::y::l) k q=if(lW p q x).1=0 then jr p (y::l) (k+1) (lW p q x).2 else([],k,(lW p q x).1):=rfl
   rw[e1];split
   .    have h1:=ih (k+1) (lW p q x).2;have h2:(lW p q x).2.length=q.length:=ZO;omega
   .    simp
theorem ahW(hp:p.ic)(w:List Nat):(lX p w).1.length<=1000000:=by
 have xp:=hp.gs;unfold lX;split
 .simp
 . split
   .simp
   .have:=ahV (p:=p) (bF 10 [] w) 0 (List.replicate p.gs.length (-1));rw[Zm0]at this;omega
theorem ajq(w:List Nat)(p:aR)(q:List Int):pU p (qV w).1 (qV w).2 0 q=jr p (bF 10 [] w) 0 q/\((qV w).2=false->∀h:(qV w).1≠[],(qV w).1.getLast h≠[])/\∀u∈(qV w).1,u∈bF 10 [] w:=by
 by_cases h:(bF 10 [] w).getLast (Dh w [])=[]
 .have e:qV w=((bF 10 [] w).dropLast,true):=(by unfold qV;rw[Za4 h]);rw[e];refine⟨?_,λe=>by simp at e,λu hu=>List.dropLast_subset _ hu⟩;unfold pU;rw[Za4 rfl];dsimp only;rw[Zb7];have:=List.dropLast_concat_getLast (Dh (c:=10) w []);rw[h]at this;rw[this]
 .have e:qV w=(bF 10 [] w,false):=(by unfold qV;rw[Za2 h]);rw[e];exact⟨by unfold pU;rw[Za2 (by simp),Zb7],λ_ _=>h,λu hu=>hu⟩
theorem afG(hc:bB c)(hp:p.ic)(hr:∀r∈p.rs,r.Ok)(hw:Wf s){w:List Nat}(cZ:∀x∈w,x<256):
   ∃v s',c 73 [.agg p.cells,.str w] s=some (.tuple [v,.int .i64 ((lX p w).2.1:Int),.int .i64 (lX p w).2.2],s')/\Grew s s'/\QS 1 s' v ((lX p w).1.map cq):=by
 have xp:=hp.gs;have dF:=hp.ts;have gN:=Grew.af hw (.cells p.cells 0);have hcut:cut p.cells 0 5=some p.cells:=bJ rfl;have ck:=Qm hc p hp hr (af s (.cells p.cells 0));have ld:∀(K:AV->St->Option (AV×St)),ai c (.load (some 5)) [.ptr s.next 0] (af s (.cells p.cells 0)) K=K (.agg p.cells) (af s (.cells p.cells 0)):=λK=>by simp[aC,aF,hcut]
 have bad:∀(i:Nat)(e:Int),lX p w=([],i,e)->(∃s2,Grew s s2/\lM c (w.length+1001) (.agg p.cells) (.str w) s=some (.tuple [.av,.int .i64 (i:Int),.int .i64 e],s2))->∃v s',c 73 [.agg p.cells,.str w] s=some (.tuple [v,.int .i64 ((lX p w).2.1:Int),.int .i64 (lX p w).2.2],s')/\Grew s s'/\QS 1 s' v ((lX p w).1.map cq):=λi e he hr=>by
   obtain⟨s2,g2,hr⟩:=hr;refine⟨.av,s,?_,Grew.refl hw,by rw[he];exact QS.nil⟩;rw[yI hc (w.length+1001) (r:=(.tuple [.av,.int .i64 (i:Int),.int .i64 e],s2)) hr,ak (Plain.tuple (by simp[Plain.int,Plain.av])) g2.keeps,he]
 by_cases qg:(bI p).2=0;rotate_left
 .have dk:decide ((bI p).2=0)=false:=H3 qg;refine bad 0 (bI p).2 (by unfold lX;rw[Za4 qg]) ⟨_,gN,?_⟩;rw[sQ];simp only[cP,show ∀l,AV.cells (.agg l)=l from λl=>rfl,aj,ld,aK,ck,aJ,bE,Za5,Za6,bP,dQ,dk,Ze7,bk];rfl
 have dk:decide ((bI p).2=0)=true:=H2 qg;by_cases ID:65536<w.length
 .have dl:decide ((65536:Int)<(w.length:Int))=true:=H2 (by omega);refine bad 0 7 (by unfold lX;rw[Za2 (λh=>h qg),Za4 ID]) ⟨_,gN,?_⟩;rw[sQ];simp only[cP,show ∀l,AV.cells (.agg l)=l from λl=>rfl,aj,ld,aK,ck,aJ,bE,Za5,Za6,bP,dQ,dk,Zb9,bG,bL,gF,dl,bk];rfl
 have dl:decide ((65536:Int)<(w.length:Int))=false:=H3 (by omega);have et:lX p w=jr p (bF 10 [] w) 0 (List.replicate p.gs.length (-1)):=by unfold lX;rw[Za2 (λh=>h qg),Za2 ID]
 obtain⟨s1,P1,M1,L0⟩:=afC (c:=c) (sA:=af s (.cells p.cells 0)) (p:=p) (aC _ _) (by omega) (.str w) (w.length+1001) p.gs.length 0 (w.length+1001) _ .av (by omega) (by omega) (Mk.start gN.wf (Grew.refl gN.wf));obtain⟨V,s2,L,MV,UM⟩:=ahL hc (w:=w) (by omega) s1 M1.aN.wf;have ahR:∀j,j<=p.ts.length->aO (p.ts.take j)<=1000000:=λj hj=>by have h1:=(pz (p.ts.take j)).2;have h2:(p.ts.take j).length<=100:=(by simp;omega);omega
 obtain⟨e1,e2,e3⟩:=ajq w p (List.replicate p.gs.length (-1));have M2:=M1.grow MV.aN;obtain⟨s',q',z1,z2,L1⟩:=afD (c:=c) (P:=P1) (V:=V) hc hp dF (by omega) ahR (aC s (.cells p.cells 0)) (ls:=(qV w).1) (by omega) (λu hu=>⟨U5 w [] cZ (λx hx=>by cases hx) u (e3 u hu),by have:=aa6 w [] u (e3 u hu);simp at this;omega⟩) (qV w).2 e2 (w.length+1001) (qV w).1.length 0 (w.length+1001) s2 _ (by omega) (by omega) M2 MV.own (λb h1 h2=>by
   have h3:=MV.new b h2;have h4:=M1.aN.wf;have h5:=M1.tight b h1;have:=h4 b _ h5;omega) (by simp)
 rw[e1]at z1 L1;simp only[show((0:Nat):Int)=0 from rfl]at L0 L1;have run:∀e,(jr p (bF 10 [] w) 0 (List.replicate p.gs.length (-1))).2.2=e->lM c (w.length+1001) (.agg p.cells) (.str w) s=if e=0 then some (.tuple [P1,.int .i64 0,.int .i64 0],s')else some (.tuple [.av,.int .i64 ((jr p (bF 10 [] w) 0 (List.replicate p.gs.length (-1))).2.1:Int),.int .i64 e],s'):=λe he=>by
   rw[sQ];simp only[cP,show ∀l,AV.cells (.agg l)=l from λl=>rfl,aj,ld,aK,ck,aJ,bE,Za5,Za6,bP,dQ,dk,Zb9,bG,bL,gF,dl,L0,aE,aH,L];rw[L1,he];by_cases h:e=0
   .rw[Za4 h,Za4 h];simp only[aE,aH,aj]
   .rw[Za2 h,Za2 h];simp only[aE,aH]
 have gs':Grew s s':=gN.trans z2.aN;by_cases he:(jr p (bF 10 [] w) 0 (List.replicate p.gs.length (-1))).2.2=0
 . have r:=run _ he;rw[Za4 rfl]at r;have adM:=aa4 _ _ _ he;rw[Za4 he]at z1;rw[et,he,adM,z1];have fin:∃eY,tidy s (.tuple [P1,.int .i64 0,.int .i64 0],s')=(.tuple [P1,.int .i64 0,.int .i64 0],eY)/\Grew s eY/\QS 1 eY P1 (q'.map cq):=by
     unfold tidy;split
     .  rename_i mH;rcases z2.own with⟨h1,h2⟩|⟨b,off,cap,cs,h1,_⟩|⟨b,off,h1,h2⟩
        .exact⟨s,rfl,Grew.refl hw,.inl ⟨h1,h2⟩⟩
        . rcases z2.cap _ _ _ _ _ h1 with h0|⟨h0,h3⟩
          .rw[h1,h0]at mH;exact absurd (aa3 mH.1) (j3 _ _ _ _)
          .exact⟨s,rfl,Grew.refl hw,.inr (.inr ⟨b,off,by rw[h1,h0,h3],Zb0 h0⟩)⟩
        .exact⟨s,rfl,Grew.refl hw,.inr (.inr ⟨b,off,h1,h2⟩)⟩
     .  exact⟨s',rfl,gs',z2.own⟩
   obtain⟨eY,f1,f2,f3⟩:=fin;refine⟨P1,eY,?_,f2,f3⟩;rw[yI hc (w.length+1001) (r:=(.tuple [P1,.int .i64 0,.int .i64 0],s')) r,f1];rfl
 .have r:=run _ rfl;rw[Za2 he]at r;exact bad _ _ (by rw[et];exact Prod.ext (by rw[z1,Za2 he]) rfl) ⟨s',gs',r⟩
end
set_option linter.unusedSimpArgs false
section
variable{s0 s sA:St}{p:aR}{P V:AV}{q:List Int}
theorem afH{R:Type}(K:AV->Option R){rows:List (List AV)}{i j:Nat}{v:AV}{h:T AB}{ok:AV->Bool}(hv:(rows[i]?.bind λcs=>cs[j]?)=some v):fP (.load none) [.fp rows i j] h ok K=K v:=by unfold fP;rw[EX,hv];rfl
theorem acq{t:aG}:bh t<=100:=by have:=ajZ t;omega
theorem adR(hc:bB c)(hp:p.ic)(hv:(bA p.ts).2=0)(hng:∀g∈p.gs,g.name.length<=12)(hnt:∀t∈p.ts,t.name.length<=12){b:Pos}(hb:sA.heap.get b=some (.cells p.cells 0))(z:Bool)(PZ:q.length=p.gs.length)(hqx:∀x∈q,x<aO p.ts)(hsum:aO p.ts<=100000)(F:Nat):
  ∀(m k f:Nat)(s:St)(bs:List Nat),k+m=q.length->m<f->Grew sA s->bs.length<=3000*k->
  ∃s',Grew sA s'/\∀k2:Q2,js c F k2 f [ints z q,.ptr b 0,.str bs,.int .i64 (k:Int)] s=k2 [.str (bs++fmtQ p (q.drop k) k)] s':=by
 intro m;induction m with
 |zero=>
  intro k f s bs hk hf G HJ;obtain⟨f,rfl⟩:∃g,f=g+1:=⟨f - 1,by omega⟩
  obtain rfl:k=q.length:=by omega
  refine⟨s,G,λk2=> ?_⟩;have d:decide ((q.length:Int)<(q.length:Int))=false:=H3 (by omega);have ln:∀(K:AV->St->Option (AV×St)),ai c (.lenB .l) [ints z q] s K=K (.int .i64 (q.length:Int)) s:=λK=>by unfold ints;rw[bW];simp
  rw[ny,Zi3];simp only[aE,aH,aj,ln,aU,d,bG,fmtQ,Ze9]
 |succ m ih=>
  intro k f s bs hk hf G HJ;obtain⟨f,rfl⟩:∃g,f=g+1:=⟨f - 1,by omega⟩
  have cK:k<q.length:=by omega
  have xp:=hp.gs;have U0:=G.wf;have ln:∀(K:AV->St->Option (AV×St)),ai c (.lenB .l) [ints z q] s K=K (.int .i64 (q.length:Int)) s:=λK=>by unfold ints;rw[bW];simp
  have d:decide ((k:Int)<(q.length:Int))=true:=H2 (by omega);have wr:Unit->au .i64 ((k:Int)+1)=((k+1:Nat):Int):=λ_=>wrap64 (by omega) (by omega)
  have ia:∀(K:AV->St->Option (AV×St)),ai c (.idxA 1 none) [ints z q,.int .i64 (k:Int)] s K=K (.fp (q.map λi=>[AV.int .i64 i]) k 0) s:=λK=>by unfold ints;rw[FT,Zb3,Za4 cK];rfl
  have iap:∀(K:AV->Option (AV×St)),dI (.idxA 1 none) [ints z q,.int .i64 (k:Int)] K=K (.fp (q.map λi=>[AV.int .i64 i]) k 0):=λK=>by unfold ints;rw[LC,Zb3,Za4 cK];rfl
  have ldx:∀(K:AV->St->Option (AV×St)),ai c (.load none) [.fp (q.map λi=>[AV.int .i64 i]) k 0] s K=K (.int .i64 q[k]) s:=λK=>by simp[cK]
  have rdx:∀(K:AV->Option (AV×St)),fP (.load none) [.fp (q.map λi=>[AV.int .i64 i]) k 0] s.heap (λ_=>true) K=K (.int .i64 q[k]):=λK=>by simp[cK]
  have ef:fmtQ p (q.drop k) k=BM p k q[k]++fmtQ p (q.drop (k+1)) (k+1):=by rw[Za8 cK,fmtQ]
  by_cases h0:q[k]<0
  .have d0:decide (q[k]<0)=true:=H2 h0;have es:BM p k q[k]=[]:=(by rw[aaU hv,Za2 (by omega)]);obtain⟨s',z1,z2⟩:=ih (k+1) f s bs (by omega) (by omega) G (by omega);rw[ef,es,Ze6];refine⟨s',z1,λk2=> ?_⟩;rw[<-z2 k2,ny];simp only[aE,aH,aj,ln,aU,d,bk,ki,ia,ldx,d0,dR,wr ()]
  . have d0:decide (q[k]<0)=false:=H3 h0;have bw:=hqx _ (Zc6 cK);have esum:(p.ts.map bh).sum=aO p.ts:=rfl;obtain⟨t,y,hw⟩:=ab5 (zs:=p.ts.map bh) (i:=0) (show 0<=q[k]by omega) (by rw[esum];exact bw);obtain⟨_,y0,⟨zz,hzt,hyz⟩,_⟩:=aeM (by omega) hw;rw[Zl5,Zb5]at hzt;obtain⟨tt,dc,rfl⟩:=Zf7.1 hzt;have hy:=acq (t:=tt);obtain⟨y',rfl⟩:∃y':Nat,y=(y':Int):=⟨y.toNat,by omega⟩
    have htl:t<p.ts.length:=(H5.1 dc).1;have fK:p.ts[t]=tt:=(H5.1 dc).2;have hkg:k<p.gs.length:=(by omega);have wh:=afA hc p.tz p.ts (by have:=hp.ts;omega) s (show 0<=q[k]by omega) (by omega) hw;have dg:=XF hc 2 y' (by omega) (by omega) (by omega) s U0;rw[ahU (by omega)]at dg;have n1:=hng p.gs[k] (Zc6 hkg);have n2:=hnt p.ts[t] (Zc6 htl);have n3:(RJ y').length<=2:=(by unfold RJ;split<;>simp);have es:BM p k q[k]=[115,101,97,116,32]++p.gs[k].name++[32]++p.ts[t].name++[32]++RJ y'++[10]:=(by rw[aaU hv,Za4 ⟨by omega,by rw[hw];rfl⟩];unfold ac9;rw[hw];simp only;rw[Zc1,Zc1,Zb5,Zb5,H1 hkg,H1 htl];simp);have l6:=G.get hb;have sb:∀u:List Nat,dN (.str u) (.str u)=true:=λu=>by simp[dN,iE,fc,jX.2 rfl]
    have f0p:∀(K:AV->Option (AV×St)),fP (.load none) [.ptr b (0+0)] s.heap (λ_=>true) K=K (tabs p.tz p.ts):=λK=>by rw[oN,l6];rfl
    have f0c:∀(K:AV->Option (AV×St)),fP (.load none) [.ptr b (0+0)] s.heap (λv=>eA (.load none) [.ptr b (0+0)] v (iV [] s.heap)&&true) K=K (tabs p.tz p.ts):=λK=>zG K (by rw[l6];rfl) (by rw[l6];rfl) (q9 (UJ _ _))
    have f1c:∀(K:AV->Option (AV×St)),fP (.load none) [.ptr b (0+1)] s.heap (λv=>eA (.load none) [.ptr b (0+1)] v (iV [] s.heap)&&true) K=K (bC p.gz p.gs):=λK=>zG K (by rw[l6];rfl) (by rw[l6];rfl) (q9 (By _ _))
    have ig:∀(K:AV->Option (AV×St)),dI (.idxA 9 none) [bC p.gz p.gs,.int .i64 (k:Int)] K=K (.fp (p.gs.map aQ.cells) k 0):=λK=>by unfold bC;rw[LC,Zb3,Za4 hkg];rfl
    have it:∀(K:AV->Option (AV×St)),dI (.idxA 7 none) [tabs p.tz p.ts,.int .i64 (t:Int)] K=K (.fp (p.ts.map aG.cells) t 0):=λK=>by unfold tabs;rw[LC,Zb3,Za4 htl];rfl
    have rg:∀(K:AV->Option (AV×St)),fP (.load none) [.fp (p.gs.map aQ.cells) k 0] s.heap (λv=>eA (.load none) [.fp (p.gs.map aQ.cells) k 0] v (iV [] s.heap)&&true) K=K (.str p.gs[k].name):=λK=>afH K (by simp[hkg])
    have rt:∀(K:AV->Option (AV×St)),fP (.load none) [.fp (p.ts.map aG.cells) t 0] s.heap (λv=>eA (.load none) [.fp (p.ts.map aG.cells) t 0] v (iV [] s.heap)&&true) K=K (.str p.ts[t].name):=λK=>afH K (by simp[htl])
    have sa:∀(a b:List Nat),a.length+b.length<=9223372036854775807->∀(K:AV->Option (AV×St)),dI (.bin .add .num) [.str a,.str b] K=K (.str (a++b)):=λa b hab K=>by
        have:ax.run (λ_=>none) .h (.bin .add .num) [.str a,.str b]=some (.val (.str (a++b))):=(by simp only[ax.run,fI,jT,cF,H2 hab]);unfold dI;rw[this]
    have a0:=sa bs [115,101,97,116,32] (by simp only[Zb1,Zb2,Zc3];omega);have a1:=sa (bs++[115,101,97,116,32]) p.gs[k].name (by simp only[Zb1,Zb2,Zc3];omega);have a2:=sa (bs++[115,101,97,116,32]++p.gs[k].name) [32] (by simp only[Zb1,Zb2,Zc3];omega);have a3:=sa (bs++[115,101,97,116,32]++p.gs[k].name++[32]) p.ts[t].name (by simp only[Zb1,Zb2,Zc3];omega);have a4:=sa (bs++[115,101,97,116,32]++p.gs[k].name++[32]++p.ts[t].name) [32] (by simp only[Zb1,Zb2,Zc3];omega);have a5:=sa (bs++[115,101,97,116,32]++p.gs[k].name++[32]++p.ts[t].name++[32]) (RJ y') (by simp only[Zb1,Zb2,Zc3];omega);have a6:=sa (bs++[115,101,97,116,32]++p.gs[k].name++[32]++p.ts[t].name++[32]++RJ y') [10] (by simp only[Zb1,Zb2,Zc3];omega);obtain⟨s',z1,z2⟩:=ih (k+1) f s (bs++[115,101,97,116,32]++p.gs[k].name++[32]++p.ts[t].name++[32]++RJ y'++[10]) (by omega) (by omega) G (by simp only[Zb1,Zb2,Zc3];omega);have eb:bs++fmtQ p (q.drop k) k=bs++[115,101,97,116,32]++p.gs[k].name++[32]++p.ts[t].name++[32]++RJ y'++[10]++fmtQ p (q.drop (k+1)) (k+1):=by
        rw[ef,es];simp only[Zg8]
    refine⟨s',z1,λk2=> ?_⟩;rw[eb, <-z2 k2,ny];simp only[aE,aH,aj,ln,aU,d,bk,ki,ia,ldx,d0,bG,lC,ZF,f0p,gJ,iap,rdx,aK,wh,aJ,tR,Za5,Za6,bP,dg,a0,f1c,ig,rg,a1,a2,f0c,it,rt,a3,a4,a5,a6,dR,wr ()]
theorem adS(hc:bB c)(hp:p.ic)(hr:∀r∈p.rs,r.Ok)(hz:(jL p false q).2=0)(z:Bool)(hw:Wf s):c 75 [.agg p.cells,ints z q] s=some (.str (fmtQ p q 0),s):=by
 obtain⟨ok,pv,hT⟩:=Wn hp hr hz;have gN:=Grew.af hw (.cells p.cells 0);have qg:=ok.rj;obtain⟨s',g',L⟩:=adR (c:=c) (sA:=af s (.cells p.cells 0)) hc hp ok.tabs (λg hg=>(aij qg hp.gs hg).1) (λt ht=>(aik (hT t ht)).1) (aC _ _) z pv.len (λx hx=>by have:=(pv.rng x hx).2;have:=ok.sum;omega) (by have:=ok.sum;have:=ok.le;omega) (q.length+1) q.length 0 (q.length+1) _ [] (by omega) (by omega) (Grew.refl gN.wf) (by simp);rw[Zb7,Ze6]at L;simp only[show((0:Nat):Int)=0 from rfl]at L;rw[Hv hc (q.length+1) (r:=(.str (fmtQ p q 0),s')),ak (Plain.str _) (gN.trans g').keeps];rw[KO];simp only[cP,show ∀l,AV.cells (.agg l)=l from λl=>rfl,aj];rw[L];simp only[aE,aH,aj]
end
section
variable{s0 s:St}{Vs:List AV}{p:aR}{P:AV}{q:List Int}
theorem afI(hc:bB c)(h:PS s0 s Vs p)(hp:p.ic)(hr:∀r∈p.rs,r.Ok)(pq:QS 1 s P (q.map cq))(hl:q.length<=1000)(hn:(jL p false q).2≠0):c 31 [.agg Vs,P] s=some (.str [],s):=by
 have gN:=Grew.af h.aN.wf (.cells Vs 0);have hcut:cut Vs 0 5=some Vs:=bJ h.cells.1;have va:=ajg hc (h.qc gN) hp hr (pq.aN gN) hl;rw[H3 hn]at va;rw[Iz hc 1 (r:=(.str [],af s (.cells Vs 0))),ak (Plain.str _) gN.keeps];rw[NI];simp[show ∀l,AV.cells (.agg l)=l from λl=>rfl,aC,aF,hcut,va]
def ahX(p:aR)(q:List Int):List Nat:=if(jL p false q).2=0 then fmtQ p q 0 else []
theorem ahY(hc:bB c)(h:PS s0 s Vs p)(hp:p.ic)(hr:∀r∈p.rs,r.Ok)(pq:QS 1 s P (q.map cq))(hl:q.length<=1000):c 31 [.agg Vs,P] s=some (.str (ahX p q),s):=by
 unfold ahX;by_cases hz:(jL p false q).2=0
 .obtain⟨ok,pv,hT⟩:=Wn hp hr hz;rw[Za4 hz];exact afj hc (aj1 hc) h ok (λt _=>acq) (λg hg=>by have:=aij ok.rj hp.gs hg;exact⟨by omega,this.2⟩) (λt ht=>by have:=aik (hT t ht);exact⟨by omega,this.2⟩) pq pv
 .rw[Za2 hz];exact afI hc h hp hr pq hl hz
theorem ahZ(hc:bB c)(hw:Wf s)(hl:p.Laid)(hp:p.ic)(z:Bool)(hq:q.length<=30){w:List Nat}(cZ:∀x∈w,x<256):c 34 [.agg p.cells,ints z q,.str w] s=some (.bool true,s):=by
 have hR:=hl.real hp;have hk:∀t∈p.ts,t.Ok:=λt ht=>(hl.tab t ht).1
 have gA:=Grew.af hw (.cells p.cells 0);obtain⟨Vs,sB,e1,PB⟩:=ahE hc p hR _ gA.wf;obtain⟨v,sC,e2,MC⟩:=afx hc PB.aN.wf (LS.ro sB z q) (by omega);obtain⟨vl,vo⟩:=PB.cells;have gD:=Grew.af MC.aN.wf (.cells Vs 0);have PD:=PB.qc (MC.aN.trans gD);have qD:=MC.own.aN gD;have st5:∀(K:AV->St->Option (AV×St)),ai c (.store 5) [.ptr sC.next 0,.agg Vs] (af sC (.cells [.av,.av,.av,.av,.av] 0)) K=K .undef (af sC (.cells Vs 0)):=λK=>kj c K sC 5 (.agg Vs) _ vl rfl vo
 have x1:=(PB.aN.trans (MC.aN.trans gD)).get (aC s (.cells p.cells 0));have y1:=aC s (.cells p.cells 0);have x5:=aC sC (.cells Vs 0);have G:=gA.trans (PB.aN.trans (MC.aN.trans gD));obtain⟨sD,hsD⟩:∃sD,sD=af sC (.cells Vs 0):=⟨_,rfl⟩
 rw[<-hsD]at gD PD qD st5 x1 x5 G;obtain⟨u1,s1,R1,G1,Q1⟩:=ahJ hc PD hp hl.rul (v_ok hp hl.rul) (by have:=hp.gs;omega) cZ;obtain⟨u2,s2,R2,G2,Q2⟩:=afG hc hp hl.rul G1.wf cZ;have g12:=G1.trans G2;have P2:=PD.qc g12;have q2:=qD.aN g12;have x12:=g12.get x1;have qo:=G1.get x1;have x52:=g12.get x5;have vc:cut Vs 0 5=some Vs:=bJ vl;have pc:cut p.cells 0 5=some p.cells:=bJ rfl;have D2:=afv (q:=q) hc p hp hl.rul z (by omega) false g12.wf;have F:=ahY hc P2 hp hl.rul q2 (by omega);have akT:(lX p w).1.length<=1000000:=ahW hp w;have E1:=XB hc (.inr (Q1.aN G2)) (.inr Q2) akT;have S:=ahF hc P2 (aR.dG.refl p) hR hk;have E:=XB hc (.inr q2) (LS.ro s2 z q) (by omega);rw[H2 rfl]at E E1;have XI:∀{b:Pos}{t:St}{l:List AV},t.heap.get b=some (.cells l 0)->cut l 0 5=some l->∀(K:AV->St->Option (AV×St)),ai c (.load (some 5)) [.ptr b 0] t K=K (.agg l) t:=λh hc K=>by simp[h,aF,hc]
 have l1:=λK=>XI y1 pc K
 have l2:=λK=>XI x5 vc K
 have l3:=λK=>XI qo pc K
 have l4:=λK=>XI x12 pc K
 have l5:=λK=>XI x52 vc K
 have al:∀(K:AV->St->Option (AV×St)),ai c (.alloc [.av,.av,.av,.av,.av]) [] sC K=K (.ptr sC.next 0) (af sC (.cells [.av,.av,.av,.av,.av] 0)):=λK=>by simp
 rw[JA hc 1 (r:=(.bool true,s2)),ak (Plain.bool _) (G.trans g12).keeps];rw[M6];unfold ahX at F;by_cases hz:(jL p false q).2=0
 .have RF:=adS hc hp hl.rul hz z g12.wf;rw[Za4 hz]at F;rw[hz]at D2;simp only[cP,show ∀l,AV.cells (.agg l)=l from λl=>rfl,aj,l1,aK,e1,aJ,e2,al,st5,l2,R1,Bx,Io,Ip,l3,R2,ki,l4,D2,bE,Za5,Za6,bP,cN,Zf6,bk,RF,aE,aH,E1,bN,cr,l5,F,jZ,S,E]
 .rw[Za2 hz]at F;have dz:decide ((jL p false q).2=0)=false:=H3 hz;simp only[cP,show ∀l,AV.cells (.agg l)=l from λl=>rfl,aj,l1,aK,e1,aJ,e2,al,st5,l2,R1,Bx,Io,Ip,l3,R2,ki,l4,D2,bE,Za5,Za6,bP,cN,dz,Zf6,bG,aE,aH,E1,bN,cr,l5,F,jZ,S,E]
theorem YN(hc:bB c)(p:aR)(hl:p.Laid)(z:Bool)(q:List Int){w:List Nat}(cZ:∀x∈w,x<256)(hw:Wf s):c 5 [.agg p.cells,ints z q,.str w] s=some (.bool true,s):=by
 have gA:=Grew.af hw (.cells p.cells 0);have gB:=Grew.af gA.wf (.cells [ints z q] 0);have F:=ajl hc gB.wf p (LLs.one (z:=z) (q:=q) gA.wf) (by simp);have bs:∀(K:AV->St->Option (AV×St)),ai c (.buildSlice 1 1 [.av] [0]) [ints z q] (af s (.cells p.cells 0)) K=K (.slice (af s (.cells p.cells 0)).next 0 1 (some 1) 1) (af (af s (.cells p.cells 0)) (.cells [ints z q] 0)):=λK=>by
   (rw[eo];have:cI (bZ [AV.av] 1) ([0].map λi=>(i*1,1)) [ints z q]=some [ints z q]:=by unfold ints Go.Ai.ro;split<;>rfl);rw[this];rfl
 have x1:=gB.get (aC s (.cells p.cells 0));have y1:=aC s (.cells p.cells 0);have pc:cut p.cells 0 5=some p.cells:=bJ rfl;have A:=ae8 hc (af (af s (.cells p.cells 0)) (.cells [ints z q] 0));have XI:∀{b:Pos}{t:St}{l:List AV},t.heap.get b=some (.cells l 0)->cut l 0 5=some l->∀(K:AV->St->Option (AV×St)),ai c (.load (some 5)) [.ptr b 0] t K=K (.agg l) t:=λh hc K=>by simp[h,aF,hc]
 have l1:=λK=>XI y1 pc K
 have l2:=λK=>XI x1 pc K
 rw[Eg hc 1 (r:=(.bool true,af (af s (.cells p.cells 0)) (.cells [ints z q] 0))),ak (Plain.bool _) (gA.trans gB).keeps];rw[G8];cases h:Wm p [q]
 .rw[h]at F;simp only[cP,show ∀l,AV.cells (.agg l)=l from λl=>rfl,aj,l1,bs,aK,F,aJ,eC,Ze7,l7,nc,cr,bN,A]
 . rw[  h]at F;obtain⟨_,hf,_,hq⟩:=ajk h;have C:=ahZ hc gB.wf hl (ahi hf λt ht=>(hl.tab t ht).1) z (hq q (by simp)) cZ;by_cases h1:2000<w.length
   . have d1:decide ((2000:Int)<(w.length:Int))=true:=H2 (by omega);by_cases h2:w.length<=65536
     .  have d2:decide ((w.length:Int)<=65536)=true:=H2 (by omega);simp only[cP,show ∀l,AV.cells (.agg l)=l from λl=>rfl,aj,l1,bs,aK,F,aJ,eC,Zb9,bN,bL,gF,d1,Vo,d2,cr,aZ,l7,nc,A]
     .  have d2:decide ((w.length:Int)<=65536)=false:=H3 (by omega);simp only[cP,show ∀l,AV.cells (.agg l)=l from λl=>rfl,aj,l1,bs,aK,F,aJ,eC,Zb9,bN,bL,gF,d1,Vo,d2,cr,aZ,l2,C,A]
   .have d1:decide ((2000:Int)<(w.length:Int))=false:=H3 (by omega);simp only[cP,show ∀l,AV.cells (.agg l)=l from λl=>rfl,aj,l1,bs,aK,F,aJ,eC,Zb9,bN,bL,gF,d1,OH,aZ,l2,C,cr,A]
end
end
end Go.Proofs.YtgjikjcfjddloaaGreatDoor
namespace Go.Proofs.YtgjikjcfjddloaaGreatDoor.CY
section
open Go
theorem k1:(Rows.planTextsUptoRow.inPlace==Tryz.pinned.checked.prog.inPlace 5)=true:=by kernel_rfl
theorem k2:(Rows.planTextsUptoRow.unfollowed==Tryz.pinned.checked.prog.unfollowed 5)=true:=by kernel_rfl
theorem k3:(Rows.planTextsUptoRow.recurses==Tryz.pinned.checked.prog.recurses 5)=true:=by kernel_rfl
theorem k4:(Rows.planTextsUptoRow.named==Tryz.pinned.checked.prog.varsNamed 5)=true:=by kernel_rfl
theorem k5:laidOutB Tryz.pinned.checked.prog=true:=by kernel_rfl
theorem k6:mapsRowed Tryz.pinned.checked.prog=true:=by kernel_rfl
theorem k7:(Rows.planTextsUptoRow.plainKeys==Tryz.pinned.checked.prog.plainKeys)=true:=by kernel_rfl
theorem closed:joinedFacts Tryz.pinned.checked.prog 5 Tryz.f5 (Rows.OpenSpec.upto Rows.planTextsSpec).bare Rows.planTextsUptoRow=true:=by
 unfold joinedFacts;rw[k1,k2,k3,k4,k5,k6,k7]
 kernel_rfl
end
end Go.Proofs.YtgjikjcfjddloaaGreatDoor.CY
