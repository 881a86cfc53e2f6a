/- Functions of the program, plainly, and what they answer. -/
import Derived.Test.YtlkadmkojjceiaaGreatDoorVLawC
import Derived.Deep.DeepHandedRow
set_option linter.all false
set_option maxRecDepth 100000
set_option maxHeartbeats 4000000
namespace Go.Proofs.YtlkadmkojjceiaaGreatDoor
section
set_option linter.unusedSimpArgs false
open Go Go.Ai Go.Proofs
variable{c:ah}
section
variable{s sB:St}{L:AV}{q:List Int}{p:aS}
theorem aeT(h:LS s L q)(hl:q.length<=1000000)(x:Int)(F:Nat)(k1 k2:Q2):∀(m k f:Nat),k+m=q.length->m<f->
  jJ c F k1 k2 f [L,.int .i64 x,.int .i64 (k:Int)] s=if(q.drop k).contains x then k1 [.int .i64 ((k+(q.drop k).idxOf x:Nat):Int)] s else k2 [] s:=by
 have ln:=λ(K:AV->St->Option (AV×St))=>h.lenB (c:=c) K s
 intro m;induction m with
 |zero=>
  intro k f hk hf;obtain⟨f,rfl⟩:∃g,f=g+1:=⟨f - 1,by omega⟩
  obtain rfl:k=q.length:=by omega
  rw[oQ];simp[ln]
 |succ m ih=>
  intro k f hk hf;obtain⟨f,rfl⟩:∃g,f=g+1:=⟨f - 1,by omega⟩
  have br:k<q.length:=by omega
  obtain⟨p',p⟩:=h.rx (H1 br);have p1:=λ{R}=>@p.st R
  have p3:=λ{R}=>@p.ld R
  have wr:aD .i64 ((k:Int)+1)=((k+1:Nat):Int):=wrap64 (by omega) (by omega);rw[Za7 br,List.contains_cons,List.idxOf_cons];by_cases he:x=q[k]
  .rw[oQ];have e2:(x==q[k])=true:=(by simpa using he);have e3:(q[k]==x)=true:=(by simpa using he.symm);have d2:decide (q[k]=x)=true:=H4 he.symm;rw[e2,e3,Bool.true_or];simp[ln,br,p1,p3,d2]
  . have NH:(x==q[k])=false:=(by simpa using he);have he3:(q[k]==x)=false:=(by simpa using λe=>he e.symm);have d2:decide (q[k]=x)=false:=H2 λe=>he e.symm
    rw[NH,he3,Bool.false_or,cond_false,show k+((q.drop (k+1)).idxOf x+1)=(k+1)+(q.drop (k+1)).idxOf x by omega, <-ih (k+1) f (by omega) (by omega),oQ];simp[ln,br,p1,p3,d2,wr]
theorem Sy(hc:bZ c)(h:LS s L q)(hl:q.length<=1000000)(x:Int):c 76 [L,.int .i64 x] s=some (.int .i64 (wI q x),s):=by
 have hi:=λk1 k2=>aeT (c:=c) h hl x (q.length+1) k1 k2 q.length 0 (q.length+1) (by omega) (by omega)
 simp only[Zb7,show((0:Nat):Int)=0 from rfl,Zb6]at hi;rw[JN hc (q.length+1) (r:=(.int .i64 (wI q x),s)),au (Plain.int _ _) (aP.refl s)];rw[MO];simp only[aJ,hi];unfold wI;split<;>simp
end
section
variable{s0 s:St}{Vs:List AV}{p:aS}{P:AV}{q:List Int}
theorem Y5(hp:p.gW)(hr:∀r∈p.rs,r.Ok)(h:(dz p false q).2=0):OkP p (NS p)/\Cn (NS p) p.gs.length q/\∀t∈p.ts,q7 t=0:=by
 unfold dz at h;split at h
 .rename_i hz;exact absurd h hz
 . rename_i hz;have hz:(cg p).2=0:=(by simpa using hz);unfold GG at h;split at h
   .cases h
   .rename_i hl;have hl:q.length=p.gs.length:=(by simpa using hl);obtain⟨hs,hle⟩:=Re hp;refine⟨⟨hp,hr,hz,CG hz,hs,hle⟩,hl ▸(aeJ h).1,λt ht=> ?_⟩;obtain⟨i,hi,rfl⟩:=Zg6.1 ht;exact Bl (CG hz) i hi
end
end
noncomputable section
open Go Go.Ai Go.Proofs
attribute [local go_sem ↓] bf nX ev Qu w5 getLT tV FX Lo rE rF Dr A3 A4 A5 w6 w7 w8 w9 xe xg A6 A7 xj xk xp xq xw Fl Fm Fo
attribute [local go_sem] bf nX ev
section
variable(c:ah)(F:Nat)(x0 x1 x2 x3 x4 x5 x6 x7 x8 x9 xA ue:AV)(s:St)
def tF:Sh:=(sq sl (sq sl sl))
def tG:PX 5 tF:=⟨_,by conv=>lhs;reduce⟩
def nQ:O2:=bf c F bh tG.1 [x0,x1,x2,x3] s
def Eu:=(by dsimp only[nQ,tG,go_sem,Int.reduceOfNat]:nQ c F x0 x1 x2 x3 s=_)
def zI:Sh:=(sq sl (sq sl (sq sl (sq sl (sq sl (sq sl (sq sl (sj [1,2,3,4,9,10,11,12,17,18,19,20,21] (sq sl (sc (sq sl (sq sl (sq sl (sc sl sl)))) sl)) (sq sl (sq sl (sq sl sl)))))))))))
def zJ:PX 14 zI:=⟨_,by conv=>lhs;reduce⟩
def tH:O2:=bf c F bh zJ.1 [x0,x1,x2,x3] s
def qo:=(by dsimp only[tH,zJ,go_sem,Int.reduceOfNat]:tH c F x0 x1 x2 x3 s=_)
def iu:Sh:=(sq sl (sq (sq sl (sc (sq sl sl) sl)) (sq (sq sl (sb (sp 0 [0,1,12,13] [(1,[4]),(2,[])] (sq sl (sq (sc sl sl) (sq (sb (sq sl (sq sl (sc (sq sl sl) sl)))) sl)))))) (sq sl sl))))
def lK:PX 52 iu:=⟨_,by conv=>lhs;reduce⟩
def kQ:PL 52 iu 0:=⟨_,by conv=>lhs;reduce⟩
def cY(k1 k2:Q2):Nat->Q2
 |0,_,_=>none
 |n+1,vs,s=>cX c F bh (cY k1 k2 n) [k1,k2] kQ.1 vs s
def gq(k1 k2:Q2)(n:Nat)(vs:List AV)(s:St):=(by dsimp only[cY,kQ,go_sem,Int.reduceOfNat]:cY c F k1 k2 (n+1) vs s=_)
def iw:Un->List Q2->Nat->Q2
 |.z,[k1,k2]=>cY c F k1 k2
 |_,_=>λ_=>dZ
def jg:O2:=bf c F (iw c F) lK.1 [x0,x1] s
def wL:=(by dsimp only[jg,lK, ↓iw,go_sem,Int.reduceOfNat]:jg c F x0 x1 s=_)
def lM:Sh:=(sq sl (sq (sq sl (sc (sq sl sl) sl)) (sq sl sl)))
def lN:PX 60 lM:=⟨_,by conv=>lhs;reduce⟩
def ji:O2:=bf c F bh lN.1 [x0] s
def lO:=(by dsimp only[ji,lN,go_sem,Int.reduceOfNat]:ji c F x0 s=_)
def uT:Sh:=(sq sl (sq sl (sq (sq sl (sb (sp 0 [2,3,9,10] [(1,[6,7,8]),(2,[9])] (sq (sq sl (sc sl sl)) (sq (sb (sq sl (sq (sq sl (sc (sq sl sl) sl)) (sq (sq sl (sc (sq sl sl) sl)) (sq (sq sl (sc (sq sl sl) sl)) sl))))) sl))))) (sq sl sl))))
def Co:PX 61 uT:=⟨_,by conv=>lhs;reduce⟩
def Bw:PL 61 uT 0:=⟨_,by conv=>lhs;reduce⟩
def fZ(k1 k2:Q2):Nat->Q2
 |0,_,_=>none
 |n+1,vs,s=>cX c F bh (fZ k1 k2 n) [k1,k2] Bw.1 vs s
def cD(k1 k2:Q2)(n:Nat)(vs:List AV)(s:St):=(by dsimp only[fZ,Bw,go_sem,Int.reduceOfNat,Int.reduceNegSucc]:fZ c F k1 k2 (n+1) vs s=_)
def uU:Un->List Q2->Nat->Q2
 |.z,[k1,k2]=>fZ c F k1 k2
 |_,_=>λ_=>dZ
def zK:O2:=bf c F (uU c F) Co.1 [x0,x1,x2] s
def Nz:=(by dsimp only[zK,Co, ↓uU,go_sem,Int.reduceOfNat,Int.reduceNegSucc]:zK c F x0 x1 x2 s=_)
def kJ:Sh:=(sq sl (sq sl (sq sl (sq (sb (sp 0 [1,5,6] [(2,[6])] (sq (sq sl (sc sl sl)) (sb (sq sl (sq (sq sl (sb (sp 1 [1,5,6,7,8,9] [(4,[1,5,6,7,8])] (sq (sq sl (sc sl sl)) (sj [1,5,6,7,8,9] (sb (sq (sq sl (sc sl sl)) (sj [1,5,6,7,8,9] (sq sl (sc sl sl)) (sq sl (sc sl sl))))) sl))))) (sq sl (sj [1,5,6,10] (sq sl (sc sl sl)) (sq sl (sq sl sl)))))))))) (sq sl sl)))))
def zL:PX 62 kJ:=⟨_,by conv=>lhs;reduce⟩
def xX:PL 62 kJ 1:=⟨_,by conv=>lhs;reduce⟩
def fP(k4:Q2):Nat->Q2
 |0,_,_=>none
 |n+1,vs,s=>cX c F bh (fP k4 n) [k4] xX.1 vs s
def mC(k4:Q2)(n:Nat)(vs:List AV)(s:St):=(by dsimp only[fP,xX,go_sem,Int.reduceOfNat,Int.reduceNegSucc]:fP c F k4 (n+1) vs s=_)
def xY:Un->List Q2->Nat->Q2
 |(.s .z),[k4]=>fP c F k4
 |_,_=>λ_=>dZ
def xZ:PL 62 kJ 0:=⟨_,by conv=>lhs;reduce⟩
def dI(k2:Q2):Nat->Q2
 |0,_,_=>none
 |n+1,vs,s=>cX c F (xY c F) (dI k2 n) [k2] xZ.1 vs s
def uD(k2:Q2)(n:Nat)(vs:List AV)(s:St):=(by dsimp only[dI,xZ, ↓xY,go_sem,Int.reduceOfNat,Int.reduceNegSucc]:dI c F k2 (n+1) vs s=_)
def qp:Un->List Q2->Nat->Q2
 |.z,[k2]=>dI c F k2
 |(.s .z),[k4]=>fP c F k4
 |_,_=>λ_=>dZ
def tI:O2:=bf c F (qp c F) zL.1 [x0,x1] s
def JO:=(by dsimp only[tI,zL, ↓qp,go_sem,Int.reduceOfNat,Int.reduceNegSucc]:tI c F x0 x1 s=_)
def qq:Sh:=(sq sl (sq sl (sq (sq sl (sb (sp 0 [0,1,5,6] [(2,[5])] (sq (sq sl (sc sl sl)) (sj [0,1,5,6] (sb (sq sl (sc sl sl))) sl))))) (sq sl sl))))
def zM:PX 63 qq:=⟨_,by conv=>lhs;reduce⟩
def ya:PL 63 qq 0:=⟨_,by conv=>lhs;reduce⟩
def fQ(k2:Q2):Nat->Q2
 |0,_,_=>none
 |n+1,vs,s=>cX c F bh (fQ k2 n) [k2] ya.1 vs s
def jC(k2:Q2)(n:Nat)(vs:List AV)(s:St):=(by dsimp only[fQ,ya,go_sem,Int.reduceOfNat]:fQ c F k2 (n+1) vs s=_)
def qt:Un->List Q2->Nat->Q2
 |.z,[k2]=>fQ c F k2
 |_,_=>λ_=>dZ
def tJ:O2:=bf c F (qt c F) zM.1 [x0,x1] s
def zN:=(by dsimp only[tJ,zM, ↓qt,go_sem,Int.reduceOfNat]:tJ c F x0 x1 s=_)
end
section
variable{c:ah}(hc:bZ c)(F:Nat){x0 x1 x2 x3 x4 x5 x6 x7 x8 x9 xA ue:AV}{s:St}{r:AV×St}
include hc
theorem BR(h:nQ c F x0 x1 x2 x3 s=some r):c 5 [x0,x1,x2,x3] s=some (tidy s r):=hc.o0 F tF (by kernel_rfl) (by kernel_rfl) h
theorem nR(h:tH c F x0 x1 x2 x3 s=some r):c 14 [x0,x1,x2,x3] s=some (tidy s r):=hc.o0 F zI (by kernel_rfl) (by kernel_rfl) h
theorem uV(h:jg c F x0 x1 s=some r):c 52 [x0,x1] s=some (tidy s r):=hc.o1 F (iw c F) iu (by kernel_rfl) (by kernel_rfl) (λ_ _ _=>by kernel_rfl) (λ_ _ _ _=>by kernel_rfl) (by kernel_rfl) h
theorem kA(h:ji c F x0 s=some r):c 60 [x0] s=some (tidy s r):=hc.o0 F lM (by kernel_rfl) (by kernel_rfl) h
theorem KB(h:zK c F x0 x1 x2 s=some r):c 61 [x0,x1,x2] s=some (tidy s r):=hc.o1 F (uU c F) uT (by kernel_rfl) (by kernel_rfl) (λ_ _ _=>by kernel_rfl) (λ_ _ _ _=>by kernel_rfl) (by kernel_rfl) h
theorem GJ(h:tI c F x0 x1 s=some r):c 62 [x0,x1] s=some (tidy s r):=hc.oL F (qp c F) kJ 2 (by kernel_rfl) (λi hi=>match i,hi with|0,_=>iq 0 (by kernel_rfl) (λ_ _ _=>by kernel_rfl) (λ_ _ _ _=>by kernel_rfl)|1,_=>iq 1 (by kernel_rfl) (λ_ _ _=>by kernel_rfl) (λ_ _ _ _=>by kernel_rfl)|n+2,h=>absurd h (by omega)) (by kernel_rfl) h
theorem vP(h:tJ c F x0 x1 s=some r):c 63 [x0,x1] s=some (tidy s r):=hc.o1 F (qt c F) qq (by kernel_rfl) (by kernel_rfl) (λ_ _ _=>by kernel_rfl) (λ_ _ _ _=>by kernel_rfl) (by kernel_rfl) h
end
end
section
set_option linter.unusedSimpArgs false
open Go Go.Ai Go.Proofs Go.Ai.Tp
variable{c:ah}
section
variable{s0 s sA:St}{Vs:List AV}{p:aS}{A B L V:AV}{a q b:List Int}{N n:Nat}{l:List Mv}
theorem aby(ha:LS s A a)(hb:LS s B b)(hl:a.length<=1000000)(he:a.length=b.length)(F:Nat)(k2:Q2):∀(m k f n:Nat),k+m=a.length->m<f->n<=k->
  fQ c F k2 f [A,B,.int .i64 (n:Int),.int .i64 (k:Int)] s=k2 [.int .i64 ((n+Az (a.drop k) (b.drop k):Nat):Int)] s:=by
 have la:=λ(K:AV->St->Option (AV×St))(s1:St)=>ha.lenB (c:=c) K s1
 have lb:=λ(K:AV->St->Option (AV×St))(s1:St)=>hb.lenB (c:=c) K s1
 rw[<-he]at lb;intro m;induction m with
 |zero=>
  intro k f n hk hf hn;obtain⟨f,rfl⟩:∃g,f=g+1:=⟨f - 1,by omega⟩
  obtain rfl:k=a.length:=by omega
  rw[jC,Zg0,he,Zg0, <-he];simp[la,Az]
 |succ m ih=>
  intro k f n hk hf hn;obtain⟨f,rfl⟩:∃g,f=g+1:=⟨f - 1,by omega⟩
  have br:k<a.length:=by omega
  have Mx:k<b.length:=by omega
  obtain⟨p',x⟩:=ha.rx (H1 br);obtain⟨r',y⟩:=hb.rx (H1 Mx);have x1:=λ{R}=>@x.pr R
  have x2:=λ{R}=>@x.rd R
  have y1:=λ{R}=>@y.pr R
  have y2:=λ{R}=>@y.rd R
  have wr:aD .i64 ((k:Int)+1)=((k+1:Nat):Int):=wrap64 (by omega) (by omega);have wn:aD .i64 ((n:Int)+1)=((n+1:Nat):Int):=wrap64 (by omega) (by omega);rw[Za7 br,Za7 Mx,Az];by_cases e:a[k]=b[k]
  .rw[Za2 e,Zb6, <-ih (k+1) f n (by omega) (by omega) (by omega),jC];have d2:decide (a[k]=b[k])=true:=H4 e;simp[br,la,lb,x1,x2,y1,y2,d2,wr,gK]
  .rw[Za1 e, <-Zg7, <-ih (k+1) f (n+1) (by omega) (by omega) (by omega),jC];have d2:decide (a[k]=b[k])=false:=H2 e;simp[br,la,lb,x1,x2,y1,y2,d2,wr,wn,gK]
theorem MP(hc:bZ c)(ha:LS s A a)(hb:LS s B b)(hl:a.length<=1000000):c 63 [A,B] s=some (.int .i64 ((zG a b:Nat):Int),s):=by
 unfold zG;by_cases he:a.length=b.length
 . (rw[Za2 he];have hi:=λk2=>aby (c:=c) ha hb hl he (a.length+1) k2 a.length 0 (a.length+1) 0 (by omega) (by omega) (by omega));simp only[Zb7,show((0:Nat):Int)=0 from rfl,Zb6]at hi;rw[vP hc (a.length+1) (r:=(.int .i64 ((Az a b:Nat):Int),s)),au (Plain.int _ _) (aP.refl s)];rw[zN];simp only[aJ,hi,dO,eS]
 . (rw[  Za1 he];have la:=λ(K:AV->St->Option (AV×St))(s1:St)=>ha.lenB (c:=c) K s1);have lb:=λ(K:AV->St->Option (AV×St))(s1:St)=>hb.lenB (c:=c) K s1
   have d:decide ((a.length:Int)=(b.length:Int))=false:=H2 (by omega);have L0:∀(F:Nat)(k2:Q2),fQ c F k2 1 [A,B,.int .i64 0,.int .i64 0] s=k2 [.int .i64 0] s:=λF k2=>by
    rw[jC];by_cases h0:0<a.length
    .   simp[la,lb,he,h0,d]
    .   have h1:a.length=0:=(by omega);simp[la,lb,h1,h0]
   rw[vP hc 1 (r:=(.int .i64 ((0:Nat):Int),s)),au (Plain.int _ _) (aP.refl s)];rw[zN];simp only[aJ,L0,dO,eS];rfl
def uW(q b:List Int):Nat->Nat->Int->Int->Int×Int
 |0,_,g,w=>(g,w)
 |m+1,k,g,w=>if fn q k=fn b k then uW q b m (k+1) g w else uW q b m (k+1) (if g<0/\(fn b k= -1\/q.contains (fn b k)=false)then(k:Int)else g) (if w<0 then(k:Int)else w)
theorem MQ{q b:List Int}:∀(m k:Nat)(g w:Int),0<=g->(uW q b m k g w).1=g
 |0,_,_,_,_=>rfl
 |m +1,k,g,w,h=>by
  rw[uW];split
  .exact MQ m (k+1) g w h
  .rw[Za1 (c:=g<0/\(fn b k= -1\/q.contains (fn b k)=false)) (λhh=>by have:=hh.1;omega)];exact MQ m (k+1) g _ h
theorem MR{q b:List Int}(hb:∀i,-1<=fn b i):∀(m k:Nat)(w:Int),match (lR q b m k w).2 with
  |some _=>(uW q b m k (-1) w).1=(lR q b m k w).1
  |none=>uW q b m k (-1) w=(-1,(lR q b m k w).1)
 |0,k,w=>by simp[lR,uW]
 |m +   1,k,w=>by
  rw[lR,uW];by_cases e:fn q k=fn b k
  .rw[Za2 e,Za2 e];exact MR hb m (k+1) w
  . rw[Za1 e,Za1 e];have hbk:=hb k;by_cases h:fn b k<0\/q.contains (fn b k)=false
    .   have h':(-1:Int)<0/\(fn b k= -1\/q.contains (fn b k)=false):=⟨by omega,h.imp (λh=>by omega) id⟩
        rw[Za2 h,Za2 h'];exact MQ m (k+1) _ _ (by omega)
    .   have h':¬((-1:Int)<0/\(fn b k= -1\/q.contains (fn b k)=false)):=λhh=>h (hh.2.imp (λh=>by omega) id)
        rw[Za1 h,Za1 h'];exact MR hb m (k+1) _
theorem abz (hc:bZ c)(hb:LS s B b)(hq:LS s V q)(he:q.length=b.length)(hl:q.length<=1000000)(x6:AV)(F:Nat)(k4:Q2):∀(m k f:Nat)(g w:Int),k+m=q.length->m<f->
  fP c F k4 f [B,V,x6,.int .i64 g,.int .i64 w,.int .i64 (k:Int)] s=k4 [B,V,x6,.int .i64 (uW q b m k g w).1,.int .i64 (uW q b m k g w).2] s:=by
 have ln:=λ(K:AV->St->Option (AV×St))(s1:St)=>hq.lenB (c:=c) K s1
 intro m;induction m with
 |zero=>
  intro k f g w hk hf;obtain⟨f,rfl⟩:∃g,f=g+1:=⟨f - 1,by omega⟩
  obtain rfl:k=q.length:=by omega
  rw[mC];simp[ln,uW]
 |succ m ih   =>
  intro k f g w hk hf;obtain⟨f,rfl⟩:∃g,f=g+1:=⟨f - 1,by omega⟩
  have br:k<q.length:=by omega
  obtain⟨p',x⟩:=hq.rx (vO br);obtain⟨r',y⟩:=hb.rx (vO (q:=b) (i:=k) (by omega));have x1:=λ{R}=>@x.pr R
  have x2:=λ{R}=>@x.rd R
  have y1:=λ{R}=>@y.pr R
  have y2:=λ{R}=>@y.rd R
  have y3:=λ{R}=>@y.st R
  have y4:=λ{R}=>@y.ld R
  have wh:=Sy hc hq hl (fn b k);have dn:=JK q (fn b k);have wr:Unit->aD .i64 ((k:Int)+1)=((k+1:Nat):Int):=λ_=>wrap64 (by omega) (by omega)
  have aK:decide ((k:Int)<(q.length:Int))=true:=H4 (by omega);rw[uW];by_cases e:fn q k=fn b k
  .have d:decide (fn q k=fn b k)=true:=H4 e;rw[Za2 e, <-ih (k+1) f g w (by omega) (by omega),mC];simp[gK,aK,br,ln,x1,x2,y1,y2,d,wr ()]
  . have d:decide (fn q k=fn b k)=false:=H2 e;rw[Za1 e];generalize fn b k=t at*
    generalize oW:(if g<0/\(t= -1\/q.contains t=false)then(k:Int)else g)=g' at*
    generalize hw':(if w<0 then(k:Int)else w)=w' at*
    rw[<-ih (k+1) f g' w' (by omega) (by omega),mC];by_cases h1:w<0
    .   have d1:decide (w<0)=true:=H4 h1;rw[Za2 h1]at hw';subst hw';by_cases h2:g<0
        . have d2:decide (g<0)=true:=H4 h2;by_cases h3:t= -1
          .have d3:decide (t= -1)=true:=H4 h3;rw[Za2 ⟨h2,.inl h3⟩]at oW;subst oW;simp[gK,aK,br,ln,x1,x2,y1,y2,y3,y4,d,d1,d2,d3,wr ()]
          . have d3:decide (t= -1)=false:=H2 h3;cases h4:q.contains t
            .rw[h4]at dn;rw[Za2 ⟨h2,.inr h4⟩]at oW;subst oW;simp[gK,aK,br,ln,x1,x2,y1,y2,y3,y4,d,d1,d2,d3,wh,dn,wr ()]
            . rw[h4]at dn;have n5:¬(g<0/\(t= -1\/q.contains t=false)):=λh=>by
               rcases h.2 with h|h
               .exact h3 h
               .rw[h4]at h;cases h
              rw[Za1 n5]at oW;subst oW;simp[gK,aK,br,ln,x1,x2,y1,y2,y3,y4,d,d1,d2,d3,wh,dn,wr ()]
        .have d2:decide (g<0)=false:=H2 h2;rw[Za1 (λh=>h2 h.1)]at oW;subst oW;simp[gK,aK,br,ln,x1,x2,y1,y2,y3,y4,d,d1,d2,wr ()]
    .   have d1:decide (w<0)=false:=H2 h1;rw[Za1 h1]at hw';subst hw';by_cases h2:g<0
        . have d2:decide (g<0)=true:=H4 h2;by_cases h3:t= -1
          .have d3:decide (t= -1)=true:=H4 h3;rw[Za2 ⟨h2,.inl h3⟩]at oW;subst oW;simp[gK,aK,br,ln,x1,x2,y1,y2,y3,y4,d,d1,d2,d3,wr ()]
          . have d3:decide (t= -1)=false:=H2 h3;cases h4:q.contains t
            .rw[h4]at dn;rw[Za2 ⟨h2,.inr h4⟩]at oW;subst oW;simp[gK,aK,br,ln,x1,x2,y1,y2,y3,y4,d,d1,d2,d3,wh,dn,wr ()]
            . rw[h4]at dn;have n5:¬(g<0/\(t= -1\/q.contains t=false)):=λh=>by
               rcases h.2 with h|h
               .exact h3 h
               .rw[h4]at h;cases h
              rw[Za1 n5]at oW;subst oW;simp[gK,aK,br,ln,x1,x2,y1,y2,y3,y4,d,d1,d2,d3,wh,dn,wr ()]
        .have d2:decide (g<0)=false:=H2 h2;rw[Za1 (λh=>h2 h.1)]at oW;subst oW;simp[gK,aK,br,ln,x1,x2,y1,y2,y3,y4,d,d1,d2,wr ()]
theorem Er.setF{l:Ms}(h:Er s0 s B L q l){i:Nat}(hi:i<q.length)(x:Int):
  ∃b o s',Rd s 1 B i b o [.int .i64 (fn q i)]/\(∀(K:AV->St->Option (AV×St)),ai c (.store 1) [.ptr b o,.int .i64 x] s K=K .undef s')/\Er s0 s' B L (q.set i x) l/\∀p y,cZ B≠some p->s.heap.get p=some y->s'.heap.get p=some y:=by
 obtain⟨b,o,s',a1,a2,a3,a4⟩:=Mk.KM (c:=c) h.m1 hi x;exact⟨b,o,s',a1,a2,⟨a3,h.m2.Qp a3.ax λp y hp hy=>a4 p y (λe=>h.sep p e hp) hy,h.sep⟩,a4⟩
theorem abA(hc:bZ c)(pb:LS sA B b)(hb:Cn N n b)(hn:n<=1000)(F:Nat)(hF:n<F):∀(m f:Nat)(s:St)(V L:AV)(q:List Int)(l:Ms),j9 n (fn b) (fn q)<=m->m<f->l.length+m<=4000->Er sA s V L q l->q.length=n->Inv n (fn a) (fn b) (fn q) l->
  ∃s' L',Mk 3 sA s' L' ((l++uS b m q).map uR)/\∀k2:Q2,dI c F k2 f [B,V,L] s=k2 [L'] s':=by
 have Kh:=hb.len;have tY:∀i,-1<=fn b i:=λi=>(hb.fnr i).1
 have done:∀(m f:Nat)(s:St)(V L:AV)(q:List Int)(l:Ms),Er sA s V L q l->q.length=n->(∀i<n,fn q i=fn b i)->aV q b=(-1,-1)->∃s' L',Mk 3 sA s' L' ((l++uS b m q).map uR)/\∀k2:Q2,dI c F k2 (f+1) [B,V,L] s=k2 [L'] s':=λm f s V L q l T hq bW MN=>by
  have mv:=MP hc (.inr T.m1.own) (pb.ax T.m1.ax) (by omega);have e0:zG q b=0:=by
    unfold zG;rw[Za2 (by omega),Sw (by omega)];exact G8 λi hi=>Za2 (bW i (by omega))
  rw[e0]at mv;have em:uS b m q=[]:=by
    cases m with
    |zero=>rfl
    |succ m=>rw[uS,MN,Za2 (by show(-1:Int)<0;omega)]
  refine⟨s,L,by rw[em,Zf4];exact T.m2,λk2=> ?_⟩;rw[uD];simp[mv]
 intro m;induction m with
 |zero=>
  intro f s V L q l hm hf hl T hq I;obtain⟨f,rfl⟩:∃g,f=g+1:=⟨f - 1,by omega⟩
  rcases AE (q:=q) (b:=b) n hq n 0 (-1) (by omega) (.inl ⟨rfl,λ_ h=>by omega⟩) (λ_ h=>by omega)with⟨e,bW⟩|⟨u,e,hu,aR,_⟩|⟨u,e,hu,aR,_⟩
  .exact done 0 f s V L q l T hq bW (by unfold aV;rw[hq,e];rfl)
  .have:=Lp (f:=λi=>if fn q i=fn b i then 0 else if fn q i<0 then 1 else 2) hu (by rw[Za1 aR];split<;>omega);unfold j9 at hm;omega
  .have:=Lp (f:=λi=>if fn q i=fn b i then 0 else if fn q i<0 then 1 else 2) hu (by rw[Za1 aR];split<;>omega);unfold j9 at hm;omega
 |succ m ih=>
  intro f s V L q l hm hf hl T hq I;obtain⟨f,rfl⟩:∃g,f=g+1:=⟨f - 1,by omega⟩
  have hqV:LS s V q:= .inr T.m1.own;have L1:=λk4=>abz (c:=c) hc (pb.ax T.m1.ax) hqV (by omega) (by omega) L F k4 n 0 F (-1) (-1) (by omega) hF
  simp only[show((0:Nat):Int)=0 from rfl]at L1;have rs:=MR (q:=q) (b:=b) tY n 0 (-1)
  have go:∀(u:Nat)(t:Int),u<n->fn q u≠fn b u->(((uW q b n 0 (-1) (-1)).1=(u:Int)/\t=fn b u)\/(uW q b n 0 (-1) (-1)=(-1,(u:Int))/\t= -1))->j9 n (fn b) (fn (q.set u t))<=m->Inv n (fn a) (fn b) (fn (q.set u t)) (l++[(u,fn q u,t)])->
        ∃s' L',Mk 3 sA s' L' ((l++(u,fn q u,t)::uS b m (q.set u t)).map uR)/\∀k2:Q2,dI c F k2 (f+1) [B,V,L] s=k2 [L'] s':=by
    intro u t hu aR hr Vb I';have mv:=MP hc hqV (pb.ax T.m1.ax) (by omega);have e1:1<=zG q b:=by
        unfold zG;rw[Za2 (by omega),Sw (by omega)];exact Lp (z:=u) (by omega) (by rw[Za1 aR];omega)
    have dm:decide ((0:Int)<((zG q b:Nat):Int))=true:=H4 (by omega);have dm':decide (0<zG q b)=true:=H4 (by omega);have dm2:0<zG q b:=(by omega);generalize zG q b=D at*
    have gN:=Grew.af T.m1.ax.wf (.cells (uR (u,fn q u,t)) 0);have T1:=T.grow gN;obtain⟨b2,o2,s3,r2,w2,T3,fr⟩:=T1.setF (c:=c) (i:=u) (by omega) t;have gn:=aE s (.cells (uR (u,fn q u,t)) 0);have gn3:=fr s.next _ (λe=>by
        have:=T.m1.ax.wf _ _ (T.m1.tight _ e);omega) gn
    obtain⟨s4,L4,p4,T4⟩:=T3.push (c:=c) (by omega) (u,fn q u,t);obtain⟨s',L',z1,z2⟩:=ih f s4 V L4 (q.set u t) _ Vb (by omega) (by rw[Zd1];simp;omega) T4 (by rw[Zi5];exact hq) I';refine⟨s',L',by simpa using z1,λk2=> ?_⟩;obtain⟨yb,yo⟩:=LS.rx (pb.ax T1.m1.ax) (vO (q:=b) (i:=u) (by omega));have y1:=λ{R}=>@yo.st R
    have y2:=λ{R}=>@yo.ld R
    have x1:=λ{R}=>@r2.st R
    have x2:=r2.one;simp only[uR]at p4;have stO:∀(i j k i' j' k':Int)(K:AV->St->Option (AV×St)),ai c (.store 3) [.ptr s.next 0,.agg [.int .i64 i,.int .i64 j,.int .i64 k]] (af s (.cells [.int .i64 i',.int .i64 j',.int .i64 k'] 0)) K=K .undef (af s (.cells [.int .i64 i,.int .i64 j,.int .i64 k] 0)):=λi j k i' j' k' K=>dR c K s 3 (.agg [.int .i64 i,.int .i64 j,.int .i64 k]) _ rfl rfl rfl
    have bl:∀(i j:Int)(K:AV->St->Option (AV×St))(s:St),ai c (.build [.int .i64 0,.int .i64 0,.int .i64 0] [(0,1),(2,1)]) [.int .i64 i,.int .i64 j] s K=K (.agg [.int .i64 i,.int .i64 0,.int .i64 j]) s:=λi j K s=>by rw[cC (l:=[.int .i64 i,.int .i64 0,.int .i64 j]) (h:=rfl)]
    have al:∀(K:AV->St->Option (AV×St)),ai c (.alloc [.int .i64 0,.int .i64 0,.int .i64 0]) [] s K=K (.ptr s.next 0) (af s (.cells [.int .i64 0,.int .i64 0,.int .i64 0] 0)):=λK=>by simp
    have f0:∀(o:Nat)(K:AV->St->Option (AV×St))(s1:St),ai c (.fieldA o) [.ptr s.next 0] s1 K=K (.ptr s.next o) s1:=λo K s1=>by simp
    have g0:∀(y:Int)(K:AV->St->Option (AV×St)),ai c (.load none) [.ptr s.next 0] (af s (.cells [.int .i64 (u:Int),.int .i64 y,.int .i64 t] 0)) K=K (.int .i64 (u:Int)) (af s (.cells [.int .i64 (u:Int),.int .i64 y,.int .i64 t] 0)):=λy K=>by simp[aE,ak]
    have g2:∀(y:Int)(K:AV->St->Option (AV×St)),ai c (.load none) [.ptr s.next 2] (af s (.cells [.int .i64 (u:Int),.int .i64 y,.int .i64 t] 0)) K=K (.int .i64 t) (af s (.cells [.int .i64 (u:Int),.int .i64 y,.int .i64 t] 0)):=λy K=>by simp[aE,ak]
    have gN0:=Grew.af T.m1.ax.wf (.cells [.int .i64 (u:Int),.int .i64 0,.int .i64 t] 0);obtain⟨ob,oo,r0⟩:=rdF (i:=u) (T.grow gN0).m1.own (by omega);have x0:=λ{R}=>@r0.st R
    have x0':=r0.one;have v0:∀(K:AV->St->Option (AV×St)),ai c (.load none) [.ptr ob oo] (af s (.cells [.int .i64 (u:Int),.int .i64 0,.int .i64 t] 0)) K=K (.int .i64 (fn q u)) (af s (.cells [.int .i64 (u:Int),.int .i64 0,.int .i64 t] 0)):=λK=>by simp[x0']
    have stF:∀(K:AV->St->Option (AV×St)),ai c (.store 1) [.ptr s.next 1,.int .i64 (fn q u)] (af s (.cells [.int .i64 (u:Int),.int .i64 0,.int .i64 t] 0)) K=K .undef (af s (.cells [.int .i64 (u:Int),.int .i64 (fn q u),.int .i64 t] 0)):=λK=>by rw[RH K (aE _ _) (by simp) rfl rfl,RB];rfl
    have l3:∀(K:AV->St->Option (AV×St)),ai c (.load (some 3)) [.ptr s.next 0] s3 K=K (.agg [.int .i64 (u:Int),.int .i64 (fn q u),.int .i64 t]) s3:=λK=>by rw[XB,gn3];rfl
    have tail:∀(K2:Q2),ai c .move [V] (af s (.cells [.int .i64 (u:Int),.int .i64 0,.int .i64 t] 0)) (λx64 s_1=>ai c (.fieldA 0) [.ptr s.next 0] s_1 λx65 s_2=>ai c (.load none) [x65] s_2 λx66 s_3=>ai c (.idxA 1 none) [x64,x66] s_3 λx67 s_4=>ai c (.load none) [x67] s_4 λx68 s_5=>ai c (.fieldA 1) [.ptr s.next 0] s_5 λx69 s_6=>ai c (.store 1) [x69,x68] s_6 λ_ s_7=>
         ai c .move [V] s_7 λx70 s_8=>ai c (.fieldA 0) [.ptr s.next 0] s_8 λx71 s_9=>ai c (.load none) [x71] s_9 λx72 s_10=>ai c (.fieldA 2) [.ptr s.next 0] s_10 λx73 s_11=>ai c (.load none) [x73] s_11 λQ0 s_12=>ai c (.idxA 1 none) [x70,x72] s_12 λTD s_13=>ai c (.store 1) [TD,Q0] s_13 λ_ s_14=>
         ai c .move [L] s_14 λx76 s_15=>ai c (.load (some 3)) [.ptr s.next 0] s_15 λx77 s_16=>ai c (.buildSlice 3 1 [(.int .i64 0),(.int .i64 0),(.int .i64 0)] [0]) [x77] s_16 λYV s_17=>ai c (.append 3 24) [x76,YV] s_17 λx79 s_18=>ai c .move [x79] s_18 λx6 s_19=>dI c F K2 f [B,V,x6] s_19)=K2 [L'] s':=λK2=>by
        rw[aJ,f0,g0,x0,v0,f0,stF,aJ,f0,g0,f0,g2,x1,w2,aJ,l3,p4,aJ,z2]
    rw[uD];simp only[dO,eS,aJ,oY,mv,kP,aea,dm,nW,L1];rcases hr with⟨h1,h2⟩|⟨h1,h2⟩
    .   generalize uW q b n 0 (-1) (-1)=R at*
        obtain⟨R1,R2⟩:=R;simp only at h1;subst h1;subst h2;have dg:decide ((0:Int)<=(u:Int))=true:=H4 (by omega);have y1':∀(K:AV->St->Option (AV×St))(s1:St),ai c (.idxA 1 none) [B,.int .i64 (u:Int)] s1 K=K yb s1:=λK s1=>y1 c K .i64 s1
        obtain⟨yb3,yo3⟩:=LS.rx (pb.ax (T.grow (Grew.af T.m1.ax.wf (.cells [.int .i64 R2,.int .i64 0,.int .i64 (-1)] 0))).m1.ax) (vO (q:=b) (i:=u) (by omega));have y5:=λ{R}=>@yo3.st R
        have y6:=λ{R}=>@yo3.ld R
        simp only[gK,bl,al,stO,Yp,dg,nW,y5,y6,stO,dO,eS,aJ];have t2:=tail k2;simp only[aJ]at t2;exact t2
    .   generalize uW q b n 0 (-1) (-1)=R at*
        subst h1;subst h2;have dg:decide ((0:Int)<= -1)=false:=H2 (by omega);simp only[gK,bl,al,stO,Yp,dg,mU,dO,eS,aJ];have t2:=tail k2;simp only[aJ]at t2;exact t2
  rcases AE (q:=q) (b:=b) n hq n 0 (-1) (by omega) (.inl ⟨rfl,λ_ h=>by omega⟩) (λ_ h=>by omega)with⟨e,bW⟩|⟨u,e,hu,aR,bW⟩|⟨u,e,hu,aR,aad⟩
  .exact done (m+1) f s V L q l T hq bW (by unfold aV;rw[hq,e];rfl)
  .obtain⟨I',h0⟩:=I.wait hb.inj bW hu aR;have es:fn (q.set u (-1))=j8 (fn q) u (-1):=Ri (by omega) _;have:=VT hu aR h0 (bW u hu aR).1;have MN:aV q b=((u:Int),-1):=(by unfold aV;rw[hq,e];rfl);rw[e]at rs;rw[uS,MN,Za1 (by show ¬(u:Int)<0;omega)];exact go u (-1) hu aR (.inr ⟨rs,rfl⟩) (by rw[es];omega) (by rw[es];exact I')
  .have I':=I.go hu aR aad;have es:fn (q.set u (fn b u))=j8 (fn q) u (fn b u):=Ri (by omega) _;have:=aa5 hu aR;have MN:aV q b=((u:Int),fn b u):=(by unfold aV;rw[hq,e];rfl);rw[e]at rs;rw[uS,MN,Za1 (by show ¬(u:Int)<0;omega)];exact go u (fn b u) hu aR (.inl ⟨rs,rfl⟩) (by rw[es];omega) (by rw[es];exact I')
theorem abB(hc:bZ c)(hw:Wf s)(za zb:Bool)(ha:Cn N n a)(hb:Cn N n b)(hn:n<=1000):
  ∃s' L,c 62 [ints za a,ints zb b] s=some (L,s')/\Mk 3 s s' L ((uS b (j9 n (fn b) (fn a)) a).map uR):=by
 have z9:=ha.len;obtain⟨v,s1,e1,M1⟩:=MF hc za a (show a.length<=1048576 by omega) s hw;have ZR:=aa4 (n:=n) (b:=fn b) (q:=fn a);obtain⟨s',L,z1,z2⟩:=abA (c:=c) (a:=a) hc (LS.ro s zb b) hb hn 4001 (by omega) (j9 n (fn b) (fn a)) 4001 s1 v .aq a [] (Za3 _) (by omega) (by simp;omega) ⟨M1,Mk.start M1.sk M1.ax,λb _ h=>by cases h⟩ z9 Inv.start;rw[Zg8]at z1;obtain⟨s3,t1,t2⟩:=z1.tidy;refine⟨s3,L,?_,t2⟩;rw[GJ hc 4001 (r:=(L,s')),t1];rw[JO];simp only[aJ,oY,e1,kP,z2,dO,eS]
end
set_option linter.unusedSimpArgs false
section
variable{s0 s sA:St}{Vs:List AV}{p:aS}{A B L V:AV}{a q b:List Int}{N n:Nat}{l:List Mv}
theorem afx (hc:bZ c)(hp:p.gW){b3:Pos}(hb3:sA.heap.get b3=some (.cells p.cells 0))(z:Bool)(hl:l.length<=4000)(F:Nat):∀(m k f:Nat)(s:St)(V:AV)(q:List Int),k+m=l.length->m<f->Mk 1 sA s V (q.map bL)->q.length<=1000->
  ∃s' V',Mk 1 sA s' V' ((iO (NS p) (l.drop k) k q).1.map bL)/\∀k1 k2:Q2,fZ c F k1 k2 f [Q5 z l,.ptr b3 0,V,.int .i64 (k:Int)] s=if(iO (NS p) (l.drop k) k q).2.2=0 then k2 [V'] s' else k1 [V',.int .i64 (iO (NS p) (l.drop k) k q).2.1,.int .i64 (iO (NS p) (l.drop k) k q).2.2] s':=by
 obtain⟨hs,hle⟩:=Re hp;have C:=λs=>ME hc p.tz p.ts hp.ts s
 rw[<-hs]at C;have p0:p.cells[0]? =some (tabs p.tz p.ts):=rfl;generalize NS p=N at*
 intro m;induction m with
 |zero=>
  intro k f s V q hk hf M hq;obtain⟨f,rfl⟩:∃g,f=g+1:=⟨f - 1,by omega⟩
  obtain rfl:k=l.length:=by omega
  rw[Zg0];have lm:=λ(K:AV->St->Option (AV×St))(s1:St)=>(LM.ro s z l).lenB (c:=c) K s1
  refine⟨s,V,M,λk1 k2=> ?_⟩;rw[cD];simp[iO,lm]
 |succ m ih=>
  intro k f s V q hk hf M hq;obtain⟨f,rfl⟩:∃g,f=g+1:=⟨f - 1,by omega⟩
  have br:k<l.length:=by omega
  have lm:=λ(K:AV->St->Option (AV×St))(s1:St)=>(LM.ro s z l).lenB (c:=c) K s1
  obtain⟨P,rl⟩:=LM.r3 (LM.ro s z l) br;obtain⟨⟨g,x,t⟩,hlk⟩:∃y,y=l[k]:=⟨_,rfl⟩
  rw[Xo br hlk];rw[<-hlk]at rl;have gN:=Grew.af M.ax.wf (.cells (dL (g,x,t)) 0);have M1:=M.grow gN;have r1:=λ{R}=>@rl.st R
  have r2:=λ{R}=>@rl.ld R
  have ln:=λ(s1:St)(K:AV->St->Option (AV×St))=>M1.own.lenB (c:=c) K s1
  have zF:=λ(K:AV->Option (AV×St))=>lenP M1.own K
  rw[Zb0]at ln zF;have aK:decide ((k:Int)<(l.length:Int))=true:=H4 (by omega);have lu:∀(K:AV->St->Option (AV×St)),ai c (.store 3) [.ptr s.next 0,.agg (dL (g,x,t))] (af s (.cells [.int .i64 0,.int .i64 0,.int .i64 0] 0)) K=K .undef (af s (.cells (dL (g,x,t)) 0)):=λK=>dR c K s 3 (.agg (dL (g,x,t))) _ rfl rfl rfl
  have gn:=aE s (.cells (dL (g,x,t)) 0);have xb:=M1.ax.get hb3;have rc:∀(K:AV->Option (AV×St)),lS (.load none) [.ptr s.next 2] (af s (.cells (dL (g,x,t)) 0)).heap (λv=>mE (.load none) [.ptr s.next 2] v (vR [] (af s (.cells (dL (g,x,t)) 0)).heap)) K=K (.int .i64 t):=λK=>An K (by rw[gn];rfl) (by rw[gn];rfl) (by simp[fC,wQ,jK,cv,iV])
  have wr:Unit->aD .i64 ((k:Int)+1)=((k+1:Nat):Int):=λ_=>wrap64 (by omega) (by omega)
  have bad:∀e:Int,e≠0->kf N q (g,x,t)=e->(∀k1 k2:Q2,fZ c F k1 k2 (f+1) [Q5 z l,.ptr b3 0,V,.int .i64 (k:Int)] s=k1 [.aq,.int .i64 (k:Int),.int .i64 e] (af s (.cells (dL (g,x,t)) 0)))->
        ∃ s' V',Mk 1 sA s' V' ((if kf N q (g,x,t)≠0 then(([]:List Int),(k:Int),kf N q (g,x,t))else iO N (l.drop (k+1)) (k+1) (q.set g.toNat t)).1.map bL)/\∀k1 k2:Q2,fZ c F k1 k2 (f+1) [Q5 z l,.ptr b3 0,V,.int .i64 (k:Int)] s=
          if(if kf N q (g,x,t)≠0 then(([]:List Int),(k:Int),kf N q (g,x,t))else iO N (l.drop (k+1)) (k+1) (q.set g.toNat t)).2.2=0 then k2 [V'] s' else k1 [V',.int .i64 (if kf N q (g,x,t)≠0 then(([]:List Int),(k:Int),kf N q (g,x,t))else iO N (l.drop (k+1)) (k+1) (q.set g.toNat t)).2.1,.int .i64 (if kf N q (g,x,t)≠0 then(([]:List Int),(k:Int),kf N q (g,x,t))else iO N (l.drop (k+1)) (k+1) (q.set g.toNat t)).2.2] s':=λe he hE h=>by
    rw[hE,Za2 he];refine⟨_,.aq,Mk.start M.sk (M.ax.trans gN),λk1 k2=> ?_⟩;rw[h k1 k2,Za1 he]
  rcases TN N q g x t with⟨h1,hE⟩|⟨h1,h2,hE⟩|⟨i,rfl,hi,hh⟩
  . (refine bad 2 (by decide) hE λk1 k2=> ?_);have d1:decide (g<0)=true:=H4 h1;rw[cD];simp[lm,aK,br,r1,r2,lu,gn,ak,d1]
  . (refine bad 2 (by decide) hE λk1 k2=> ?_);have d1:decide (g<0)=false:=H2 h1;have d2:decide ((q.length:Int)<=g)=true:=H4 h2;rw[cD];simp[lm,aK,br,r1,r2,lu,gn,ak,d1,zF,ln,d2]
  . have d1:decide ((i:Int)<0)=false:=H2 (by omega);have d2:decide ((q.length:Int)<=(i:Int))=false:=H2 (by omega);have Es:decide (q.length<=i)=false:=H2 (by omega);obtain⟨bb,bo,s3,r3,w3,M3⟩:=Mk.KM (c:=c) M1 (i:=i) (by omega) t;have q1:=λ{R}=>@r3.pr R
    have Et:=λ{R}=>@r3.st R
    have q2:=r3.one;rcases hh with⟨h3,hE⟩|⟨h3,h4,hE⟩|⟨h3,h4,hh⟩
    .   (refine bad 2 (by decide) hE λk1 k2=> ?_);have d3:decide (x=fn q i)=false:=H2 λh=>h3 h.symm
        rw[cD];simp[lm,aK,br,r1,r2,lu,gn,ak,d1,d2,Es,zF,ln,q1,Et,q2,d3]
    .   (refine bad 2 (by decide) hE λk1 k2=> ?_);rw[h3]at q2;have d4:decide (t=x)=true:=H4 h4.symm;rw[cD];simp[lm,aK,br,r1,r2,lu,gn,ak,d1,d2,Es,zF,ln,q1,Et,q2,d4]
    .   (rw[ h3]at q2;have d4:decide (t=x)=false:=H2 λh=>h4 h.symm);rcases hh with⟨h5,hE⟩|⟨h5,h6,hE⟩|⟨h5,h6,h7,h8,hE⟩|⟨h5,h6,h7,h8,hE⟩|⟨h5,hE⟩
        . (refine bad 50 (by decide) hE λk1 k2=> ?_);have d5:decide (t= -1)=false:=H2 (by omega);have d6:decide (t<0)=true:=H4 (by omega);rw[cD];simp[lm,aK,br,r1,r2,lu,gn,ak,d1,d2,Es,zF,ln,q1,Et,q2,d4,d5,d6]
        . (refine bad 50 (by decide) hE λk1 k2=> ?_);have d5:decide (t= -1)=false:=H2 (by omega);have d6:decide (t<0)=false:=H2 (by omega);have d7:decide ((N:Int)<=t)=true:=H4 h6;rw[cD];simp[lm,aK,br,r1,r2,lu,gn,rc,xb,p0,C,ak,d1,d2,Es,zF,ln,q1,Et,q2,d4,d5,d6,d7]
        . (refine bad 51 (by decide) hE λk1 k2=> ?_);have d5:decide (t= -1)=false:=H2 (by omega);have d6:decide (t<0)=false:=H2 (by omega);have d7:decide ((N:Int)<=t)=false:=H2 h6;have d8:decide (0<=t)=true:=H4 h7;have wh:=Sy hc (.inr M1.own) (by omega) t;have dn:=JK q t;rw[h8]at dn;have d9:decide (0<=wI q t)=true:=by
            have:¬(wI q t<0):=(by simpa using dn);exact H4 (by omega)
          rw[cD];simp[lm,aK,br,r1,r2,lu,gn,rc,xb,p0,C,ak,d1,d2,Es,zF,ln,q1,Et,q2,d4,d5,d6,d7,d8,wh,d9]
        . rw[hE,Za1 (by simp)];obtain⟨s',V',z1,z2⟩:=ih (k+1) f s3 V (q.set i t) (by omega) (by omega) M3.1 (by rw[Zi5];exact hq);refine⟨s',V',z1,λk1 k2=> ?_⟩;have d5:decide (t= -1)=false:=H2 (by omega);have d6:decide (t<0)=false:=H2 (by omega);have d7:decide ((N:Int)<=t)=false:=H2 h6;have d8:decide (0<=t)=true:=H4 h7;have wh:=Sy hc (.inr M1.own) (by omega) t;have dn:=JK q t;rw[h8]at dn;have d9:decide (0<=wI q t)=false:=by
            have:wI q t<0:=(by simpa using dn);exact H2 (by omega)
          rw[Zj1, <-z2 k1 k2,cD];simp[lm,aK,br,r1,r2,lu,gn,rc,xb,p0,C,ak,d1,d2,Es,zF,ln,q1,Et,q2,d4,d5,d6,d7,d8,wh,d9,w3,wr ()]
        .rw[hE,Za1 (by simp)];obtain⟨s',V',z1,z2⟩:=ih (k+1) f s3 V (q.set i t) (by omega) (by omega) M3.1 (by rw[Zi5];exact hq);refine⟨s',V',z1,λk1 k2=> ?_⟩;have d5:decide (t= -1)=true:=H4 h5;have d8:decide (0<=t)=false:=H2 (by omega);rw[Zj1, <-z2 k1 k2,cD];simp[lm,aK,br,r1,r2,lu,gn,ak,d1,d2,Es,zF,ln,q1,Et,q2,d4,d5,d8,w3,wr ()]
theorem afy(hc:bZ c)(hw:Wf s)(p:aS)(hp:p.gW)(za z:Bool)(z9:a.length<=1000)(hl:l.length<=4000):
   ∃s' V,c 61 [.agg p.cells,ints za a,Q5 z l] s=some (.tuple [V,.int .i64 (iO (NS p) l 0 a).2.1,.int .i64 (iO (NS p) l 0 a).2.2],s')/\Mk 1 s s' V ((iO (NS p) l 0 a).1.map bL):=by
 have gN:=Grew.af hw (.cells p.cells 0);obtain⟨v,s1,e1,M1⟩:=MF hc za a (show a.length<=1048576 by omega) (af s (.cells p.cells 0)) gN.wf;obtain⟨s',V',z1,z2⟩:=afx (c:=c) (l:=l) hc hp (aE s (.cells p.cells 0)) z hl 4001 l.length 0 4001 s1 v a (by omega) (by omega) M1 z9;rw[Zb7]at z1 z2;simp only[show((0:Nat):Int)=0 from rfl]at z2;have M:=z1.back hw gN;have hR0:∀(l:List Mv)(k:Nat)(q:List Int),(iO (NS p) l k q).2.2=0->(iO (NS p) l k q).2.1=0:=λl=>by
   induction l with
   |nil=>intro k q _;rfl
   |cons m l ih=>
    intro k q hh;rw[iO]at hh ⊢;by_cases e:kf (NS p) q m≠0
    .rw[Za2 e]at hh;exact absurd hh e
    .rw[Za1 e]at hh ⊢; exact ih _ _ hh
 have hR0:=hR0 l 0 a;generalize iO (NS p) l 0 a=R at*
 obtain⟨s3,t1,t2⟩:=Mk.Xn M .i64 .i64 R.2.1 R.2.2;refine⟨s3,V',?_,t2⟩;rw[KB hc 4001 (r:=(.tuple [V',.int .i64 R.2.1,.int .i64 R.2.2],s')),t1];rw[Nz];simp only[tT,show ∀l,AV.cells (.agg l)=l from λl=>rfl,aJ,oY,e1,kP,z2];by_cases h0:R.2.2=0
 .rw[Za2 h0,h0,hR0 h0];simp
 .rw[Za1 h0];simp
theorem Sz{xs ys:List AV}{fs:List (Nat×PK)}{o:Nat}{k:IntKind}{a b:Int}(h1:nth xs o=some (.int k a))(h2:nth ys o=some (.int k b)):eqFields xs ys ((o,.i)::fs)=if a=b then eqFields xs ys fs else some false:=by
 simp only[eqFields,h1,h2,uE,cv];by_cases h:a=b
 .rw[Za2 h,iV,beq_iff_eq.2 h]
 .rw[Za1 h];rw[iV,beq_eq_false_iff_ne.2 h]
theorem afz(m n':Mv)(H:Pos->Option AB)(n:Pos):az.run H n (.bin .neq (.struct [(0,.i),(1,.i),(2,.i)])) [.agg (dL m),.agg (dL n')]=some (.val (.bool (!decide (m=n')))):=by
 obtain ⟨a1,a2,a3⟩:=m;obtain⟨b1,b2,b3⟩:=n';have e:eqFields (dL (a1,a2,a3)) (dL (b1,b2,b3)) [(0,.i),(1,.i),(2,.i)]=some (decide ((a1,a2,a3)=(b1,b2,b3))):=by
  rw[Sz (a:=a1) (b:=b1) rfl rfl,Sz (a:=a2) (b:=b2) rfl rfl,Sz (a:=a3) (b:=b3) rfl rfl];by_cases h1:a1=b1
  . by_cases h2:a2=b2
    .   by_cases h3:a3=b3
        .subst h1 h2 h3;simp[eqFields]
        .rw[Za2 h1,Za2 h2,Za1 h3,H2 (by simp[h3])]
    .   rw[Za2 h1,Za1 h2,H2 (by simp[h2])]
  .rw[Za1 h1,H2 (by simp[h1])]
 simp only[az.run,gS,mY,FH,e]
theorem abC(hc:bZ c)(hw:Wf s)(hS:LM s L l)(hl:l.length<=1000):∃v s',c 60 [L] s=some (v,s')/\Mk 3 s s' v (l.map dL):=by
 rcases hS.nil with⟨rfl,h0⟩|hn
 . (refine⟨.aq,s,?_,by rw[h0];exact Mk.start hw (Grew.refl hw)⟩;rw[kA hc 1 (r:=(.aq,s)),au Plain.aq (aP.refl s)];rw[lO];have e:∀(K:AV->St->Option (AV×St))(s:St),ai c (.bin .eql .slice) [.aq,.aq] s K=K (.bool true) s:=λK s=>aY c K (λH n=>rfl) s);simp[e]
 .obtain⟨v,s',a1,a2⟩:=Fk (c:=c) (R:=AV×St) (bytes:=24) (z:=[.int .i64 0,.int .i64 0,.int .i64 0]) (λr hr=>by obtain⟨m,_,rfl⟩:=Zd8.1 hr;rfl) (by decide) (by simp;omega) (by simp;omega) s hw hS;obtain⟨fq,t1,t2⟩:=a2.tidy;refine⟨v,fq,?_,t2⟩;rw[kA hc 1 (r:=(v,s')),t1];rw[lO];simp only[aJ,hn,mU];rw[a1]
theorem abD{l r:List Mv}(pq:LM s A l)(pr:LM s B r)(hl:l.length<=1000000)(he:l.length=r.length)(F:Nat)(k1 k2:Q2):∀(m k f:Nat),k+m=l.length->m<f->
  cY c F k1 k2 f [A,B,.int .i64 (l.length:Int),.int .i64 (k:Int)] s=if l.drop k=r.drop k then k2 [] s else k1 [.bool false] s:=by
 intro m;induction m with
 |zero=>
  intro k f hk hf;obtain⟨f,rfl⟩:∃g,f=g+1:=⟨f - 1,by omega⟩
  obtain rfl:k=l.length:=by omega
  rw[gq,Zg0,he,Zg0];simp
 |succ m ih=>
  intro k f hk hf;obtain⟨f,rfl⟩:∃g,f=g+1:=⟨f - 1,by omega⟩
  have br:k<l.length:=by omega
  have Mx:k<r.length:=by omega
  obtain⟨p',p⟩:=pq.r3 br;obtain⟨r',x⟩:=pr.r3 Mx;have p1:=λ{R}=>@p.pr R
  have p2:=λ{R}=>@p.rd R
  have x1:=λ{R}=>@x.pr R
  have x2:=λ{R}=>@x.rd R
  have wr:aD .i64 ((k:Int)+1)=((k+1:Nat):Int):=wrap64 (by omega) (by omega);have key:(l.drop k=r.drop k)↔(l[k]=r[k]/\l.drop (k+1)=r.drop (k+1)):=by rw[Za7 br,Za7 Mx,Zh4]
  have nq:∀(K:AV->Option (AV×St)),gh (.bin .neq (.struct [(0,.i),(1,.i),(2,.i)])) [.agg (dL l[k]),.agg (dL r[k])] K=K (.bool (!decide (l[k]=r[k]))):=λK=>cF K (afz l[k] r[k])
  by_cases e:l[k]=r[k]
  .have adw:(l.drop k=r.drop k)↔(l.drop (k+1)=r.drop (k+1)):=key.trans ⟨λh=>h.2,λh=>⟨e,h⟩⟩;rw[show(if l.drop k=r.drop k then k2 [] s else k1 [.bool false] s)=(if l.drop (k+1)=r.drop (k+1)then k2 [] s else k1 [.bool false] s)from by simp only[adw], <-ih (k+1) f (by omega) (by omega),gq];rw[H4 e]at nq;simp[br,p1,p2,x1,x2,nq,wr]
  .rw[Za1 (λh=>e (key.1 h).1),gq];rw[H2 e]at nq;simp[br,p1,p2,x1,x2,nq]
theorem MS(hc:bZ c){l r:List Mv}(pq:LM s A l)(pr:LM s B r)(hl:l.length<=1000000):c 52 [A,B] s=some (.bool (decide (l=r)),s):=by
 have ln:=λ(K:AV->St->Option (AV×St))=>pq.lenB (c:=c) K s
 have lr:=λ(K:AV->St->Option (AV×St))=>pr.lenB (c:=c) K s
 rw[uV hc (l.length+1) (r:=(.bool (decide (l=r)),s)),au (Plain.bool _) (aP.refl s)];rw[wL];by_cases he:l.length=r.length
 . have hi:=λk1 k2=>abD (c:=c) pq pr hl he (l.length+1) k1 k2 l.length 0 (l.length+1) (by omega) (by omega)
   simp only[Zb7,show((0:Nat):Int)=0 from rfl]at hi;simp[ln,lr,he];rw[<-he,hi];split
   .rename_i h;rw[H4 h];simp
   .rename_i h;rw[H2 h];simp
 . have d:decide (l=r)=false:=H2 λe=>he (by rw[e])
   have hz:¬((l.length:Int)=(r.length:Int)):=(by omega);simp[ln,lr,hz,d]
end
set_option linter.unusedSimpArgs false
def cvM(m:Nat×Int×Int):Mv:=((m.1:Int),m.2.1,m.2.2)
theorem aeU(l:Ms):l.map uR=(l.map cvM).map dL:=by rw[Zf7];rfl
theorem TP{p:aS}{w:Bool}{q:List Int}(h:(dz p w q).2=0):(dz p w q).1=0:=by
 unfold dz at h ⊢;split at h
 .rename_i k;exact absurd h k
 . rename_i k;rw[Za1 k];unfold GG at h ⊢;split at h
   .cases h
   .rename_i k2;rw[Za1 k2,Br _ _ h]
section
variable{s:St}{p:aS}{a b:List Int}{l:List Mv}
theorem adC(hc:bZ c)(hw:Wf s)(hl:p.Laid)(hp:p.gW)(za zb z:Bool)(z9:a.length<=30)(Kh:b.length<=30)(hlm:l.length<=30):c 14 [.agg p.cells,ints za a,ints zb b,Q5 z l] s=some (.bool true,s):=by
 have hR:=hl.real hp;have hk:∀t∈p.ts,t.Ok:=λt ht=>(hl.tab t ht).1
 have gA:=Grew.af hw (.cells p.cells 0);obtain⟨Vs,sB,e1,PB⟩:=adu hc p hR _ gA.wf;obtain⟨v1,sC1,e2,MA⟩:=TJ hc PB.ax.wf (LS.ro sB za a) (by omega);obtain⟨v2,sC2,e3,MB⟩:=TJ hc MA.ax.wf (LS.ro sC1 zb b) (by omega);obtain⟨v3,sC,e4,MC⟩:=abC hc MB.ax.wf (LM.ro sC2 z l) (by omega);obtain⟨vl,vo⟩:=PB.cells;have gD:=Grew.af MC.ax.wf (.cells Vs 0);have gCD:=MC.ax.trans gD;have gBD:=MB.ax.trans gCD;have gAD:=MA.ax.trans gBD;have PD:=PB.nY gAD;have q1:=MA.own.ax gBD;have q2:=MB.own.ax gCD;have q3:=MC.own.ax gD;have st5:∀(K:AV->St->Option (AV×St)),ai c (.store 5) [.ptr sC.next 0,.agg Vs] (af sC (.cells [.aq,.aq,.aq,.aq,.aq] 0)) K=K .undef (af sC (.cells Vs 0)):=λK=>dR c K sC 5 (.agg Vs) _ vl rfl vo
 have x1:=(PB.ax.trans gAD).get (aE s (.cells p.cells 0));have y1:=aE s (.cells p.cells 0);have x5:=aE sC (.cells Vs 0);have G:=gA.trans (PB.ax.trans gAD);have EW:v1.cells=[v1]:=MA.cells.1;have CY:v2.cells=[v2]:=MB.cells.1;obtain⟨sD,hsD⟩:∃sD,sD=af sC (.cells Vs 0):=⟨_,rfl⟩
 rw[<-hsD]at gD PD q1 q2 q3 st5 x1 x5 G;have D1:=TH (q:=a) hc p hp hl.Q4 za (by omega) false gD.wf;have D2:=TH (q:=b) hc p hp hl.Q4 zb (by omega) false gD.wf;have vc:cut Vs 0 5=some Vs:=bK vl;have pc:cut p.cells 0 5=some p.cells:=bK rfl
 have fin:∀t,Grew sD t->c 23 [v1,v2] t=some (.int .i64 ((zG a b:Nat):Int),t)/\c 63 [ints za a,ints zb b] t=some (.int .i64 ((zG a b:Nat):Int),t)/\c 49 [.agg Vs,.agg p.cells] t=some (.bool true,t)/\
     c 21 [v1,ints za a] t=some (.bool true,t)/\c 21 [v2,ints zb b] t=some (.bool true,t)/\c 52 [v3,Q5 z l] t=some (.bool true,t):=λt g=>by
   have E1:=Bs hc (.inr (q1.ax g)) (LS.ro t za a) (by omega);have E2:=Bs hc (.inr (q2.ax g)) (LS.ro t zb b) (by omega);have E3:=MS hc (.inr (q3.ax g)) (LM.ro t z l) (by omega);rw[H4 rfl]at E1 E2 E3;exact⟨aeO hc (q1.ax g) (q2.ax g) (by omega) (by omega),MP hc (LS.ro t za a) (LS.ro t zb b) (by omega),adv hc (PD.nY g) (aS.cB.refl p) hR hk,E1,E2,E3⟩
 have nilM:∀t,c 52 [.aq,.aq] t=some (.bool true,t):=λt=>by
   have E:=MS (l:=[]) (r:=[]) hc (s:=t) (.inr (.inl ⟨rfl,rfl⟩)) (.inr (.inl ⟨rfl,rfl⟩)) (by simp)
   rwa [H4 rfl]at E
 have nilI:∀t,c 21 [.aq,.aq] t=some (.bool true,t):=λt=>by
   have E:=Bs (q:=[]) (r:=[]) hc (s:=t) (.inr (.inl ⟨rfl,rfl⟩)) (.inr (.inl ⟨rfl,rfl⟩)) (by simp)
   rwa [H4 rfl]at E
 by_cases Oq:(dz p false a).2=0
 . rw[  Oq,TP Oq]at D1;obtain⟨ok,pva,_⟩:=Y5 hp hl.Q4 Oq;obtain⟨s1,w1,f1,N1⟩:=afy (a:=a) (l:=l) hc gD.wf p hp za z (by omega) (by omega);have hR1:(iO (NS p) l 0 a).1.length<=1000:=by
     have:∀(l:List Mv)(k:Nat)(q:List Int),q.length<=1000->(iO (NS p) l k q).1.length<=1000:=λl=>by
        induction l with
        |nil=>intro k q h;exact h
        | cons m l ih=>
          intro k q h;rw[iO];split
          .simp
          .exact ih _ _ (by rw[Zi5];exact h)
     exact this l 0 a (by omega)
   have ue:=N1.ax.get x1;have YT:=N1.ax.get x5;by_cases Y6:(dz p false b).2=0
   . rw[Y6,TP Y6]at D2;obtain⟨_,pvb,_⟩:=Y5 hp hl.Q4 Y6;have hgs:=ok.Q8.gs;obtain⟨s2,L2,f2,N2⟩:=abB (a:=a) (b:=b) hc N1.ax.wf za zb pva pvb (by omega);have g2:=N1.ax.trans N2.ax;obtain⟨s3,L3,l3,f3,N3,_,l3l,YC⟩:=adz hc (PD.nY g2) ok (q1.ax g2) (q2.ax g2) pva pvb EW CY;have g3:=g2.trans N3.ax;obtain⟨s4,w4,f4,N4⟩:=Do_g (a:=a) (l:=l) hc (PD.nY g3) hp hl.Q4 (q1.ax g3) (by omega) Oq (.inr (q3.ax g3)) (by omega);have g4:=g3.trans N4.ax;have EM:c 52 [L3,L2] s4=some (.bool true,s4):=by
        have h3:=N3.own.ax N4.ax;have h2:=(N2.own.ax N3.ax).ax N4.ax;rw[<-YC]at h2;rw[aeU]at h2 h3;have E:=MS (l:=l3.map cvM) (r:=l3.map cvM) hc (.inr h3) (.inr h2) (by rw[Zb0];omega)
        rwa [H4 rfl]at E
     have EI:=Bs hc (.inr N4.own) (.inr (((N1.own.ax N2.ax).ax N3.ax).ax N4.ax)) (by omega);rw[H4 rfl]at EI;obtain⟨F1,F2,F3,F4,F5,F6⟩:=fin s4 g4;have x12:=N2.ax.get ue;have x52:=N2.ax.get YT;have WZ:=N3.ax.get x52;have x14:=N4.ax.get (N3.ax.get x12);have x54:=N4.ax.get WZ;generalize iO (NS p) l 0 a=R at*
     rw[nR hc 1 (r:=(.bool true,s4)),au (Plain.bool _) (G.trans g4).keeps];rw[qo];simp[-dR,gK,show ∀l,AV.cells (.agg l)=l from λl=>rfl,y1,ak,pc,e1,e2,e3,e4,st5, <-hsD,x1,x5,vc,D1,D2,f1,ue,YT,f2,x12,x52,f3,WZ,f4,EM,EI,F1,F2,F3,F4,F5,F6,x14,x54]
   . have g1:=N1.ax;have d2:decide ((dz p false b).2=0)=false:=H2 Y6;have f3:=Xp hc (PD.nY g1) hp hl.Q4 (q1.ax g1) (q2.ax g1) (by omega) (by omega) EW CY (.inr ⟨Oq,Y6,rfl⟩);obtain⟨s4,w4,f4,N4⟩:=Do_g (a:=a) (l:=l) hc (PD.nY g1) hp hl.Q4 (q1.ax g1) (by omega) Oq (.inr (q3.ax g1)) (by omega);have g4:=g1.trans N4.ax;have EM:=nilM s4;have EI:=Bs hc (.inr N4.own) (.inr (N1.own.ax N4.ax)) (by omega);rw[H4 rfl]at EI;obtain⟨F1,F2,F3,F4,F5,F6⟩:=fin s4 g4;have x14:=N4.ax.get ue;have x54:=N4.ax.get YT;generalize iO (NS p) l 0 a=R at*
     rw[nR hc 1 (r:=(.bool true,s4)),au (Plain.bool _) (G.trans g4).keeps];rw[qo];simp[-dR,gK,show ∀l,AV.cells (.agg l)=l from λl=>rfl,y1,ak,pc,e1,e2,e3,e4,st5, <-hsD,x1,x5,vc,D1,D2,Y6,d2,f1,ue,YT,f3,f4,EM,EI,F1,F2,F3,F4,F5,F6,x14,x54]
 .have d1:decide ((dz p false a).2=0)=false:=H2 Oq;have f3:=Xp hc PD hp hl.Q4 q1 q2 (by omega) (by omega) EW CY (.inl ⟨Oq,rfl⟩);have f4:=agr hc PD hp hl.Q4 q1 (by omega) Oq v3;obtain⟨F1,F2,F3,F4,F5,F6⟩:=fin sD (Grew.refl gD.wf);have EM:=nilM sD;have EI:=nilI sD;rw[nR hc 1 (r:=(.bool true,sD)),au (Plain.bool _) G.keeps];rw[qo];simp[-dR,gK,show ∀l,AV.cells (.agg l)=l from λl=>rfl,y1,ak,pc,e1,e2,e3,e4,st5, <-hsD,x1,x5,vc,D1,D2,Oq,d1,f3,f4,EM,EI,F1,F2,F3,F4,F5,F6]
theorem Xq.two{s:St}{za zb:Bool}{a b:List Int}(hw:Wf s):Xq (af s (.cells [ints za a,ints zb b] 0)) (.slice s.next 0 2 (some 2) 1) [ints za a,ints zb b] [a,b]:=
 ⟨.inr (.inl ⟨s.next,0,some 2,[ints za a,ints zb b],rfl,aE _ _,by simp,rfl,.inr rfl⟩),rfl,λi v q' h1 h2=>by
  match i with
  |0=>simp at h1 h2;subst h1;subst h2;exact LS.ro _ _ _
  |1=>simp at h1 h2;subst h1;subst h2;exact LS.ro _ _ _
  |i+2=>simp at h1⟩
theorem aae(z:Bool)(q:List Int):(ints z q).cells=[ints z q]:=by unfold ints Go.Ai.ro;split<;>rfl
theorem UN(hc:bZ c)(p:aS)(hl:p.Laid)(za:Bool)(a:List Int)(zb:Bool)(b:List Int)(z:Bool)(l:List Mv)(hw:Wf s):c 5 [.agg p.cells,ints za a,ints zb b,Q5 z l] s=some (.bool true,s):=by
 have gA:=Grew.af hw (.cells p.cells 0);have gB:=Grew.af gA.wf (.cells [ints za a,ints zb b] 0);have F:=aeS hc gB.wf p (Xq.two (za:=za) (zb:=zb) (a:=a) (b:=b) gA.wf) (by simp);have bs:∀(K:AV->St->Option (AV×St)),ai c (.buildSlice 1 2 [.aq] [0,1]) [ints za a,ints zb b] (af s (.cells p.cells 0)) K=K (.slice (af s (.cells p.cells 0)).next 0 2 (some 2) 1) (af (af s (.cells p.cells 0)) (.cells [ints za a,ints zb b] 0)):=λK=>by
   rw[cr];have:bG (bF [AV.aq] 2) ([0,1].map λi=>(i*1,1)) [ints za a,ints zb b]=some [ints za a,ints zb b]:=by
     show bG [AV.aq,AV.aq] [(0,1),(1,1)] [ints za a,ints zb b]=some [ints za a,ints zb b];simp[bG,dK,dX,aH,aae]
   rw[this];rfl
 have x1:=gB.get (aE s (.cells p.cells 0));have y1:=aE s (.cells p.cells 0);have pc:cut p.cells 0 5=some p.cells:=bK rfl;have A:=abp hc (af (af s (.cells p.cells 0)) (.cells [ints za a,ints zb b] 0));have lm:=λ(K:AV->St->Option (AV×St))(s1:St)=>(LM.ro s z l).lenB (c:=c) K s1
 rw[BR hc 1 (r:=(.bool true,af (af s (.cells p.cells 0)) (.cells [ints za a,ints zb b] 0))),au (Plain.bool _) (gA.trans gB).keeps];rw[Eu];cases h:Sx p [a,b]
 .rw[h]at F;simp[-cr,show ∀l,AV.cells (.agg l)=l from λl=>rfl,x1,y1,ak,pc,bs,F,A]
 . rw[h]at F;obtain⟨_,hf,_,hq⟩:=aeR h;by_cases hm:30<l.length
   .have d:decide ((30:Int)<(l.length:Int))=true:=H4 (by omega);simp[-cr,show ∀l,AV.cells (.agg l)=l from λl=>rfl,x1,y1,ak,pc,bs,F,lm,d,hm,A]
   .have d:decide ((30:Int)<(l.length:Int))=false:=H2 (by omega);have C:=adC hc gB.wf hl (adk hf λt ht=>(hl.tab t ht).1) za zb z (hq a (by simp)) (hq b (by simp)) (l:=l) (by omega);simp[-cr,show ∀l,AV.cells (.agg l)=l from λl=>rfl,x1,y1,ak,pc,bs,F,lm,d,hm,C,A]
end
end
end Go.Proofs.YtlkadmkojjceiaaGreatDoor
namespace Go.Proofs.YtlkadmkojjceiaaGreatDoor.AO
section
open Go
theorem k1:(Rows.planMovesUptoRow.inPlace==Tryz.pinned.checked.prog.inPlace 5)=true:=by kernel_rfl
theorem k2:(Rows.planMovesUptoRow.unfollowed==Tryz.pinned.checked.prog.unfollowed 5)=true:=by kernel_rfl
theorem k3:(Rows.planMovesUptoRow.recurses==Tryz.pinned.checked.prog.recurses 5)=true:=by kernel_rfl
theorem k4:(Rows.planMovesUptoRow.named==Tryz.pinned.checked.prog.varsNamed 5)=true:=by kernel_rfl
theorem k5:laidOutB Tryz.pinned.checked.prog=true:=by kernel_rfl
theorem k6:mapsRowed Tryz.pinned.checked.prog=true:=by kernel_rfl
theorem k7:(Rows.planMovesUptoRow.plainKeys==Tryz.pinned.checked.prog.plainKeys)=true:=by kernel_rfl
theorem closed:joinedFacts Tryz.pinned.checked.prog 5 Tryz.f5 (Rows.OpenSpec.upto Rows.planMovesSpec).bare Rows.planMovesUptoRow=true:=by
 unfold joinedFacts;rw[k1,k2,k3,k4,k5,k6,k7]
 kernel_rfl
end
end Go.Proofs.YtlkadmkojjceiaaGreatDoor.AO
